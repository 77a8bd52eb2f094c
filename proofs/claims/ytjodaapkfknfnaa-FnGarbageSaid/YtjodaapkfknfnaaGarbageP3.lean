/- Shows what the parts of the program do that the claim reaches: a machine of values over the model, and the contracts of functions, for all arguments within the lengths that each theorem names. -/
import Derived.Test.YtjodaapkfknfnaaGarbageP1
import Derived.Test.YtjodaapkfknfnaaGarbageV5
import Derived.Test.YtjodaapkfknfnaaGarbageP2
set_option linter.all false

namespace Q6
open Go Go.Vm Go.Proofs
set_option maxHeartbeats 4000000
set_option synthInstance.maxSize 2000
set_option synthInstance.maxHeartbeats 400000
set_option maxRecDepth 10000
set_option linter.unusedSimpArgs false
set_option linter.unusedVariables false

theorem implObjOk_ok (x : (Int × (List Int) × (List Int) × Unit)) (hx : Enc.lim 1048576 x) : CallR Try.prog 131 [.nd [.int .i64 x.1, .sl .b (x.2.1.map Enc.b), .sl .b (x.2.2.1.map Enc.b)]] [] (.bool (objB x)) := by
  refine CallR.of_body (n := 29) (rs := [.tmp 2]) hY.ok Try.func131 rfl (by decide) rfl rfl rfl rfl (fun F => ?_)
  have fx := And.intro Y1 (And.intro Y2 (And.intro Y3 (And.intro Y4 (And.intro Y27 (And.intro Y35 (Y107))))))
  have hG1 := fun u1 u2 u3 => in_ok u1 u2 u3
  have hC1 := cx [] (anyInt_ok x.2.1 hx.2.1)
  have hC2 := cx [] (anyRef_ok x.2.2.1 hx.2.2.1)
  have fy := len5
  refine goK ?_ ?_ ?_ ?_ ?_ ?_ ?_ ?_ ?_ ?_ ?_ ?_ ?_ ?_ ?_ ?_
  any_goals (first | exact True.intro | skip)
  all_goals (repeat (refine Wh.mk fun hcc => ?_))
  all_goals (first | rfl | ((try simp only [tupOf, fixEs]); (first | done | rfl | (simp_all [objB, len5, any_not]; done) | grind [objB, len5, any_not])))
theorem slotOk_ok (x : (Bool × ((Int × (List Int) × (List Int) × Unit)) × Unit)) (hx : Enc.lim 1048576 x) : CallR Try.prog 63 [.nd [.bool x.1, .nd [.int .i64 x.2.1.1, .sl .b (x.2.1.2.1.map Enc.b), .sl .b (x.2.1.2.2.1.map Enc.b)]]] [] (.bool (slotB x)) := by
  refine CallR.of_body (n := 11) (rs := [.tmp 2]) hY.ok Try.func63 rfl (by decide) rfl rfl rfl rfl (fun F => ?_)
  have fx := And.intro Y1 (And.intro Y3 (And.intro Y4 (And.intro Y27 (And.intro Y35 (Y37)))))
  have hC1 := cx [] (implObjOk_ok x.2.1 hx.2.1)
  have hC2 := cx [] (noObj_ok x.2.1)
  have fy := Nat.add_zero
  refine goK ?_ ?_ ?_ ?_ ?_ ?_ ?_ ?_ ?_ ?_ ?_ ?_ ?_ ?_ ?_ ?_
  any_goals (first | exact True.intro | skip)
  all_goals (repeat (refine Wh.mk fun hcc => ?_))
  all_goals (first | rfl | ((try simp only [tupOf, fixEs]); (first | done | rfl | (simp_all [slotB]; done) | grind [slotB])))
theorem view1_ok (x : (Bool × ((Int × (List Int) × (List Int) × Unit)) × Unit)) (hx : Enc.lim 1048576 x) : CallR Try.prog 62 [.nd [.bool x.1, .nd [.int .i64 x.2.1.1, .sl .b (x.2.1.2.1.map Enc.b), .sl .b (x.2.1.2.2.1.map Enc.b)]]] [] (.bool (!slotB x)) := by
  refine CallR.of_body (n := 6) (rs := [.tmp 2]) hY.ok Try.func62 rfl (by decide) rfl rfl rfl rfl (fun F => ?_)
  have fx := And.intro Y3 (And.intro Y4 (And.intro Y27 (And.intro Y35 (Y37))))
  have hC1 := cx [] (slotOk_ok x hx)
  have fy := Nat.add_zero
  refine goK ?_ ?_ ?_ ?_ ?_ ?_ ?_ ?_ ?_ ?_ ?_ ?_ ?_ ?_ ?_ ?_
  any_goals (first | exact True.intro | skip)
  all_goals (repeat (refine Wh.mk fun hcc => ?_))
  all_goals (first | rfl | ((try simp only [tupOf, fixEs]); (first | done | rfl | (simp_all []; done) | grind [])))
theorem idxSlot_ok (l : List ((Bool × ((Int × (List Int) × (List Int) × Unit)) × Unit))) (hl : Enc.lim 1048576 l) : CallR Try.prog 130 [.sl .b (l.map Enc.b), .fn 62 [] []] [] (.int .i64 (idxOf (fun x => !slotB x) l)) := by
  refine CallR.of_body (n := 19) (rs := [.tmp 4]) hY.ok Try.func130 rfl (by decide) rfl rfl rfl rfl (fun F => ?_)
  have fx := And.intro Y3 (And.intro Y4 (And.intro Y24 (And.intro Y27 (And.intro Y35 (And.intro Y37 (Y117))))))
  have hl1 : l.length ≤ 1048576 := hl.1
  have fy := Nat.add_zero
  refine goN ?_ ?_ ?_ ?_ ?_ ?_ ?_ ?_ ?_ ?_ ?_ ?_ ?_ ?_ ?_ ?_
  any_goals (first | exact True.intro | skip)
  skip
  refine SW.loop (fun i : Nat => ⟨[.sl .b (l.map Enc.b), .fn 62 [] [], .undef, .undef, .undef, .undef, .undef, .int .i64 l.length, .int .i64 i, .undef, .undef, .undef, .undef, .undef, .undef, .undef, .undef, .undef, .undef], [[]]⟩)
    (fun n i => n = l.length - i ∧ i ≤ l.length ∧ ∀ j (h : j < l.length), j < i → (fun x => !slotB x) l[j] = false) (n := l.length) (x := 0) (Norm.to 0 rfl (by simp [weakL])) ⟨rfl, Nat.zero_le _, fun j _ h => absurd h (Nat.not_lt_zero _)⟩ ?_
  rintro n i ⟨hn, hi, hp⟩
  have fy := Nat.add_zero
  refine goS ?_
  refine SW.cond rfl (fun hc => ?_) (fun hc => ?_)
  · have hlt : i < l.length := by simpa using hc
    have hg : (l.map Enc.b)[i]? = some (.nd [.bool l[i].1, .nd [.int .i64 l[i].2.1.1, .sl .b (l[i].2.1.2.1.map Enc.b), .sl .b (l[i].2.1.2.2.1.map Enc.b)]]) := map_get Enc.b l i hlt
    have hC1 := cx [] (view1_ok l[i] (hl.2 _ (List.getElem_mem hlt)))
    have fy := hg
    refine goK ?_ ?_ ?_ ?_ ?_ ?_ ?_ ?_ ?_ ?_ ?_ ?_ ?_ ?_ ?_ ?_
    any_goals (first | exact True.intro | skip)
    all_goals (repeat (refine Wh.mk fun hcc => ?_))
    · have hx := hcc
      have hx' : (fun x => !slotB x) l[i] = true := by simpa using hx
      simp only [tupOf, fixEs, idxOf_eq (fun x => !slotB x) l hlt hx' (fun j hj => hp j (by omega) hj)]
    · have hx := hcc
      have hx' : (fun x => !slotB x) l[i] = false := by simpa using hx
      refine ⟨n - 1, i + 1, by omega, ⟨by omega, by omega, fun j hj hji => ?_⟩, ?_⟩
      · by_cases he : j = i
        · subst he; exact hx'
        · exact hp j hj (by omega)
      · rw [wrap64 _ (by omega) (by omega)]
        first | exact Norm.to 0 rfl (by simp [weakL]) | exact Norm.to 1 rfl (by simp [weakL]) | exact Norm.to 2 rfl (by simp [weakL])
  · have hge : i = l.length := by
      have : ¬ i < l.length := by simpa using hc
      omega
    have fy := Nat.add_zero
    refine goK ?_ ?_ ?_ ?_ ?_ ?_ ?_ ?_ ?_ ?_ ?_ ?_ ?_ ?_ ?_ ?_
    any_goals (first | exact True.intro | skip)
    all_goals (repeat (refine Wh.mk fun hcc => ?_))
    simp only [tupOf, fixEs, idxOf_none (fun x => !slotB x) l (fun j hj => hp j hj (by omega))]
theorem anySlot_ok (l : List ((Bool × ((Int × (List Int) × (List Int) × Unit)) × Unit))) (hl : Enc.lim 1048576 l) : CallR Try.prog 61 [.sl .b (l.map Enc.b), .fn 62 [] []] [] (.bool (l.any (fun x => !slotB x))) := by
  refine CallR.of_body (n := 9) (rs := [.tmp 4]) hY.ok Try.func61 rfl (by decide) rfl rfl rfl rfl (fun F => ?_)
  have fx := And.intro Y3 (And.intro Y4 (And.intro Y24 (And.intro Y27 (And.intro Y35 (And.intro Y37 (Y117))))))
  have hC1 := cx [] (idxSlot_ok l hl)
  have fy := Nat.add_zero
  refine goK ?_ ?_ ?_ ?_ ?_ ?_ ?_ ?_ ?_ ?_ ?_ ?_ ?_ ?_ ?_ ?_
  any_goals (first | exact True.intro | skip)
  all_goals (repeat (refine Wh.mk fun hcc => ?_))
  all_goals simp only [tupOf, fixEs, ge_iff_le, idx_any]
theorem implViewOk_y (l : List ((Bool × ((Int × (List Int) × (List Int) × Unit)) × Unit))) (hl : Enc.lim 1048576 l) (h32 : l.length = 32) : CallR Try.prog 16 [.sl .b (l.map Enc.b)] [] (.bool (viewB l)) := by
  refine CallR.of_body (n := 17) (rs := [.tmp 2]) hY.ok Try.func16 rfl (by decide) rfl rfl rfl rfl (fun F => ?_)
  have fx := And.intro Y3 (And.intro Y4 (And.intro Y24 (And.intro Y27 (And.intro Y35 (And.intro Y37 (Y117))))))
  have hE : ((l.length : Int) == 32) = true := by simp [h32]
  have hlt : 0 < l.length := by omega
  have hI : (0 : Int) < (l.length : Int) := by omega
  have hg : (l.map Enc.b)[0]? = some (.nd [.bool l[0].1, .nd [.int .i64 l[0].2.1.1, .sl .b (l[0].2.1.2.1.map Enc.b), .sl .b (l[0].2.1.2.2.1.map Enc.b)]]) := map_get Enc.b l 0 hlt
  have hC1 := cx [] (noSlot_ok l[0])
  have hC2 := cx [] (anySlot_ok l hl)
  have fy := And.intro hE (And.intro hg (And.intro hI (hlt)))
  refine goK ?_ ?_ ?_ ?_ ?_ ?_ ?_ ?_ ?_ ?_ ?_ ?_ ?_ ?_ ?_ ?_
  any_goals (first | exact True.intro | skip)
  all_goals (repeat (refine Wh.mk fun hcc => ?_))
  all_goals (obtain ⟨s, l', rfl⟩ : ∃ s l', l = s :: l' := by cases l with | nil => simp at h32 | cons s l' => exact ⟨s, l', rfl⟩)
  all_goals (skip; try simp only [tupOf, fixEs]; first | trivial | (simp_all [viewB, any_not, slotB]; done) | grind [viewB, any_not, slotB])
theorem implViewOk_n (l : List ((Bool × ((Int × (List Int) × (List Int) × Unit)) × Unit))) (hl : Enc.lim 1048576 l) (h32 : ¬ l.length = 32) : CallR Try.prog 16 [.sl .b (l.map Enc.b)] [] (.bool (viewB l)) := by
  refine CallR.of_body (n := 17) (rs := [.tmp 2]) hY.ok Try.func16 rfl (by decide) rfl rfl rfl rfl (fun F => ?_)
  have fx := And.intro Y3 (And.intro Y4 (And.intro Y24 (And.intro Y27 (And.intro Y35 (And.intro Y37 (Y117))))))
  have hE : ((l.length : Int) == 32) = false := by 
    have : ¬ (l.length : Int) = 32 := by omega
    simp [this]
  have hC1 := cx [] (anySlot_ok l hl)
  have fy := hE
  refine goK ?_ ?_ ?_ ?_ ?_ ?_ ?_ ?_ ?_ ?_ ?_ ?_ ?_ ?_ ?_ ?_
  any_goals (first | exact True.intro | skip)
  all_goals (repeat (refine Wh.mk fun hcc => ?_))
  all_goals ((try simp only [tupOf, fixEs]); first | done | (simp_all [viewB]; done) | (exfalso; simp_all; done))
theorem implViewOk_ok (l : List ((Bool × ((Int × (List Int) × (List Int) × Unit)) × Unit))) (hl : Enc.lim 1048576 l) : CallR Try.prog 16 [.sl .b (l.map Enc.b)] [] (.bool (viewB l)) := by
  by_cases h : l.length = 32
  · exact implViewOk_y l hl h
  · exact implViewOk_n l hl h
end Q6

namespace Q6
open Go Go.Vm Go.Proofs
set_option maxHeartbeats 4000000
set_option synthInstance.maxSize 2000
set_option synthInstance.maxHeartbeats 400000
set_option maxRecDepth 10000
set_option linter.unusedSimpArgs false
set_option linter.unusedVariables false


def callB (l : List SlotT) (a : Int) : Bool := viewB l && (decide (a ≥ 1) && decide (a ≤ 31))
noncomputable def reachR (l : List SlotT) (a : Int) : List Int := if callB l a then idxs (mrk (reachL l a.toNat)) 32 else []
def garbP (l : List SlotT) (m : List Bool) (i : Nat) : Bool := hasA l i && !mrk m i
noncomputable def garbR (l : List SlotT) (a : Int) : List Int := if callB l a then idxs (garbP l (reachL l a.toNat)) 32 else []
theorem callB_t {l : List SlotT} {a : Int} (hv : viewB l = true) (ha : 1 ≤ a ∧ a ≤ 31) : callB l a = true := by simp [callB, hv, ha]
theorem callB_c {l : List SlotT} {a : Int} (h : callB l a = true) : viewB l = true ∧ 1 ≤ a ∧ a ≤ 31 := by simpa [callB] using h

end Q6

namespace Q6
open Go Go.Vm Go.Proofs
set_option maxHeartbeats 4000000
set_option synthInstance.maxSize 2000
set_option synthInstance.maxHeartbeats 400000
set_option maxRecDepth 10000
set_option linter.unusedSimpArgs false
set_option linter.unusedVariables false

theorem openO (v : List SlotT) (tm : List T) (s : MS) (most : Int) : Norm ⟨tm, [[], [.var (.nd [.sl .b (v.map Enc.b), .ow 1 ((s.m).map Enc.o), .ow 1 ((s.q).map Enc.o), .int .i64 most, .bool s.o])]]⟩ ⟨tm, [[], [.var (.nd [.sl .b (v.map Enc.b), .ref 2 0 0 (s.m).length, .ref 2 1 0 (s.q).length, .int .i64 most, .bool s.o])], [.arr 1 ((s.m).map Enc.o) false, .arr 1 ((s.q).map Enc.o) false]]⟩ := by
  have h := Norm.expelVar (tm := tm) (H := [[], [.var (.nd [.sl .b (v.map Enc.b), .ow 1 ((s.m).map Enc.o), .ow 1 ((s.q).map Enc.o), .int .i64 most, .bool s.o])]]) 1 0 rfl
  simp only [thawA, thawAL, Heap.put, List.getElem?_cons_zero, List.getElem?_cons_succ, List.set_cons_zero, List.set_cons_succ, List.length_cons, List.length_nil, List.nil_append, List.cons_append, List.append_nil, Nat.zero_add, Nat.reduceAdd, List.length_map] at h
  exact h
theorem openI (v : List SlotT) (tm : List T) (s : MS) (most : Int) (c : List Bool) : Norm ⟨tm, [[], [.var (.nd [.sl .b (v.map Enc.b), .ow 1 ((s.m).map Enc.o), .ow 1 ((s.q).map Enc.o), .int .i64 most, .bool s.o])], [.arr 1 (c.map Enc.o) false]]⟩ ⟨tm, [[], [.var (.nd [.sl .b (v.map Enc.b), .ref 3 0 0 (s.m).length, .ref 3 1 0 (s.q).length, .int .i64 most, .bool s.o])], [.arr 1 ((c).map Enc.o) false], [.arr 1 ((s.m).map Enc.o) false, .arr 1 ((s.q).map Enc.o) false]]⟩ := by
  have h := Norm.expelVar (tm := tm) (H := [[], [.var (.nd [.sl .b (v.map Enc.b), .ow 1 ((s.m).map Enc.o), .ow 1 ((s.q).map Enc.o), .int .i64 most, .bool s.o])], [.arr 1 (c.map Enc.o) false]]) 1 0 rfl
  simp only [thawA, thawAL, Heap.put, List.getElem?_cons_zero, List.getElem?_cons_succ, List.set_cons_zero, List.set_cons_succ, List.length_cons, List.length_nil, List.nil_append, List.cons_append, List.append_nil, Nat.zero_add, Nat.reduceAdd, List.length_map] at h
  exact h
def inB (most : Int) : Bool := decide (most ≥ 1) && decide (most ≤ 40)
def markRR (l : List SlotT) (a most : Int) : List Bool × Int := if (callB l a && inB most) = true then ((markR l a.toNat most).1, ((markR l a.toNat most).2 : Int)) else ([], 0)

theorem implMark_n (l : List SlotT) (hl : Enc.lim 1048576 l) (a most : Int) (hn : (callB l a && inB most) = false) : CallR Try.prog 14 [.sl .b (l.map Enc.b), .int .i64 a, .int .i64 most] [] (.tup [.ow 1 [], .int .i64 0]) := by
  refine CallR.of_body (n := 89) (rs := [.tmp 6, .tmp 7]) hY.ok Try.func14 rfl (by decide) rfl rfl rfl rfl (fun F => ?_)
  have fx := And.intro Y1 (And.intro Y2 (And.intro Y3 (And.intro Y4 (And.intro Y24 (And.intro Y27 (And.intro Y29 (And.intro Y35 (And.intro Y37 (And.intro Y107 (And.intro Y111 (Y113)))))))))))
  have hV := implViewOk_ok l hl
  have hO := oid_ok a
  have hI := in_ok most 1 40
  unfold callB inB at hn
  cases hv : viewB l with
  | false =>
    rw [hv] at hV
    have hC1 := cx [] (hV)
    have fy := Nat.add_zero
    refine goR ?_ ?_ ?_ ?_ ?_ ?_ ?_ ?_ ?_ ?_ ?_ ?_ ?_ ?_ ?_ ?_
    any_goals (first | exact True.intro | skip)
    all_goals (repeat (refine Wh.mk fun hcc => ?_))
    exact SW.ret (show RetQ _ _ _ _ _ _ _ from RetQ.y [1, 0] [.ow 1 ([]), .int .i64 (0)])
  | true =>
    rw [hv] at hV hn
    cases ho : (decide (a ≥ 1) && decide (a ≤ 31)) with
    | false =>
      rw [ho] at hO
      have hC1 := cx [] (hV)
      have hC2 := cx [] (hO)
      have fy := Nat.add_zero
      refine goR ?_ ?_ ?_ ?_ ?_ ?_ ?_ ?_ ?_ ?_ ?_ ?_ ?_ ?_ ?_ ?_
      any_goals (first | exact True.intro | skip)
      all_goals (repeat (refine Wh.mk fun hcc => ?_))
      exact SW.ret (show RetQ _ _ _ _ _ _ _ from RetQ.y [1, 0] [.ow 1 ([]), .int .i64 (0)])
    | true =>
      rw [ho] at hO hn
      rw [Bool.true_and, Bool.true_and] at hn
      rw [hn] at hI
      have hC1 := cx [] (hV)
      have hC2 := cx [] (hO)
      have hC3 := cx [] (hI)
      have fy := Nat.add_zero
      refine goR ?_ ?_ ?_ ?_ ?_ ?_ ?_ ?_ ?_ ?_ ?_ ?_ ?_ ?_ ?_ ?_
      any_goals (first | exact True.intro | skip)
      all_goals (repeat (refine Wh.mk fun hcc => ?_))
      exact SW.ret (show RetQ _ _ _ _ _ _ _ from RetQ.y [1, 0] [.ow 1 ([]), .int .i64 (0)])
end Q6

namespace Q6
open Go Go.Vm Go.Proofs
set_option maxHeartbeats 4000000
set_option synthInstance.maxSize 2000
set_option synthInstance.maxHeartbeats 400000
set_option maxRecDepth 10000
set_option linter.unusedSimpArgs false
set_option linter.unusedVariables false

theorem implMark_y (v : List SlotT) (hvl : Enc.lim 1048576 v) (a most : Int) (hvw : viewB v = true) (ha : 1 ≤ a ∧ a ≤ 31) (hm : 1 ≤ most ∧ most ≤ 40) : CallR Try.prog 14 [.sl .b (v.map Enc.b), .int .i64 a, .int .i64 most] [] (.tup [.ow 1 ((markR v a.toNat most).1.map Enc.o), .int .i64 ((markR v a.toNat most).2 : Int)]) := by
  refine CallR.of_body (n := 89) (rs := [.tmp 6, .tmp 7]) hY.ok Try.func14 rfl (by decide) rfl rfl rfl rfl (fun F => ?_)
  have fx := And.intro Y1 (And.intro Y2 (And.intro Y3 (And.intro Y4 (And.intro Y24 (And.intro Y27 (And.intro Y29 (And.intro Y35 (And.intro Y37 (And.intro Y107 (And.intro Y111 (Y113)))))))))))
  have hV := implViewOk_ok v hvl
  have hO := oid_ok a
  have hI := in_ok most 1 40
  rw [hvw] at hV
  rw [show (decide (a ≥ 1) && decide (a ≤ 31)) = true by simp [ha]] at hO
  rw [show (decide (most ≥ 1) && decide (most ≤ 40)) = true by simp [hm]] at hI
  have hv := vok_of hvw
  have hG0 := ms0_good (v := v) (root := a.toNat) hm.1 (by omega)
  have hD0 := drn_ok hv hm.2 hG0
  have hal : a.toNat < v.length := by rw [hv.len]; omega
  have ha0 : 0 ≤ a := by omega
  have ha32 : a < ((32 : Nat) : Int) := by omega
  have hha : hasA v a.toNat = v[a.toNat].1 := by unfold hasA; rw [List.getElem?_eq_getElem hal]
  have hDr := drain_ok 0 v hv hvl (ms0 v a.toNat) most hm.2 hG0
  have hout := outOk_of hv hm.1 hm.2 34 hD0.1 hD0.2.1 (by have := cnt_le32 hD0.1; omega)
  have hlen := outD_len hv hm.1 hm.2 34 0 hD0.1 hD0.2.1
  have hRdef : markR v a.toNat most = outD v most 34 (drn v most (ms0 v a.toNat)) 0 := rfl
  have hgv : (v.map Enc.b)[a.toNat]? = some (.nd [.bool v[a.toNat].1, .nd [.int .i64 v[a.toNat].2.1.1, .sl .b (v[a.toNat].2.1.2.1.map Enc.b), .sl .b (v[a.toNat].2.1.2.2.1.map Enc.b)]]) := map_get Enc.b v _ hal
  cases hh : v[a.toNat].1 with
  | true =>
    rw [hh] at hgv hha
    have hm0 : ms0 v a.toNat = ⟨(List.replicate 32 false).set a.toNat true, [a], false⟩ := by unfold ms0; rw [if_pos hha]; simp; omega
    have hP := put_ok 0 v ⟨(List.replicate 32 false).set a.toNat true, [], false⟩ most a (by simp)
    have hP1 : put1 most ⟨(List.replicate 32 false).set a.toNat true, [], false⟩ a = ms0 v a.toNat := by rw [hm0]; unfold put1; rw [if_pos (by simp; omega)]; rfl
    rw [hP1] at hP
    have hgr : (rep32.map (Enc.o : Bool → T))[a.toNat]? = some (.bool false) := by rw [List.getElem?_map, List.getElem?_eq_getElem (by simp [rep32]; omega), rep32_get]; rfl
    have hsr : (rep32.map (Enc.o : Bool → T)).set a.toNat (.bool true) = ((List.replicate 32 false).set a.toNat true).map Enc.o := set_o rep32 a.toNat true
    simp only [List.map_nil] at hP
    generalize ms0 v a.toNat = s0 at *
    have hC1 := cx [] (hV)
    have hC2 := cx [] (hO)
    have hC3 := cx [] (hI)
    have hC4 := cx [.io] (hP)
    have hC5 := cx [.io] (hDr)
    have fy := And.intro hgv (And.intro hgr (And.intro hsr (And.intro mk32 (And.intro ha0 (And.intro ha32 (And.intro ((((((((tgL_up0 (α := SlotT))))))))) (And.intro tgL_up (And.intro tgL_dn (And.intro (((((((((((tgL_dn0 (α := SlotT)))))))))))) (And.intro Nat.zero_add (Int.toNat_natCast)))))))))))
    refine goR ?_ ?_ ?_ ?_ ?_ ?_ ?_ ?_ ?_ ?_ ?_ ?_ ?_ ?_ ?_ ?_
    any_goals (first | exact True.intro | skip)
    all_goals (repeat (refine Wh.mk fun hcc => ?_))
    generalize hD0e : drn v most s0 = D0 at *
    rw [hRdef]
    generalize hRe : outD v most 34 D0 0 = R at *
    refine SW.loop (fun x : MS × Nat => ⟨[.sl .b (v.map Enc.b), .int .i64 a, .int .i64 most, .undef, .undef, .undef, .undef, .undef, .ptr 1 0 [] 0, .int .i64 ((x.2 : Nat) : Int), .undef, .undef, .undef, .undef, .undef, .undef, .undef, .undef, .undef, .undef, .undef, .undef, .undef, .undef, .undef, .undef, .undef, .undef, .undef, .undef, .undef, .undef, .undef, .undef, .undef, .undef, .undef, .undef, .undef, .undef, .undef, .undef, .undef, .undef, .undef, .undef, .undef, .undef, .undef, .undef, .undef, .undef, .undef, .undef, .undef, .undef, .undef, .undef, .undef, .undef, .undef, .undef, .undef, .undef, .undef, .undef, .undef, .undef, .undef, .undef, .undef, .undef, .undef, .undef, .undef, .undef, .undef, .undef, .undef, .undef, .undef, .undef, .undef, .undef, .undef, .undef, .undef, .undef, .undef], [[], [.var (.nd [.sl .b (v.map Enc.b), .ref 2 0 0 (x.1.m).length, .ref 2 1 0 (x.1.q).length, .int .i64 most, .bool x.1.o])], [.arr 1 ((x.1.m).map Enc.o) false, .arr 1 ((x.1.q).map Enc.o) false]]⟩)
      (fun n x => n ≤ 34 ∧ Good most x.1 ∧ x.1.q = [] ∧ outOk v most n x.1 ∧ outD v most n x.1 x.2 = R ∧ x.2 + n ≤ 34) (n := 34) (x := (D0, 0)) (Norm.trans (Norm.re [0, 5] (by decide) rfl (by simp [heapFits, rowFits, obFits, T.ren, renL]) (by simp [tmFits, T.ren])) (openO v _ D0 most)) ⟨Nat.le_refl _, hD0.1, hD0.2.1, hout, hRe, Nat.le_refl _⟩ ?_
    rintro n ⟨d, t⟩ ⟨hn, hd, hq, hok, hR, ht⟩
    simp only at hd hq hok hR ht ⊢
    have fy := Nat.add_zero
    refine goS ?_
    refine SW.cond rfl (fun hc => ?_) (fun hc => ?_)
    · obtain ⟨n, rfl⟩ : ∃ m, n = m + 1 := by
        cases n with
        | zero => exfalso; simp only [outOk] at hok; rw [hok] at hc; cases hc
        | succ m => exact ⟨m, rfl⟩
      have hR' : outD v most n (drn v most (scanA v most d 32)) (t + 1) = R := by rw [← hR]; simp only [outD, hc, if_true]
      have hok' := hok hc
      have hwt : IntKind.i64.wrap ((t : Int) + 1) = ((t + 1 : Nat) : Int) := by rw [wrap64 _ (by omega) (by omega)]; omega
      have hml := hd.ml
      have hCl := cloneB_ok d.m (by omega)
      have hsc := scanA_ok (v := v) hm.1 hd hq
      have hC1 := cx [] (hCl)
      have fy := And.intro hwt (And.intro (((tgL_up0 (α := SlotT)))) (And.intro tgL_up (And.intro tgL_dn (And.intro ((((((tgL_dn0 (α := SlotT))))))) (And.intro Nat.zero_add (Int.toNat_natCast))))))
      refine goN ?_ ?_ ?_ ?_ ?_ ?_ ?_ ?_ ?_ ?_ ?_ ?_ ?_ ?_ ?_ ?_
      any_goals (first | exact True.intro | skip)
      skip
      refine SW.loop (fun x2 : MS × Nat => ⟨[.sl .b (v.map Enc.b), .int .i64 a, .int .i64 most, .undef, .undef, .undef, .undef, .undef, .ptr 1 0 [] 0, .int .i64 ((t + 1 : Nat) : Int), .undef, .undef, .undef, .undef, .undef, .undef, .undef, .undef, .undef, .undef, .undef, .undef, .undef, .undef, .undef, .undef, .undef, .undef, .undef, .undef, .undef, .undef, .undef, .undef, .undef, .undef, .undef, .undef, .undef, .undef, .undef, .undef, .undef, .undef, .undef, .undef, .undef, .undef, .undef, .undef, .undef, .undef, .undef, .undef, .undef, .undef, .undef, .undef, .undef, .undef, .undef, .ref 2 0 0 d.m.length, .int .i64 d.m.length, .int .i64 x2.2, .undef, .undef, .undef, .undef, .undef, .undef, .undef, .undef, .undef, .undef, .undef, .undef, .undef, .undef, .undef, .undef, .undef, .undef, .undef, .undef, .undef, .undef, .undef, .undef, .undef], [[], [.var (.nd [.sl .b (v.map Enc.b), .ref 3 0 0 (x2.1.m).length, .ref 3 1 0 (x2.1.q).length, .int .i64 most, .bool x2.1.o])], [.arr 1 ((d.m).map Enc.o) false], [.arr 1 ((x2.1.m).map Enc.o) false, .arr 1 ((x2.1.q).map Enc.o) false]]⟩)
        (fun N x2 => N = 32 - x2.2 ∧ x2.2 ≤ 32 ∧ x2.1 = scanA v most d x2.2) (n := 32) (x := (⟨d.m, d.q, false⟩, 0)) (Norm.re [0, 1, 3, 2] (by decide) rfl (by simp only [eq_self, heapFits, rowFits, obFits, List.getElem?_cons_zero, List.getElem?_cons_succ, renL_o, renL_b, true_and, and_true, and_self, renL_t, renL_cons, renL_nil, T.ren]) (by simp [tmFits, T.ren])) ⟨rfl, Nat.zero_le _, rfl⟩ ?_
      rintro N ⟨y, i⟩ ⟨hN, hi, hyy⟩
      simp only at hN hi hyy ⊢
      have fy := Nat.add_zero
      refine goS ?_
      refine SW.cond rfl (fun hc2 => ?_) (fun hc2 => ?_)
      · have hlt : i < 32 := by rw [hml] at hc2; simp at hc2; omega
        obtain ⟨hy, hym, _, _⟩ := hsc i hi
        rw [← hyy] at hy hym
        have hlc : (i : Int) < (d.m.length : Int) := by omega
        have hgc : (d.m.map (Enc.o : Bool → T))[i]? = some (.bool (mrk d.m i)) := by rw [List.getElem?_map, List.getElem?_eq_getElem (by omega)]; simp [mrk, List.getElem?_eq_getElem (show i < d.m.length by omega), o_bool]
        have hil : i < v.length := by rw [hv.len]; exact hlt
        have hgvi : (v.map Enc.b)[i]? = some (.nd [.bool v[i].1, .nd [.int .i64 v[i].2.1.1, .sl .b (v[i].2.1.2.1.map Enc.b), .sl .b (v[i].2.1.2.2.1.map Enc.b)]]) := map_get Enc.b v _ hil
        have hrf : refsA v i = v[i].2.1.2.2.1 := by unfold refsA; rw [List.getElem?_eq_getElem hil]
        have hlimr : Enc.lim 1048576 v[i].2.1.2.2.1 := (hvl.2 _ (List.getElem_mem hil)).2.1.2.2.1
        have hrr := hv.rf i
        rw [hrf] at hrr
        have hA := anyUn_ok v[i].2.1.2.2.1 hlimr v y most hv hy.ml hrr
        have hlk0 : lacks v y.m i = v[i].2.1.2.2.1.any (lackB v y.m) := by unfold lacks; rw [hrf]
        rw [← hlk0] at hA
        have hwi : IntKind.i64.wrap ((i : Int) + 1) = ((i + 1 : Nat) : Int) := by rw [wrap64 _ (by omega) (by omega)]; omega
        have hstep : scanA v most d (i + 1) = scan1 v most y i := by rw [hyy]; unfold scanA; rw [List.range_succ, List.foldl_append]; rfl
        have hmy : mrk y.m i = mrk d.m i := by rw [hym]
        have hqy := hy.ql
        have hP := put_ok 0 v y most i (by omega)
        cases hmk : mrk d.m i with
        | false =>
          rw [hmk] at hgc hmy
          have hC1 := cx [] (hA)
          have fy := And.intro hgc (And.intro hgvi (And.intro hlc (And.intro hwi (And.intro ((((((tgL_up0 (α := SlotT))))))) (And.intro tgL_up (And.intro tgL_dn (And.intro (((((((((tgL_dn0 (α := SlotT)))))))))) (And.intro Nat.zero_add (Int.toNat_natCast)))))))))
          refine goR ?_ ?_ ?_ ?_ ?_ ?_ ?_ ?_ ?_ ?_ ?_ ?_ ?_ ?_ ?_ ?_
          any_goals (first | exact True.intro | skip)
          all_goals (repeat (refine Wh.mk fun hcc => ?_))
          refine ⟨N - 1, (y, i + 1), by omega, ⟨by simp only; omega, by simp only; omega, by simp only; rw [hstep]; unfold scan1; simp [hmy]⟩, Norm.re [0, 1, 2, 3] (by decide) rfl (by simp only [eq_self, heapFits, rowFits, obFits, List.getElem?_cons_zero, List.getElem?_cons_succ, renL_o, renL_b, true_and, and_true, and_self, renL_t, renL_cons, renL_nil, T.ren]) (by simp [tmFits, T.ren])⟩
        | true =>
          rw [hmk] at hgc hmy
          cases hlk : lacks v y.m i with
          | false =>
            rw [hlk] at hA
            have hC1 := cx [] (hA)
            have fy := And.intro hgc (And.intro hgvi (And.intro hlc (And.intro hwi (And.intro ((((((tgL_up0 (α := SlotT))))))) (And.intro tgL_up (And.intro tgL_dn (And.intro (((((((((tgL_dn0 (α := SlotT)))))))))) (And.intro Nat.zero_add (Int.toNat_natCast)))))))))
            refine goR ?_ ?_ ?_ ?_ ?_ ?_ ?_ ?_ ?_ ?_ ?_ ?_ ?_ ?_ ?_ ?_
            any_goals (first | exact True.intro | skip)
            all_goals (repeat (refine Wh.mk fun hcc => ?_))
            refine ⟨N - 1, (y, i + 1), by omega, ⟨by simp only; omega, by simp only; omega, by simp only; rw [hstep]; unfold scan1; simp [hlk]⟩, Norm.re [0, 1, 2, 3] (by decide) rfl (by simp only [eq_self, heapFits, rowFits, obFits, List.getElem?_cons_zero, List.getElem?_cons_succ, renL_o, renL_b, true_and, and_true, and_self, renL_t, renL_cons, renL_nil, T.ren]) (by simp [tmFits, T.ren])⟩
          | true =>
            rw [hlk] at hA
            have hsce : scan1 v most y i = put1 most y i := by unfold scan1; rw [hmy, hlk]; rfl
            generalize put1 most y i = y' at *
            have hC1 := cx [] (hA)
            have hC2 := cx [.io] (hP)
            have fy := And.intro hgc (And.intro hgvi (And.intro hlc (And.intro hwi (And.intro ((((((tgL_up0 (α := SlotT))))))) (And.intro tgL_up (And.intro tgL_dn (And.intro (((((((((tgL_dn0 (α := SlotT)))))))))) (And.intro Nat.zero_add (Int.toNat_natCast)))))))))
            refine goR ?_ ?_ ?_ ?_ ?_ ?_ ?_ ?_ ?_ ?_ ?_ ?_ ?_ ?_ ?_ ?_
            any_goals (first | exact True.intro | skip)
            all_goals (repeat (refine Wh.mk fun hcc => ?_))
            refine ⟨N - 1, (y', i + 1), by omega, ⟨by simp only; omega, by simp only; omega, by simp only; rw [hstep, hsce]⟩, ?_⟩
            exact Norm.trans (Norm.re [0, 1, 2] (by decide) rfl (by simp [heapFits, rowFits, obFits, T.ren, renL]) (by simp [tmFits, T.ren])) (openI v _ y' most d.m)
      · have hge : i = 32 := by
          have : ¬ i < 32 := by rw [hml] at hc2; simp at hc2; omega
          omega
        subst hge
        obtain ⟨hy, hym, _, _⟩ := hsc 32 (Nat.le_refl _)
        rw [← hyy] at hy hR' hok'
        have hDr2 := drain_ok 0 v hv hvl y most hm.2 hy
        have hD2 := drn_ok hv hm.2 hy
        generalize drn v most y = D2 at *
        have hC1 := cx [.io] (hDr2)
        have fy := And.intro ((tgL_up0 (α := SlotT))) (And.intro tgL_up (And.intro tgL_dn (And.intro (((((tgL_dn0 (α := SlotT)))))) (And.intro Nat.zero_add (Int.toNat_natCast)))))
        refine goR ?_ ?_ ?_ ?_ ?_ ?_ ?_ ?_ ?_ ?_ ?_ ?_ ?_ ?_ ?_ ?_
        any_goals (first | exact True.intro | skip)
        all_goals (repeat (refine Wh.mk fun hcc => ?_))
        refine ⟨n, (D2, t + 1), by omega, ⟨by omega, hD2.1, hD2.2.1, hok', hR', by simp only; omega⟩, ?_⟩
        exact Norm.trans (Norm.re [0, 1] (by decide) rfl (by simp [heapFits, rowFits, obFits, T.ren, renL]) (by simp [tmFits, T.ren])) (openO v _ D2 most)
    · have hRR : R = (d.m, t) := by rw [← hR]; cases n <;> simp [outD, hc]
      subst hRR
      have fy := And.intro ((tgL_up0 (α := SlotT))) (And.intro tgL_up (And.intro tgL_dn (And.intro (((((tgL_dn0 (α := SlotT)))))) (And.intro Nat.zero_add (Int.toNat_natCast)))))
      refine goR ?_ ?_ ?_ ?_ ?_ ?_ ?_ ?_ ?_ ?_ ?_ ?_ ?_ ?_ ?_ ?_
      any_goals (first | exact True.intro | skip)
      all_goals (repeat (refine Wh.mk fun hcc => ?_))
      exact SW.ret (show RetQ _ _ _ _ _ _ _ from RetQ.y [1, 0] [.ow 1 (d.m.map Enc.o), .int .i64 (t : Int)])
  | false =>
    rw [hh] at hgv hha
    have hm0 : ms0 v a.toNat = ⟨List.replicate 32 false, [], false⟩ := by unfold ms0; rw [hha]; rfl
    have hDr' : CallR Try.prog 56 [.io (.nd [.sl (.r 0) (tgL (cst 0) (v.map Enc.b)), .ow 1 ((rep32).map Enc.o), .ow 1 ((([] : List Int)).map Enc.o), .int .i64 most, .bool false])] [.nd [.sl (.r 0) (tgL (cst 0) (v.map Enc.b)), .ow 1 (((drn v most (ms0 v a.toNat)).m).map Enc.o), .ow 1 (((drn v most (ms0 v a.toNat)).q).map Enc.o), .int .i64 most, .bool (drn v most (ms0 v a.toNat)).o]] (.tup []) := by rw [hm0] at hDr ⊢; exact hDr
    simp only [List.map_nil] at hDr'
    clear hDr
    generalize ms0 v a.toNat = s0 at *
    have hC1 := cx [] (hV)
    have hC2 := cx [] (hO)
    have hC3 := cx [] (hI)
    have hC4 := cx [.io] (hDr')
    have fy := And.intro hgv (And.intro mk32 (And.intro ha0 (And.intro ha32 (And.intro ((((((tgL_up0 (α := SlotT))))))) (And.intro tgL_up (And.intro tgL_dn (And.intro (((((((((tgL_dn0 (α := SlotT)))))))))) (And.intro Nat.zero_add (Int.toNat_natCast)))))))))
    refine goR ?_ ?_ ?_ ?_ ?_ ?_ ?_ ?_ ?_ ?_ ?_ ?_ ?_ ?_ ?_ ?_
    any_goals (first | exact True.intro | skip)
    all_goals (repeat (refine Wh.mk fun hcc => ?_))
    generalize hD0e : drn v most s0 = D0 at *
    rw [hRdef]
    generalize hRe : outD v most 34 D0 0 = R at *
    refine SW.loop (fun x : MS × Nat => ⟨[.sl .b (v.map Enc.b), .int .i64 a, .int .i64 most, .undef, .undef, .undef, .undef, .undef, .ptr 1 0 [] 0, .int .i64 ((x.2 : Nat) : Int), .undef, .undef, .undef, .undef, .undef, .undef, .undef, .undef, .undef, .undef, .undef, .undef, .undef, .undef, .undef, .undef, .undef, .undef, .undef, .undef, .undef, .undef, .undef, .undef, .undef, .undef, .undef, .undef, .undef, .undef, .undef, .undef, .undef, .undef, .undef, .undef, .undef, .undef, .undef, .undef, .undef, .undef, .undef, .undef, .undef, .undef, .undef, .undef, .undef, .undef, .undef, .undef, .undef, .undef, .undef, .undef, .undef, .undef, .undef, .undef, .undef, .undef, .undef, .undef, .undef, .undef, .undef, .undef, .undef, .undef, .undef, .undef, .undef, .undef, .undef, .undef, .undef, .undef, .undef], [[], [.var (.nd [.sl .b (v.map Enc.b), .ref 2 0 0 (x.1.m).length, .ref 2 1 0 (x.1.q).length, .int .i64 most, .bool x.1.o])], [.arr 1 ((x.1.m).map Enc.o) false, .arr 1 ((x.1.q).map Enc.o) false]]⟩)
      (fun n x => n ≤ 34 ∧ Good most x.1 ∧ x.1.q = [] ∧ outOk v most n x.1 ∧ outD v most n x.1 x.2 = R ∧ x.2 + n ≤ 34) (n := 34) (x := (D0, 0)) (Norm.trans (Norm.re [0, 5] (by decide) rfl (by simp [heapFits, rowFits, obFits, T.ren, renL]) (by simp [tmFits, T.ren])) (openO v _ D0 most)) ⟨Nat.le_refl _, hD0.1, hD0.2.1, hout, hRe, Nat.le_refl _⟩ ?_
    rintro n ⟨d, t⟩ ⟨hn, hd, hq, hok, hR, ht⟩
    simp only at hd hq hok hR ht ⊢
    have fy := Nat.add_zero
    refine goS ?_
    refine SW.cond rfl (fun hc => ?_) (fun hc => ?_)
    · obtain ⟨n, rfl⟩ : ∃ m, n = m + 1 := by
        cases n with
        | zero => exfalso; simp only [outOk] at hok; rw [hok] at hc; cases hc
        | succ m => exact ⟨m, rfl⟩
      have hR' : outD v most n (drn v most (scanA v most d 32)) (t + 1) = R := by rw [← hR]; simp only [outD, hc, if_true]
      have hok' := hok hc
      have hwt : IntKind.i64.wrap ((t : Int) + 1) = ((t + 1 : Nat) : Int) := by rw [wrap64 _ (by omega) (by omega)]; omega
      have hml := hd.ml
      have hCl := cloneB_ok d.m (by omega)
      have hsc := scanA_ok (v := v) hm.1 hd hq
      have hC1 := cx [] (hCl)
      have fy := And.intro hwt (And.intro (((tgL_up0 (α := SlotT)))) (And.intro tgL_up (And.intro tgL_dn (And.intro ((((((tgL_dn0 (α := SlotT))))))) (And.intro Nat.zero_add (Int.toNat_natCast))))))
      refine goN ?_ ?_ ?_ ?_ ?_ ?_ ?_ ?_ ?_ ?_ ?_ ?_ ?_ ?_ ?_ ?_
      any_goals (first | exact True.intro | skip)
      skip
      refine SW.loop (fun x2 : MS × Nat => ⟨[.sl .b (v.map Enc.b), .int .i64 a, .int .i64 most, .undef, .undef, .undef, .undef, .undef, .ptr 1 0 [] 0, .int .i64 ((t + 1 : Nat) : Int), .undef, .undef, .undef, .undef, .undef, .undef, .undef, .undef, .undef, .undef, .undef, .undef, .undef, .undef, .undef, .undef, .undef, .undef, .undef, .undef, .undef, .undef, .undef, .undef, .undef, .undef, .undef, .undef, .undef, .undef, .undef, .undef, .undef, .undef, .undef, .undef, .undef, .undef, .undef, .undef, .undef, .undef, .undef, .undef, .undef, .undef, .undef, .undef, .undef, .undef, .undef, .ref 2 0 0 d.m.length, .int .i64 d.m.length, .int .i64 x2.2, .undef, .undef, .undef, .undef, .undef, .undef, .undef, .undef, .undef, .undef, .undef, .undef, .undef, .undef, .undef, .undef, .undef, .undef, .undef, .undef, .undef, .undef, .undef, .undef, .undef], [[], [.var (.nd [.sl .b (v.map Enc.b), .ref 3 0 0 (x2.1.m).length, .ref 3 1 0 (x2.1.q).length, .int .i64 most, .bool x2.1.o])], [.arr 1 ((d.m).map Enc.o) false], [.arr 1 ((x2.1.m).map Enc.o) false, .arr 1 ((x2.1.q).map Enc.o) false]]⟩)
        (fun N x2 => N = 32 - x2.2 ∧ x2.2 ≤ 32 ∧ x2.1 = scanA v most d x2.2) (n := 32) (x := (⟨d.m, d.q, false⟩, 0)) (Norm.re [0, 1, 3, 2] (by decide) rfl (by simp only [eq_self, heapFits, rowFits, obFits, List.getElem?_cons_zero, List.getElem?_cons_succ, renL_o, renL_b, true_and, and_true, and_self, renL_t, renL_cons, renL_nil, T.ren]) (by simp [tmFits, T.ren])) ⟨rfl, Nat.zero_le _, rfl⟩ ?_
      rintro N ⟨y, i⟩ ⟨hN, hi, hyy⟩
      simp only at hN hi hyy ⊢
      have fy := Nat.add_zero
      refine goS ?_
      refine SW.cond rfl (fun hc2 => ?_) (fun hc2 => ?_)
      · have hlt : i < 32 := by rw [hml] at hc2; simp at hc2; omega
        obtain ⟨hy, hym, _, _⟩ := hsc i hi
        rw [← hyy] at hy hym
        have hlc : (i : Int) < (d.m.length : Int) := by omega
        have hgc : (d.m.map (Enc.o : Bool → T))[i]? = some (.bool (mrk d.m i)) := by rw [List.getElem?_map, List.getElem?_eq_getElem (by omega)]; simp [mrk, List.getElem?_eq_getElem (show i < d.m.length by omega), o_bool]
        have hil : i < v.length := by rw [hv.len]; exact hlt
        have hgvi : (v.map Enc.b)[i]? = some (.nd [.bool v[i].1, .nd [.int .i64 v[i].2.1.1, .sl .b (v[i].2.1.2.1.map Enc.b), .sl .b (v[i].2.1.2.2.1.map Enc.b)]]) := map_get Enc.b v _ hil
        have hrf : refsA v i = v[i].2.1.2.2.1 := by unfold refsA; rw [List.getElem?_eq_getElem hil]
        have hlimr : Enc.lim 1048576 v[i].2.1.2.2.1 := (hvl.2 _ (List.getElem_mem hil)).2.1.2.2.1
        have hrr := hv.rf i
        rw [hrf] at hrr
        have hA := anyUn_ok v[i].2.1.2.2.1 hlimr v y most hv hy.ml hrr
        have hlk0 : lacks v y.m i = v[i].2.1.2.2.1.any (lackB v y.m) := by unfold lacks; rw [hrf]
        rw [← hlk0] at hA
        have hwi : IntKind.i64.wrap ((i : Int) + 1) = ((i + 1 : Nat) : Int) := by rw [wrap64 _ (by omega) (by omega)]; omega
        have hstep : scanA v most d (i + 1) = scan1 v most y i := by rw [hyy]; unfold scanA; rw [List.range_succ, List.foldl_append]; rfl
        have hmy : mrk y.m i = mrk d.m i := by rw [hym]
        have hqy := hy.ql
        have hP := put_ok 0 v y most i (by omega)
        cases hmk : mrk d.m i with
        | false =>
          rw [hmk] at hgc hmy
          have hC1 := cx [] (hA)
          have fy := And.intro hgc (And.intro hgvi (And.intro hlc (And.intro hwi (And.intro ((((((tgL_up0 (α := SlotT))))))) (And.intro tgL_up (And.intro tgL_dn (And.intro (((((((((tgL_dn0 (α := SlotT)))))))))) (And.intro Nat.zero_add (Int.toNat_natCast)))))))))
          refine goR ?_ ?_ ?_ ?_ ?_ ?_ ?_ ?_ ?_ ?_ ?_ ?_ ?_ ?_ ?_ ?_
          any_goals (first | exact True.intro | skip)
          all_goals (repeat (refine Wh.mk fun hcc => ?_))
          refine ⟨N - 1, (y, i + 1), by omega, ⟨by simp only; omega, by simp only; omega, by simp only; rw [hstep]; unfold scan1; simp [hmy]⟩, Norm.re [0, 1, 2, 3] (by decide) rfl (by simp only [eq_self, heapFits, rowFits, obFits, List.getElem?_cons_zero, List.getElem?_cons_succ, renL_o, renL_b, true_and, and_true, and_self, renL_t, renL_cons, renL_nil, T.ren]) (by simp [tmFits, T.ren])⟩
        | true =>
          rw [hmk] at hgc hmy
          cases hlk : lacks v y.m i with
          | false =>
            rw [hlk] at hA
            have hC1 := cx [] (hA)
            have fy := And.intro hgc (And.intro hgvi (And.intro hlc (And.intro hwi (And.intro ((((((tgL_up0 (α := SlotT))))))) (And.intro tgL_up (And.intro tgL_dn (And.intro (((((((((tgL_dn0 (α := SlotT)))))))))) (And.intro Nat.zero_add (Int.toNat_natCast)))))))))
            refine goR ?_ ?_ ?_ ?_ ?_ ?_ ?_ ?_ ?_ ?_ ?_ ?_ ?_ ?_ ?_ ?_
            any_goals (first | exact True.intro | skip)
            all_goals (repeat (refine Wh.mk fun hcc => ?_))
            refine ⟨N - 1, (y, i + 1), by omega, ⟨by simp only; omega, by simp only; omega, by simp only; rw [hstep]; unfold scan1; simp [hlk]⟩, Norm.re [0, 1, 2, 3] (by decide) rfl (by simp only [eq_self, heapFits, rowFits, obFits, List.getElem?_cons_zero, List.getElem?_cons_succ, renL_o, renL_b, true_and, and_true, and_self, renL_t, renL_cons, renL_nil, T.ren]) (by simp [tmFits, T.ren])⟩
          | true =>
            rw [hlk] at hA
            have hsce : scan1 v most y i = put1 most y i := by unfold scan1; rw [hmy, hlk]; rfl
            generalize put1 most y i = y' at *
            have hC1 := cx [] (hA)
            have hC2 := cx [.io] (hP)
            have fy := And.intro hgc (And.intro hgvi (And.intro hlc (And.intro hwi (And.intro ((((((tgL_up0 (α := SlotT))))))) (And.intro tgL_up (And.intro tgL_dn (And.intro (((((((((tgL_dn0 (α := SlotT)))))))))) (And.intro Nat.zero_add (Int.toNat_natCast)))))))))
            refine goR ?_ ?_ ?_ ?_ ?_ ?_ ?_ ?_ ?_ ?_ ?_ ?_ ?_ ?_ ?_ ?_
            any_goals (first | exact True.intro | skip)
            all_goals (repeat (refine Wh.mk fun hcc => ?_))
            refine ⟨N - 1, (y', i + 1), by omega, ⟨by simp only; omega, by simp only; omega, by simp only; rw [hstep, hsce]⟩, ?_⟩
            exact Norm.trans (Norm.re [0, 1, 2] (by decide) rfl (by simp [heapFits, rowFits, obFits, T.ren, renL]) (by simp [tmFits, T.ren])) (openI v _ y' most d.m)
      · have hge : i = 32 := by
          have : ¬ i < 32 := by rw [hml] at hc2; simp at hc2; omega
          omega
        subst hge
        obtain ⟨hy, hym, _, _⟩ := hsc 32 (Nat.le_refl _)
        rw [← hyy] at hy hR' hok'
        have hDr2 := drain_ok 0 v hv hvl y most hm.2 hy
        have hD2 := drn_ok hv hm.2 hy
        generalize drn v most y = D2 at *
        have hC1 := cx [.io] (hDr2)
        have fy := And.intro ((tgL_up0 (α := SlotT))) (And.intro tgL_up (And.intro tgL_dn (And.intro (((((tgL_dn0 (α := SlotT)))))) (And.intro Nat.zero_add (Int.toNat_natCast)))))
        refine goR ?_ ?_ ?_ ?_ ?_ ?_ ?_ ?_ ?_ ?_ ?_ ?_ ?_ ?_ ?_ ?_
        any_goals (first | exact True.intro | skip)
        all_goals (repeat (refine Wh.mk fun hcc => ?_))
        refine ⟨n, (D2, t + 1), by omega, ⟨by omega, hD2.1, hD2.2.1, hok', hR', by simp only; omega⟩, ?_⟩
        exact Norm.trans (Norm.re [0, 1] (by decide) rfl (by simp [heapFits, rowFits, obFits, T.ren, renL]) (by simp [tmFits, T.ren])) (openO v _ D2 most)
    · have hRR : R = (d.m, t) := by rw [← hR]; cases n <;> simp [outD, hc]
      subst hRR
      have fy := And.intro ((tgL_up0 (α := SlotT))) (And.intro tgL_up (And.intro tgL_dn (And.intro (((((tgL_dn0 (α := SlotT)))))) (And.intro Nat.zero_add (Int.toNat_natCast)))))
      refine goR ?_ ?_ ?_ ?_ ?_ ?_ ?_ ?_ ?_ ?_ ?_ ?_ ?_ ?_ ?_ ?_
      any_goals (first | exact True.intro | skip)
      all_goals (repeat (refine Wh.mk fun hcc => ?_))
      exact SW.ret (show RetQ _ _ _ _ _ _ _ from RetQ.y [1, 0] [.ow 1 (d.m.map Enc.o), .int .i64 (t : Int)])
end Q6

namespace Q6
open Go Go.Vm Go.Proofs
set_option maxHeartbeats 4000000
set_option synthInstance.maxSize 2000
set_option synthInstance.maxHeartbeats 400000
set_option maxRecDepth 10000
set_option linter.unusedSimpArgs false
set_option linter.unusedVariables false

theorem marksOf_ok (l : List SlotT) (hl : Enc.lim 1048576 l) (hv : viewB l = true) (a : Int) (ha : 1 ≤ a ∧ a ≤ 31) : CallR Try.prog 53 [.sl .b (l.map Enc.b), .int .i64 a] [] (.ow 1 ((reachL l a.toNat).map Enc.o)) := by
  refine CallR.of_body (n := 47) (rs := [.tmp 4]) hY.ok Try.func53 rfl (by decide) rfl rfl rfl rfl (fun F => ?_)
  have fx := And.intro Y1 (And.intro Y2 (And.intro Y3 (And.intro Y4 (And.intro Y24 (And.intro Y27 (And.intro Y29 (And.intro Y35 (Y37))))))))
  have ok := vok_of hv
  have hlen : l.length = 32 := ok.len
  have hra : ((a.toNat : Nat) : Int) = a := by omega
  have fy := And.intro mk32 (bs1_27)
  refine goN ?_ ?_ ?_ ?_ ?_ ?_ ?_ ?_ ?_ ?_ ?_ ?_ ?_ ?_ ?_ ?_
  any_goals (first | exact True.intro | skip)
  skip
  refine SW.loop (fun x : List Bool × List Int × Nat => ⟨[.sl .b (l.map Enc.b), .int .i64 a, .undef, .undef, .undef, .ref 1 0 0 32, .ref 2 0 x.2.2 (x.2.1.length - x.2.2), .undef, .undef, .undef, .undef, .undef, .undef, .undef, .undef, .undef, .undef, .undef, .undef, .undef, .undef, .undef, .undef, .undef, .undef, .undef, .undef, .undef, .undef, .undef, .undef, .undef, .undef, .undef, .undef, .undef, .undef, .undef, .undef, .undef, .undef, .undef, .undef, .undef, .undef, .undef, .undef], [[], [.arr 1 (x.1.map Enc.o) false], [.arr 1 (x.2.1.map Enc.o) false]]⟩)
    (fun N x => N = (x.2.1.length - x.2.2) + 6 * x.1.count false ∧ N ≤ 193 ∧ x.2.2 ≤ x.2.1.length ∧ JI l a.toNat x.1 (x.2.1.drop x.2.2)) (n := 193) (x := (rep32, [a], 0)) (by exact Norm.re [0, 1, 2] (by decide) rfl (by first | (simp only [eq_self, heapFits, rowFits, obFits, List.getElem?_cons_zero, List.getElem?_cons_succ, renL_o, renL_b, true_and, and_true, and_self]; done) | (simp only [eq_self, heapFits, rowFits, obFits, List.getElem?_cons_zero, List.getElem?_cons_succ, renL_o, renL_b, true_and, and_true, and_self, List.map_nil, renL_nil]; done) | (simp only [eq_self, heapFits, rowFits, obFits, List.getElem?_cons_zero, List.getElem?_cons_succ, renL_o, renL_b, true_and, and_true, and_self, List.map_nil, List.map_cons, renL_nil, renL_cons, o_int, ren_int]; done) | simp [heapFits, rowFits, obFits, soakS, soakL, Heap.at, Heap.put, T.ren, tmFits, o_int, renL_nil, renL_cons, ren_int]) (by simp [heapFits, rowFits, obFits, soakS, soakL, Heap.at, Heap.put, T.ren, tmFits, o_int, renL_nil, renL_cons, ren_int])) ⟨by simp [rep32], by decide, by simp, by have := JI.init (v := l) (root := a.toNat) (by omega); rw [hra] at this; exact this⟩ ?_
  rintro N ⟨m, f, off⟩ ⟨hN, hN2, hoff, hj⟩
  simp only at hN hN2 hoff hj ⊢
  have fy := And.intro mk32 (bs1_27)
  refine goS ?_
  refine SW.cond rfl (fun hc => ?_) (fun hc => ?_)
  · have hlt : off < f.length := by simp at hc; omega
    have hn0 : (0 : Int) < ((f.length - off : Nat) : Int) := by omega
    have hn1 : (1 : Int) ≤ ((f.length - off : Nat) : Int) := by omega
    have hg1 : (f.map Enc.o)[off]? = some (T.int .i64 f[off]) := map_get Enc.o f off hlt
    have hdrop : f.drop off = f[off] :: f.drop (off + 1) := List.drop_eq_getElem_cons hlt
    have hj : JI l a.toNat m (f[off] :: f.drop (off + 1)) := by rw [← hdrop]; exact hj
    obtain ⟨hx0, hx31, _⟩ := hj.qs f[off] List.mem_cons_self
    generalize hxe : f[off] = x at *
    have hxl : x.toNat < l.length := by omega
    have hx32 : x < ((32 : Nat) : Int) := by omega
    have hxm : x.toNat < m.length := by rw [hj.ml]; omega
    have hgx0 : (l.map Enc.b)[x.toNat]? = some (.nd [.bool l[x.toNat].1, .nd [.int .i64 l[x.toNat].2.1.1, .sl .b (l[x.toNat].2.1.2.1.map Enc.b), .sl .b (l[x.toNat].2.1.2.2.1.map Enc.b)]]) := map_get Enc.b l x.toNat hxl
    have hgm0 : (m.map Enc.o)[x.toNat]? = some (T.bool m[x.toNat]) := map_get Enc.o m x.toNat hxm
    have hset : (m.map Enc.o).set x.toNat (T.bool true) = (m.set x.toNat true).map Enc.o := set_o m x.toNat true
    have hhas : hasA l x.toNat = l[x.toNat].1 := by simp [hasA, List.getElem?_eq_getElem hxl]
    have href : refsA l x.toNat = l[x.toNat].2.1.2.2.1 := by simp [refsA, List.getElem?_eq_getElem hxl]
    have hmk : mrk m x.toNat = m[x.toNat] := by simp [mrk, List.getElem?_eq_getElem hxm]
    have hrl : l[x.toNat].2.1.2.2.1.length ≤ 5 := by rw [← href]; exact ok.rl _
    have hsub : f.length - (off + 1) = f.length - off - 1 := by omega
    have hsl := fun (e j : Nat) (H : Heap) (q1 : H.at e j = some (.arr 1 (f.map Enc.o) false)) => show (sliceM Y 27 (.ref e j off (f.length - off)) (some (.int .i64 1)) none none).run H = some { v := .ref e j (off + 1) (f.length - off - 1) } by simp only [sliceM, Y27, loF, hiF]; rw [if_pos ⟨by decide, by omega, Int.le_refl _⟩]; simp [RM.run, q1, Y3]
    by_cases h0 : x = 0
    · have hE : (x == 0) = true := by simp [h0]
      have fy := And.intro hE (And.intro hgx0 (And.intro hgm0 (And.intro hn0 (And.intro hn1 (And.intro hg1 (And.intro hx0 (And.intro hx32 (And.intro hset (And.intro hsl (Nat.zero_add))))))))))
      refine goR ?_ ?_ ?_ ?_ ?_ ?_ ?_ ?_ ?_ ?_ ?_ ?_ ?_ ?_ ?_ ?_
      any_goals (first | exact True.intro | skip)
      all_goals (repeat (refine Wh.mk fun hcc => ?_))
      refine ⟨N - 1, (m, f, off + 1), by omega, ⟨by simp only; omega, by omega, by simp only; omega, hj.skip ok (.inl h0)⟩, ?_⟩
      simp only [hsub]
      exact (by exact Norm.re [0, 1, 2] (by decide) rfl (by first | (simp only [eq_self, heapFits, rowFits, obFits, List.getElem?_cons_zero, List.getElem?_cons_succ, renL_o, renL_b, true_and, and_true, and_self]; done) | (simp only [eq_self, heapFits, rowFits, obFits, List.getElem?_cons_zero, List.getElem?_cons_succ, renL_o, renL_b, true_and, and_true, and_self, List.map_nil, renL_nil]; done) | (simp only [eq_self, heapFits, rowFits, obFits, List.getElem?_cons_zero, List.getElem?_cons_succ, renL_o, renL_b, true_and, and_true, and_self, List.map_nil, List.map_cons, renL_nil, renL_cons, o_int, ren_int]; done) | simp [heapFits, rowFits, obFits, soakS, soakL, Heap.at, Heap.put, T.ren, tmFits]) (by simp [heapFits, rowFits, obFits, soakS, soakL, Heap.at, Heap.put, T.ren, tmFits]))
    have hE : (x == 0) = false := by simp [h0]
    cases hh : l[x.toNat].1 with
    | false =>
      rw [hh] at hgx0 hhas
      have fy := And.intro hE (And.intro hgx0 (And.intro hgm0 (And.intro hn0 (And.intro hn1 (And.intro hg1 (And.intro hx0 (And.intro hx32 (And.intro hset (And.intro hsl (Nat.zero_add))))))))))
      refine goR ?_ ?_ ?_ ?_ ?_ ?_ ?_ ?_ ?_ ?_ ?_ ?_ ?_ ?_ ?_ ?_
      any_goals (first | exact True.intro | skip)
      all_goals (repeat (refine Wh.mk fun hcc => ?_))
      refine ⟨N - 1, (m, f, off + 1), by omega, ⟨by simp only; omega, by omega, by simp only; omega, hj.skip ok (.inr (.inl hhas))⟩, ?_⟩
      simp only [hsub]
      exact (by exact Norm.re [0, 1, 2] (by decide) rfl (by first | (simp only [eq_self, heapFits, rowFits, obFits, List.getElem?_cons_zero, List.getElem?_cons_succ, renL_o, renL_b, true_and, and_true, and_self]; done) | (simp only [eq_self, heapFits, rowFits, obFits, List.getElem?_cons_zero, List.getElem?_cons_succ, renL_o, renL_b, true_and, and_true, and_self, List.map_nil, renL_nil]; done) | (simp only [eq_self, heapFits, rowFits, obFits, List.getElem?_cons_zero, List.getElem?_cons_succ, renL_o, renL_b, true_and, and_true, and_self, List.map_nil, List.map_cons, renL_nil, renL_cons, o_int, ren_int]; done) | simp [heapFits, rowFits, obFits, soakS, soakL, Heap.at, Heap.put, T.ren, tmFits]) (by simp [heapFits, rowFits, obFits, soakS, soakL, Heap.at, Heap.put, T.ren, tmFits]))
    | true =>
      rw [hh] at hgx0 hhas
      cases hmm : m[x.toNat] with
      | true =>
        rw [hmm] at hgm0 hmk
        have fy := And.intro hE (And.intro hgx0 (And.intro hgm0 (And.intro hn0 (And.intro hn1 (And.intro hg1 (And.intro hx0 (And.intro hx32 (And.intro hset (And.intro hsl (Nat.zero_add))))))))))
        refine goR ?_ ?_ ?_ ?_ ?_ ?_ ?_ ?_ ?_ ?_ ?_ ?_ ?_ ?_ ?_ ?_
        any_goals (first | exact True.intro | skip)
        all_goals (repeat (refine Wh.mk fun hcc => ?_))
        refine ⟨N - 1, (m, f, off + 1), by omega, ⟨by simp only; omega, by omega, by simp only; omega, hj.skip ok (.inr (.inr hmk))⟩, ?_⟩
        simp only [hsub]
        exact (by exact Norm.re [0, 1, 2] (by decide) rfl (by first | (simp only [eq_self, heapFits, rowFits, obFits, List.getElem?_cons_zero, List.getElem?_cons_succ, renL_o, renL_b, true_and, and_true, and_self]; done) | (simp only [eq_self, heapFits, rowFits, obFits, List.getElem?_cons_zero, List.getElem?_cons_succ, renL_o, renL_b, true_and, and_true, and_self, List.map_nil, renL_nil]; done) | (simp only [eq_self, heapFits, rowFits, obFits, List.getElem?_cons_zero, List.getElem?_cons_succ, renL_o, renL_b, true_and, and_true, and_self, List.map_nil, List.map_cons, renL_nil, renL_cons, o_int, ren_int]; done) | simp [heapFits, rowFits, obFits, soakS, soakL, Heap.at, Heap.put, T.ren, tmFits]) (by simp [heapFits, rowFits, obFits, soakS, soakL, Heap.at, Heap.put, T.ren, tmFits]))
      | false =>
        rw [hmm] at hgm0 hmk
        have hap := @append_run Y 3 27 27 2 0 (off + 1) (f.length - off - 1) 3 1 8 _ .b (f.map Enc.o) (l[x.toNat].2.1.2.2.1.map Enc.b) [[], [.arr 1 ((m.set x.toNat true).map Enc.o) false], [.arr 1 (f.map Enc.o) false], []] Y27 Y27 Y3 rfl (by decide) rfl (by simp; omega) (by simp; omega) (nwL_b _) (by intro z hz; obtain ⟨y, _, rfl⟩ := List.mem_map.1 (List.mem_of_mem_take hz); rfl)
        have hcat : ((f.map Enc.o).drop (off + 1)).take (f.length - off - 1) ++ l[x.toNat].2.1.2.2.1.map Enc.b = (f.drop (off + 1) ++ refsA l x.toNat).map Enc.o := by
          rw [List.take_of_length_le (by simp; omega), href, List.map_append, List.map_drop, b_int]
        rw [hcat] at hap
        have fy := And.intro hap (And.intro hE (And.intro hgx0 (And.intro hgm0 (And.intro hn0 (And.intro hn1 (And.intro hg1 (And.intro hx0 (And.intro hx32 (And.intro hset (And.intro hsl (Nat.zero_add)))))))))))
        refine goR ?_ ?_ ?_ ?_ ?_ ?_ ?_ ?_ ?_ ?_ ?_ ?_ ?_ ?_ ?_ ?_
        any_goals (first | exact True.intro | skip)
        all_goals (repeat (refine Wh.mk fun hcc => ?_))
        have hcnt := cnt_set hxm hmk
        refine ⟨(f.drop (off + 1) ++ refsA l x.toNat).length + 6 * (m.set x.toNat true).count false, (m.set x.toNat true, f.drop (off + 1) ++ refsA l x.toNat, 0), ?_, ⟨by simp, ?_, by simp, by simpa using hj.take ok hhas⟩, ?_⟩
        · simp only [List.length_append, List.length_drop, href]; omega
        · simp only [List.length_append, List.length_drop, href]; omega
        · exact (by exact Norm.re [0, 1, 3] (by decide) rfl (by first | (simp only [eq_self, heapFits, rowFits, obFits, List.getElem?_cons_zero, List.getElem?_cons_succ, renL_o, renL_b, true_and, and_true, and_self]; done) | (simp only [eq_self, heapFits, rowFits, obFits, List.getElem?_cons_zero, List.getElem?_cons_succ, renL_o, renL_b, true_and, and_true, and_self, List.map_nil, renL_nil]; done) | (simp only [eq_self, heapFits, rowFits, obFits, List.getElem?_cons_zero, List.getElem?_cons_succ, renL_o, renL_b, true_and, and_true, and_self, List.map_nil, List.map_cons, renL_nil, renL_cons, o_int, ren_int]; done) | simp [heapFits, rowFits, obFits, soakS, soakL, Heap.at, Heap.put, T.ren, tmFits, href, hsub]) (by simp [heapFits, rowFits, obFits, soakS, soakL, Heap.at, Heap.put, T.ren, tmFits, href, hsub]))
  · have hge : off = f.length := by simp at hc; omega
    subst hge
    have hm : m = reachL l a.toNat := by rw [List.drop_length] at hj; exact hj.done
    have hm32 : m.length = 32 := hj.ml
    have fy := And.intro mk32 (bs1_27)
    refine goR ?_ ?_ ?_ ?_ ?_ ?_ ?_ ?_ ?_ ?_ ?_ ?_ ?_ ?_ ?_ ?_
    any_goals (first | exact True.intro | skip)
    all_goals (repeat (refine Wh.mk fun hcc => ?_))
    refine SW.ret (show RetQ _ _ _ _ _ _ _ from ⟨.inr rfl, _, [1], [.ow 1 ((reachL l a.toNat).map Enc.o)], ?_, ⟨rfl, ?_, rfl, ?_, rfl, rfl⟩⟩)
    rotate_left
    · first | rfl | (simp [-List.map_set, -List.map_append, hm32, ← hm, pass1, modeOf, giveS, giveSL, Heap.at, Heap.put, fixEs, ioAt, ioAtT, ioKs, ioKT, ioM, ioT, T.cel, T.clo, cloL, T.cloA, cloAL]; rfl)
    · first | rfl | simp [cloL, T.clo, T.clP, clPL]
end Q6

namespace Q6
open Go Go.Vm Go.Proofs
set_option maxHeartbeats 4000000
set_option synthInstance.maxSize 2000
set_option synthInstance.maxHeartbeats 400000
set_option maxRecDepth 10000
set_option linter.unusedSimpArgs false
set_option linter.unusedVariables false

theorem marked_ok (m : List Bool) (hm : m.length ≤ 1000) : CallR Try.prog 52 [.sl .b (m.map Enc.b)] [] (.ow 1 ((idxs (mrk m) m.length).map Enc.o)) := by
  refine CallR.of_body (n := 21) (rs := [.tmp 2]) hY.ok Try.func52 rfl (by decide) rfl rfl rfl rfl (fun F => ?_)
  have fx := And.intro Y1 (And.intro Y3 (And.intro Y4 (And.intro Y27 (Y29))))
  have fy := bs0_27
  refine goN ?_ ?_ ?_ ?_ ?_ ?_ ?_ ?_ ?_ ?_ ?_ ?_ ?_ ?_ ?_ ?_
  any_goals (first | exact True.intro | skip)
  skip
  refine SW.loop (fun i : Nat => ⟨[.sl .b (m.map Enc.b), .undef, .undef, .ref 1 0 0 (idxs (mrk m) i).length, .undef, .undef, .undef, .sl .b (m.map Enc.b), .int .i64 m.length, .int .i64 i, .undef, .undef, .undef, .undef, .undef, .undef, .undef, .undef, .undef, .undef, .undef], [[], [.arr 1 ((idxs (mrk m) i).map Enc.o) false]]⟩)
    (fun n i => n = m.length - i ∧ i ≤ m.length) (n := m.length) (x := 0) (by exact Norm.re [0, 1] (by decide) rfl (by first | (simp only [eq_self, heapFits, rowFits, obFits, List.getElem?_cons_zero, List.getElem?_cons_succ, renL_o, renL_b, true_and, and_true, and_self]; done) | (simp only [eq_self, heapFits, rowFits, obFits, List.getElem?_cons_zero, List.getElem?_cons_succ, renL_o, renL_b, true_and, and_true, and_self, List.map_nil, renL_nil]; done) | (simp only [eq_self, heapFits, rowFits, obFits, List.getElem?_cons_zero, List.getElem?_cons_succ, renL_o, renL_b, true_and, and_true, and_self, List.map_nil, List.map_cons, renL_nil, renL_cons, o_int, ren_int]; done) | simp [heapFits, rowFits, obFits, soakS, soakL, Heap.at, Heap.put, T.ren, tmFits, idxs_zero, renL_nil]) (by simp [heapFits, rowFits, obFits, soakS, soakL, Heap.at, Heap.put, T.ren, tmFits, idxs_zero, renL_nil])) ⟨rfl, Nat.zero_le _⟩ ?_
  rintro n i ⟨hn, hi⟩
  have fy := bs0_27
  refine goS ?_
  refine SW.cond rfl (fun hc => ?_) (fun hc => ?_)
  · have hlt : i < m.length := by simp at hc; omega
    have hltI : (i : Int) < ((m.length : Nat) : Int) := by omega
    have hk : (idxs (mrk m) i).length ≤ i := idxs_len _ _
    have hg : (m.map Enc.b)[i]? = some (T.bool m[i]) := map_get Enc.b m i hlt
    have hap := @append_run1 Y (H := [[], [.arr 1 ((idxs (mrk m) i).map Enc.o) false], [.arr 1 [.int .i64 (i : Int)] false], []]) 3 27 27 1 0 0 (idxs (mrk m) i).length 2 0 3 1 8 _ ((idxs (mrk m) i).map Enc.o) (.int .i64 (i : Int)) Y27 Y27 Y3 rfl (by decide) rfl rfl (by simp) (by omega) rfl rfl
    have fy := And.intro bs1_27 (And.intro hap (And.intro hltI (hg)))
    refine goR ?_ ?_ ?_ ?_ ?_ ?_ ?_ ?_ ?_ ?_ ?_ ?_ ?_ ?_ ?_ ?_
    any_goals (first | exact True.intro | skip)
    all_goals (repeat (refine Wh.mk fun hcc => ?_))
    all_goals first
      | (have hp : (mrk m) i = true := by simp [mrk, hlt, hcc]
         refine ⟨n - 1, i + 1, by omega, ⟨by omega, by omega⟩, ?_⟩
         rw [wrap64 _ (by omega) (by omega), idxs_yes hp]
         exact (by exact Norm.re [0, 3] (by decide) rfl (by first | (simp only [eq_self, heapFits, rowFits, obFits, List.getElem?_cons_zero, List.getElem?_cons_succ, renL_o, renL_b, true_and, and_true, and_self]; done) | (simp only [eq_self, heapFits, rowFits, obFits, List.getElem?_cons_zero, List.getElem?_cons_succ, renL_o, renL_b, true_and, and_true, and_self, List.map_nil, renL_nil]; done) | (simp only [eq_self, heapFits, rowFits, obFits, List.getElem?_cons_zero, List.getElem?_cons_succ, renL_o, renL_b, true_and, and_true, and_self, List.map_nil, List.map_cons, renL_nil, renL_cons, o_int, ren_int]; done) | simp [heapFits, rowFits, obFits, soakS, soakL, Heap.at, Heap.put, T.ren, tmFits, List.map_append, o_int, renL_app, renL_nil, renL_cons, ren_int]) (by simp [heapFits, rowFits, obFits, soakS, soakL, Heap.at, Heap.put, T.ren, tmFits, List.map_append, o_int, renL_app, renL_nil, renL_cons, ren_int])))
      | (have hp : (mrk m) i = false := by simp [mrk, hlt, hcc]
         refine ⟨n - 1, i + 1, by omega, ⟨by omega, by omega⟩, ?_⟩
         rw [wrap64 _ (by omega) (by omega), idxs_no hp]
         exact (by exact Norm.re [0, 1] (by decide) rfl (by first | (simp only [eq_self, heapFits, rowFits, obFits, List.getElem?_cons_zero, List.getElem?_cons_succ, renL_o, renL_b, true_and, and_true, and_self]; done) | (simp only [eq_self, heapFits, rowFits, obFits, List.getElem?_cons_zero, List.getElem?_cons_succ, renL_o, renL_b, true_and, and_true, and_self, List.map_nil, renL_nil]; done) | (simp only [eq_self, heapFits, rowFits, obFits, List.getElem?_cons_zero, List.getElem?_cons_succ, renL_o, renL_b, true_and, and_true, and_self, List.map_nil, List.map_cons, renL_nil, renL_cons, o_int, ren_int]; done) | simp [heapFits, rowFits, obFits, soakS, soakL, Heap.at, Heap.put, T.ren, tmFits]) (by simp [heapFits, rowFits, obFits, soakS, soakL, Heap.at, Heap.put, T.ren, tmFits])))
  · have hge : i = m.length := by
      have : ¬ i < m.length := by simp at hc; omega
      omega
    subst hge
    have fy := bs0_27
    refine goR ?_ ?_ ?_ ?_ ?_ ?_ ?_ ?_ ?_ ?_ ?_ ?_ ?_ ?_ ?_ ?_
    any_goals (first | exact True.intro | skip)
    all_goals (repeat (refine Wh.mk fun hcc => ?_))
    refine SW.ret (show RetQ _ _ _ _ _ _ _ from ⟨.inr rfl, _, [1], [.ow 1 ((idxs (mrk m) m.length).map Enc.o)], ?_, ⟨rfl, ?_, rfl, ?_, rfl, rfl⟩⟩)
    rotate_left
    · first | rfl | (simp [pass1, modeOf, giveS, giveSL, Heap.at, Heap.put, fixEs, ioAt, ioAtT, ioKs, ioKT, ioM, ioT, T.cel, T.clo, cloL, T.cloA, cloAL]; rfl)
    · first | rfl | simp [cloL, T.clo, T.clP, clPL]
end Q6

namespace Q6
open Go Go.Vm Go.Proofs
set_option maxHeartbeats 4000000
set_option synthInstance.maxSize 2000
set_option synthInstance.maxHeartbeats 400000
set_option maxRecDepth 10000
set_option linter.unusedSimpArgs false
set_option linter.unusedVariables false

theorem implReach_n (l : List SlotT) (hl : Enc.lim 1048576 l) (a : Int) (hn : callB l a = false) : CallR Try.prog 13 [.sl .b (l.map Enc.b), .int .i64 a] [] (.ow 1 []) := by
  refine CallR.of_body (n := 17) (rs := [.tmp 4]) hY.ok Try.func13 rfl (by decide) rfl rfl rfl rfl (fun F => ?_)
  have fx := And.intro Y3 (And.intro Y4 (And.intro Y24 (And.intro Y27 (And.intro Y29 (And.intro Y35 (Y37))))))
  have hV := implViewOk_ok l hl
  have hO := oid_ok a
  unfold callB at hn
  cases hv : viewB l with
  | false =>
    rw [hv] at hV
    have hC1 := cx [] (hV)
    have fy := Nat.add_zero
    refine goR ?_ ?_ ?_ ?_ ?_ ?_ ?_ ?_ ?_ ?_ ?_ ?_ ?_ ?_ ?_ ?_
    any_goals (first | exact True.intro | skip)
    all_goals (repeat (refine Wh.mk fun hcc => ?_))
    exact SW.ret (show RetQ _ _ _ _ _ _ _ from RetQ.y [1] [.ow 1 []])
  | true =>
    rw [hv] at hV
    rw [hv, Bool.true_and] at hn
    rw [hn] at hO
    have hC1 := cx [] (hV)
    have hC2 := cx [] (hO)
    have fy := Nat.add_zero
    refine goR ?_ ?_ ?_ ?_ ?_ ?_ ?_ ?_ ?_ ?_ ?_ ?_ ?_ ?_ ?_ ?_
    any_goals (first | exact True.intro | skip)
    all_goals (repeat (refine Wh.mk fun hcc => ?_))
    exact SW.ret (show RetQ _ _ _ _ _ _ _ from RetQ.y [1] [.ow 1 []])
theorem implReach_y (l : List SlotT) (hl : Enc.lim 1048576 l) (a : Int) (hv : viewB l = true) (ha : 1 ≤ a ∧ a ≤ 31) : CallR Try.prog 13 [.sl .b (l.map Enc.b), .int .i64 a] [] (.ow 1 ((idxs (mrk (reachL l a.toNat)) 32).map Enc.o)) := by
  refine CallR.of_body (n := 17) (rs := [.tmp 4]) hY.ok Try.func13 rfl (by decide) rfl rfl rfl rfl (fun F => ?_)
  have fx := And.intro Y3 (And.intro Y4 (And.intro Y24 (And.intro Y27 (And.intro Y29 (And.intro Y35 (Y37))))))
  have hV := implViewOk_ok l hl
  have hO := oid_ok a
  rw [hv] at hV
  rw [show (decide (a ≥ 1) && decide (a ≤ 31)) = true by simp [ha]] at hO
  have ok := vok_of hv
  have hM := marksOf_ok l hl hv a ha
  have hR32 := reachL_len l a.toNat
  have hK := marked_ok (reachL l a.toNat) (by omega)
  rw [hR32] at hK
  generalize reachL l a.toNat = R at *
  have hC1 := cx [] (hV)
  have hC2 := cx [] (hO)
  have hC3 := cx [] (hM)
  have hC4 := cx [] (hK)
  have fy := Nat.add_zero
  refine goR ?_ ?_ ?_ ?_ ?_ ?_ ?_ ?_ ?_ ?_ ?_ ?_ ?_ ?_ ?_ ?_
  any_goals (first | exact True.intro | skip)
  all_goals (repeat (refine Wh.mk fun hcc => ?_))
  exact SW.ret (show RetQ _ _ _ _ _ _ _ from RetQ.y [1] [.ow 1 ((idxs (mrk R) 32).map Enc.o)])
theorem implReach_ok (l : List SlotT) (hl : Enc.lim 1048576 l) (a : Int) : CallR Try.prog 13 [.sl .b (l.map Enc.b), .int .i64 a] [] (.ow 1 ((reachR l a).map Enc.o)) := by
  by_cases h : callB l a = true
  · obtain ⟨hv, ha⟩ := callB_c h
    have := implReach_y l hl a hv ha
    simpa only [reachR, h, if_true] using this
  · have h := Bool.eq_false_iff.2 h
    have := implReach_n l hl a h
    simpa only [reachR, h, if_false, Bool.false_eq_true, List.map_nil] using this
end Q6

namespace Q6
open Go Go.Vm Go.Proofs
set_option maxHeartbeats 4000000
set_option synthInstance.maxSize 2000
set_option synthInstance.maxHeartbeats 400000
set_option maxRecDepth 10000
set_option linter.unusedSimpArgs false
set_option linter.unusedVariables false


theorem slotB_len {s : SlotT} (h : slotB s = true) : s.2.1.2.1.length ≤ 5 ∧ s.2.1.2.2.1.length ≤ 5 := by
  unfold slotB at h
  split at h
  · simp only [objB, Bool.and_eq_true, decide_eq_true_eq] at h
    exact ⟨h.1.1.1.2, h.1.1.2⟩
  · simp only [noObjB, Bool.and_eq_true, decide_eq_true_eq] at h
    omega
theorem viewB_lim {v : List SlotT} (h : viewB v = true) : Enc.lim 1048576 v := by
  unfold viewB at h
  simp only [Bool.and_eq_true, decide_eq_true_eq] at h
  obtain ⟨⟨h1, _⟩, h3⟩ := h
  refine ⟨by omega, fun s hs => ?_⟩
  obtain ⟨g1, g2⟩ := slotB_len (List.all_eq_true.1 h3 s hs)
  exact ⟨trivial, ⟨trivial, ⟨by omega, fun _ _ => trivial⟩, ⟨by omega, fun _ _ => trivial⟩, trivial⟩, trivial⟩
theorem among_idxs (R : List Bool) (hR : R.length = 32) (i : Nat) (h : i < R.length) : amongB (idxs (mrk R) 32) i = R[i] := by
  have e : mrk R i = R[i] := by unfold mrk; rw [List.getD_eq_getElem?_getD, List.getElem?_eq_getElem h]; rfl
  rw [← e]
  cases hm : mrk R i with
  | true => exact amongB_iff.2 (idxs_mem.2 ⟨i, rfl, by omega, hm⟩)
  | false =>
    cases ha : amongB (idxs (mrk R) 32) i with
    | false => rfl
    | true =>
      obtain ⟨k, hk, _, h2⟩ := idxs_mem.1 (amongB_iff.1 ha)
      have : k = i := by omega
      subst this
      rw [hm] at h2; cases h2

theorem markedLaw_ok (l : List UInt8) : CallR Try.prog 3 [.sl .s (l.map Enc.b)] [] (.bool true) := by
  refine CallR.of_body (n := 81) (rs := [.tmp 2]) hY.ok Try.func3 rfl (by decide) rfl rfl rfl rfl (fun F => ?_)
  have fx := And.intro Y1 (And.intro Y3 (And.intro Y4 (And.intro Y5 (And.intro Y22 (And.intro Y24 (And.intro Y27 (And.intro Y29 (And.intro Y35 (Y37)))))))))
  have hbg := big_ok l
  by_cases hb : (1048576 : Int) < (l.length : Int)
  · rw [decide_eq_true hb] at hbg
    have hC1 := cx [.own 1] (hbg)
    have fy := Nat.add_zero
    have hD1 := dx 13 [7] [(2, 1), (3, 1)]
    refine goK ?_ ?_ ?_ ?_ ?_ ?_ ?_ ?_ ?_ ?_ ?_ ?_ ?_ ?_ ?_ ?_
    any_goals (first | exact True.intro | skip)
    all_goals (repeat (refine Wh.mk fun hcc => ?_))
    all_goals rfl
  rw [decide_eq_false hb] at hbg
  have hl1 : l.length ≤ 1048576 := by omega
  have hD := drawHeapW_ok l hl1
  obtain ⟨hvw, hnr⟩ := drawHeap_view l hl1
  generalize drawHeap l = v at *
  have hlim := viewB_lim hvw
  have ok := vok_of hvw
  have hA2 := at_ok l hl1 2 (by decide)
  have hA3 := at_ok l hl1 3 (by decide)
  obtain ⟨p2, q2⟩ := atF_rng l 2
  obtain ⟨p3, q3⟩ := atF_rng l 3
  generalize atF l 2 = a2 at *
  generalize atF l 3 = a3 at *
  simp only [Int.cast_ofNat_Int] at hA2 hA3
  have r2 : 0 ≤ a2.tmod 31 ∧ a2.tmod 31 < 31 := ⟨Int.tmod_nonneg _ p2, Int.tmod_lt_of_pos _ (by decide)⟩
  have r3 : 0 ≤ a3.tmod 5 ∧ a3.tmod 5 < 5 := ⟨Int.tmod_nonneg _ p3, Int.tmod_lt_of_pos _ (by decide)⟩
  have wa2 : IntKind.i64.wrap (a2.tmod 31) = a2.tmod 31 := wrap64 _ (by omega) (by omega)
  have wa3 : IntKind.i64.wrap (a3.tmod 5) = a3.tmod 5 := wrap64 _ (by omega) (by omega)
  have wb2 : IntKind.i64.wrap (1 + a2.tmod 31) = 1 + a2.tmod 31 := wrap64 _ (by omega) (by omega)
  have wb3 : IntKind.i64.wrap (1 + a3.tmod 5) = 1 + a3.tmod 5 := wrap64 _ (by omega) (by omega)
  generalize hroot : 1 + a2.tmod 31 = root at *
  generalize hmost : 1 + a3.tmod 5 = most at *
  have hR := implReach_ok v hlim root
  have hM1 := implMark_y v hlim root most hvw (by omega) (by omega)
  have hM2 := implMark_y v hlim root 40 hvw (by omega) (by omega)
  have hVo := implViewOk_ok v hlim
  rw [hvw] at hVo
  have e1 := mark_reach ok (root := root.toNat) (by omega) (most := most) (by omega) (by omega)
  have e2 := mark_reach ok (root := root.toNat) (by omega) (most := 40) (by omega) (by omega)
  have e3 := mark_none ok (root := root.toNat) (by omega)
  rw [e1] at hM1
  rw [e2, e3] at hM2
  simp only [Int.natCast_zero] at hM2
  have hRe : reachR v root = idxs (mrk (reachL v root.toNat)) 32 := by unfold reachR; rw [callB_t hvw (by omega)]; rfl
  rw [hRe] at hR
  have hRl := reachL_len v root.toNat
  have hAm := among_idxs (reachL v root.toNat) hRl
  have hIl : (idxs (mrk (reachL v root.toNat)) 32).length ≤ 32 := idxs_len _ _
  generalize idxs (mrk (reachL v root.toNat)) 32 = L at *
  generalize reachL v root.toNat = R at *
  generalize (markR v root.toNat most).2 = t at *
  clear e1 e2 e3 hRe hnr
  have ht : decide ((t : Int) < 0) = false := by simp
  have hR32 : (((R.length : Nat) : Int) != 32) = false := by rw [hRl]; rfl
  clear hlim hvw ok
  have hC1 := cx [.own 1] (hbg)
  have hC2 := cx [.own 1] (hD)
  have hC3 := cx [.own 1, .own 0] (hA2)
  have hC4 := cx [.own 1, .own 0] (hA3)
  have hC5 := cx [] (hR)
  have hC6 := cx [] (hM1)
  have hC7 := cx [] (hM2)
  have fy := And.intro wa2 (And.intro wa3 (And.intro wb2 (And.intro wb3 (And.intro hroot (And.intro hmost (And.intro ht (hR32)))))))
  have hD1 := dx 13 [7] [(2, 1), (3, 1)]
  refine goR ?_ ?_ ?_ ?_ ?_ ?_ ?_ ?_ ?_ ?_ ?_ ?_ ?_ ?_ ?_ ?_
  any_goals (first | exact True.intro | skip)
  all_goals (repeat (refine Wh.mk fun hcc => ?_))
  refine SW.loop (fun i : Nat => ⟨[.sl .s (l.map Enc.b), .undef, .undef, .ref 1 0 0 v.length, .undef, .ref 2 0 0 L.length, .ref 3 0 0 R.length, .undef, .ref 4 0 0 R.length, .undef, .int .i64 (i : Nat), .undef, .undef, .undef, .undef, .undef, .undef, .undef, .undef, .undef, .undef, .undef, .undef, .undef, .undef, .undef, .undef, .undef, .undef, .undef, .undef, .undef, .undef, .undef, .undef, .undef, .undef, .undef, .undef, .undef, .undef, .undef, .undef, .undef, .undef, .undef, .undef, .undef, .undef, .undef, .undef, .undef, .undef, .undef, .undef, .undef, .undef, .undef, .undef, .undef, .undef, .undef, .undef, .undef, .undef, .undef, .undef, .undef, .undef, .undef, .undef, .undef, .undef, .undef, .undef, .undef, .undef, .undef, .undef, .undef, .undef], [[], [.arr 4 (v.map Enc.o) false], [.arr 1 (L.map Enc.o) false], [.arr 1 (R.map Enc.o) false], [.arr 1 (R.map Enc.o) false]]⟩)
    (fun N i => N = 32 - i ∧ i ≤ 32) (n := 32) (x := 0) ?_ ⟨rfl, by decide⟩ ?_
  · exact Norm.re [0, 2, 4, 6, 7] (by decide) rfl (by first | (simp only [eq_self, heapFits, rowFits, obFits, List.getElem?_cons_zero, List.getElem?_cons_succ, renL_o, renL_b, true_and, and_true, and_self]; done) | simp [-List.map_set, -List.map_append, heapFits, rowFits, obFits, T.ren, renL]) (by simp [tmFits, T.ren])
  rintro N i ⟨hN, hi⟩
  have fy := Nat.add_zero
  refine goS ?_
  refine SW.cond rfl (fun hc => ?_) (fun hc => ?_)
  · have hlt : i < R.length := by simp at hc; omega
    have hltI : (i : Int) < (R.length : Int) := by omega
    have hg : (R.map Enc.o)[i]? = some (T.bool R[i]) := map_get Enc.o R i hlt
    have hwi : IntKind.i64.wrap ((i : Int) + 1) = ((i + 1 : Nat) : Int) := by rw [wrap64 _ (by omega) (by omega)]; omega
    have hA := among_ok L (by omega) i
    rw [hAm i hlt] at hA
    generalize R[i] = b at *
    have hC1 := cx [] (hA)
    have fy := And.intro hg (And.intro hltI (hwi))
    have hD1 := dx 13 [7] [(2, 1), (3, 1)]
    refine goR ?_ ?_ ?_ ?_ ?_ ?_ ?_ ?_ ?_ ?_ ?_ ?_ ?_ ?_ ?_ ?_
    any_goals (first | exact True.intro | skip)
    all_goals (repeat (refine Wh.mk fun hcc => ?_))
    all_goals first | (exfalso; simp at hcc; done) | skip
    refine ⟨N - 1, i + 1, by omega, ⟨by omega, by omega⟩, ?_⟩
    exact Norm.re [0, 1, 2, 3, 4] (by decide) rfl (by first | (simp only [eq_self, heapFits, rowFits, obFits, List.getElem?_cons_zero, List.getElem?_cons_succ, renL_o, renL_b, true_and, and_true, and_self]; done) | simp [-List.map_set, -List.map_append, heapFits, rowFits, obFits, T.ren, renL]) (by simp [tmFits, T.ren])
  · skip
    have hC1 := cx [] (hVo)
    have fy := Nat.add_zero
    have hD1 := dx 13 [7] [(2, 1), (3, 1)]
    refine goK ?_ ?_ ?_ ?_ ?_ ?_ ?_ ?_ ?_ ?_ ?_ ?_ ?_ ?_ ?_ ?_
    any_goals (first | exact True.intro | skip)
    all_goals (repeat (refine Wh.mk fun hcc => ?_))
    all_goals rfl
end Q6

namespace Q6
open Go Go.Vm Go.Proofs
set_option maxHeartbeats 4000000
set_option synthInstance.maxSize 2000
set_option synthInstance.maxHeartbeats 400000
set_option maxRecDepth 10000
set_option linter.unusedSimpArgs false
set_option linter.unusedVariables false

theorem implGarbage_n (l : List SlotT) (hl : Enc.lim 1048576 l) (a : Int) (hn : callB l a = false) : CallR Try.prog 17 [.sl .b (l.map Enc.b), .int .i64 a] [] (.ow 1 []) := by
  refine CallR.of_body (n := 41) (rs := [.tmp 4]) hY.ok Try.func17 rfl (by decide) rfl rfl rfl rfl (fun F => ?_)
  have fx := And.intro Y1 (And.intro Y3 (And.intro Y4 (And.intro Y24 (And.intro Y27 (And.intro Y29 (And.intro Y35 (Y37)))))))
  have hV := implViewOk_ok l hl
  have hO := oid_ok a
  unfold callB at hn
  cases hv : viewB l with
  | false =>
    rw [hv] at hV
    have hC1 := cx [] (hV)
    have fy := Nat.add_zero
    refine goR ?_ ?_ ?_ ?_ ?_ ?_ ?_ ?_ ?_ ?_ ?_ ?_ ?_ ?_ ?_ ?_
    any_goals (first | exact True.intro | skip)
    all_goals (repeat (refine Wh.mk fun hcc => ?_))
    exact SW.ret (show RetQ _ _ _ _ _ _ _ from RetQ.y [1] [.ow 1 []])
  | true =>
    rw [hv] at hV
    rw [hv, Bool.true_and] at hn
    rw [hn] at hO
    have hC1 := cx [] (hV)
    have hC2 := cx [] (hO)
    have fy := Nat.add_zero
    refine goR ?_ ?_ ?_ ?_ ?_ ?_ ?_ ?_ ?_ ?_ ?_ ?_ ?_ ?_ ?_ ?_
    any_goals (first | exact True.intro | skip)
    all_goals (repeat (refine Wh.mk fun hcc => ?_))
    exact SW.ret (show RetQ _ _ _ _ _ _ _ from RetQ.y [1] [.ow 1 []])
theorem implGarbage_y (l : List SlotT) (hl : Enc.lim 1048576 l) (a : Int) (hv : viewB l = true) (ha : 1 ≤ a ∧ a ≤ 31) : CallR Try.prog 17 [.sl .b (l.map Enc.b), .int .i64 a] [] (.ow 1 ((idxs (garbP l (reachL l a.toNat)) 32).map Enc.o)) := by
  refine CallR.of_body (n := 41) (rs := [.tmp 4]) hY.ok Try.func17 rfl (by decide) rfl rfl rfl rfl (fun F => ?_)
  have fx := And.intro Y1 (And.intro Y3 (And.intro Y4 (And.intro Y24 (And.intro Y27 (And.intro Y29 (And.intro Y35 (Y37)))))))
  have hV := implViewOk_ok l hl
  have hO := oid_ok a
  rw [hv] at hV
  rw [show (decide (a ≥ 1) && decide (a ≤ 31)) = true by simp [ha]] at hO
  have ok := vok_of hv
  have hM := marksOf_ok l hl hv a ha
  have hR32 := reachL_len l a.toNat
  have hC1 := cx [] (hV)
  have hC2 := cx [] (hO)
  have hC3 := cx [] (hM)
  have fy := And.intro hR32 (bs0_27)
  refine goR ?_ ?_ ?_ ?_ ?_ ?_ ?_ ?_ ?_ ?_ ?_ ?_ ?_ ?_ ?_ ?_
  any_goals (first | exact True.intro | skip)
  all_goals (repeat (refine Wh.mk fun hcc => ?_))
  refine SW.loop (fun i : Nat => ⟨[.sl .b (l.map Enc.b), .int .i64 a, .undef, .undef, .undef, .ref 1 0 0 (idxs (garbP l (reachL l a.toNat)) i).length, .undef, .undef, .undef, .undef, .undef, .undef, .undef, .undef, .undef, .undef, .undef, .undef, .undef, .ref 2 0 0 32, .int .i64 32, .int .i64 i, .undef, .undef, .undef, .undef, .undef, .undef, .undef, .undef, .undef, .undef, .undef, .undef, .undef, .undef, .undef, .undef, .undef, .undef, .undef], [[], [.arr 1 ((idxs (garbP l (reachL l a.toNat)) i).map Enc.o) false], [.arr 1 ((reachL l a.toNat).map Enc.o) false]]⟩)
    (fun n i => n = 32 - i ∧ i ≤ 32) (n := 32) (x := 0) (by exact Norm.re [0, 3, 4] (by decide) rfl (by first | (simp only [eq_self, heapFits, rowFits, obFits, List.getElem?_cons_zero, List.getElem?_cons_succ, renL_o, renL_b, true_and, and_true, and_self]; done) | (simp only [eq_self, heapFits, rowFits, obFits, List.getElem?_cons_zero, List.getElem?_cons_succ, renL_o, renL_b, true_and, and_true, and_self, List.map_nil, renL_nil]; done) | (simp only [eq_self, heapFits, rowFits, obFits, List.getElem?_cons_zero, List.getElem?_cons_succ, renL_o, renL_b, true_and, and_true, and_self, List.map_nil, List.map_cons, renL_nil, renL_cons, o_int, ren_int]; done) | simp [heapFits, rowFits, obFits, soakS, soakL, Heap.at, Heap.put, T.ren, tmFits, idxs_zero, renL_nil]) (by simp [heapFits, rowFits, obFits, soakS, soakL, Heap.at, Heap.put, T.ren, tmFits, idxs_zero, renL_nil])) ⟨rfl, Nat.zero_le _⟩ ?_
  rintro n i ⟨hn, hi⟩
  have fy := And.intro hR32 (bs0_27)
  refine goS ?_
  refine SW.cond rfl (fun hc => ?_) (fun hc => ?_)
  · have hlt : i < 32 := by simp at hc; omega
    have hltI : (i : Int) < ((32 : Nat) : Int) := by omega
    have hk : (idxs (garbP l (reachL l a.toNat)) i).length ≤ i := idxs_len _ _
    have hm0 : (reachL l a.toNat)[i]? = some (mrk (reachL l a.toNat) i) := by rw [List.getElem?_eq_getElem (by omega)]; simp [mrk, List.getElem?_eq_getElem (show i < (reachL l a.toNat).length by omega)]
    have hm1 : ((reachL l a.toNat).map Enc.o)[i]? = some (T.bool (mrk (reachL l a.toNat) i)) := by rw [List.getElem?_map, hm0]; rfl
    have hil : i < l.length := by rw [ok.len]; exact hlt
    have hgl : (l.map Enc.b)[i]? = some (.nd [.bool l[i].1, .nd [.int .i64 l[i].2.1.1, .sl .b (l[i].2.1.2.1.map Enc.b), .sl .b (l[i].2.1.2.2.1.map Enc.b)]]) := map_get Enc.b l i hil
    have hhas : hasA l i = l[i].1 := by simp [hasA, List.getElem?_eq_getElem hil]
    have hPi : garbP l (reachL l a.toNat) i = (l[i].1 && !mrk (reachL l a.toNat) i) := by simp [garbP, hhas]
    have hap := @append_run1 Y (H := [[], [.arr 1 ((idxs (garbP l (reachL l a.toNat)) i).map Enc.o) false], [.arr 1 ((reachL l a.toNat).map Enc.o) false], [.arr 1 [.int .i64 (i : Int)] false], []]) 4 27 27 1 0 0 (idxs (garbP l (reachL l a.toNat)) i).length 3 0 3 1 8 _ ((idxs (garbP l (reachL l a.toNat)) i).map Enc.o) (.int .i64 (i : Int)) Y27 Y27 Y3 rfl (by decide) rfl rfl (by simp) (by omega) rfl rfl
    have fy := And.intro bs1_27 (And.intro hap (And.intro hltI (And.intro hm1 (And.intro hgl (And.intro Nat.zero_add (Int.toNat_natCast))))))
    refine goR ?_ ?_ ?_ ?_ ?_ ?_ ?_ ?_ ?_ ?_ ?_ ?_ ?_ ?_ ?_ ?_
    any_goals (first | exact True.intro | skip)
    all_goals (repeat (refine Wh.mk fun hcc => ?_))
    all_goals first
      | (have hp : (garbP l (reachL l a.toNat)) i = true := by rw [hPi]; simp_all; done
         refine ⟨n - 1, i + 1, by omega, ⟨by omega, by omega⟩, ?_⟩
         rw [wrap64 _ (by omega) (by omega), idxs_yes hp]
         exact (by exact Norm.re [0, 4, 2] (by decide) rfl (by first | (simp only [eq_self, heapFits, rowFits, obFits, List.getElem?_cons_zero, List.getElem?_cons_succ, renL_o, renL_b, true_and, and_true, and_self]; done) | (simp only [eq_self, heapFits, rowFits, obFits, List.getElem?_cons_zero, List.getElem?_cons_succ, renL_o, renL_b, true_and, and_true, and_self, List.map_nil, renL_nil]; done) | (simp only [eq_self, heapFits, rowFits, obFits, List.getElem?_cons_zero, List.getElem?_cons_succ, renL_o, renL_b, true_and, and_true, and_self, List.map_nil, List.map_cons, renL_nil, renL_cons, o_int, ren_int]; done) | simp [heapFits, rowFits, obFits, soakS, soakL, Heap.at, Heap.put, T.ren, tmFits, List.map_append, o_int, renL_app, renL_nil, renL_cons, ren_int]) (by simp [heapFits, rowFits, obFits, soakS, soakL, Heap.at, Heap.put, T.ren, tmFits, List.map_append, o_int, renL_app, renL_nil, renL_cons, ren_int])))
      | (have hp : (garbP l (reachL l a.toNat)) i = false := by rw [hPi]; simp_all; done
         refine ⟨n - 1, i + 1, by omega, ⟨by omega, by omega⟩, ?_⟩
         rw [wrap64 _ (by omega) (by omega), idxs_no hp]
         exact (by exact Norm.re [0, 1, 2] (by decide) rfl (by first | (simp only [eq_self, heapFits, rowFits, obFits, List.getElem?_cons_zero, List.getElem?_cons_succ, renL_o, renL_b, true_and, and_true, and_self]; done) | (simp only [eq_self, heapFits, rowFits, obFits, List.getElem?_cons_zero, List.getElem?_cons_succ, renL_o, renL_b, true_and, and_true, and_self, List.map_nil, renL_nil]; done) | (simp only [eq_self, heapFits, rowFits, obFits, List.getElem?_cons_zero, List.getElem?_cons_succ, renL_o, renL_b, true_and, and_true, and_self, List.map_nil, List.map_cons, renL_nil, renL_cons, o_int, ren_int]; done) | simp [heapFits, rowFits, obFits, soakS, soakL, Heap.at, Heap.put, T.ren, tmFits]) (by simp [heapFits, rowFits, obFits, soakS, soakL, Heap.at, Heap.put, T.ren, tmFits])))
  · have hge : i = 32 := by
      have : ¬ i < 32 := by simp at hc; omega
      omega
    subst hge
    have fy := And.intro hR32 (bs0_27)
    refine goR ?_ ?_ ?_ ?_ ?_ ?_ ?_ ?_ ?_ ?_ ?_ ?_ ?_ ?_ ?_ ?_
    any_goals (first | exact True.intro | skip)
    all_goals (repeat (refine Wh.mk fun hcc => ?_))
    exact SW.ret (show RetQ _ _ _ _ _ _ _ from RetQ.y [1] [.ow 1 ((idxs (garbP l (reachL l a.toNat)) 32).map Enc.o)])
theorem implGarbage_ok (l : List SlotT) (hl : Enc.lim 1048576 l) (a : Int) : CallR Try.prog 17 [.sl .b (l.map Enc.b), .int .i64 a] [] (.ow 1 ((garbR l a).map Enc.o)) := by
  by_cases h : callB l a = true
  · obtain ⟨hv, ha⟩ := callB_c h
    have := implGarbage_y l hl a hv ha
    simpa only [garbR, h, if_true] using this
  · have h := Bool.eq_false_iff.2 h
    have := implGarbage_n l hl a h
    simpa only [garbR, h, if_false, Bool.false_eq_true, List.map_nil] using this
end Q6

namespace Q6
open Go Go.Vm Go.Proofs
set_option maxHeartbeats 4000000
set_option synthInstance.maxSize 2000
set_option synthInstance.maxHeartbeats 400000
set_option maxRecDepth 10000
set_option linter.unusedSimpArgs false
set_option linter.unusedVariables false


abbrev PairT := Int × Int × Unit
def dRow (l : List SlotT) (i : Nat) (rs : List Int) : List PairT := (rs.filter fun r => decide (0 < r) && !hasA l r.toNat).map fun r => ((i : Int), r, ())
def dAll (l : List SlotT) (n : Nat) : List PairT := (List.range n).flatMap fun i => dRow l i (refsA l i)
def dangR (l : List SlotT) : List PairT := if viewB l then dAll l 32 else []
theorem dAll_zero (l : List SlotT) : dAll l 0 = [] := rfl
theorem dRow_nil (l : List SlotT) (i : Nat) : dRow l i [] = [] := rfl
theorem dRow_zero (l : List SlotT) (i : Nat) (rs : List Int) : dRow l i (rs.take 0) = [] := rfl
theorem dAll_succ (l : List SlotT) (n : Nat) : dAll l (n + 1) = dAll l n ++ dRow l n (refsA l n) := by simp [dAll, List.range_succ]
theorem dRow_yes (l : List SlotT) (i k : Nat) (rs : List Int) (hk : k < rs.length) (h : (decide (0 < rs[k]) && !hasA l rs[k].toNat) = true) : dRow l i (rs.take (k + 1)) = dRow l i (rs.take k) ++ [((i : Int), rs[k], ())] := by
  simp only [dRow, List.take_succ_eq_append_getElem hk, List.filter_append, List.map_append, List.filter_cons, h, if_true, List.filter_nil, List.map_cons, List.map_nil]
theorem dRow_no (l : List SlotT) (i k : Nat) (rs : List Int) (hk : k < rs.length) (h : (decide (0 < rs[k]) && !hasA l rs[k].toNat) = false) : dRow l i (rs.take (k + 1)) = dRow l i (rs.take k) := by
  simp only [dRow, List.take_succ_eq_append_getElem hk, List.filter_append, List.map_append, List.filter_cons, h, Bool.false_eq_true, if_false, List.filter_nil, List.map_nil, List.append_nil]
theorem dRow_len (l : List SlotT) (i : Nat) (rs : List Int) : (dRow l i rs).length ≤ rs.length := by
  simp only [dRow, List.length_map]; exact List.length_filter_le _ _
theorem dAll_len {l : List SlotT} (ok : VOk l) : ∀ n, (dAll l n).length ≤ 5 * n
  | 0 => by simp [dAll]
  | n + 1 => by
    rw [dAll_succ, List.length_append]
    have h1 := dAll_len ok n
    have h2 := dRow_len l n (refsA l n)
    have h3 := ok.rl n
    omega
theorem dangR_len (l : List SlotT) : (dangR l).length ≤ 160 := by
  unfold dangR; split
  · rename_i h; exact dAll_len (vok_of h) 32
  · simp

theorem bsP (own : Nat) (a b : Int) : buildSliceM Y own 39 1 [(0, .nd [.int .i64 a, .int .i64 b])] = .pure { v := .ref own 0 0 1, news := [.arr 2 [.nd [.int .i64 a, .int .i64 b]] false] } := build1 Y39 Y119 rfl (by decide) rfl rfl rfl
theorem bldP (a b : Int) : buildM Y 119 [(0, .int .i64 a), (1, .int .i64 b)] = .pure { v := .nd [.int .i64 a, .int .i64 b] } := rfl
end Q6

namespace Q6
open Go Go.Vm Go.Proofs
set_option maxHeartbeats 4000000
set_option synthInstance.maxSize 2000
set_option synthInstance.maxHeartbeats 400000
set_option maxRecDepth 10000
set_option linter.unusedSimpArgs false
set_option linter.unusedVariables false

theorem implDang_n (l : List SlotT) (hl : Enc.lim 1048576 l) (hv : viewB l = false) : CallR Try.prog 19 [.sl .b (l.map Enc.b)] [] (.ow 2 []) := by
  refine CallR.of_body (n := 46) (rs := [.tmp 2]) hY.ok Try.func19 rfl (by decide) rfl rfl rfl rfl (fun F => ?_)
  have fx := And.intro Y1 (And.intro Y2 (And.intro Y3 (And.intro Y4 (And.intro Y24 (And.intro Y27 (And.intro Y35 (And.intro Y37 (And.intro Y39 (Y119)))))))))
  have hV := implViewOk_ok l hl
  rw [hv] at hV
  have hC1 := cx [] (hV)
  have fy := Nat.add_zero
  refine goR ?_ ?_ ?_ ?_ ?_ ?_ ?_ ?_ ?_ ?_ ?_ ?_ ?_ ?_ ?_ ?_
  any_goals (first | exact True.intro | skip)
  all_goals (repeat (refine Wh.mk fun hcc => ?_))
  exact SW.ret (show RetQ _ _ _ _ _ _ _ from RetQ.y [2] [.ow 2 []])
theorem implDang_y (l : List SlotT) (hl : Enc.lim 1048576 l) (hv : viewB l = true) : CallR Try.prog 19 [.sl .b (l.map Enc.b)] [] (.ow 2 ((dAll l 32).map Enc.o)) := by
  refine CallR.of_body (n := 46) (rs := [.tmp 2]) hY.ok Try.func19 rfl (by decide) rfl rfl rfl rfl (fun F => ?_)
  have fx := And.intro Y1 (And.intro Y2 (And.intro Y3 (And.intro Y4 (And.intro Y24 (And.intro Y27 (And.intro Y35 (And.intro Y37 (And.intro Y39 (Y119)))))))))
  have hV := implViewOk_ok l hl
  rw [hv] at hV
  have ok := vok_of hv
  have hlen : l.length = 32 := ok.len
  have hC1 := cx [] (hV)
  have fy := bs0_39
  refine goR ?_ ?_ ?_ ?_ ?_ ?_ ?_ ?_ ?_ ?_ ?_ ?_ ?_ ?_ ?_ ?_
  any_goals (first | exact True.intro | skip)
  all_goals (repeat (refine Wh.mk fun hcc => ?_))
  refine SW.loop (fun i : Nat => ⟨[.sl .b (l.map Enc.b), .undef, .undef, .ref 1 0 0 (dAll l i).length, .undef, .undef, .undef, .undef, .undef, .undef, .undef, .undef, .sl .b (l.map Enc.b), .int .i64 l.length, .int .i64 i, .undef, .undef, .undef, .undef, .undef, .undef, .undef, .undef, .undef, .undef, .undef, .undef, .undef, .undef, .undef, .undef, .undef, .undef, .undef, .undef, .undef, .undef, .undef, .undef, .undef, .undef, .undef, .undef, .undef, .undef, .undef], [[], [.arr 2 ((dAll l i).map Enc.o) false]]⟩)
    (fun N i => N = l.length - i ∧ i ≤ l.length) (n := l.length) (x := 0) (by exact Norm.re [0, 2] (by decide) rfl (by first | (simp only [eq_self, heapFits, rowFits, obFits, List.getElem?_cons_zero, List.getElem?_cons_succ, renL_o, renL_b, true_and, and_true, and_self]; done) | (simp only [eq_self, heapFits, rowFits, obFits, List.getElem?_cons_zero, List.getElem?_cons_succ, renL_o, renL_b, true_and, and_true, and_self, List.map_nil, renL_nil]; done) | (simp only [eq_self, heapFits, rowFits, obFits, List.getElem?_cons_zero, List.getElem?_cons_succ, renL_o, renL_b, true_and, and_true, and_self, List.map_nil, List.map_cons, renL_nil, renL_cons, o_int, ren_int]; done) | simp [heapFits, rowFits, obFits, soakS, soakL, Heap.at, Heap.put, T.ren, tmFits, dAll_zero, renL_nil]) (by simp [heapFits, rowFits, obFits, soakS, soakL, Heap.at, Heap.put, T.ren, tmFits, dAll_zero, renL_nil])) ⟨rfl, Nat.zero_le _⟩ ?_
  rintro N i ⟨hN, hi⟩
  have fy := bs0_39
  refine goS ?_
  refine SW.cond rfl (fun hc => ?_) (fun hc => ?_)
  · skip
    have hil : i < l.length := by first | exact hc | (simp at hc; omega)
    have hiI : (i : Int) < (l.length : Int) := by omega
    have hgl : (l.map Enc.b)[i]? = some (.nd [.bool l[i].1, .nd [.int .i64 l[i].2.1.1, .sl .b (l[i].2.1.2.1.map Enc.b), .sl .b (l[i].2.1.2.2.1.map Enc.b)]]) := map_get Enc.b l i hil
    have href : refsA l i = l[i].2.1.2.2.1 := by simp [refsA, List.getElem?_eq_getElem hil]
    have hrl : l[i].2.1.2.2.1.length ≤ 5 := by rw [← href]; exact ok.rl _
    have fy := And.intro hgl (And.intro hiI (And.intro Nat.zero_add (And.intro Int.toNat_natCast (And.intro Int.natCast_zero (Int.natCast_one)))))
    refine goN ?_ ?_ ?_ ?_ ?_ ?_ ?_ ?_ ?_ ?_ ?_ ?_ ?_ ?_ ?_ ?_
    any_goals (first | exact True.intro | skip)
    skip
    refine SW.loop (fun k : Nat => ⟨[.sl .b (l.map Enc.b), .undef, .undef, .ref 1 0 0 (dAll l i ++ dRow l i (l[i].2.1.2.2.1.take k)).length, .int .i64 i, .undef, .undef, .undef, .undef, .undef, .undef, .undef, .sl .b (l.map Enc.b), .int .i64 l.length, .int .i64 i, .undef, .undef, .undef, .undef, .undef, .undef, .sl .b (l[i].2.1.2.2.1.map Enc.b), .int .i64 l[i].2.1.2.2.1.length, .int .i64 k, .undef, .undef, .undef, .undef, .undef, .undef, .undef, .undef, .undef, .undef, .undef, .undef, .undef, .undef, .undef, .undef, .undef, .undef, .undef, .undef, .undef, .undef], [[], [.arr 2 ((dAll l i ++ dRow l i (l[i].2.1.2.2.1.take k)).map Enc.o) false]]⟩)
      (fun M k => M = l[i].2.1.2.2.1.length - k ∧ k ≤ l[i].2.1.2.2.1.length) (n := l[i].2.1.2.2.1.length) (x := 0) (by exact Norm.re [0, 1] (by decide) rfl (by first | (simp only [eq_self, heapFits, rowFits, obFits, List.getElem?_cons_zero, List.getElem?_cons_succ, renL_o, renL_b, true_and, and_true, and_self]; done) | (simp only [eq_self, heapFits, rowFits, obFits, List.getElem?_cons_zero, List.getElem?_cons_succ, renL_o, renL_b, true_and, and_true, and_self, List.map_nil, renL_nil]; done) | (simp only [eq_self, heapFits, rowFits, obFits, List.getElem?_cons_zero, List.getElem?_cons_succ, renL_o, renL_b, true_and, and_true, and_self, List.map_nil, List.map_cons, renL_nil, renL_cons, o_int, ren_int]; done) | simp [heapFits, rowFits, obFits, soakS, soakL, Heap.at, Heap.put, T.ren, tmFits, dRow_nil, List.take_zero, List.append_nil]) (by simp [heapFits, rowFits, obFits, soakS, soakL, Heap.at, Heap.put, T.ren, tmFits, dRow_nil, List.take_zero, List.append_nil])) ⟨rfl, Nat.zero_le _⟩ ?_
    rintro M k ⟨hM, hk⟩
    have fy := Nat.add_zero
    refine goS ?_
    refine SW.cond rfl (fun hc2 => ?_) (fun hc2 => ?_)
    · have hltk : k < l[i].2.1.2.2.1.length := by simp at hc2; omega
      have hkI : (k : Int) < ((l[i].2.1.2.2.1.length : Nat) : Int) := by omega
      have hgr : (l[i].2.1.2.2.1.map Enc.b)[k]? = some (T.int .i64 l[i].2.1.2.2.1[k]) := map_get Enc.b _ k hltk
      have hrr : l[i].2.1.2.2.1[k] ∈ refsA l i := by rw [href]; exact List.getElem_mem hltk
      obtain ⟨hr0, hr31⟩ := ok.rf i _ hrr
      have hyes := dRow_yes l i k l[i].2.1.2.2.1 hltk
      have hnot := dRow_no l i k l[i].2.1.2.2.1 hltk
      have hlen1 := dAll_len ok i
      have hlen2 := dRow_len l i (l[i].2.1.2.2.1.take k)
      have hlen3 : (l[i].2.1.2.2.1.take k).length ≤ k := by simp; omega
      generalize hre : l[i].2.1.2.2.1[k] = r at *
      have hrl2 : r.toNat < l.length := by omega
      have hgv : (l.map Enc.b)[r.toNat]? = some (.nd [.bool l[r.toNat].1, .nd [.int .i64 l[r.toNat].2.1.1, .sl .b (l[r.toNat].2.1.2.1.map Enc.b), .sl .b (l[r.toNat].2.1.2.2.1.map Enc.b)]]) := map_get Enc.b l r.toNat hrl2
      have hhas : hasA l r.toNat = l[r.toNat].1 := by simp [hasA, List.getElem?_eq_getElem hrl2]
      by_cases hpos : 0 < r
      · have hgt : decide (r > 0) = true := by simp [hpos]
        cases hh : l[r.toNat].1 with
        | true =>
          rw [hh] at hgv hhas
          have fy := And.intro hgt (And.intro hgv (And.intro hkI (And.intro hgr (And.intro hr0 (And.intro Nat.zero_add (And.intro Int.toNat_natCast (And.intro Int.natCast_zero (Int.natCast_one))))))))
          refine goR ?_ ?_ ?_ ?_ ?_ ?_ ?_ ?_ ?_ ?_ ?_ ?_ ?_ ?_ ?_ ?_
          any_goals (first | exact True.intro | skip)
          all_goals (repeat (refine Wh.mk fun hcc => ?_))
          have hp : (decide (0 < r) && !hasA l r.toNat) = false := by simp [hhas]
          refine ⟨M - 1, k + 1, by omega, ⟨by omega, by omega⟩, ?_⟩
          rw [wrap64 _ (by omega) (by omega), hnot hp]
          exact (by exact Norm.re [0, 1] (by decide) rfl (by first | (simp only [eq_self, heapFits, rowFits, obFits, List.getElem?_cons_zero, List.getElem?_cons_succ, renL_o, renL_b, true_and, and_true, and_self]; done) | (simp only [eq_self, heapFits, rowFits, obFits, List.getElem?_cons_zero, List.getElem?_cons_succ, renL_o, renL_b, true_and, and_true, and_self, List.map_nil, renL_nil]; done) | (simp only [eq_self, heapFits, rowFits, obFits, List.getElem?_cons_zero, List.getElem?_cons_succ, renL_o, renL_b, true_and, and_true, and_self, List.map_nil, List.map_cons, renL_nil, renL_cons, o_int, ren_int]; done) | simp [heapFits, rowFits, obFits, soakS, soakL, Heap.at, Heap.put, T.ren, tmFits]) (by simp [heapFits, rowFits, obFits, soakS, soakL, Heap.at, Heap.put, T.ren, tmFits]))
        | false =>
          rw [hh] at hgv hhas
          have hap := @append_run1 Y (H := [[], [.arr 2 ((dAll l i ++ dRow l i (l[i].2.1.2.2.1.take k)).map Enc.o) false], [.arr 2 [.nd [.int .i64 (i : Int), .int .i64 r]] false], []]) 3 39 39 1 0 0 (dAll l i ++ dRow l i (l[i].2.1.2.2.1.take k)).length 2 0 119 2 16 _ ((dAll l i ++ dRow l i (l[i].2.1.2.2.1.take k)).map Enc.o) (.nd [.int .i64 (i : Int), .int .i64 r]) Y39 Y39 Y119 rfl (by decide) rfl rfl (by simp) (by simp only [List.length_append]; omega) rfl rfl
          have hcat : (dAll l i ++ dRow l i (l[i].2.1.2.2.1.take k)).map Enc.o ++ [T.nd [.int .i64 (i : Int), .int .i64 r]] = ((dAll l i ++ dRow l i (l[i].2.1.2.2.1.take k)) ++ [((i : Int), r, ())]).map Enc.o := by rw [List.map_append (l₂ := [((i : Int), r, ())])]; rfl
          have hlenq : (dAll l i ++ dRow l i (l[i].2.1.2.2.1.take k)).length + 1 = ((dAll l i ++ dRow l i (l[i].2.1.2.2.1.take k)) ++ [((i : Int), r, ())]).length := by simp only [List.length_append, List.length_cons, List.length_nil] <;> omega
          rw [List.drop_zero, take_map_len, hcat, hlenq] at hap
          have fy := And.intro hap (And.intro bsP (And.intro bldP (And.intro hgt (And.intro hgv (And.intro hkI (And.intro hgr (And.intro hr0 (And.intro Nat.zero_add (And.intro Int.toNat_natCast (And.intro Int.natCast_zero (Int.natCast_one)))))))))))
          refine goR ?_ ?_ ?_ ?_ ?_ ?_ ?_ ?_ ?_ ?_ ?_ ?_ ?_ ?_ ?_ ?_
          any_goals (first | exact True.intro | skip)
          all_goals (repeat (refine Wh.mk fun hcc => ?_))
          have hp : (decide (0 < r) && !hasA l r.toNat) = true := by simp [hhas, hpos]
          refine ⟨M - 1, k + 1, by omega, ⟨by omega, by omega⟩, ?_⟩
          rw [wrap64 _ (by omega) (by omega), hyes hp, ← List.append_assoc]
          exact (by exact Norm.re [0, 3] (by decide) rfl (by first | (simp only [eq_self, heapFits, rowFits, obFits, List.getElem?_cons_zero, List.getElem?_cons_succ, renL_o, renL_b, true_and, and_true, and_self]; done) | (simp only [eq_self, heapFits, rowFits, obFits, List.getElem?_cons_zero, List.getElem?_cons_succ, renL_o, renL_b, true_and, and_true, and_self, List.map_nil, renL_nil]; done) | (simp only [eq_self, heapFits, rowFits, obFits, List.getElem?_cons_zero, List.getElem?_cons_succ, renL_o, renL_b, true_and, and_true, and_self, List.map_nil, List.map_cons, renL_nil, renL_cons, o_int, ren_int]; done) | simp [heapFits, rowFits, obFits, soakS, soakL, Heap.at, Heap.put, T.ren, tmFits, Nat.add_assoc]) (by simp [heapFits, rowFits, obFits, soakS, soakL, Heap.at, Heap.put, T.ren, tmFits, Nat.add_assoc]))
      · have hgt : decide (r > 0) = false := by simp [hpos]
        have fy := And.intro hgt (And.intro hgv (And.intro hkI (And.intro hgr (And.intro hr0 (And.intro Nat.zero_add (And.intro Int.toNat_natCast (And.intro Int.natCast_zero (Int.natCast_one))))))))
        refine goR ?_ ?_ ?_ ?_ ?_ ?_ ?_ ?_ ?_ ?_ ?_ ?_ ?_ ?_ ?_ ?_
        any_goals (first | exact True.intro | skip)
        all_goals (repeat (refine Wh.mk fun hcc => ?_))
        have hp : (decide (0 < r) && !hasA l r.toNat) = false := by simp [hpos]
        refine ⟨M - 1, k + 1, by omega, ⟨by omega, by omega⟩, ?_⟩
        rw [wrap64 _ (by omega) (by omega), hnot hp]
        exact (by exact Norm.re [0, 1] (by decide) rfl (by first | (simp only [eq_self, heapFits, rowFits, obFits, List.getElem?_cons_zero, List.getElem?_cons_succ, renL_o, renL_b, true_and, and_true, and_self]; done) | (simp only [eq_self, heapFits, rowFits, obFits, List.getElem?_cons_zero, List.getElem?_cons_succ, renL_o, renL_b, true_and, and_true, and_self, List.map_nil, renL_nil]; done) | (simp only [eq_self, heapFits, rowFits, obFits, List.getElem?_cons_zero, List.getElem?_cons_succ, renL_o, renL_b, true_and, and_true, and_self, List.map_nil, List.map_cons, renL_nil, renL_cons, o_int, ren_int]; done) | simp [heapFits, rowFits, obFits, soakS, soakL, Heap.at, Heap.put, T.ren, tmFits]) (by simp [heapFits, rowFits, obFits, soakS, soakL, Heap.at, Heap.put, T.ren, tmFits]))
    · have hge : k = l[i].2.1.2.2.1.length := by
        have : ¬ k < l[i].2.1.2.2.1.length := by simp at hc2; omega
        omega
      subst hge
      rw [List.take_length, ← href, ← dAll_succ]
      have fy := Nat.add_zero
      refine goR ?_ ?_ ?_ ?_ ?_ ?_ ?_ ?_ ?_ ?_ ?_ ?_ ?_ ?_ ?_ ?_
      any_goals (first | exact True.intro | skip)
      all_goals (repeat (refine Wh.mk fun hcc => ?_))
      refine ⟨N - 1, i + 1, by omega, ⟨by omega, by omega⟩, ?_⟩
      rw [wrap64 _ (by omega) (by omega)]
      exact (by exact Norm.re [0, 1] (by decide) rfl (by first | (simp only [eq_self, heapFits, rowFits, obFits, List.getElem?_cons_zero, List.getElem?_cons_succ, renL_o, renL_b, true_and, and_true, and_self]; done) | (simp only [eq_self, heapFits, rowFits, obFits, List.getElem?_cons_zero, List.getElem?_cons_succ, renL_o, renL_b, true_and, and_true, and_self, List.map_nil, renL_nil]; done) | (simp only [eq_self, heapFits, rowFits, obFits, List.getElem?_cons_zero, List.getElem?_cons_succ, renL_o, renL_b, true_and, and_true, and_self, List.map_nil, List.map_cons, renL_nil, renL_cons, o_int, ren_int]; done) | simp [heapFits, rowFits, obFits, soakS, soakL, Heap.at, Heap.put, T.ren, tmFits]) (by simp [heapFits, rowFits, obFits, soakS, soakL, Heap.at, Heap.put, T.ren, tmFits]))
  · have hge : i = l.length := by
      have : ¬ i < l.length := by simp at hc; omega
      omega
    have hge : i = 32 := by omega
    subst hge
    have fy := bs0_39
    refine goR ?_ ?_ ?_ ?_ ?_ ?_ ?_ ?_ ?_ ?_ ?_ ?_ ?_ ?_ ?_ ?_
    any_goals (first | exact True.intro | skip)
    all_goals (repeat (refine Wh.mk fun hcc => ?_))
    exact SW.ret (show RetQ _ _ _ _ _ _ _ from RetQ.y [2] [.ow 2 ((dAll l 32).map Enc.o)])
theorem implDang_ok (l : List SlotT) (hl : Enc.lim 1048576 l) : CallR Try.prog 19 [.sl .b (l.map Enc.b)] [] (.ow 2 ((dangR l).map Enc.o)) := by
  by_cases h : viewB l = true
  · have := implDang_y l hl h
    simpa only [dangR, h, if_true] using this
  · have h := Bool.eq_false_iff.2 h
    have := implDang_n l hl h
    simpa only [dangR, h, if_false, Bool.false_eq_true, List.map_nil] using this
end Q6
