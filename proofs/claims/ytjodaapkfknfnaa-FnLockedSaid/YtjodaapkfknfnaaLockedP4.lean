/- Shows what the parts of the program do that the claim reaches: a machine of values over the model, and the contracts of functions, for all arguments within the lengths that each theorem names. -/
import Derived.Test.YtjodaapkfknfnaaLockedP1
import Derived.Test.YtjodaapkfknfnaaLockedP3
import Derived.Test.YtjodaapkfknfnaaLockedV5
import Derived.Test.YtjodaapkfknfnaaLockedP2
import Derived.Test.YtjodaapkfknfnaaLockedV2
set_option linter.all false

namespace Q6
open Go Go.Vm Go.Proofs
set_option maxHeartbeats 4000000
set_option synthInstance.maxSize 2000
set_option synthInstance.maxHeartbeats 400000
set_option maxRecDepth 10000
set_option linter.unusedSimpArgs false
set_option linter.unusedVariables false

open Go.By

noncomputable def hRefsF (l : List UInt8) (i : Int) : Nat → CS → List Int → CS × List Int
  | 0, s, acc => (s, acc)
  | n + 1, s, acc =>
    let a := belowF l s 32; let b := belowF l a.1 32; let x := intF l b.1 [0, i, (i + 1).tmod 32, a.2, b.2]
    hRefsF l i n x.1 (acc ++ [x.2])
theorem hRefsF_ok (l : List UInt8) (hl : l.length ≤ 1048576) (i : Int) (h0 : 0 ≤ i) (h1 : i ≤ 31) : ∀ (n : Nat) (s : CS) (acc : List Int), s.1 ≤ l.length → (∀ x ∈ acc, refB x = true) →
    (hRefsF l i n s acc).1.1 ≤ l.length ∧ (∀ x ∈ (hRefsF l i n s acc).2, refB x = true) ∧ (hRefsF l i n s acc).2.length = acc.length + n
  | 0, s, acc, h, ha => ⟨h, ha, rfl⟩
  | n + 1, s, acc, h, ha => by
    obtain ⟨b1, b2, _⟩ := belowF_ok l s 32 hl h
    obtain ⟨d1, d2, _⟩ := belowF_ok l (belowF l s 32).1 32 hl b1
    obtain ⟨c1, c2, _⟩ := intF_ok l (belowF l (belowF l s 32).1 32).1 [0, i, (i + 1).tmod 32, (belowF l s 32).2, (belowF l (belowF l s 32).1 32).2] hl d1 (by simp) (by simp)
    simp only [hRefsF]
    have e1 := b2.2 (by decide)
    have e2 := d2.2 (by decide)
    generalize belowF l (belowF l s 32).1 32 = b at *
    generalize belowF l s 32 = a at *
    have ih := hRefsF_ok l hl i h0 h1 n _ (acc ++ [(intF l b.1 [0, i, (i + 1).tmod 32, a.2, b.2]).2]) c1 (by
      intro x hx
      rcases List.mem_append.1 hx with hx | hx
      · exact ha x hx
      · simp only [List.mem_singleton] at hx
        subst hx
        have ht : 0 ≤ (i + 1).tmod 32 ∧ (i + 1).tmod 32 < 32 := ⟨Int.tmod_nonneg _ (by omega), Int.tmod_lt_of_pos _ (by decide)⟩
        generalize (i + 1).tmod 32 = t at *
        simp only [List.mem_cons, List.not_mem_nil, or_false] at c2
        unfold refB
        simp only [Bool.and_eq_true, decide_eq_true_eq]
        omega)
    refine ⟨ih.1, ih.2.1, ?_⟩
    rw [ih.2.2, List.length_append]; simp; omega
noncomputable def heapF (l : List UInt8) : Nat → CS → List SlotT → CS × List SlotT
  | 0, s, v => (s, v)
  | r + 1, s, v =>
    let o := onceF l s 3
    if o.2 = true then heapF l r o.1 v else
      let k := belowF l o.1 3; let n := belowF l k.1 9; let m := belowF l n.1 4; let b := hRefsF l ((31 - r : Nat) : Int) m.2.toNat m.1 []
      heapF l r b.1 (v.set (31 - r) (true, (1 + k.2, [n.2], b.2, ()), ()))
theorem heapF_ok (l : List UInt8) (hl : l.length ≤ 1048576) : ∀ (r : Nat) (s : CS) (v : List SlotT), s.1 ≤ l.length → r ≤ 31 → v.length = 32 → (∀ x ∈ v, slotB x = true) → hasA v 0 = false →
    (heapF l r s v).1.1 ≤ l.length ∧ (heapF l r s v).2.length = 32 ∧ (∀ x ∈ (heapF l r s v).2, slotB x = true) ∧ hasA (heapF l r s v).2 0 = false
  | 0, s, v, h, _, hv, hx, h0 => ⟨h, hv, hx, h0⟩
  | r + 1, s, v, h, hr, hv, hx, h0 => by
    obtain ⟨b1, _⟩ := onceF_ok l s 3 hl h
    simp only [heapF]
    split
    · exact heapF_ok l hl r _ v b1 (by omega) hv hx h0
    · generalize onceF l s 3 = o at *
      obtain ⟨k1, k2, _⟩ := belowF_ok l o.1 3 hl b1
      generalize belowF l o.1 3 = k at *
      obtain ⟨n1, n2, _⟩ := belowF_ok l k.1 9 hl k1
      generalize belowF l k.1 9 = n at *
      obtain ⟨m1, m2, _⟩ := belowF_ok l n.1 4 hl n1
      generalize belowF l n.1 4 = m at *
      obtain ⟨f1, f2, f3⟩ := hRefsF_ok l hl ((31 - r : Nat) : Int) (by omega) (by omega) m.2.toNat m.1 [] m1 (by simp)
      generalize hRefsF l ((31 - r : Nat) : Int) m.2.toNat m.1 [] = b at *
      have e1 := k2.2 (by decide)
      have e2 := n2.2 (by decide)
      have e3 := m2.2 (by decide)
      refine heapF_ok l hl r _ _ f1 (by omega) (by simp [hv]) (fun x hm => ?_) ?_
      · rcases List.mem_or_eq_of_mem_set hm with hm | hm
        · exact hx x hm
        · subst hm
          have i1 : intB n.2 = true := by unfold intB; simp only [Bool.and_eq_true, decide_eq_true_eq]; omega
          simp only [slotB, objB, if_true, Bool.and_eq_true, decide_eq_true_eq, List.length_cons, List.length_nil, List.all_eq_true]
          simp only [List.length_nil, Nat.zero_add] at f3
          refine ⟨⟨⟨⟨⟨by omega, by omega⟩, by omega⟩, by omega⟩, fun x hx => ?_⟩, f2⟩
          rw [List.mem_singleton] at hx; subst hx; exact i1
      · unfold hasA at h0 ⊢
        rw [List.getElem?_set_ne (by omega)]
        exact h0
def v0 : List SlotT := List.replicate 32 slotN
def slotZ : T := .nd [.bool false, .nd [.int .i64 0, .nils 1, .nils 1]]
def slotO : T := .nd [.bool false, .nd [.int .i64 0, .ow 1 [], .ow 1 []]]
theorem v0_map : v0.map Enc.o = List.replicate 32 slotO := by unfold v0; rw [List.map_replicate]; rfl
theorem fgtZ : fgt slotZ slotO := .inr ⟨_, rfl, .bool false, _, rfl, rfl, _, _, rfl, .inr ⟨_, rfl, _, _, rfl, rfl, _, _, rfl, .inr (.inr rfl), _, _, rfl, .inr (.inr rfl), rfl⟩, rfl⟩
theorem mkView (own : Nat) : makeSliceM Y own 24 (.int .i64 32) (.int .i64 32) = .pure { v := .ref own 0 0 32, news := [.arr 4 (List.replicate 32 slotZ) false] } := by
  simp [makeSliceM, Y24, Y37, zeroT, Y3, Y27, Y35, Y4, Ty.isFn, slotZ]

theorem heapW_ok (l : List UInt8) (s : CS) (hl : l.length ≤ 1048576) (hi : s.1 ≤ l.length) : CallR Try.prog 50 [.io (.nd [.sl .s (l.map Enc.b), .int .i64 (s.1 : Nat), .int .i64 s.2])] [.nd [.sl .s (l.map Enc.b), .int .i64 (((heapF l 31 s v0).1).1 : Nat), .int .i64 ((heapF l 31 s v0).1).2]] (.ow 4 ((heapF l 31 s v0).2.map Enc.o)) := by
  refine CallR.of_body (n := 51) (rs := [.tmp 2]) hY.ok Try.func50 rfl (by decide) rfl rfl rfl rfl (fun F => ?_)
  have fx := And.intro Y1 (And.intro Y2 (And.intro Y3 (And.intro Y4 (And.intro Y5 (And.intro Y24 (And.intro Y27 (And.intro Y35 (And.intro Y37 (Y104)))))))))
  have hv00 : v0.length = 32 := List.length_replicate
  generalize hT1 : heapF l 31 s v0 = T1 at *
  have fy := mkView
  have hD1 := dx 10 [9, 2, 1, 1, 1, 1, 2] [(1, 1), (1, 2), (1, 3), (1, 4), (1, 5)]
  refine goN ?_ ?_ ?_ ?_ ?_ ?_ ?_ ?_ ?_ ?_ ?_ ?_ ?_ ?_ ?_ ?_
  any_goals (first | exact True.intro | skip)
  skip
  refine SW.loop (fun x : Nat × CS × List SlotT => ⟨[.ptr 0 0 [] 0, .undef, .undef, .ref 1 0 0 x.2.2.length, .int .i64 ((32 - x.1 : Nat) : Int), .undef, .undef, .undef, .undef, .undef, .undef, .undef, .undef, .undef, .undef, .undef, .undef, .undef, .undef, .undef, .undef, .undef, .undef, .undef, .undef, .undef, .undef, .undef, .undef, .undef, .undef, .undef, .undef, .undef, .undef, .undef, .undef, .undef, .undef, .undef, .undef, .undef, .undef, .undef, .undef, .undef, .undef, .undef, .undef, .undef, .undef], [[.var (.nd [.sl .s (l.map Enc.b), .int .i64 (x.2.1.1 : Nat), .int .i64 x.2.1.2])], [.arr 4 (x.2.2.map Enc.o) false]]⟩)
    (fun N x => N = x.1 ∧ x.1 ≤ 31 ∧ x.2.1.1 ≤ l.length ∧ x.2.2.length = 32 ∧ heapF l x.1 x.2.1 x.2.2 = T1) (n := 31) (x := (31, s, v0)) ?_ ⟨rfl, Nat.le_refl _, hi, hv00, hT1⟩ ?_
  · refine Norm.trans (Norm.forgetArr 1 0 (m := List.replicate 32 slotO) rfl (fgtL_rep fgtZ 32)) ?_
    simp only [Heap.put, List.getElem?_cons_zero, List.getElem?_cons_succ, List.set_cons_succ, List.set_cons_zero, v0_map, hv00]
    have hr0 : ∀ n, renL [0, 1] (List.replicate n slotO) = List.replicate n slotO := by
      intro n
      induction n with
      | zero => rfl
      | succ n ih => rw [List.replicate_succ, renL, ih]; simp [slotO, T.ren, renL]
    exact Norm.re [0, 1] (by decide) rfl (by simp [heapFits, rowFits, obFits, T.ren, renL, hr0, slotO]) (by simp [tmFits, T.ren])
  clear hT1 hi
  rintro N ⟨r, s, v⟩ ⟨hN, hr, hs, hv, hT⟩
  simp only at hN hr hs hv hT ⊢
  have fy := Nat.add_zero
  refine goS ?_
  refine SW.cond rfl (fun hc => ?_) (fun hc => ?_)
  · have hpos : 0 < r := by simp at hc; omega
    obtain ⟨r, rfl⟩ : ∃ r', r = r' + 1 := ⟨r - 1, by omega⟩
    have hi31 : 32 - (r + 1) = 31 - r := by omega
    rw [hi31]
    have hwi : IntKind.i64.wrap (((31 - r : Nat) : Int) + 1) = ((32 - r : Nat) : Int) := by rw [wrap64 _ (by omega) (by omega)]; omega
    simp only [heapF] at hT
    obtain ⟨e1, c1⟩ := onceF_ok l s 3 hl hs
    generalize onceF l s 3 = o at *
    obtain ⟨so, bo⟩ := o
    simp only at e1 c1 hT
    cases bo
    rotate_left
    · simp only [if_true] at hT
      have hC1 := cx [.io] (c1)
      have fy := hwi
      have hD1 := dx 10 [9, 2, 1, 1, 1, 1, 2] [(1, 1), (1, 2), (1, 3), (1, 4), (1, 5)]
      refine goR ?_ ?_ ?_ ?_ ?_ ?_ ?_ ?_ ?_ ?_ ?_ ?_ ?_ ?_ ?_ ?_
      any_goals (first | exact True.intro | skip)
      all_goals (repeat (refine Wh.mk fun hcc => ?_))
      refine ⟨N - 1, (r, so, v), by omega, ⟨by simp only; omega, by simp only; omega, e1, hv, hT⟩, ?_⟩
      exact Norm.re [0, 1] (by decide) rfl (by first | (simp only [eq_self, heapFits, rowFits, obFits, List.getElem?_cons_zero, List.getElem?_cons_succ, renL_o, renL_b, true_and, and_true, and_self]; done) | simp [-List.map_set, -List.map_append, heapFits, rowFits, obFits, T.ren, renL]) (by simp [tmFits, T.ren])
    · simp only [Bool.false_eq_true, if_false] at hT
      obtain ⟨e2, p2, c2⟩ := belowF_ok l so 3 hl e1
      generalize belowF l so 3 = k at *
      obtain ⟨e3, p3, c3⟩ := belowF_ok l k.1 9 hl e2
      generalize belowF l k.1 9 = n at *
      obtain ⟨e4, p4, c4⟩ := belowF_ok l n.1 4 hl e3
      generalize belowF l n.1 4 = m at *
      obtain ⟨s4, m4⟩ := m
      simp only at e4 p4 c4 hT
      have hk3 := p2.2 (by decide)
      have hm4 := p4.2 (by decide)
      obtain ⟨M0, rfl⟩ : ∃ M0 : Nat, m4 = (M0 : Int) := ⟨m4.toNat, by omega⟩
      rw [Int.toNat_natCast] at hT
      have hwk : IntKind.i64.wrap (1 + k.2) = 1 + k.2 := wrap64 _ (by omega) (by omega)
      have hbs := fun own x => bs1_27 own x
      generalize hT2 : hRefsF l ((31 - r : Nat) : Int) M0 s4 [] = T2 at *
      have hC1 := cx [.io] (c1)
      have hC2 := cx [.io] (c2)
      have hC3 := cx [.io] (c3)
      have hC4 := cx [.io] (c4)
      have fy := And.intro hwi (And.intro hwk (bs1_27))
      have hD1 := dx 10 [9, 2, 1, 1, 1, 1, 2] [(1, 1), (1, 2), (1, 3), (1, 4), (1, 5)]
      refine goR ?_ ?_ ?_ ?_ ?_ ?_ ?_ ?_ ?_ ?_ ?_ ?_ ?_ ?_ ?_ ?_
      any_goals (first | exact True.intro | skip)
      all_goals (repeat (refine Wh.mk fun hcc => ?_))
      refine SW.loop (fun x : Nat × CS × List Int => ⟨[.ptr 0 0 [] 0, .undef, .undef, .ref 1 0 0 v.length, .int .i64 ((31 - r : Nat) : Int), .ptr 2 0 [] 0, .int .i64 (x.1 : Nat), .undef, .undef, .undef, .undef, .undef, .undef, .undef, .undef, .undef, .undef, .undef, .undef, .undef, .undef, .undef, .undef, .undef, .undef, .undef, .undef, .undef, .undef, .undef, .undef, .undef, .undef, .undef, .undef, .undef, .undef, .undef, .undef, .undef, .undef, .undef, .undef, .undef, .undef, .undef, .undef, .undef, .undef, .undef, .undef], [[.var (.nd [.sl .s (l.map Enc.b), .int .i64 (x.2.1.1 : Nat), .int .i64 x.2.1.2])], [.arr 4 (v.map Enc.o) false], [.var (.nd [.int .i64 (1 + k.2), .ref 3 0 0 1, .ref 4 0 0 x.2.2.length])], [.arr 1 [.int .i64 n.2] false], [.arr 1 (x.2.2.map Enc.o) false]]⟩)
        (fun M x => M = x.1 ∧ x.1 + x.2.2.length = M0 ∧ x.2.1.1 ≤ l.length ∧ hRefsF l ((31 - r : Nat) : Int) x.1 x.2.1 x.2.2 = T2) (n := M0) (x := (M0, s4, [])) ?_ ⟨rfl, by simp, e4, hT2⟩ ?_
      · skip
        refine Norm.trans (Norm.forget (u := .nd [.int .i64 (1 + k.2), .ref 5 0 0 1, .ow 1 []]) 6 0 rfl (.inr ⟨_, rfl, ⟨_, _, rfl, rfl, ⟨_, _, rfl, .inl rfl, ⟨_, _, rfl, .inr (.inr rfl), rfl⟩⟩⟩⟩)) ?_
        simp only [Heap.put, List.getElem?_cons_zero, List.getElem?_cons_succ, List.set_cons_succ, List.set_cons_zero]
        refine Norm.trans (Norm.expelVar 6 0 rfl) ?_
        simp only [Heap.put, List.getElem?_cons_zero, List.getElem?_cons_succ, List.set_cons_succ, List.set_cons_zero, thawA, thawAL, List.length_cons, List.length_nil, Nat.reduceAdd, List.nil_append, List.append_nil, List.cons_append, Nat.zero_add]
        exact Norm.re [0, 1, 6, 5, 8] (by decide) rfl (by first | (simp only [eq_self, heapFits, rowFits, obFits, List.getElem?_cons_zero, List.getElem?_cons_succ, renL_o, renL_b, true_and, and_true, and_self]; done) | simp [-List.map_set, -List.map_append, heapFits, rowFits, obFits, T.ren, renL]) (by simp [tmFits, T.ren])
      clear hT2
      rintro M ⟨q, s', acc⟩ ⟨hM, hq, hs', hT2⟩
      simp only at hM hq hs' hT2 ⊢
      have fy := Nat.add_zero
      refine goS ?_
      refine SW.cond rfl (fun hc2 => ?_) (fun hc2 => ?_)
      · have hpos : 0 < q := by simp at hc2; omega
        obtain ⟨q, rfl⟩ : ∃ q', q = q' + 1 := ⟨q - 1, by omega⟩
        simp only [hRefsF] at hT2
        obtain ⟨f1, q1, d1⟩ := belowF_ok l s' 32 hl hs'
        generalize belowF l s' 32 = y at *
        obtain ⟨f2, q2, d2⟩ := belowF_ok l y.1 32 hl f1
        generalize belowF l y.1 32 = z at *
        obtain ⟨f3, q3, d3'⟩ := intF_ok l z.1 [0, ((31 - r : Nat) : Int), ((((31 - r : Nat) : Int) + 1).tmod 32), y.2, z.2] hl f2 (by simp) (by simp)
        have d3 : CallR Try.prog 66 [.io (.nd [.sl .s (l.map Enc.b), .int .i64 (z.1.1 : Nat), .int .i64 z.1.2]), .sl .b [.int .i64 0, .int .i64 (((31 - r : Nat) : Int)), .int .i64 (((((31 - r : Nat) : Int) + 1).tmod 32)), .int .i64 y.2, .int .i64 z.2]] [.nd [.sl .s (l.map Enc.b), .int .i64 (((intF l z.1 [0, ((31 - r : Nat) : Int), ((((31 - r : Nat) : Int) + 1).tmod 32), y.2, z.2]).1).1 : Nat), .int .i64 ((intF l z.1 [0, ((31 - r : Nat) : Int), ((((31 - r : Nat) : Int) + 1).tmod 32), y.2, z.2]).1).2]] (.int .i64 (intF l z.1 [0, ((31 - r : Nat) : Int), ((((31 - r : Nat) : Int) + 1).tmod 32), y.2, z.2]).2) := d3'
        clear d3' q3
        generalize intF l z.1 [0, ((31 - r : Nat) : Int), ((((31 - r : Nat) : Int) + 1).tmod 32), y.2, z.2] = w at *
        have hwr : IntKind.i64.wrap (((q + 1 : Nat) : Int) - 1) = (q : Int) := by rw [wrap64 _ (by omega) (by omega)]; omega
        have hwj : IntKind.i64.wrap (((31 - r : Nat) : Int) + 1) = ((31 - r : Nat) : Int) + 1 := wrap64 _ (by omega) (by omega)
        have hwt : IntKind.i64.wrap ((((31 - r : Nat) : Int) + 1).tmod 32) = (((31 - r : Nat) : Int) + 1).tmod 32 := wrap64 _ (by have := Int.tmod_nonneg 32 (show (0 : Int) ≤ ((31 - r : Nat) : Int) + 1 by omega); omega) (by have := Int.tmod_lt_of_pos (((31 - r : Nat) : Int) + 1) (show (0 : Int) < 32 by decide); omega)
        have hb7 := fun own => buildN (Y := Y) (own := own) (t := 27) (n := 5) (ps := [(0, .int .i64 0), (1, .int .i64 (((31 - r : Nat) : Int))), (2, .int .i64 (((((31 - r : Nat) : Int) + 1).tmod 32))), (3, .int .i64 y.2), (4, .int .i64 z.2)]) (r := [.int .i64 0, .int .i64 (((31 - r : Nat) : Int)), .int .i64 (((((31 - r : Nat) : Int) + 1).tmod 32)), .int .i64 y.2, .int .i64 z.2]) Y27 Y3 rfl (by decide) rfl
        have hap := fun (own e j e2 j2 : Nat) (H : Heap) (q1 : H.at e j = some (.arr 1 ((acc).map Enc.o) false)) (q2 : H.at e2 j2 = some (.arr 1 [.int .i64 w.2] false)) => append_runP (Y := Y) (own := own) (t := 27) (u := 27) (e := e) (j := j) (off := 0) (n := (acc).length) (e2 := e2) (j2 := j2) (f := (acc).map Enc.o) (l := acc) (x := w.2) (H := H) Y27 Y27 Y3 rfl (by decide) q1 q2 (by rw [List.drop_zero]; exact take_map_len _ _) (by simp) (by omega) rfl rfl
        have hC1 := cx [.io] (d1)
        have hC2 := cx [.io] (d2)
        have hC3 := cx [.io] (d3)
        have fy := And.intro hwr (And.intro hwj (And.intro hwt (And.intro hb7 (And.intro bs1_27 (hap)))))
        have hD1 := dx 10 [9, 2, 1, 1, 1, 1, 2] [(1, 1), (1, 2), (1, 3), (1, 4), (1, 5)]
        refine goR ?_ ?_ ?_ ?_ ?_ ?_ ?_ ?_ ?_ ?_ ?_ ?_ ?_ ?_ ?_ ?_
        any_goals (first | exact True.intro | skip)
        all_goals (repeat (refine Wh.mk fun hcc => ?_))
        refine ⟨M - 1, (q, w.1, acc ++ [w.2]), by omega, ⟨by simp only; omega, by simp only [List.length_append, List.length_cons, List.length_nil]; omega, f3, hT2⟩, ?_⟩
        exact Norm.re [0, 1, 2, 3, 10] (by decide) rfl (by first | (simp only [eq_self, heapFits, rowFits, obFits, List.getElem?_cons_zero, List.getElem?_cons_succ, renL_o, renL_b, true_and, and_true, and_self]; done) | simp [-List.map_set, -List.map_append, heapFits, rowFits, obFits, T.ren, renL]) (by simp [tmFits, T.ren])
      · have hr0 : q = 0 := by
          have : ¬ 0 < q := by simp at hc2; omega
          omega
        subst hr0
        simp only [hRefsF] at hT2
        subst hT2
        simp only at hT
        have hg : (v.map Enc.o)[31 - r]? = some (Enc.o (v[31 - r]'(by omega))) := map_get Enc.o v (31 - r) (by omega)
        have hgs : ∀ X : T, ((v.map Enc.o).set (31 - r) X)[31 - r]? = some X := fun X => List.getElem?_set_self (by simp; omega)
        have hlt32 : ((31 - r : Nat) : Int) < (v.length : Int) := by omega
        have hn0 : (0 : Int) ≤ ((31 - r : Nat) : Int) := by omega
        have fy := And.intro hwi (And.intro hg (And.intro hlt32 (hn0)))
        have hD1 := dx 10 [9, 2, 1, 1, 1, 1, 2] [(1, 1), (1, 2), (1, 3), (1, 4), (1, 5)]
        refine goR ?_ ?_ ?_ ?_ ?_ ?_ ?_ ?_ ?_ ?_ ?_ ?_ ?_ ?_ ?_ ?_
        any_goals (first | exact True.intro | skip)
        all_goals (repeat (refine Wh.mk fun hcc => ?_))
        refine ⟨N - 1, (r, s', v.set (31 - r) (true, (1 + k.2, [n.2], acc, ()), ())), by omega, ⟨by simp only; omega, by simp only; omega, hs', by simp [hv], hT⟩, ?_⟩
        refine Norm.trans (Norm.soakArr 1 0 (31 - r) rfl (hgs _)) ?_
        have hset : (v.map Enc.o).set (31 - r) (.nd [.bool true, .nd [.int .i64 (1 + k.2), .ow 1 [.int .i64 n.2], .ow 1 (acc.map Enc.o)]]) = (v.set (31 - r) (true, (1 + k.2, [n.2], acc, ()), ())).map Enc.o := by rw [List.map_set]; rfl
        simp only [soakS, soakL, Heap.at, Heap.put, List.getElem?_cons_zero, List.getElem?_cons_succ, List.set_cons_zero, List.set_cons_succ, List.length_map, List.length_cons, List.length_nil, Nat.zero_add, and_self, if_true, List.set_set, hset]
        exact Norm.re [0, 1] (by decide) rfl (by first | (simp only [eq_self, heapFits, rowFits, obFits, List.getElem?_cons_zero, List.getElem?_cons_succ, renL_o, renL_b, true_and, and_true, and_self]; done) | simp [-List.map_set, -List.map_append, heapFits, rowFits, obFits, T.ren, renL]) (by simp [tmFits, T.ren])
  · have hr0 : r = 0 := by
      have : ¬ 0 < r := by simp at hc; omega
      omega
    subst hr0
    simp only [heapF] at hT
    subst hT
    have fy := Nat.add_zero
    have hD1 := dx 10 [9, 2, 1, 1, 1, 1, 2] [(1, 1), (1, 2), (1, 3), (1, 4), (1, 5)]
    refine goR ?_ ?_ ?_ ?_ ?_ ?_ ?_ ?_ ?_ ?_ ?_ ?_ ?_ ?_ ?_ ?_
    any_goals (first | exact True.intro | skip)
    all_goals (repeat (refine Wh.mk fun hcc => ?_))
    all_goals exact SW.ret (show RetQ _ _ _ _ _ _ _ from RetQ.y [4] [.ow 4 (v.map Enc.o)])
end Q6

namespace Q6
open Go Go.Vm Go.Proofs
set_option maxHeartbeats 4000000
set_option synthInstance.maxSize 2000
set_option synthInstance.maxHeartbeats 400000
set_option maxRecDepth 10000
set_option linter.unusedSimpArgs false
set_option linter.unusedVariables false

theorem big_ok (l : List UInt8) : CallR Try.prog 10 [.sl .s (l.map Enc.b)] [] (.bool (decide ((1048576 : Int) < (l.length : Int)))) := by
  refine CallR.of_body (n := 6) (rs := [.tmp 2]) hY.ok Try.func10 rfl (by decide) rfl rfl rfl rfl (fun F => ?_)
  have fx := And.intro Y3 (And.intro Y4 (And.intro Y5 (Y22)))
  have fy := Nat.add_zero
  refine goK ?_ ?_ ?_ ?_ ?_ ?_ ?_ ?_ ?_ ?_ ?_ ?_ ?_ ?_ ?_ ?_
  any_goals (first | exact True.intro | skip)
  all_goals (repeat (refine Wh.mk fun hcc => ?_))
  all_goals rfl
theorem laws_sameInts_ok (l m : List Int) (hl : Enc.lim 1048576 l) : CallR Try.prog 18 [.sl .b (l.map Enc.b), .sl .b (m.map Enc.b)] [] (.bool (decide (l = m))) := by
  refine CallR.of_body (n := 26) (rs := [.tmp 4]) hY.ok Try.func18 rfl (by decide) rfl rfl rfl rfl (fun F => ?_)
  have fx := And.intro Y3 (And.intro Y4 (Y27))
  have hl1 : l.length ≤ 1048576 := hl.1
  have fy := Nat.add_zero
  refine goS ?_
  refine SW.cond rfl (fun hc => ?_) (fun hc => ?_)
  · have hne : ¬ l = m := by intro e; subst e; simp at hc
    have fy := Nat.add_zero
    refine goK ?_ ?_ ?_ ?_ ?_ ?_ ?_ ?_ ?_ ?_ ?_ ?_ ?_ ?_ ?_ ?_
    any_goals (first | exact True.intro | skip)
    all_goals (repeat (refine Wh.mk fun hcc => ?_))
    simp [tupOf, fixEs, hne]
  have hlen : l.length = m.length := by have : (l.length : Int) = m.length := by simpa using hc
                                        omega
  refine SW.skip ?_
  simp only [thenS]
  have fy := Nat.add_zero
  refine goN ?_ ?_ ?_ ?_ ?_ ?_ ?_ ?_ ?_ ?_ ?_ ?_ ?_ ?_ ?_ ?_
  any_goals (first | exact True.intro | skip)
  skip
  refine SW.loop (fun i : Nat => ⟨[.sl .b (l.map Enc.b), .sl .b (m.map Enc.b), .undef, .undef, .undef, .int .i64 i, .undef, .undef, .undef, .undef, .undef, .undef, .undef, .undef, .undef, .undef, .undef, .undef, .undef, .undef, .undef, .undef, .undef, .undef, .undef, .undef], [[]]⟩)
    (fun n i => n = l.length - i ∧ i ≤ l.length ∧ ∀ j (h : j < l.length), j < i → l[j] = m[j]'(by omega)) (n := l.length) (x := 0) (Norm.to 0 rfl (by simp [weakL])) ⟨rfl, Nat.zero_le _, fun j _ h => absurd h (Nat.not_lt_zero _)⟩ ?_
  rintro n i ⟨hn, hi, hp⟩
  have fy := Nat.add_zero
  refine goS ?_
  refine SW.cond rfl (fun hc => ?_) (fun hc => ?_)
  · have hlt : i < l.length := by simpa using hc
    have hlt' : i < m.length := by omega
    have hgl : (l.map Enc.b)[i]? = some (.int .i64 l[i]) := map_get Enc.b l i hlt
    have hgm : (m.map Enc.b)[i]? = some (.int .i64 m[i]) := map_get Enc.b m i hlt'
    have fy := And.intro hgl (hgm)
    refine goK ?_ ?_ ?_ ?_ ?_ ?_ ?_ ?_ ?_ ?_ ?_ ?_ ?_ ?_ ?_ ?_
    any_goals (first | exact True.intro | skip)
    all_goals (repeat (refine Wh.mk fun hcc => ?_))
    · have hx := hcc
      have hne : ¬ l[i] = m[i] := by intro e; simp [e] at hx
      have hlm : ¬ l = m := by intro e; subst e; exact hne rfl
      simp [tupOf, fixEs, hlm]
    · have hx := hcc
      have hx' : l[i] = m[i] := by first | (simpa using hx; done) | (apply UInt8.toNat_inj.1; simp at hx; omega)
      refine ⟨n - 1, i + 1, by omega, ⟨by omega, by omega, fun j hj hji => ?_⟩, ?_⟩
      · by_cases he : j = i
        · subst he; exact hx'
        · exact hp j hj (by omega)
      · rw [wrap64 _ (by omega) (by omega)]
        first | exact Norm.to 0 rfl (by simp [weakL]) | exact Norm.to 1 rfl (by simp [weakL])
  · have hge : i = l.length := by
      have : ¬ i < l.length := by simpa using hc
      omega
    have hlm : l = m := List.ext_getElem hlen fun j h1 h2 => hp j h1 (by omega)
    have fy := Nat.add_zero
    refine goK ?_ ?_ ?_ ?_ ?_ ?_ ?_ ?_ ?_ ?_ ?_ ?_ ?_ ?_ ?_ ?_
    any_goals (first | exact True.intro | skip)
    all_goals (repeat (refine Wh.mk fun hcc => ?_))
    simp [tupOf, fixEs, hlm]
def amongB (l : List Int) (n : Int) : Bool := l.any fun x => decide (x = n)
theorem amongB_iff {l : List Int} {n : Int} : amongB l n = true ↔ n ∈ l := by unfold amongB; simp
theorem among_ok (l : List Int) (hl : l.length ≤ 1048576) (n : Int) : CallR Try.prog 15 [.sl .b (l.map Enc.b), .int .i64 n] [] (.bool (amongB l n)) := by
  refine CallR.of_body (n := 18) (rs := [.tmp 4]) hY.ok Try.func15 rfl (by decide) rfl rfl rfl rfl (fun F => ?_)
  have fx := And.intro Y3 (And.intro Y4 (Y27))
  have fy := Nat.add_zero
  refine goN ?_ ?_ ?_ ?_ ?_ ?_ ?_ ?_ ?_ ?_ ?_ ?_ ?_ ?_ ?_ ?_
  any_goals (first | exact True.intro | skip)
  skip
  refine SW.loop (fun i : Nat => ⟨[.sl .b (l.map Enc.b), .int .i64 n, .undef, .undef, .undef, .int .i64 (i : Nat), .undef, .undef, .undef, .undef, .undef, .undef, .undef, .undef, .undef, .undef, .undef, .undef], [[]]⟩)
    (fun N i => N = l.length - i ∧ i ≤ l.length ∧ ∀ j (h : j < l.length), j < i → (fun x => !decide (x = n)) l[j] = true) (n := l.length) (x := 0) (by first | exact Norm.to 0 rfl (by simp [weakL]) | exact Norm.to 1 rfl (by simp [weakL])) ⟨rfl, Nat.zero_le _, fun j _ h => absurd h (Nat.not_lt_zero _)⟩ ?_
  rintro N i ⟨hN, hi, hp⟩
  have fy := Nat.add_zero
  refine goS ?_
  refine SW.cond rfl (fun hci => ?_) (fun hci => ?_)
  · skip
    have hlti : i < l.length := by simpa using hci
    have hltIi : (i : Int) < (l.length : Int) := by omega
    have hg : (l.map Enc.b)[i]? = some (.int .i64 l[i]) := map_get Enc.b l i hlti
    have hq : (l[i] == n) = decide (l[i] = n) := rfl
    generalize hb : decide (l[i] = n) = b at *
    cases b
    · skip
      have fy := And.intro hg (And.intro hq (hltIi))
      refine goR ?_ ?_ ?_ ?_ ?_ ?_ ?_ ?_ ?_ ?_ ?_ ?_ ?_ ?_ ?_ ?_
      any_goals (first | exact True.intro | skip)
      all_goals (repeat (refine Wh.mk fun hcc => ?_))
      refine ⟨N - 1, i + 1, by omega, ⟨by omega, by omega, fun j hj hji => ?_⟩, ?_⟩
      · by_cases he : j = i
        · subst he; exact (by simp [hb])
        · exact hp j hj (by omega)
      · rw [wrap64 _ (by omega) (by omega)]
        first | exact Norm.to 0 rfl (by simp [weakL]) | exact Norm.to 1 rfl (by simp [weakL]) | exact Norm.to 2 rfl (by simp [weakL]) | exact Norm.to 3 rfl (by simp [weakL])
    · have hy : amongB l n = true := by unfold amongB; rw [List.any_eq_true]; exact ⟨_, List.getElem_mem hlti, hb⟩
      have fy := And.intro hg (And.intro hq (hltIi))
      refine goK ?_ ?_ ?_ ?_ ?_ ?_ ?_ ?_ ?_ ?_ ?_ ?_ ?_ ?_ ?_ ?_
      any_goals (first | exact True.intro | skip)
      all_goals (repeat (refine Wh.mk fun hcc => ?_))
      all_goals simp [tupOf, fixEs, hy]
  · skip
    have hgei : i = l.length := by
      have : ¬ i < l.length := by simpa using hci
      omega
    have hall : l.all (fun x => !decide (x = n)) = true := all_of _ _ (fun j hj => hp j hj (by omega))
    have hy : amongB l n = false := by
      unfold amongB; rw [List.any_eq_false]; intro x hx; have := List.all_eq_true.1 hall x hx; simpa using this
    have fy := Nat.add_zero
    refine goK ?_ ?_ ?_ ?_ ?_ ?_ ?_ ?_ ?_ ?_ ?_ ?_ ?_ ?_ ?_ ?_
    any_goals (first | exact True.intro | skip)
    all_goals (repeat (refine Wh.mk fun hcc => ?_))
    all_goals simp [tupOf, fixEs, hy]
noncomputable def newF (l : List UInt8) : Int := by
  classical
  exact if h : ∃ h : Int, CallR Try.prog 49 [.sl .s (l.map Enc.b)] [] (.fp (.io (.nd [.sl .s (l.map Enc.b), .int .i64 0, .int .i64 h]))) then h.choose else 0
theorem newF_ok (l : List UInt8) (hl : l.length ≤ 1048576) : CallR Try.prog 49 [.sl .s (l.map Enc.b)] [] (.fp (.io (.nd [.sl .s (l.map Enc.b), .int .i64 0, .int .i64 (newF l)]))) := by
  unfold newF
  rw [dif_pos (new_ok l hl)]
  exact (new_ok l hl).choose_spec
noncomputable def drawHeap (l : List UInt8) : List SlotT := (heapF l 31 (0, newF l) v0).2
theorem drawHeap_view (l : List UInt8) (hl : l.length ≤ 1048576) : viewB (drawHeap l) = true ∧ (∀ i, hasA (drawHeap l) i = false → refsA (drawHeap l) i = []) := by
  obtain ⟨_, h1, h2, h3⟩ := heapF_ok l hl 31 (0, newF l) v0 (Nat.zero_le _) (by decide) List.length_replicate (by intro x hx; rw [List.eq_of_mem_replicate hx]; decide) (by decide)
  unfold drawHeap
  generalize (heapF l 31 (0, newF l) v0).2 = v at *
  constructor
  · unfold viewB
    cases v with
    | nil => simp at h1
    | cons s v' =>
      have h0 : s.1 = false := by simpa [hasA] using h3
      simp only [h1, h0, Bool.and_eq_true, List.all_eq_true]
      exact ⟨⟨by decide, by decide⟩, h2⟩
  · intro i hi
    unfold hasA at hi; unfold refsA
    cases hg : v[i]? with
    | none => rfl
    | some s =>
      rw [hg] at hi
      have hs := h2 s (List.mem_of_getElem? hg)
      simp only at hi
      simp only [slotB, hi, Bool.false_eq_true, if_false, noObjB, Bool.and_eq_true, decide_eq_true_eq] at hs
      exact List.length_eq_zero_iff.1 hs.2
theorem drawHeapW_ok (l : List UInt8) (hl : l.length ≤ 1048576) : CallR Try.prog 11 [.sl .s (l.map Enc.b)] [] (.ow 4 ((drawHeap l).map Enc.o)) := by
  refine CallR.of_body (n := 8) (rs := [.tmp 2]) hY.ok Try.func11 rfl (by decide) rfl rfl rfl rfl (fun F => ?_)
  have fx := And.intro Y3 (And.intro Y4 (And.intro Y5 (And.intro Y22 (And.intro Y24 (And.intro Y27 (And.intro Y35 (And.intro Y37 (Y104))))))))
  have c1 := newF_ok l hl
  have c2 := heapW_ok l (0, newF l) hl (Nat.zero_le _)
  unfold drawHeap
  generalize newF l = h at *
  generalize heapF l 31 (0, h) v0 = r at *
  obtain ⟨⟨n0, h0⟩, v⟩ := r
  simp only [Int.natCast_zero] at c1 c2 ⊢
  have hC1 := cx [.own 1] (c1)
  have hC2 := cx [.io] (c2)
  have fy := Nat.add_zero
  refine goR ?_ ?_ ?_ ?_ ?_ ?_ ?_ ?_ ?_ ?_ ?_ ?_ ?_ ?_ ?_ ?_
  any_goals (first | exact True.intro | skip)
  all_goals (repeat (refine Wh.mk fun hcc => ?_))
  all_goals exact SW.ret (show RetQ _ _ _ _ _ _ _ from RetQ.y [4] [.ow 4 (v.map Enc.o)])
end Q6

namespace Q6
open Go Go.Vm Go.Proofs
set_option maxHeartbeats 4000000
set_option synthInstance.maxSize 2000
set_option synthInstance.maxHeartbeats 400000
set_option maxRecDepth 10000
set_option linter.unusedSimpArgs false
set_option linter.unusedVariables false

open Qlk

noncomputable def lkStepF (l : List UInt8) (s : CS) (L : LkT) : CS × LkT :=
  let t := belowF l s 5; let o := onceF l t.1 6
  if o.2 = true then (o.1, (dropF L (1 + t.2)).1) else if (L.2.1.any fun x => decide (x.1 = 1 + t.2)) = true then (o.1, L)
  else let r := belowF l o.1 3; let m := belowF l r.1 4; (m.1, (askF L (1 + t.2, r.2, 1 + m.2, ())).1)
noncomputable def lkDrawF (l : List UInt8) : Nat → CS → LkT → CS × LkT
  | 0, s, L => (s, L)
  | n + 1, s, L => lkDrawF l n (lkStepF l s L).1 (lkStepF l s L).2
theorem ask_size (L : LkT) (g : GrT) : (askF L g).1.1.length + (askF L g).1.2.1.length ≤ L.1.length + L.2.1.length + 1 := by
  unfold askF
  split
  · simp only; omega
  · split
    · have := @give_len L.1 g (wouldF L.1 g); simp only; omega
    · simp only [List.length_append, List.length_singleton]; omega
theorem lkStep_ok (l : List UInt8) (s : CS) (L : LkT) (hl : l.length ≤ 1048576) (hi : s.1 ≤ l.length) (hL : LkOk L) (hn : L.1.length + L.2.1.length ≤ 58) :
    (lkStepF l s L).1.1 ≤ l.length ∧ LkOk (lkStepF l s L).2 ∧ (lkStepF l s L).2.1.length + (lkStepF l s L).2.2.1.length ≤ L.1.length + L.2.1.length + 1 := by
  unfold lkStepF
  simp only
  obtain ⟨a1, a2, _⟩ := belowF_ok l s 5 hl hi
  generalize belowF l s 5 = t at *
  obtain ⟨b1, _⟩ := onceF_ok l t.1 6 hl a1
  generalize onceF l t.1 6 = o at *
  have t5 := a2.2 (by decide)
  split
  · obtain ⟨h1, _, _, _, h5⟩ := drop_ok hL (1 + t.2) (by omega)
    exact ⟨b1, h1, by simp only; omega⟩
  · split
    · exact ⟨b1, hL, by simp only; omega⟩
    · rename_i hw
      obtain ⟨c1, c2, _⟩ := belowF_ok l o.1 3 hl b1
      generalize belowF l o.1 3 = r at *
      obtain ⟨d1, d2, _⟩ := belowF_ok l r.1 4 hl c1
      generalize belowF l r.1 4 = m at *
      have r3 := c2.2 (by decide)
      have m4 := d2.2 (by decide)
      refine ⟨d1, ask_ok hL ?_ ?_ (by omega) (by omega), ask_size L _⟩
      · unfold grB modeB
        simp only [Bool.and_eq_true, decide_eq_true_eq]
        omega
      · intro x hx he
        exact hw (List.any_eq_true.2 ⟨x, hx, by simpa using he⟩)
theorem lkDraw_ok (l : List UInt8) (hl : l.length ≤ 1048576) : ∀ (n : Nat) (s : CS) (L : LkT), s.1 ≤ l.length → LkOk L → L.1.length + L.2.1.length + n ≤ 58 →
    (lkDrawF l n s L).1.1 ≤ l.length ∧ LkOk (lkDrawF l n s L).2 ∧ (lkDrawF l n s L).2.1.length + (lkDrawF l n s L).2.2.1.length ≤ L.1.length + L.2.1.length + n
  | 0, s, L, h, hL, hn => ⟨h, hL, by simp [lkDrawF]⟩
  | n + 1, s, L, h, hL, hn => by
    obtain ⟨h1, h2, h3⟩ := lkStep_ok l s L hl h hL (by omega)
    obtain ⟨h4, h5, h6⟩ := lkDraw_ok l hl n _ _ h1 h2 (by omega)
    exact ⟨h4, h5, by simp only [lkDrawF]; omega⟩
theorem openK (tm : List T) (C : T) (hC : ∀ e j, thawA e C j = (C, [])) (G W : List GrT) : Norm ⟨tm, [[.var (C)], [.var (.nd [.nils 3, .nils 3])], [.var (.nd [.ow 3 ((G).map Enc.o), .ow 3 ((W).map Enc.o)])]]⟩ ⟨tm, [[.var (C)], [.var (.nd [.nils 3, .nils 3])], [.var (.nd [.ref 3 0 0 (G).length, .ref 3 1 0 (W).length])], [.arr 3 ((G).map Enc.o) false, .arr 3 ((W).map Enc.o) false]]⟩ := by
  have h := Norm.expelVar (tm := tm) (H := [[.var (C)], [.var (.nd [.nils 3, .nils 3])], [.var (.nd [.ow 3 ((G).map Enc.o), .ow 3 ((W).map Enc.o)])]]) 2 0 rfl
  simp only [thawA, thawAL, Heap.put, List.getElem?_cons_zero, List.getElem?_cons_succ, List.set_cons_zero, List.set_cons_succ, List.length_cons, List.length_nil, List.nil_append, List.cons_append, List.append_nil, Nat.zero_add, Nat.reduceAdd, List.length_map] at h
  exact h

theorem sAsk0_ok (G W : List GrT) (hG : G.length ≤ 1000) (hW : W.length ≤ 1000) (hv : ∀ x ∈ G, grB x = true) (g : GrT) : CallR Try.prog 80 [.io (.nd [.ow 3 ((G).map Enc.o), .ow 3 ((W).map Enc.o)]), .nd [.int .i64 g.1, .int .i64 g.2.1, .int .i64 g.2.2.1]] [.nd [.ow 3 (((askF (G, W, ()) g).1.1).map Enc.o), .ow 3 (((askF (G, W, ()) g).1.2.1).map Enc.o)]] (.int .i64 (askF (G, W, ()) g).2) := by
  refine CallR.of_body (n := 57) (rs := [.tmp 4]) hY.ok Try.func80 rfl (by decide) rfl rfl rfl rfl (fun F => ?_)
  have fx := And.intro Y1 (And.intro Y3 (And.intro Y4 (And.intro Y41 (And.intro Y43 (And.intro Y50 (Y131))))))
  have cH := sHas_ok G W hG g
  have cW := sWould_ok G W hG hv g
  have cF := sFits_ok G W hG g (wouldF G g)
  have cR := sForRes_ok W hW g.2.1
  have cG := sGive_ok G W hG hW g (wouldF G g)
  unfold askF
  simp only
  have q1 : (wouldF G g == hasF G g) = decide (wouldF G g = hasF G g) := rfl
  have q2 : (hasF G g != 0) = decide (hasF G g ≠ 0) := by rw [decide_not]; rfl
  generalize giveF G g (wouldF G g) = G2 at *
  generalize fitsF G g (wouldF G g) = b1 at *
  generalize forRes W g.2.1 = b3 at *
  generalize hasF G g = k at *
  generalize wouldF G g = m at *
  by_cases h0 : m = k
  · rw [decide_eq_true h0] at q1
    simp only [if_pos h0]
    have hC1 := cx [] (cH)
    have hC2 := cx [] (cW)
    have fy := q1
    have hD1 := dx 8 [7, 1, 3] [(4, 1)]
    refine goR ?_ ?_ ?_ ?_ ?_ ?_ ?_ ?_ ?_ ?_ ?_ ?_ ?_ ?_ ?_ ?_
    any_goals (first | exact True.intro | skip)
    all_goals (repeat (refine Wh.mk fun hcc => ?_))
    all_goals exact SW.ret (show RetQ _ _ _ _ _ _ _ from RetQ.y [0] [.int .i64 0])
  rw [decide_eq_false h0] at q1
  simp only [if_neg h0]
  generalize decide (k ≠ 0) = b2 at *
  cases b1
  · skip
    rw [if_neg (by simp)]
    have hap := fun (own e j e2 j2 : Nat) (H : Heap) (q1 : H.at e j = some (.arr 3 ((W).map Enc.o) false)) (q2 : H.at e2 j2 = some (.arr 3 [.nd [.int .i64 g.1, .int .i64 g.2.1, .int .i64 g.2.2.1]] false)) => append_runP (Y := Y) (own := own) (t := 41) (u := 41) (e := e) (j := j) (off := 0) (n := (W).length) (e2 := e2) (j2 := j2) (f := (W).map Enc.o) (l := W) (x := g) (H := H) Y41 Y41 Y50 rfl (by decide) q1 q2 (by rw [List.drop_zero]; exact take_map_len _ _) (by simp) (by omega) rfl rfl
    have hC1 := cx [] (cH)
    have hC2 := cx [] (cW)
    have hC3 := cx [] (cF)
    have fy := And.intro q1 (And.intro q2 (And.intro bs1_41 (hap)))
    have hD1 := dx 8 [7, 1, 3] [(4, 1)]
    refine goR ?_ ?_ ?_ ?_ ?_ ?_ ?_ ?_ ?_ ?_ ?_ ?_ ?_ ?_ ?_ ?_
    any_goals (first | exact True.intro | skip)
    all_goals (repeat (refine Wh.mk fun hcc => ?_))
    all_goals exact SW.ret (show RetQ _ _ _ _ _ _ _ from RetQ.y [0] [.int .i64 1])
  · cases b2
    rotate_left
    · skip
      rw [if_pos (by simp)]
      have hC1 := cx [] (cH)
      have hC2 := cx [] (cW)
      have hC3 := cx [] (cF)
      have hC4 := cx [.io] (cG)
      have fy := And.intro q1 (q2)
      have hD1 := dx 8 [7, 1, 3] [(4, 1)]
      refine goR ?_ ?_ ?_ ?_ ?_ ?_ ?_ ?_ ?_ ?_ ?_ ?_ ?_ ?_ ?_ ?_
      any_goals (first | exact True.intro | skip)
      all_goals (repeat (refine Wh.mk fun hcc => ?_))
      all_goals exact SW.ret (show RetQ _ _ _ _ _ _ _ from RetQ.y [0] [.int .i64 0])
    · cases b3
      · skip
        rw [if_pos (by simp)]
        have hC1 := cx [] (cH)
        have hC2 := cx [] (cW)
        have hC3 := cx [] (cF)
        have hC4 := cx [] (cR)
        have hC5 := cx [.io] (cG)
        have fy := And.intro q1 (q2)
        have hD1 := dx 8 [7, 1, 3] [(4, 1)]
        refine goR ?_ ?_ ?_ ?_ ?_ ?_ ?_ ?_ ?_ ?_ ?_ ?_ ?_ ?_ ?_ ?_
        any_goals (first | exact True.intro | skip)
        all_goals (repeat (refine Wh.mk fun hcc => ?_))
        all_goals exact SW.ret (show RetQ _ _ _ _ _ _ _ from RetQ.y [0] [.int .i64 0])
      · skip
        rw [if_neg (by simp)]
        have hap := fun (own e j e2 j2 : Nat) (H : Heap) (q1 : H.at e j = some (.arr 3 ((W).map Enc.o) false)) (q2 : H.at e2 j2 = some (.arr 3 [.nd [.int .i64 g.1, .int .i64 g.2.1, .int .i64 g.2.2.1]] false)) => append_runP (Y := Y) (own := own) (t := 41) (u := 41) (e := e) (j := j) (off := 0) (n := (W).length) (e2 := e2) (j2 := j2) (f := (W).map Enc.o) (l := W) (x := g) (H := H) Y41 Y41 Y50 rfl (by decide) q1 q2 (by rw [List.drop_zero]; exact take_map_len _ _) (by simp) (by omega) rfl rfl
        have hC1 := cx [] (cH)
        have hC2 := cx [] (cW)
        have hC3 := cx [] (cF)
        have hC4 := cx [] (cR)
        have fy := And.intro q1 (And.intro q2 (And.intro bs1_41 (hap)))
        have hD1 := dx 8 [7, 1, 3] [(4, 1)]
        refine goR ?_ ?_ ?_ ?_ ?_ ?_ ?_ ?_ ?_ ?_ ?_ ?_ ?_ ?_ ?_ ?_
        any_goals (first | exact True.intro | skip)
        all_goals (repeat (refine Wh.mk fun hcc => ?_))
        all_goals exact SW.ret (show RetQ _ _ _ _ _ _ _ from RetQ.y [0] [.int .i64 1])
theorem lk0_ok : LkOk (([], [], ()) : LkT) := ⟨by simp, by simp, by simp, by simp, by simp, by simp⟩
theorem lkDrawW_ok (l : List UInt8) (s : CS) (hl : l.length ≤ 1048576) (hi : s.1 ≤ l.length) (most : Nat) (h1 : 1 ≤ most) (hm : most ≤ 50) : CallR Try.prog 93 [.io (.nd [.sl .s (l.map Enc.b), .int .i64 (s.1 : Nat), .int .i64 s.2]), .int .i64 (most : Nat)] [.nd [.sl .s (l.map Enc.b), .int .i64 (((lkDrawF l (belowF l s most).2.toNat (belowF l s most).1 (([], [], ()) : LkT)).1).1 : Nat), .int .i64 ((lkDrawF l (belowF l s most).2.toNat (belowF l s most).1 (([], [], ()) : LkT)).1).2]] (.nd [.ow 3 (((lkDrawF l (belowF l s most).2.toNat (belowF l s most).1 (([], [], ()) : LkT)).2.1).map Enc.o), .ow 3 (((lkDrawF l (belowF l s most).2.toNat (belowF l s most).1 (([], [], ()) : LkT)).2.2.1).map Enc.o)]) := by
  refine CallR.of_body (n := 36) (rs := [.cell 4 43]) hY.ok Try.func93 rfl (by decide) rfl rfl rfl rfl (fun F => ?_)
  have fx := And.intro Y1 (And.intro Y2 (And.intro Y3 (And.intro Y4 (And.intro Y27 (And.intro Y41 (And.intro Y43 (And.intro Y50 (And.intro Y104 (Y131)))))))))
  obtain ⟨e1, p1, c1⟩ := belowF_ok l s most hl hi
  generalize belowF l s most = n at *
  obtain ⟨s1, n1⟩ := n
  simp only at e1 p1 c1 ⊢
  obtain ⟨N0, rfl⟩ : ∃ N0 : Nat, n1 = (N0 : Int) := ⟨n1.toNat, by omega⟩
  rw [Int.toNat_natCast]
  generalize hT1 : lkDrawF l N0 s1 ([], [], ()) = T1 at *
  have hC1 := cx [.io] (c1)
  have fy := Nat.add_zero
  refine goN ?_ ?_ ?_ ?_ ?_ ?_ ?_ ?_ ?_ ?_ ?_ ?_ ?_ ?_ ?_ ?_
  any_goals (first | exact True.intro | skip)
  skip
  have hN0 : N0 ≤ 49 := by have := p1.2 (by omega); omega
  refine SW.loop (fun x : Nat × CS × LkT => ⟨[.ptr 0 0 [] 0, .undef, .undef, .undef, .ptr 1 0 [] 0, .ptr 2 0 [] 0, .int .i64 (x.1 : Nat), .undef, .undef, .undef, .undef, .undef, .undef, .undef, .undef, .undef, .undef, .undef, .undef, .undef, .undef, .undef, .undef, .undef, .undef, .undef, .undef, .undef, .undef, .undef, .undef, .undef, .undef, .undef, .undef, .undef], [[.var (.nd [.sl .s (l.map Enc.b), .int .i64 (x.2.1.1 : Nat), .int .i64 x.2.1.2])], [.var (.nd [.nils 3, .nils 3])], [.var (.nd [.ref 3 0 0 (x.2.2.1).length, .ref 3 1 0 (x.2.2.2.1).length])], [.arr 3 ((x.2.2.1).map Enc.o) false, .arr 3 ((x.2.2.2.1).map Enc.o) false]]⟩)
    (fun N x => N = x.1 ∧ x.2.1.1 ≤ l.length ∧ LkOk x.2.2 ∧ x.2.2.1.length + x.2.2.2.1.length + x.1 ≤ 50 ∧ lkDrawF l x.1 x.2.1 x.2.2 = T1) (n := N0) (x := (N0, s1, (([], [], ()) : LkT))) ?_ ⟨rfl, e1, lk0_ok, by simp; omega, hT1⟩ ?_
  · refine Norm.trans ?_ (openK _ (.nd [.sl .s (l.map Enc.b), .int .i64 (s1.1 : Nat), .int .i64 s1.2]) (fun _ _ => rfl) [] [])
    refine Norm.trans (Norm.forget (u := .nd [.ow 3 [], .ow 3 []]) 2 0 rfl (.inr ⟨_, rfl, ⟨_, _, rfl, .inr (.inr rfl), ⟨_, _, rfl, .inr (.inr rfl), rfl⟩⟩⟩)) ?_
    simp only [Heap.put, List.getElem?_cons_zero, List.getElem?_cons_succ, List.set_cons_succ, List.set_cons_zero]
    exact Norm.re [0, 1, 2] (by decide) rfl (by first | (simp only [eq_self, heapFits, rowFits, obFits, List.getElem?_cons_zero, List.getElem?_cons_succ, renL_o, renL_b, true_and, and_true, and_self]; done) | simp [-List.map_set, -List.map_append, heapFits, rowFits, obFits, T.ren, renL]) (by simp [tmFits, T.ren, renL])
  clear hT1
  rintro N ⟨r, s', L⟩ ⟨hN, hs, hL, hsz, hT⟩
  simp only at hN hs hL hsz hT ⊢
  have fy := Nat.add_zero
  refine goS ?_
  refine SW.cond rfl (fun hc => ?_) (fun hc => ?_)
  · have hpos : 0 < r := by simp at hc; omega
    obtain ⟨r, rfl⟩ : ∃ r', r = r' + 1 := ⟨r - 1, by omega⟩
    simp only [lkDrawF] at hT
    have hst := lkStep_ok l s' L hl hs hL (by omega)
    unfold lkStepF at hst hT
    simp only at hst hT
    obtain ⟨a1, a2, d1⟩ := belowF_ok l s' 5 hl hs
    generalize belowF l s' 5 = t at *
    obtain ⟨b1, d2⟩ := onceF_ok l t.1 6 hl a1
    generalize onceF l t.1 6 = o at *
    obtain ⟨so, bo⟩ := o
    simp only at b1 d2 hst hT
    have t5 := a2.2 (by decide)
    have hwt : IntKind.i64.wrap (1 + t.2) = 1 + t.2 := wrap64 _ (by omega) (by omega)
    have hwr : IntKind.i64.wrap (((r + 1 : Nat) : Int) - 1) = (r : Int) := by rw [wrap64 _ (by omega) (by omega)]; omega
    obtain ⟨A, B, ⟨⟩⟩ := L
    have hA := hL.gl
    have hB := hL.wl
    have hv := hL.g
    simp only at hA hB hv hsz ⊢
    cases bo
    rotate_left
    · simp only [if_true] at hst hT
      have d3 := sDrop_ok A B hL (1 + t.2)
      unfold dropF at hst hT
      generalize dropR (A, B, ()) (1 + t.2) = D at *
      obtain ⟨D1, D2, D3⟩ := D
      simp only at hst hT d3
      obtain ⟨_, k2, k3⟩ := hst
      have hC1 := cx [.io] (d1)
      have hC2 := cx [.io] (d2)
      have hC3 := cx [.io] (d3)
      have fy := And.intro hwt (hwr)
      refine goR ?_ ?_ ?_ ?_ ?_ ?_ ?_ ?_ ?_ ?_ ?_ ?_ ?_ ?_ ?_ ?_
      any_goals (first | exact True.intro | skip)
      all_goals (repeat (refine Wh.mk fun hcc => ?_))
      refine ⟨N - 1, (r, so, (D1, D2, ())), by omega, ⟨by simp only; omega, b1, k2, by simp only; omega, hT⟩, ?_⟩
      refine Norm.trans ?_ (openK _ (.nd [.sl .s (l.map Enc.b), .int .i64 (so.1 : Nat), .int .i64 so.2]) (fun _ _ => rfl) D1 D2)
      exact Norm.re [0, 1, 2] (by decide) rfl (by first | (simp only [eq_self, heapFits, rowFits, obFits, List.getElem?_cons_zero, List.getElem?_cons_succ, renL_o, renL_b, true_and, and_true, and_self]; done) | simp [-List.map_set, -List.map_append, heapFits, rowFits, obFits, T.ren, renL]) (by simp [tmFits, T.ren, renL])
    · simp only [Bool.false_eq_true, if_false] at hst hT
      have d3 := sWaits_ok A B (by omega) (1 + t.2)
      generalize (B.any fun x => decide (x.1 = 1 + t.2)) = w at *
      cases w
      rotate_left
      · simp only [if_true] at hst hT
        have hC1 := cx [.io] (d1)
        have hC2 := cx [.io] (d2)
        have hC3 := cx [] (d3)
        have fy := And.intro hwt (hwr)
        refine goR ?_ ?_ ?_ ?_ ?_ ?_ ?_ ?_ ?_ ?_ ?_ ?_ ?_ ?_ ?_ ?_
        any_goals (first | exact True.intro | skip)
        all_goals (repeat (refine Wh.mk fun hcc => ?_))
        refine ⟨N - 1, (r, so, (A, B, ())), by omega, ⟨by simp only; omega, b1, hL, by simp only; omega, hT⟩, ?_⟩
        exact Norm.re [0, 1, 2, 3] (by decide) rfl (by first | (simp only [eq_self, heapFits, rowFits, obFits, List.getElem?_cons_zero, List.getElem?_cons_succ, renL_o, renL_b, true_and, and_true, and_self]; done) | simp [-List.map_set, -List.map_append, heapFits, rowFits, obFits, T.ren, renL]) (by simp [tmFits, T.ren, renL])
      · simp only [Bool.false_eq_true, if_false] at hst hT
        obtain ⟨f1, f2, d4⟩ := belowF_ok l so 3 hl b1
        generalize belowF l so 3 = y at *
        obtain ⟨g1, g2, d5⟩ := belowF_ok l y.1 4 hl f1
        generalize belowF l y.1 4 = m at *
        have m4 := g2.2 (by decide)
        have hwm : IntKind.i64.wrap (1 + m.2) = 1 + m.2 := wrap64 _ (by omega) (by omega)
        have d6 := sAsk0_ok A B (by omega) (by omega) hv (1 + t.2, y.2, 1 + m.2, ())
        generalize askF (A, B, ()) (1 + t.2, y.2, 1 + m.2, ()) = K at *
        obtain ⟨⟨K1, K2, ⟨⟩⟩, K3⟩ := K
        simp only at hst hT d6
        obtain ⟨_, k2, k3⟩ := hst
        have hC1 := cx [.io] (d1)
        have hC2 := cx [.io] (d2)
        have hC3 := cx [] (d3)
        have hC4 := cx [.io] (d4)
        have hC5 := cx [.io] (d5)
        have hC6 := cx [.io] (d6)
        have fy := And.intro hwt (And.intro hwr (hwm))
        refine goR ?_ ?_ ?_ ?_ ?_ ?_ ?_ ?_ ?_ ?_ ?_ ?_ ?_ ?_ ?_ ?_
        any_goals (first | exact True.intro | skip)
        all_goals (repeat (refine Wh.mk fun hcc => ?_))
        refine ⟨N - 1, (r, m.1, (K1, K2, ())), by omega, ⟨by simp only; omega, g1, k2, by simp only; omega, hT⟩, ?_⟩
        refine Norm.trans ?_ (openK _ (.nd [.sl .s (l.map Enc.b), .int .i64 (m.1.1 : Nat), .int .i64 m.1.2]) (fun _ _ => rfl) K1 K2)
        exact Norm.re [0, 1, 2] (by decide) rfl (by first | (simp only [eq_self, heapFits, rowFits, obFits, List.getElem?_cons_zero, List.getElem?_cons_succ, renL_o, renL_b, true_and, and_true, and_self]; done) | simp [-List.map_set, -List.map_append, heapFits, rowFits, obFits, T.ren, renL]) (by simp [tmFits, T.ren, renL])
  · have hr0 : r = 0 := by
      have : ¬ 0 < r := by simp at hc; omega
      omega
    subst hr0
    simp only [lkDrawF] at hT
    subst hT
    have fy := Nat.add_zero
    refine goR ?_ ?_ ?_ ?_ ?_ ?_ ?_ ?_ ?_ ?_ ?_ ?_ ?_ ?_ ?_ ?_
    any_goals (first | exact True.intro | skip)
    all_goals (repeat (refine Wh.mk fun hcc => ?_))
    all_goals exact SW.ret (show RetQ _ _ _ _ _ _ _ from RetQ.y [0] [.nd [.ow 3 (L.1.map Enc.o), .ow 3 (L.2.1.map Enc.o)]])
noncomputable def drawLocks (l : List UInt8) : LkT := (lkDrawF l (belowF l (0, newF l) (sizeF l 30 : Nat)).2.toNat (belowF l (0, newF l) (sizeF l 30 : Nat)).1 (([], [], ()) : LkT)).2
theorem sizeF_pos (l : List UInt8) (most : Nat) (h : 3 ≤ most) : 3 ≤ sizeF l most := by unfold sizeF; split <;> omega
theorem drawLocks_ok (l : List UInt8) (hl : l.length ≤ 1048576) : LkOk (drawLocks l) ∧ (drawLocks l).1.length + (drawLocks l).2.1.length ≤ 29 := by
  obtain ⟨e1, p1, _⟩ := belowF_ok l (0, newF l) (sizeF l 30 : Nat) hl (Nat.zero_le _)
  have h1 := sizeF_le l 30
  have h2 := sizeF_pos l 30 (by decide)
  have h3 := p1.2 (by omega)
  obtain ⟨_, h5, h6⟩ := lkDraw_ok l hl (belowF l (0, newF l) (sizeF l 30 : Nat)).2.toNat (belowF l (0, newF l) (sizeF l 30 : Nat)).1 (([], [], ()) : LkT) e1 lk0_ok (by simp; omega)
  refine ⟨h5, ?_⟩
  unfold drawLocks
  simp only [List.length_nil, Nat.zero_add] at h6
  omega
theorem drawLocksW_ok (l : List UInt8) (hl : l.length ≤ 1048576) : CallR Try.prog 35 [.sl .s (l.map Enc.b)] [] (.nd [.ow 3 (((drawLocks l).1).map Enc.o), .ow 3 (((drawLocks l).2.1).map Enc.o)]) := by
  refine CallR.of_body (n := 10) (rs := [.cell 2 43]) hY.ok Try.func35 rfl (by decide) rfl rfl rfl rfl (fun F => ?_)
  have fx := And.intro Y3 (And.intro Y5 (And.intro Y22 (And.intro Y41 (And.intro Y43 (And.intro Y50 (Y104))))))
  have c1 := newF_ok l hl
  have c2 := l1Size_ok l hl 30 (by decide)
  have c3 := lkDrawW_ok l (0, newF l) hl (Nat.zero_le _) (sizeF l 30) (by have := sizeF_pos l 30 (by decide); omega) (by have := sizeF_le l 30; omega)
  unfold drawLocks
  generalize newF l = h at *
  generalize lkDrawF l (belowF l (0, h) (sizeF l 30 : Nat)).2.toNat (belowF l (0, h) (sizeF l 30 : Nat)).1 (([], [], ()) : LkT) = r at *
  generalize sizeF l 30 = z at *
  obtain ⟨⟨n0, h0⟩, A, B, ⟨⟩⟩ := r
  simp only [Int.natCast_zero, Int.cast_ofNat_Int] at c1 c2 c3 ⊢
  have hC1 := cx [.own 1] (c1)
  have hC2 := cx [.own 1, .own 0] (c2)
  have hC3 := cx [.io] (c3)
  have fy := Nat.add_zero
  refine goR ?_ ?_ ?_ ?_ ?_ ?_ ?_ ?_ ?_ ?_ ?_ ?_ ?_ ?_ ?_ ?_
  any_goals (first | exact True.intro | skip)
  all_goals (repeat (refine Wh.mk fun hcc => ?_))
  all_goals exact SW.ret (show RetQ _ _ _ _ _ _ _ from RetQ.y [0] [.nd [.ow 3 (A.map Enc.o), .ow 3 (B.map Enc.o)]])
end Q6

namespace Q6
open Go Go.Vm Go.Proofs
set_option maxHeartbeats 4000000
set_option synthInstance.maxSize 2000
set_option synthInstance.maxHeartbeats 400000
set_option maxRecDepth 10000
set_option linter.unusedSimpArgs false
set_option linter.unusedVariables false

open Qlk

theorem filt_get {tx : Int} {l : List GrT} {j : Nat} (h : j < l.length) : (l.take (j + 1)).filter (notTx tx) = (l.take j).filter (notTx tx) ++ (if notTx tx l[j] = true then [l[j]] else []) := by
  rw [List.take_succ_eq_append_getElem h, List.filter_append]
  congr 1
  cases hb : notTx tx l[j] <;> simp [hb]

theorem delete_ok (tx : Int) (l : List GrT) (hl : l.length ≤ 1000) : CallR Try.prog 88 [.ow 3 (l.map Enc.o), .fn 87 [] [.fp (.int .i64 tx)]] [] (.ow 3 ((l.filter (notTx tx)).map Enc.o)) := by
  refine CallR.of_body (n := 42) (rs := [.tmp 4]) hY.ok Try.func88 rfl (by decide) rfl rfl rfl rfl (fun F => ?_)
  have fx := And.intro Y3 (And.intro Y4 (And.intro Y41 (And.intro Y50 (Y123))))
  have hI := idxD_ok tx l ⟨by omega, fun _ _ => ⟨trivial, trivial, trivial, trivial⟩⟩
  have hwN : IntKind.i64.wrap (-1) = -1 := rfl
  rcases idx_cases (fun x : GrT => decide (x.1 = tx)) l with ⟨i, hi, h1, h2, h3, h4⟩ | ⟨h1, h3⟩
  rotate_left
  · rw [h1] at hI
    have hf : l.filter (notTx tx) = l := by
      rw [List.filter_eq_self]; intro x hx
      rw [List.find?_eq_none] at h3
      unfold notTx; simpa using h3 x hx
    rw [hf]
    have hC1 := cx [] (hI)
    have fy := Nat.add_zero
    refine goR ?_ ?_ ?_ ?_ ?_ ?_ ?_ ?_ ?_ ?_ ?_ ?_ ?_ ?_ ?_ ?_
    any_goals (first | exact True.intro | skip)
    all_goals (repeat (refine Wh.mk fun hcc => ?_))
    all_goals exact SW.ret (show RetQ _ _ _ _ _ _ _ from RetQ.y [3] [.ow 3 (l.map Enc.o)])
  rw [h1] at hI
  have hne : ((i : Int) == -1) = false := by first | (simp; done) | (simp; omega)
  have hK0 : (l.take i).filter (notTx tx) = l.take i := by
    rw [List.filter_eq_self]; intro x hx
    obtain ⟨k, hk, rfl⟩ := List.mem_iff_getElem.1 hx
    have hk2 : k < i := by rw [List.length_take] at hk; omega
    rw [List.getElem_take]; unfold notTx; simpa using h4 k hk2
  have hK1 : (l.take (i + 1)).filter (notTx tx) = l.take i := by
    rw [filt_get hi, hK0]
    have : notTx tx l[i] = false := by unfold notTx; simpa using h2
    simp [this]
  have hwi : IntKind.i64.wrap ((i : Int) + 1) = ((i + 1 : Nat) : Int) := by rw [wrap64 _ (by omega) (by omega)]; omega
  have hC1 := cx [] (hI)
  have fy := And.intro hne (hwi)
  refine goR ?_ ?_ ?_ ?_ ?_ ?_ ?_ ?_ ?_ ?_ ?_ ?_ ?_ ?_ ?_ ?_
  any_goals (first | exact True.intro | skip)
  all_goals (repeat (refine Wh.mk fun hcc => ?_))
  refine SW.loop (fun x : Nat × List GrT => ⟨[.ref 0 0 0 l.length, .fn 87 [] [.fp (.int .i64 tx)], .undef, .undef, .undef, .int .i64 (((l.take x.1).filter (notTx tx)).length : Nat), .int .i64 (x.1 : Nat), .undef, .undef, .undef, .undef, .undef, .undef, .undef, .undef, .undef, .undef, .undef, .undef, .undef, .undef, .undef, .undef, .undef, .undef, .undef, .undef, .undef, .undef, .undef, .undef, .undef, .undef, .undef, .undef, .undef, .undef, .undef, .undef, .undef, .undef, .undef], [[.arr 3 (x.2.map Enc.o) false]]⟩)
    (fun N x => N = l.length - x.1 ∧ x.1 ≤ l.length ∧ x.2.length = l.length ∧ x.2.take ((l.take x.1).filter (notTx tx)).length = ((l.take x.1).filter (notTx tx)) ∧ (∀ k, x.1 ≤ k → x.2[k]? = l[k]?) ∧ ((l.take x.1).filter (notTx tx)).length < x.1) (n := l.length - (i + 1)) (x := (i + 1, l)) ?_ ⟨rfl, hi, rfl, by simp only [hK1]; simp, fun _ _ => rfl, by simp only [hK1, List.length_take]; omega⟩ ?_
  · simp only [hK1, List.length_take, Nat.min_eq_left (Nat.le_of_lt hi)]
    exact Norm.re [0] (by decide) rfl (by first | (simp only [eq_self, heapFits, rowFits, obFits, List.getElem?_cons_zero, List.getElem?_cons_succ, renL_o, renL_b, true_and, and_true, and_self]; done) | simp [-List.map_set, -List.map_append, heapFits, rowFits, obFits, T.ren, renL]) (by simp [tmFits, T.ren, renL])
  rintro N ⟨j, A⟩ ⟨hN, hj, hAl, hAt, hAd, hKj⟩
  simp only at hN hj hAl hAt hAd hKj ⊢
  have fy := Nat.add_zero
  refine goS ?_
  refine SW.cond rfl (fun hc => ?_) (fun hc => ?_)
  · have hlt : j < l.length := by simp at hc; omega
    have hltI : (j : Int) < (l.length : Int) := by omega
    have hg : (A.map Enc.o)[j]? = some (.nd [.int .i64 l[j].1, .int .i64 l[j].2.1, .int .i64 l[j].2.2.1]) := by rw [List.getElem?_map, hAd j (Nat.le_refl _), List.getElem?_eq_getElem hlt]; rfl
    have hF := filt_get (tx := tx) hlt
    have hC := cld_ok l[j] tx
    have hwj : IntKind.i64.wrap ((j : Int) + 1) = ((j + 1 : Nat) : Int) := by rw [wrap64 _ (by omega) (by omega)]; omega
    generalize ((l.take j).filter (notTx tx)) = K at *
    have hgK : (A.map Enc.o)[K.length]? = some (.nd [.int .i64 (((A[K.length]'(by omega))).1), .int .i64 (((A[K.length]'(by omega))).2.1), .int .i64 (((A[K.length]'(by omega))).2.2.1)]) := map_get Enc.o A K.length (by omega)
    have hset : (A.map Enc.o).set K.length (.nd [.int .i64 l[j].1, .int .i64 l[j].2.1, .int .i64 l[j].2.2.1]) = (A.set K.length l[j]).map Enc.o := by rw [List.map_set]; rfl
    have hKI : (K.length : Int) < (l.length : Int) := by omega
    have hwK : IntKind.i64.wrap ((K.length : Int) + 1) = ((K.length + 1 : Nat) : Int) := by rw [wrap64 _ (by omega) (by omega)]; omega
    have hn : notTx tx l[j] = !decide (l[j].1 = tx) := rfl
    generalize decide (l[j].1 = tx) = b at *
    generalize l[j] = y at *
    cases b
    · rw [if_pos (by rw [hn]; rfl)] at hF
      have hC1 := cx [] (hC)
      have fy := And.intro hg (And.intro hltI (And.intro hwj (And.intro hgK (And.intro hset (And.intro hKI (hwK))))))
      refine goR ?_ ?_ ?_ ?_ ?_ ?_ ?_ ?_ ?_ ?_ ?_ ?_ ?_ ?_ ?_ ?_
      any_goals (first | exact True.intro | skip)
      all_goals (repeat (refine Wh.mk fun hcc => ?_))
      refine ⟨N - 1, (j + 1, A.set K.length y), by omega, ⟨by simp only; omega, by simp only; omega, by simp [hAl], ?_, ?_, ?_⟩, ?_⟩
      · simp only [hF]; rw [List.length_append, List.length_singleton, List.take_succ_eq_append_getElem (by rw [List.length_set]; omega), List.getElem_set_self, List.take_set_of_le (Nat.le_refl _), hAt]
      · intro k hk
        simp only at hk ⊢
        rw [List.getElem?_set_ne (by omega)]; exact hAd k (by omega)
      · simp only [hF, List.length_append, List.length_singleton]; omega
      · simp only [hF, List.length_append, List.length_singleton]
        exact Norm.re [0] (by decide) rfl (by first | (simp only [eq_self, heapFits, rowFits, obFits, List.getElem?_cons_zero, List.getElem?_cons_succ, renL_o, renL_b, true_and, and_true, and_self]; done) | simp [-List.map_set, -List.map_append, heapFits, rowFits, obFits, T.ren, renL]) (by simp [tmFits, T.ren, renL])
    · rw [if_neg (by rw [hn]; decide), List.append_nil] at hF
      have hC1 := cx [] (hC)
      have fy := And.intro hg (And.intro hltI (hwj))
      refine goR ?_ ?_ ?_ ?_ ?_ ?_ ?_ ?_ ?_ ?_ ?_ ?_ ?_ ?_ ?_ ?_
      any_goals (first | exact True.intro | skip)
      all_goals (repeat (refine Wh.mk fun hcc => ?_))
      refine ⟨N - 1, (j + 1, A), by omega, ⟨by simp only; omega, by simp only; omega, hAl, by simp only [hF]; exact hAt, fun k hk => hAd k (by simp only at hk; omega), by simp only [hF]; omega⟩, ?_⟩
      simp only [hF]
      exact Norm.re [0] (by decide) rfl (by first | (simp only [eq_self, heapFits, rowFits, obFits, List.getElem?_cons_zero, List.getElem?_cons_succ, renL_o, renL_b, true_and, and_true, and_self]; done) | simp [-List.map_set, -List.map_append, heapFits, rowFits, obFits, T.ren, renL]) (by simp [tmFits, T.ren, renL])
  · have hge : j = l.length := by
      have : ¬ j < l.length := by simp at hc; omega
      omega
    subst hge
    rw [List.take_length] at hAt hKj ⊢
    generalize l.filter (notTx tx) = K at *
    have hs1 := fun (e j : Nat) (H : Heap) (q1 : H.at e j = some (.arr 3 (A.map Enc.o) false)) => show (sliceM Y 41 (.ref e j 0 l.length) (some (.int .i64 (K.length : Nat))) none none).run H = some { v := .ref e j K.length (l.length - K.length) } by simp only [sliceM, Y41, loF, hiF]; rw [if_pos ⟨by omega, by omega, Int.le_refl _⟩]; simp [RM.run, q1, Y50]
    have hs2 := fun (L : List T) (e j : Nat) (H : Heap) (q1 : H.at e j = some (.arr 3 L false)) => show (sliceM Y 41 (.ref e j 0 l.length) none (some (.int .i64 (K.length : Nat))) none).run H = some { v := .ref e j 0 K.length } by simp only [sliceM, Y41, loF, hiF]; rw [if_pos ⟨by decide, by omega, by omega⟩]; simp [RM.run, q1, Y50]
    have hcl := fun (e j : Nat) (H : Heap) (q1 : H.at e j = some (.arr 3 (A.map Enc.o) false)) => show (clearM Y 41 (.ref e j K.length (l.length - K.length))).run H = some { v := .tup [], ups := [(e, j, .arr 3 ((A.map Enc.o).take K.length ++ (List.replicate (l.length - K.length) (zeroT Y 9 50) ++ (A.map Enc.o).drop (K.length + (l.length - K.length)))) false)] } by simp only [clearM, Y41, Y50, RM.run, q1]; rw [if_pos (by refine ⟨?_, ?_, ?_, ?_⟩ <;> first | trivial | rfl | decide | (rw [List.length_map]; omega))]; simp only [RM.run]
    generalize List.replicate (l.length - K.length) (zeroT Y 9 50) ++ (A.map Enc.o).drop (K.length + (l.length - K.length)) = Z at *
    have hs2 := hs2 ((A.map Enc.o).take K.length ++ Z)
    have fy := And.intro hs1 (And.intro hs2 (hcl))
    refine goR ?_ ?_ ?_ ?_ ?_ ?_ ?_ ?_ ?_ ?_ ?_ ?_ ?_ ?_ ?_ ?_
    any_goals (first | exact True.intro | skip)
    all_goals (repeat (refine Wh.mk fun hcc => ?_))
    refine SW.norm (Norm.trunc 0 0 K.length rfl) ?_
    have htk : ((A.map Enc.o).take K.length ++ Z).take K.length = K.map Enc.o := by
      rw [← List.map_take, hAt, List.take_append_of_le_length (by simp), List.take_of_length_le (by simp)]
    simp only [Heap.put, List.getElem?_cons_zero, List.set_cons_zero, htk]
    exact SW.ret (show RetQ _ _ _ _ _ _ _ from RetQ.y [3] [.ow 3 (K.map Enc.o)])
end Q6

namespace Q6
open Go Go.Vm Go.Proofs
set_option maxHeartbeats 4000000
set_option synthInstance.maxSize 2000
set_option synthInstance.maxHeartbeats 400000
set_option maxRecDepth 10000
set_option linter.unusedSimpArgs false
set_option linter.unusedVariables false

open Qlk

noncomputable def dropAll (G W : List GrT) (tx : Int) : LkT × List Int := if lkB G W = true then dropF (G, W, ()) tx else ((G, W, ()), [])
theorem openD (tm : List T) (A ws lf : List GrT) (gt : List Int) : Norm ⟨tm, [[], [.var (.nd [.nils 3, .nils 3])], [.var (.nd [.ow 3 ((A).map Enc.o), .any])], [.arr 3 ((ws).map Enc.o) false], [.arr 3 ((lf).map Enc.o) false], [.arr 1 ((gt).map Enc.o) false]]⟩ ⟨tm, [[], [.var (.nd [.nils 3, .nils 3])], [.var (.nd [.ref 6 0 0 (A).length, .any])], [.arr 3 ((ws).map Enc.o) false], [.arr 3 ((lf).map Enc.o) false], [.arr 1 ((gt).map Enc.o) false], [.arr 3 ((A).map Enc.o) false]]⟩ := by
  have h := Norm.expelVar (tm := tm) (H := [[], [.var (.nd [.nils 3, .nils 3])], [.var (.nd [.ow 3 ((A).map Enc.o), .any])], [.arr 3 ((ws).map Enc.o) false], [.arr 3 ((lf).map Enc.o) false], [.arr 1 ((gt).map Enc.o) false]]) 2 0 rfl
  simp only [thawA, thawAL, Heap.put, List.getElem?_cons_zero, List.getElem?_cons_succ, List.set_cons_zero, List.set_cons_succ, List.length_cons, List.length_nil, List.nil_append, List.cons_append, List.append_nil, Nat.zero_add, Nat.reduceAdd, List.length_map] at h
  exact h

theorem sDropAll_ok (G W : List GrT) (hG : G.length ≤ 1048576) (hW : W.length ≤ 1048576) (tx : Int) : CallR Try.prog 26 [.nd [.sl .b (G.map Enc.b), .sl .b (W.map Enc.b)], .int .i64 tx] [] (.tup [.nd [.ow 3 ((dropAll G W tx).1.1.map Enc.o), .ow 3 ((dropAll G W tx).1.2.1.map Enc.o)], .ow 1 ((dropAll G W tx).2.map Enc.o)]) := by
  refine CallR.of_body (n := 19) (rs := [.cell 4 43, .tmp 5]) hY.ok Try.func26 rfl (by decide) rfl rfl rfl rfl (fun F => ?_)
  have fx := And.intro Y3 (And.intro Y4 (And.intro Y27 (And.intro Y41 (And.intro Y43 (And.intro Y50 (Y131))))))
  have c1 := sCopy_ok G W hG hW
  have c2 := sLocksOk_ok G W hG hW
  unfold dropAll
  cases hk : lkB G W
  · rw [hk] at c2
    rw [if_neg (by decide)]
    have hC1 := cx [] (c1)
    have hC2 := cx [] (c2)
    have fy := bs0_27
    refine goR ?_ ?_ ?_ ?_ ?_ ?_ ?_ ?_ ?_ ?_ ?_ ?_ ?_ ?_ ?_ ?_
    any_goals (first | exact True.intro | skip)
    all_goals (repeat (refine Wh.mk fun hcc => ?_))
    all_goals exact SW.ret (show RetQ _ _ _ _ _ _ _ from RetQ.y [0, 1] [.nd [.ow 3 (G.map Enc.o), .ow 3 (W.map Enc.o)], .ow 1 []])
  · rw [hk] at c2
    rw [if_pos rfl]
    have c3 := sDrop_ok G W (lkB_iff.1 hk) tx
    unfold dropF
    generalize dropR (G, W, ()) tx = s at *
    obtain ⟨A, B, C⟩ := s
    simp only at *
    have hC1 := cx [] (c1)
    have hC2 := cx [] (c2)
    have fy := bs0_27
    refine goR ?_ ?_ ?_ ?_ ?_ ?_ ?_ ?_ ?_ ?_ ?_ ?_ ?_ ?_ ?_ ?_
    any_goals (first | exact True.intro | skip)
    all_goals (repeat (refine Wh.mk fun hcc => ?_))
    have hC1 := cx [.io] (c3)
    have fy := Nat.add_zero
    refine vcall_c hC1 (hK := ?_)
    simp only [k13, upT_g, dnT_g, nb_g, dnT_b, dnT_s, dnT_0, dnT_r, fx, fy, wo, decide_true, decide_false, wz0, wz1, wz2, wz3, wz4, wz5, wz6, wz7, wz8, appM, Ty.isInt, capT, appendZM, buildM, setAll, plSt, plAr, mnmx, Int.reduceLT, vrec, List.drop_succ_cons, List.drop_zero, convertM, indexM, fieldM, Int.toNat_zero, Int.toNat_one, Int.le_refl, Int.zero_le_ofNat, Int.reduceEq, Int.reduceNe, ne_eq, not_false_eq_true, u8_wrap, marksG_len, marks_len, bne_self_eq_false, take_map_len, tgL_byte, T.asArr, T.tg, tgL, indexAddrM, wk, wl, eq_self, isCall, callT, opM, S.ev, S.put, entryS, thawAL, thawA, RM.run, RM.bind, RM.ofOpt, allocs, Heap.ups, Heap.put, Heap.at, List.replicate, Nat.reduceAdd, Nat.reduceSub, ofConst, nilAs, if_false, if_true, binT, binTy, unT, guardT, quietK, reduceIte, boxM, allocM, loadM, storeM, fieldAddrM, lenT, extractT, subM, setOb, T.get, T.setp, T.offs, T.nw, nwL, T.cel, T.isNd, T.size, sizeL, TyI.agg, Ty.agg, Ty.isFn, zeroT, Nat.reduceLT, Nat.reduceEqDiff, sumT, kill]
    try simp only [thenS, blockS, if_true, if_false, Nat.reduceEqDiff, reduceIte]
    refine SW.norm (Norm.expelVar 4 0 rfl) ?_
    simp only [thawA, thawAL, Heap.put, List.getElem?_cons_zero, List.getElem?_cons_succ, List.set_cons_zero, List.set_cons_succ, List.length_cons, List.length_nil, List.nil_append, List.cons_append, List.append_nil, Nat.zero_add, Nat.reduceAdd, List.length_map]
    have fy := Nat.add_zero
    refine goR ?_ ?_ ?_ ?_ ?_ ?_ ?_ ?_ ?_ ?_ ?_ ?_ ?_ ?_ ?_ ?_
    any_goals (first | exact True.intro | skip)
    all_goals (repeat (refine Wh.mk fun hcc => ?_))
    all_goals exact SW.ret (show RetQ _ _ _ _ _ _ _ from RetQ.y [0, 1] [.nd [.ow 3 (A.map Enc.o), .ow 3 (B.map Enc.o)], .ow 1 (C.map Enc.o)])
theorem iDropAll_ok (G W : List GrT) (hG : G.length ≤ 1048576) (hW : W.length ≤ 1048576) (tx : Int) : CallR Try.prog 28 [.nd [.sl .b (G.map Enc.b), .sl .b (W.map Enc.b)], .int .i64 tx] [] (.tup [.nd [.ow 3 ((dropAll G W tx).1.1.map Enc.o), .ow 3 ((dropAll G W tx).1.2.1.map Enc.o)], .ow 1 ((dropAll G W tx).2.map Enc.o)]) := by
  refine CallR.of_body (n := 71) (rs := [.cell 4 43, .tmp 5]) hY.ok Try.func28 rfl (by decide) rfl rfl rfl rfl (fun F => ?_)
  have fx := And.intro Y1 (And.intro Y3 (And.intro Y4 (And.intro Y27 (And.intro Y41 (And.intro Y43 (And.intro Y50 (Y123)))))))
  have c1 := cloneLocks_ok G W hG hW
  have c2 := iLocksOk_ok G W hG hW
  unfold dropAll
  cases hk : lkB G W
  · rw [hk] at c2
    rw [if_neg (by decide)]
    have hC1 := cx [] (c1)
    have hC2 := cx [] (c2)
    have fy := Nat.add_zero
    refine goR ?_ ?_ ?_ ?_ ?_ ?_ ?_ ?_ ?_ ?_ ?_ ?_ ?_ ?_ ?_ ?_
    any_goals (first | exact True.intro | skip)
    all_goals (repeat (refine Wh.mk fun hcc => ?_))
    all_goals exact SW.ret (show RetQ _ _ _ _ _ _ _ from RetQ.y [0, 1] [.nd [.ow 3 (G.map Enc.o), .ow 3 (W.map Enc.o)], .ow 1 []])
  · rw [hk] at c2
    rw [if_pos rfl]
    have hl := lkB_iff.1 hk
    have hG6 := hl.gl
    have hW6 := hl.wl
    simp only at hG6 hW6
    have hD := DI.init hl tx
    have c3 := delete_ok tx G (by omega)
    have c4 := delete_ok tx W (by omega)
    unfold dropF dropR
    simp only at hD ⊢
    have hwl : (W.filter (notTx tx)).length ≤ 60 := by have := List.length_filter_le (notTx tx) W; omega
    generalize W.filter (notTx tx) = ws at *
    generalize hs0 : ((G.filter (notTx tx), ([] : List GrT), ([] : List Int)) : DS) = s0 at *
    have e1 : G.filter (notTx tx) = s0.1 := by rw [← hs0]
    have e2 : ([] : List GrT) = s0.2.1 := by rw [← hs0]
    have e3 : ([] : List Int) = s0.2.2 := by rw [← hs0]
    rw [e1] at c3
    have hC1 := cx [] (c1)
    have hC2 := cx [] (c2)
    have hC3 := cx [.own 3] (c3)
    have hC4 := cx [.own 3] (c4)
    have fy := And.intro bs0_41 (bs0_27)
    refine goR ?_ ?_ ?_ ?_ ?_ ?_ ?_ ?_ ?_ ?_ ?_ ?_ ?_ ?_ ?_ ?_
    any_goals (first | exact True.intro | skip)
    all_goals (repeat (refine Wh.mk fun hcc => ?_))
    refine SW.loop (fun x : Nat × DS => ⟨[.undef, .undef, .undef, .undef, .ptr 1 0 [] 0, .undef, .undef, .ptr 2 0 [] 0, .undef, .ref 5 0 0 x.2.2.2.length, .ref 4 0 0 x.2.2.1.length, .undef, .undef, .undef, .undef, .undef, .undef, .undef, .undef, .undef, .undef, .undef, .undef, .undef, .undef, .undef, .undef, .undef, .undef, .undef, .undef, .undef, .undef, .undef, .ref 3 0 0 ws.length, .int .i64 (ws.length : Nat), .int .i64 (x.1 : Nat), .undef, .undef, .undef, .undef, .undef, .undef, .undef, .undef, .undef, .undef, .undef, .undef, .undef, .undef, .undef, .undef, .undef, .undef, .undef, .undef, .undef, .undef, .undef, .undef, .undef, .undef, .undef, .undef, .undef, .undef, .undef, .undef, .undef, .undef], [[], [.var (.nd [.nils 3, .nils 3])], [.var (.nd [.ref 6 0 0 (x.2.1).length, .any])], [.arr 3 ((ws).map Enc.o) false], [.arr 3 ((x.2.2.1).map Enc.o) false], [.arr 1 ((x.2.2.2).map Enc.o) false], [.arr 3 ((x.2.1).map Enc.o) false]]⟩)
      (fun N x => N = ws.length - x.1 ∧ x.1 ≤ ws.length ∧ x.2 = (ws.take x.1).foldl dropS s0 ∧ DI tx (G.length + W.length) ws.length x.2 (ws.drop x.1)) (n := ws.length) (x := (0, s0)) ?_ ⟨rfl, Nat.zero_le _, rfl, hD⟩ ?_
    · refine Norm.trans ?_ (openD _ s0.1 ws s0.2.1 s0.2.2)
      rw [← e2, ← e3]
      refine Norm.trans (Norm.forget (u := .nd [.ref 7 0 0 s0.1.length, .any]) 6 0 rfl (.inr ⟨_, rfl, ⟨_, _, rfl, .inl rfl, ⟨_, _, rfl, .inr rfl, rfl⟩⟩⟩)) ?_
      simp only [Heap.put, List.getElem?_cons_zero, List.getElem?_cons_succ, List.set_cons_succ, List.set_cons_zero]
      refine Norm.trans (Norm.soakVar 6 0 rfl) ?_
      simp only [soakS, soakL, Heap.at, Heap.put, List.getElem?_cons_zero, List.getElem?_cons_succ, List.set_cons_zero, List.set_cons_succ, List.length_map, List.length_nil, and_self, if_true]
      exact Norm.re [0, 3, 6, 8, 10, 9] (by decide) rfl (by first | (simp only [eq_self, heapFits, rowFits, obFits, List.getElem?_cons_zero, List.getElem?_cons_succ, renL_o, renL_b, true_and, and_true, and_self]; done) | simp [-List.map_set, -List.map_append, heapFits, rowFits, obFits, T.ren, renL]) (by simp [tmFits, T.ren, renL])
    clear hs0 e1 e2 e3 c1 c2 c3 c4 hD
    rintro N ⟨i, s⟩ ⟨hN, hi, hs, hd⟩
    simp only at hN hi hs hd ⊢
    have fy := Nat.add_zero
    refine goS ?_
    refine SW.cond rfl (fun hc => ?_) (fun hc => ?_)
    · have hlt : i < ws.length := by simp at hc; omega
      have hltI : (i : Int) < (ws.length : Int) := by omega
      have hg : (ws.map Enc.o)[i]? = some (.nd [.int .i64 ws[i].1, .int .i64 ws[i].2.1, .int .i64 ws[i].2.2.1]) := map_get Enc.o ws i hlt
      have hwi : IntKind.i64.wrap ((i : Int) + 1) = ((i + 1 : Nat) : Int) := by rw [wrap64 _ (by omega) (by omega)]; omega
      have hst := drop_step s0 ws i hlt
      rw [← hs] at hst
      rw [List.drop_eq_getElem_cons hlt] at hd
      have hd2 := hd.step
      have hn := hd.n
      have hk2 := hd.k
      simp only [List.length_cons] at hn hk2
      have hgr := fun x hx => (hd.g x hx).1
      have hgg := (hd.t ws[i] List.mem_cons_self).1
      have cW := would_y s.1 (by omega) ws[i]
      rw [wouldI_eq hgr hgg] at cW
      have cF := allGo_y s.1 (by omega) ws[i] (wouldF s.1 ws[i])
      have cR : CallR Try.prog _ _ _ (.bool (forRes s.2.1 ws[i].2.1)) := anyE_ok ws[i] s.2.1 ⟨by omega, fun _ _ => ⟨trivial, trivial, trivial, trivial⟩⟩
      have cG := give_y s.1 (by omega) ws[i] (wouldF s.1 ws[i])
      have hS : dropS s ws[i] = if (fitsF s.1 ws[i] (wouldF s.1 ws[i]) && !forRes s.2.1 ws[i].2.1) = true then (giveF s.1 ws[i] (wouldF s.1 ws[i]), s.2.1, s.2.2 ++ [ws[i].1]) else (s.1, s.2.1 ++ [ws[i]], s.2.2) := rfl
      generalize giveF s.1 ws[i] (wouldF s.1 ws[i]) = G2 at *
      generalize fitsF s.1 ws[i] (wouldF s.1 ws[i]) = b1 at *
      generalize forRes s.2.1 ws[i].2.1 = b2 at *
      generalize wouldF s.1 ws[i] = m at *
      generalize hgi : ws[i] = g at *
      generalize dropS s g = s2 at *
      obtain ⟨A, B, C⟩ := s
      simp only at *
      cases b2
      rotate_left
      · skip
        rw [if_neg (by simp)] at hS
        have hap := fun (own e j e2 j2 : Nat) (H : Heap) (q1 : H.at e j = some (.arr 3 ((B).map Enc.o) false)) (q2 : H.at e2 j2 = some (.arr 3 [.nd [.int .i64 g.1, .int .i64 g.2.1, .int .i64 g.2.2.1]] false)) => append_runP (Y := Y) (own := own) (t := 41) (u := 41) (e := e) (j := j) (off := 0) (n := (B).length) (e2 := e2) (j2 := j2) (f := (B).map Enc.o) (l := B) (x := g) (H := H) Y41 Y41 Y50 rfl (by decide) q1 q2 (by rw [List.drop_zero]; exact take_map_len _ _) (by simp) (by omega) rfl rfl
        have hC1 := cx [] (cW)
        have hC2 := cx [] (cR)
        have fy := And.intro hg (And.intro hltI (And.intro hwi (And.intro bs1_41 (hap))))
        refine goR ?_ ?_ ?_ ?_ ?_ ?_ ?_ ?_ ?_ ?_ ?_ ?_ ?_ ?_ ?_ ?_
        any_goals (first | exact True.intro | skip)
        all_goals (repeat (refine Wh.mk fun hcc => ?_))
        refine ⟨N - 1, (i + 1, s2), by omega, ⟨by simp only; omega, by simp only; omega, hst.symm, hd2⟩, ?_⟩
        rw [hS]
        exact Norm.re [0, 1, 2, 3, 11, 5, 6] (by decide) rfl (by first | (simp only [eq_self, heapFits, rowFits, obFits, List.getElem?_cons_zero, List.getElem?_cons_succ, renL_o, renL_b, true_and, and_true, and_self]; done) | simp [-List.map_set, -List.map_append, heapFits, rowFits, obFits, T.ren, renL]) (by simp [tmFits, T.ren, renL])
      · cases b1
        · skip
          rw [if_neg (by simp)] at hS
          have hap := fun (own e j e2 j2 : Nat) (H : Heap) (q1 : H.at e j = some (.arr 3 ((B).map Enc.o) false)) (q2 : H.at e2 j2 = some (.arr 3 [.nd [.int .i64 g.1, .int .i64 g.2.1, .int .i64 g.2.2.1]] false)) => append_runP (Y := Y) (own := own) (t := 41) (u := 41) (e := e) (j := j) (off := 0) (n := (B).length) (e2 := e2) (j2 := j2) (f := (B).map Enc.o) (l := B) (x := g) (H := H) Y41 Y41 Y50 rfl (by decide) q1 q2 (by rw [List.drop_zero]; exact take_map_len _ _) (by simp) (by omega) rfl rfl
          have hC1 := cx [] (cW)
          have hC2 := cx [] (cR)
          have hC3 := cx [] (cF)
          have fy := And.intro hg (And.intro hltI (And.intro hwi (And.intro bs1_41 (hap))))
          refine goR ?_ ?_ ?_ ?_ ?_ ?_ ?_ ?_ ?_ ?_ ?_ ?_ ?_ ?_ ?_ ?_
          any_goals (first | exact True.intro | skip)
          all_goals (repeat (refine Wh.mk fun hcc => ?_))
          refine ⟨N - 1, (i + 1, s2), by omega, ⟨by simp only; omega, by simp only; omega, hst.symm, hd2⟩, ?_⟩
          rw [hS]
          exact Norm.re [0, 1, 2, 3, 12, 5, 6] (by decide) rfl (by first | (simp only [eq_self, heapFits, rowFits, obFits, List.getElem?_cons_zero, List.getElem?_cons_succ, renL_o, renL_b, true_and, and_true, and_self]; done) | simp [-List.map_set, -List.map_append, heapFits, rowFits, obFits, T.ren, renL]) (by simp [tmFits, T.ren, renL])
        · rw [if_pos (by simp)] at hS
          have hap := fun (own e j e2 j2 : Nat) (H : Heap) (q1 : H.at e j = some (.arr 1 ((C).map Enc.o) false)) (q2 : H.at e2 j2 = some (.arr 1 [.int .i64 g.1] false)) => append_runP (Y := Y) (own := own) (t := 27) (u := 27) (e := e) (j := j) (off := 0) (n := (C).length) (e2 := e2) (j2 := j2) (f := (C).map Enc.o) (l := C) (x := g.1) (H := H) Y27 Y27 Y3 rfl (by decide) q1 q2 (by rw [List.drop_zero]; exact take_map_len _ _) (by simp) (by omega) rfl rfl
          have hC1 := cx [] (cW)
          have hC2 := cx [] (cR)
          have hC3 := cx [] (cF)
          have hC4 := cx [.io] (cG)
          have fy := And.intro hg (And.intro hltI (And.intro hwi (And.intro bs1_27 (hap))))
          refine goR ?_ ?_ ?_ ?_ ?_ ?_ ?_ ?_ ?_ ?_ ?_ ?_ ?_ ?_ ?_ ?_
          any_goals (first | exact True.intro | skip)
          all_goals (repeat (refine Wh.mk fun hcc => ?_))
          refine ⟨N - 1, (i + 1, s2), by omega, ⟨by simp only; omega, by simp only; omega, hst.symm, hd2⟩, ?_⟩
          rw [hS]
          refine Norm.trans ?_ (openD _ G2 ws B (C ++ [g.1]))
          exact Norm.re [0, 1, 2, 3, 4, 13] (by decide) rfl (by first | (simp only [eq_self, heapFits, rowFits, obFits, List.getElem?_cons_zero, List.getElem?_cons_succ, renL_o, renL_b, true_and, and_true, and_self]; done) | simp [-List.map_set, -List.map_append, heapFits, rowFits, obFits, T.ren, renL]) (by simp [tmFits, T.ren, renL])
    · have hige : i = ws.length := by
        have : ¬ i < ws.length := by simp at hc; omega
        omega
      subst hige
      rw [List.take_length] at hs
      rw [← hs]
      obtain ⟨A, B, C⟩ := s
      simp only at *
      have fy := Nat.add_zero
      refine goR ?_ ?_ ?_ ?_ ?_ ?_ ?_ ?_ ?_ ?_ ?_ ?_ ?_ ?_ ?_ ?_
      any_goals (first | exact True.intro | skip)
      all_goals (repeat (refine Wh.mk fun hcc => ?_))
      all_goals exact SW.ret (show RetQ _ _ _ _ _ _ _ from RetQ.y [0, 1] [.nd [.ow 3 (A.map Enc.o), .ow 3 (B.map Enc.o)], .ow 1 (C.map Enc.o)])
end Q6

namespace Q6
open Go Go.Vm Go.Proofs
set_option maxHeartbeats 4000000
set_option synthInstance.maxSize 2000
set_option synthInstance.maxHeartbeats 400000
set_option maxRecDepth 10000
set_option linter.unusedSimpArgs false
set_option linter.unusedVariables false

open Qlk

def wtB (W : List GrT) (tx : Int) : Bool := W.any fun x => decide (x.1 = tx)
def askR (G W : List GrT) (g : GrT) : LkT × Int := if (lkB G W && (grB g && !wtB W g.1)) = true then askF (G, W, ()) g else ((G, W, ()), 2)
theorem has_ne {G : List GrT} (hv : ∀ x ∈ G, grB x = true) (g : GrT) : (∃ (i : Nat) (h : i < G.length), idxOf (isG g) G = (i : Int) ∧ hasF G g = G[i].2.2.1 ∧ hasF G g ≠ 0) ∨ (idxOf (isG g) G = -1 ∧ hasF G g = 0) := by
  rcases idx_cases (isG g) G with ⟨i, hi, h1, h2, h3, h4⟩ | ⟨h1, h3⟩
  · left
    have e : hasF G g = G[i].2.2.1 := by unfold hasF; rw [h3]
    have := mode_pos (grB_mode (hv _ (List.getElem_mem hi)))
    exact ⟨i, hi, h1, e, by rw [e]; omega⟩
  · right
    exact ⟨h1, by unfold hasF; rw [h3]⟩
theorem wait_ge (W : List GrT) (tx : Int) : decide (idxOf (fun x : GrT => decide (x.1 = tx)) W ≥ 0) = wtB W tx := idx_any _ _

theorem sAsk_ok (G W : List GrT) (hG : G.length < 60) (hW : W.length < 60) (g : GrT) : CallR Try.prog 22 [.nd [.sl .b (G.map Enc.b), .sl .b (W.map Enc.b)], .int .i64 g.1, .int .i64 g.2.1, .int .i64 g.2.2.1] [] (.tup [.nd [.ow 3 ((askR G W g).1.1.map Enc.o), .ow 3 ((askR G W g).1.2.1.map Enc.o)], .int .i64 (askR G W g).2]) := by
  refine CallR.of_body (n := 49) (rs := [.cell 8 43, .tmp 9]) hY.ok Try.func22 rfl (by decide) rfl rfl rfl rfl (fun F => ?_)
  have fx := And.intro Y1 (And.intro Y2 (And.intro Y3 (And.intro Y4 (And.intro Y41 (And.intro Y43 (And.intro Y50 (Y131)))))))
  have cC := sCopy_ok G W (by omega) (by omega)
  have cL := sLocksOk_ok G W (by omega) (by omega)
  have cB := sGrant_ok g
  have cW := sWaits_ok G W (by omega) g.1
  have hwt : (W.any fun x => decide (x.1 = g.1)) = wtB W g.1 := rfl
  rw [hwt] at cW
  unfold askR
  have n1 : ((G.length : Int) == 60) = false := by simp; omega
  have n2 : ((W.length : Int) == 60) = false := by simp; omega
  cases hk : lkB G W
  · rw [hk] at cL
    rw [if_neg (by simp)]
    have hC1 := cx [] (cC)
    have hC2 := cx [] (cL)
    have fy := And.intro n1 (n2)
    refine goR ?_ ?_ ?_ ?_ ?_ ?_ ?_ ?_ ?_ ?_ ?_ ?_ ?_ ?_ ?_ ?_
    any_goals (first | exact True.intro | skip)
    all_goals (repeat (refine Wh.mk fun hcc => ?_))
    all_goals exact SW.ret (show RetQ _ _ _ _ _ _ _ from RetQ.y [0, 0] [.nd [.ow 3 (G.map Enc.o), .ow 3 (W.map Enc.o)], .int .i64 2])
  rw [hk] at cL
  cases hg : grB g
  · rw [hg] at cB
    rw [if_neg (by simp)]
    have hC1 := cx [] (cC)
    have hC2 := cx [] (cL)
    have hC3 := cx [] (cB)
    have fy := And.intro n1 (n2)
    refine goR ?_ ?_ ?_ ?_ ?_ ?_ ?_ ?_ ?_ ?_ ?_ ?_ ?_ ?_ ?_ ?_
    any_goals (first | exact True.intro | skip)
    all_goals (repeat (refine Wh.mk fun hcc => ?_))
    all_goals exact SW.ret (show RetQ _ _ _ _ _ _ _ from RetQ.y [0, 0] [.nd [.ow 3 (G.map Enc.o), .ow 3 (W.map Enc.o)], .int .i64 2])
  rw [hg] at cB
  cases hw : wtB W g.1
  rotate_left
  · rw [hw] at cW
    rw [if_neg (by simp)]
    have hC1 := cx [] (cC)
    have hC2 := cx [] (cL)
    have hC3 := cx [] (cB)
    have hC4 := cx [] (cW)
    have fy := And.intro n1 (n2)
    refine goR ?_ ?_ ?_ ?_ ?_ ?_ ?_ ?_ ?_ ?_ ?_ ?_ ?_ ?_ ?_ ?_
    any_goals (first | exact True.intro | skip)
    all_goals (repeat (refine Wh.mk fun hcc => ?_))
    all_goals exact SW.ret (show RetQ _ _ _ _ _ _ _ from RetQ.y [0, 0] [.nd [.ow 3 (G.map Enc.o), .ow 3 (W.map Enc.o)], .int .i64 2])
  rw [hw] at cW
  rw [if_pos (by simp)]
  have hl := lkB_iff.1 hk
  have hv := hl.g
  simp only at hv
  have cA := sAsk0_ok G W (by omega) (by omega) hv g
  generalize askF (G, W, ()) g = D at *
  obtain ⟨⟨A, B, ⟨⟩⟩, c⟩ := D
  simp only at cA ⊢
  have hC1 := cx [] (cC)
  have hC2 := cx [] (cL)
  have hC3 := cx [] (cB)
  have hC4 := cx [] (cW)
  have fy := And.intro n1 (n2)
  refine goR ?_ ?_ ?_ ?_ ?_ ?_ ?_ ?_ ?_ ?_ ?_ ?_ ?_ ?_ ?_ ?_
  any_goals (first | exact True.intro | skip)
  all_goals (repeat (refine Wh.mk fun hcc => ?_))
  have hC1 := cx [.io] (cA)
  have fy := Nat.add_zero
  refine vcall_c hC1 (hK := ?_)
  simp only [k13, upT_g, dnT_g, nb_g, dnT_b, dnT_s, dnT_0, dnT_r, fx, fy, wo, decide_true, decide_false, wz0, wz1, wz2, wz3, wz4, wz5, wz6, wz7, wz8, appM, Ty.isInt, capT, appendZM, buildM, setAll, plSt, plAr, mnmx, Int.reduceLT, vrec, List.drop_succ_cons, List.drop_zero, convertM, indexM, fieldM, Int.toNat_zero, Int.toNat_one, Int.le_refl, Int.zero_le_ofNat, Int.reduceEq, Int.reduceNe, ne_eq, not_false_eq_true, u8_wrap, marksG_len, marks_len, bne_self_eq_false, take_map_len, tgL_byte, T.asArr, T.tg, tgL, indexAddrM, wk, wl, eq_self, isCall, callT, opM, S.ev, S.put, entryS, thawAL, thawA, RM.run, RM.bind, RM.ofOpt, allocs, Heap.ups, Heap.put, Heap.at, List.replicate, Nat.reduceAdd, Nat.reduceSub, ofConst, nilAs, if_false, if_true, binT, binTy, unT, guardT, quietK, reduceIte, boxM, allocM, loadM, storeM, fieldAddrM, lenT, extractT, subM, setOb, T.get, T.setp, T.offs, T.nw, nwL, T.cel, T.isNd, T.size, sizeL, TyI.agg, Ty.agg, Ty.isFn, zeroT, Nat.reduceLT, Nat.reduceEqDiff, sumT, kill]
  try simp only [thenS, blockS, if_true, if_false, Nat.reduceEqDiff, reduceIte]
  refine SW.norm (Norm.expelVar 4 0 rfl) ?_
  simp only [thawA, thawAL, Heap.put, List.getElem?_cons_zero, List.getElem?_cons_succ, List.set_cons_zero, List.set_cons_succ, List.length_cons, List.length_nil, List.nil_append, List.cons_append, List.append_nil, Nat.zero_add, Nat.reduceAdd, List.length_map]
  have fy := Nat.add_zero
  refine goR ?_ ?_ ?_ ?_ ?_ ?_ ?_ ?_ ?_ ?_ ?_ ?_ ?_ ?_ ?_ ?_
  any_goals (first | exact True.intro | skip)
  all_goals (repeat (refine Wh.mk fun hcc => ?_))
  all_goals exact SW.ret (show RetQ _ _ _ _ _ _ _ from RetQ.y [0, 0] [.nd [.ow 3 (A.map Enc.o), .ow 3 (B.map Enc.o)], .int .i64 c])
theorem iAsk_ok (G W : List GrT) (hG : G.length < 60) (hW : W.length < 60) (g : GrT) : CallR Try.prog 21 [.nd [.sl .b (G.map Enc.b), .sl .b (W.map Enc.b)], .int .i64 g.1, .int .i64 g.2.1, .int .i64 g.2.2.1] [] (.tup [.nd [.ow 3 ((askR G W g).1.1.map Enc.o), .ow 3 ((askR G W g).1.2.1.map Enc.o)], .int .i64 (askR G W g).2]) := by
  refine CallR.of_body (n := 97) (rs := [.cell 8 43, .tmp 9]) hY.ok Try.func21 rfl (by decide) rfl rfl rfl rfl (fun F => ?_)
  have fx := And.intro Y1 (And.intro Y2 (And.intro Y3 (And.intro Y4 (And.intro Y41 (And.intro Y43 (And.intro Y50 (Y123)))))))
  have cC := cloneLocks_ok G W (by omega) (by omega)
  have cL := iLocksOk_ok G W (by omega) (by omega)
  have cB := iGrant_ok g
  have cW := waitAt_ok G W (by omega) g.1
  have hwt := wait_ge W g.1
  unfold askR
  generalize idxOf (fun x : GrT => decide (x.1 = g.1)) W = wi at *
  have n1 : decide ((G.length : Int) ≥ 60) = false := by simp; omega
  have n2 : decide ((W.length : Int) ≥ 60) = false := by simp; omega
  cases hk : lkB G W
  · rw [hk] at cL
    rw [if_neg (by simp)]
    have hC1 := cx [] (cC)
    have hC2 := cx [] (cL)
    have fy := And.intro n1 (And.intro n2 (hwt))
    refine goR ?_ ?_ ?_ ?_ ?_ ?_ ?_ ?_ ?_ ?_ ?_ ?_ ?_ ?_ ?_ ?_
    any_goals (first | exact True.intro | skip)
    all_goals (repeat (refine Wh.mk fun hcc => ?_))
    all_goals exact SW.ret (show RetQ _ _ _ _ _ _ _ from RetQ.y [0, 0] [.nd [.ow 3 (G.map Enc.o), .ow 3 (W.map Enc.o)], .int .i64 2])
  rw [hk] at cL
  cases hg : grB g
  · rw [hg] at cB
    rw [if_neg (by simp)]
    have hC1 := cx [] (cC)
    have hC2 := cx [] (cL)
    have hC3 := cx [] (cB)
    have fy := And.intro n1 (And.intro n2 (hwt))
    refine goR ?_ ?_ ?_ ?_ ?_ ?_ ?_ ?_ ?_ ?_ ?_ ?_ ?_ ?_ ?_ ?_
    any_goals (first | exact True.intro | skip)
    all_goals (repeat (refine Wh.mk fun hcc => ?_))
    all_goals exact SW.ret (show RetQ _ _ _ _ _ _ _ from RetQ.y [0, 0] [.nd [.ow 3 (G.map Enc.o), .ow 3 (W.map Enc.o)], .int .i64 2])
  rw [hg] at cB
  cases hw : wtB W g.1
  rotate_left
  · rw [hw] at hwt
    rw [if_neg (by simp)]
    have hC1 := cx [] (cC)
    have hC2 := cx [] (cL)
    have hC3 := cx [] (cB)
    have hC4 := cx [] (cW)
    have fy := And.intro n1 (And.intro n2 (hwt))
    refine goR ?_ ?_ ?_ ?_ ?_ ?_ ?_ ?_ ?_ ?_ ?_ ?_ ?_ ?_ ?_ ?_
    any_goals (first | exact True.intro | skip)
    all_goals (repeat (refine Wh.mk fun hcc => ?_))
    all_goals exact SW.ret (show RetQ _ _ _ _ _ _ _ from RetQ.y [0, 0] [.nd [.ow 3 (G.map Enc.o), .ow 3 (W.map Enc.o)], .int .i64 2])
  rw [hw] at hwt
  rw [if_pos (by simp)]
  have hl := lkB_iff.1 hk
  have hv := hl.g
  simp only at hv
  have cM := would_w G (by omega) W g
  rw [wouldI_eq hv hg] at cM
  have cI := givenAt_w G (by omega) W g.1 g.2.1
  have cF := allGo_w G (by omega) W g (wouldF G g)
  have cR : CallR Try.prog _ _ _ (.bool (forRes W g.2.1)) := anyK_ok g.2.1 W ⟨by omega, fun _ _ => ⟨trivial, trivial, trivial, trivial⟩⟩
  have cG := give_w G (by omega) W (by omega) g (wouldF G g)
  have hmp := mode_pos (would_mode hv hg)
  unfold askF
  simp only
  have hidx : idxOf (isG g) G = idxOf (fun x : GrT => decide (x.1 = g.1) && decide (x.2.1 = g.2.1)) G := rfl
  have hhn := has_ne hv g
  rw [hidx] at hhn
  clear hidx
  generalize giveF G g (wouldF G g) = G2 at *
  generalize fitsF G g (wouldF G g) = b1 at *
  generalize forRes W g.2.1 = b3 at *
  generalize hasF G g = k at *
  generalize wouldF G g = m at *
  generalize idxOf (fun x : GrT => decide (x.1 = g.1) && decide (x.2.1 = g.2.1)) G = ii at *
  rcases hhn with ⟨i, hi, h1, h2, h3⟩ | ⟨h1, h2⟩
  · subst h1
    have hgi : (G.map Enc.b)[i]? = some (.nd [.int .i64 G[i].1, .int .i64 G[i].2.1, .int .i64 G[i].2.2.1]) := map_get Enc.b G i hi
    have hiI : (i : Int) < (G.length : Int) := by omega
    rw [← h2] at hgi
    have q0 : decide ((i : Int) ≥ 0) = true := by simp
    have q4 : decide ((i : Int) < 0) = false := by simp
    have q1 : (k == m) = decide (m = k) := by rw [Bool.beq_eq_decide_eq, decide_eq_decide]; exact eq_comm
    have q3 : decide (k ≠ 0) = true := decide_eq_true h3
    by_cases hmk : m = k
    · rw [decide_eq_true hmk] at q1
      simp only [if_pos hmk]
      have hC1 := cx [] (cC)
      have hC2 := cx [] (cL)
      have hC3 := cx [] (cB)
      have hC4 := cx [] (cW)
      have hC5 := cx [] (cM)
      have hC6 := cx [] (cI)
      have fy := And.intro n1 (And.intro n2 (And.intro hwt (And.intro hgi (And.intro hiI (And.intro q0 (And.intro q1 (q4)))))))
      refine goR ?_ ?_ ?_ ?_ ?_ ?_ ?_ ?_ ?_ ?_ ?_ ?_ ?_ ?_ ?_ ?_
      any_goals (first | exact True.intro | skip)
      all_goals (repeat (refine Wh.mk fun hcc => ?_))
      all_goals exact SW.ret (show RetQ _ _ _ _ _ _ _ from RetQ.y [0, 0] [.nd [.ow 3 (G.map Enc.o), .ow 3 (W.map Enc.o)], .int .i64 0])
    · rw [decide_eq_false hmk] at q1
      simp only [if_neg hmk, q3, Bool.true_or, Bool.and_true]
      cases b1
      · simp only [Bool.false_eq_true, if_false]
        have hap := fun (own e j e2 j2 : Nat) (H : Heap) (q1 : H.at e j = some (.arr 3 ((W).map Enc.o) false)) (q2 : H.at e2 j2 = some (.arr 3 [.nd [.int .i64 g.1, .int .i64 g.2.1, .int .i64 g.2.2.1]] false)) => append_runP (Y := Y) (own := own) (t := 41) (u := 41) (e := e) (j := j) (off := 0) (n := (W).length) (e2 := e2) (j2 := j2) (f := (W).map Enc.o) (l := W) (x := g) (H := H) Y41 Y41 Y50 rfl (by decide) q1 q2 (by rw [List.drop_zero]; exact take_map_len _ _) (by simp) (by omega) rfl rfl
        have hC1 := cx [] (cC)
        have hC2 := cx [] (cL)
        have hC3 := cx [] (cB)
        have hC4 := cx [] (cW)
        have hC5 := cx [] (cM)
        have hC6 := cx [] (cI)
        have hC7 := cx [] (cR)
        have hC8 := cx [] (cF)
        have fy := And.intro n1 (And.intro n2 (And.intro hwt (And.intro hgi (And.intro hiI (And.intro q0 (And.intro q1 (And.intro q4 (And.intro bs1_41 (hap)))))))))
        refine goR ?_ ?_ ?_ ?_ ?_ ?_ ?_ ?_ ?_ ?_ ?_ ?_ ?_ ?_ ?_ ?_
        any_goals (first | exact True.intro | skip)
        all_goals (repeat (refine Wh.mk fun hcc => ?_))
        all_goals exact SW.ret (show RetQ _ _ _ _ _ _ _ from RetQ.y [0, 0] [.nd [.ow 3 (G.map Enc.o), .ow 3 ((W ++ [g]).map Enc.o)], .int .i64 1])
      · simp only [if_true]
        have hC1 := cx [] (cC)
        have hC2 := cx [] (cL)
        have hC3 := cx [] (cB)
        have hC4 := cx [] (cW)
        have hC5 := cx [] (cM)
        have hC6 := cx [] (cI)
        have hC7 := cx [] (cR)
        have hC8 := cx [] (cF)
        have fy := And.intro n1 (And.intro n2 (And.intro hwt (And.intro hgi (And.intro hiI (And.intro q0 (And.intro q1 (q4)))))))
        refine goR ?_ ?_ ?_ ?_ ?_ ?_ ?_ ?_ ?_ ?_ ?_ ?_ ?_ ?_ ?_ ?_
        any_goals (first | exact True.intro | skip)
        all_goals (repeat (refine Wh.mk fun hcc => ?_))
        have hC1 := cx [.io] (cG)
        have fy := Nat.add_zero
        refine vcall_c hC1 (hK := ?_)
        simp only [k13, upT_g, dnT_g, nb_g, dnT_b, dnT_s, dnT_0, dnT_r, fx, fy, wo, decide_true, decide_false, wz0, wz1, wz2, wz3, wz4, wz5, wz6, wz7, wz8, appM, Ty.isInt, capT, appendZM, buildM, setAll, plSt, plAr, mnmx, Int.reduceLT, vrec, List.drop_succ_cons, List.drop_zero, convertM, indexM, fieldM, Int.toNat_zero, Int.toNat_one, Int.le_refl, Int.zero_le_ofNat, Int.reduceEq, Int.reduceNe, ne_eq, not_false_eq_true, u8_wrap, marksG_len, marks_len, bne_self_eq_false, take_map_len, tgL_byte, T.asArr, T.tg, tgL, indexAddrM, wk, wl, eq_self, isCall, callT, opM, S.ev, S.put, entryS, thawAL, thawA, RM.run, RM.bind, RM.ofOpt, allocs, Heap.ups, Heap.put, Heap.at, List.replicate, Nat.reduceAdd, Nat.reduceSub, ofConst, nilAs, if_false, if_true, binT, binTy, unT, guardT, quietK, reduceIte, boxM, allocM, loadM, storeM, fieldAddrM, lenT, extractT, subM, setOb, T.get, T.setp, T.offs, T.nw, nwL, T.cel, T.isNd, T.size, sizeL, TyI.agg, Ty.agg, Ty.isFn, zeroT, Nat.reduceLT, Nat.reduceEqDiff, sumT, kill]
        try simp only [thenS, blockS, if_true, if_false, Nat.reduceEqDiff, reduceIte]
        refine SW.norm (Norm.expelVar 5 0 rfl) ?_
        simp only [thawA, thawAL, Heap.put, List.getElem?_cons_zero, List.getElem?_cons_succ, List.set_cons_zero, List.set_cons_succ, List.length_cons, List.length_nil, List.nil_append, List.cons_append, List.append_nil, Nat.zero_add, Nat.reduceAdd, List.length_map]
        have fy := Nat.add_zero
        refine goR ?_ ?_ ?_ ?_ ?_ ?_ ?_ ?_ ?_ ?_ ?_ ?_ ?_ ?_ ?_ ?_
        any_goals (first | exact True.intro | skip)
        all_goals (repeat (refine Wh.mk fun hcc => ?_))
        all_goals exact SW.ret (show RetQ _ _ _ _ _ _ _ from RetQ.y [0, 0] [.nd [.ow 3 (G2.map Enc.o), .ow 3 (W.map Enc.o)], .int .i64 0])
  · subst h1
    have q0 : decide ((-1 : Int) ≥ 0) = false := rfl
    have q4 : decide ((-1 : Int) < 0) = true := rfl
    have hmk : ¬ m = k := by omega
    have q3 : decide (k ≠ 0) = false := by simp [h2]
    simp only [if_neg hmk, q3, Bool.false_or]
    cases b1
    · simp only [Bool.false_and, Bool.false_eq_true, if_false]
      have hap := fun (own e j e2 j2 : Nat) (H : Heap) (q1 : H.at e j = some (.arr 3 ((W).map Enc.o) false)) (q2 : H.at e2 j2 = some (.arr 3 [.nd [.int .i64 g.1, .int .i64 g.2.1, .int .i64 g.2.2.1]] false)) => append_runP (Y := Y) (own := own) (t := 41) (u := 41) (e := e) (j := j) (off := 0) (n := (W).length) (e2 := e2) (j2 := j2) (f := (W).map Enc.o) (l := W) (x := g) (H := H) Y41 Y41 Y50 rfl (by decide) q1 q2 (by rw [List.drop_zero]; exact take_map_len _ _) (by simp) (by omega) rfl rfl
      have hC1 := cx [] (cC)
      have hC2 := cx [] (cL)
      have hC3 := cx [] (cB)
      have hC4 := cx [] (cW)
      have hC5 := cx [] (cM)
      have hC6 := cx [] (cI)
      have hC7 := cx [] (cR)
      have hC8 := cx [] (cF)
      have fy := And.intro n1 (And.intro n2 (And.intro hwt (And.intro q0 (And.intro q4 (And.intro bs1_41 (hap))))))
      refine goR ?_ ?_ ?_ ?_ ?_ ?_ ?_ ?_ ?_ ?_ ?_ ?_ ?_ ?_ ?_ ?_
      any_goals (first | exact True.intro | skip)
      all_goals (repeat (refine Wh.mk fun hcc => ?_))
      all_goals exact SW.ret (show RetQ _ _ _ _ _ _ _ from RetQ.y [0, 0] [.nd [.ow 3 (G.map Enc.o), .ow 3 ((W ++ [g]).map Enc.o)], .int .i64 1])
    · cases b3
      · simp only [Bool.not_false, Bool.and_self, if_true]
        have hC1 := cx [] (cC)
        have hC2 := cx [] (cL)
        have hC3 := cx [] (cB)
        have hC4 := cx [] (cW)
        have hC5 := cx [] (cM)
        have hC6 := cx [] (cI)
        have hC7 := cx [] (cR)
        have hC8 := cx [] (cF)
        have fy := And.intro n1 (And.intro n2 (And.intro hwt (And.intro q0 (q4))))
        refine goR ?_ ?_ ?_ ?_ ?_ ?_ ?_ ?_ ?_ ?_ ?_ ?_ ?_ ?_ ?_ ?_
        any_goals (first | exact True.intro | skip)
        all_goals (repeat (refine Wh.mk fun hcc => ?_))
        have hC1 := cx [.io] (cG)
        have fy := Nat.add_zero
        refine vcall_c hC1 (hK := ?_)
        simp only [k13, upT_g, dnT_g, nb_g, dnT_b, dnT_s, dnT_0, dnT_r, fx, fy, wo, decide_true, decide_false, wz0, wz1, wz2, wz3, wz4, wz5, wz6, wz7, wz8, appM, Ty.isInt, capT, appendZM, buildM, setAll, plSt, plAr, mnmx, Int.reduceLT, vrec, List.drop_succ_cons, List.drop_zero, convertM, indexM, fieldM, Int.toNat_zero, Int.toNat_one, Int.le_refl, Int.zero_le_ofNat, Int.reduceEq, Int.reduceNe, ne_eq, not_false_eq_true, u8_wrap, marksG_len, marks_len, bne_self_eq_false, take_map_len, tgL_byte, T.asArr, T.tg, tgL, indexAddrM, wk, wl, eq_self, isCall, callT, opM, S.ev, S.put, entryS, thawAL, thawA, RM.run, RM.bind, RM.ofOpt, allocs, Heap.ups, Heap.put, Heap.at, List.replicate, Nat.reduceAdd, Nat.reduceSub, ofConst, nilAs, if_false, if_true, binT, binTy, unT, guardT, quietK, reduceIte, boxM, allocM, loadM, storeM, fieldAddrM, lenT, extractT, subM, setOb, T.get, T.setp, T.offs, T.nw, nwL, T.cel, T.isNd, T.size, sizeL, TyI.agg, Ty.agg, Ty.isFn, zeroT, Nat.reduceLT, Nat.reduceEqDiff, sumT, kill]
        try simp only [thenS, blockS, if_true, if_false, Nat.reduceEqDiff, reduceIte]
        refine SW.norm (Norm.expelVar 5 0 rfl) ?_
        simp only [thawA, thawAL, Heap.put, List.getElem?_cons_zero, List.getElem?_cons_succ, List.set_cons_zero, List.set_cons_succ, List.length_cons, List.length_nil, List.nil_append, List.cons_append, List.append_nil, Nat.zero_add, Nat.reduceAdd, List.length_map]
        have fy := Nat.add_zero
        refine goR ?_ ?_ ?_ ?_ ?_ ?_ ?_ ?_ ?_ ?_ ?_ ?_ ?_ ?_ ?_ ?_
        any_goals (first | exact True.intro | skip)
        all_goals (repeat (refine Wh.mk fun hcc => ?_))
        all_goals exact SW.ret (show RetQ _ _ _ _ _ _ _ from RetQ.y [0, 0] [.nd [.ow 3 (G2.map Enc.o), .ow 3 (W.map Enc.o)], .int .i64 0])
      · simp only [Bool.not_true, Bool.and_false, Bool.false_eq_true, if_false]
        have hap := fun (own e j e2 j2 : Nat) (H : Heap) (q1 : H.at e j = some (.arr 3 ((W).map Enc.o) false)) (q2 : H.at e2 j2 = some (.arr 3 [.nd [.int .i64 g.1, .int .i64 g.2.1, .int .i64 g.2.2.1]] false)) => append_runP (Y := Y) (own := own) (t := 41) (u := 41) (e := e) (j := j) (off := 0) (n := (W).length) (e2 := e2) (j2 := j2) (f := (W).map Enc.o) (l := W) (x := g) (H := H) Y41 Y41 Y50 rfl (by decide) q1 q2 (by rw [List.drop_zero]; exact take_map_len _ _) (by simp) (by omega) rfl rfl
        have hC1 := cx [] (cC)
        have hC2 := cx [] (cL)
        have hC3 := cx [] (cB)
        have hC4 := cx [] (cW)
        have hC5 := cx [] (cM)
        have hC6 := cx [] (cI)
        have hC7 := cx [] (cR)
        have hC8 := cx [] (cF)
        have fy := And.intro n1 (And.intro n2 (And.intro hwt (And.intro q0 (And.intro q4 (And.intro bs1_41 (hap))))))
        refine goR ?_ ?_ ?_ ?_ ?_ ?_ ?_ ?_ ?_ ?_ ?_ ?_ ?_ ?_ ?_ ?_
        any_goals (first | exact True.intro | skip)
        all_goals (repeat (refine Wh.mk fun hcc => ?_))
        all_goals exact SW.ret (show RetQ _ _ _ _ _ _ _ from RetQ.y [0, 0] [.nd [.ow 3 (G.map Enc.o), .ow 3 ((W ++ [g]).map Enc.o)], .int .i64 1])
end Q6

namespace Q6
open Go Go.Vm Go.Proofs
set_option maxHeartbeats 4000000
set_option synthInstance.maxSize 2000
set_option synthInstance.maxHeartbeats 400000
set_option maxRecDepth 10000
set_option linter.unusedSimpArgs false
set_option linter.unusedVariables false

open Qlk
theorem lkAnyD (l : List UInt8) (s : CS) (hl : l.length ≤ 1048576) (hi : s.1 ≤ l.length) (most : Nat) (h1 : 1 ≤ most) (hm : most ≤ 30) : ∃ (s' : CS) (A B : List GrT), s'.1 ≤ l.length ∧ A.length ≤ 32 ∧ B.length ≤ 32 ∧ CallR Try.prog 64 [.io (.nd [.sl .s (l.map Enc.b), .int .i64 (s.1 : Nat), .int .i64 s.2]), .int .i64 (most : Nat)] [.nd [.sl .s (l.map Enc.b), .int .i64 (s'.1 : Nat), .int .i64 s'.2]] (.nd [.ow 3 (A.map Enc.o), .ow 3 (B.map Enc.o)]) := by
  have c1 := lkDrawW_ok l s hl hi most h1 (by omega)
  obtain ⟨a1, a2, _⟩ := belowF_ok l s most hl hi
  have a3 := a2.2 (by omega)
  obtain ⟨e1, e2, e3⟩ := lkDraw_ok l hl (belowF l s most).2.toNat (belowF l s most).1 (([], [], ()) : LkT) a1 lk0_ok (by simp; omega)
  simp only [List.length_nil, Nat.zero_add] at e3
  generalize lkDrawF l (belowF l s most).2.toNat (belowF l s most).1 (([], [], ()) : LkT) = D at *
  obtain ⟨s1, A, B, ⟨⟩⟩ := D
  simp only at c1 e1 e3
  have hA : A.length ≤ 30 := by omega
  have hB : B.length ≤ 30 := by omega
  clear a1 a2 a3 e2 e3
  obtain ⟨e2, p2, c2⟩ := belowF_ok l s1 12 hl e1
  generalize belowF l s1 12 = r at *
  obtain ⟨s2, r⟩ := r
  simp only at e2 p2 c2
  by_cases h0 : r = 0
  · subst h0
    obtain ⟨e3, p3, c3⟩ := belowF_ok l s2 4 hl e2
    generalize belowF l s2 4 = x at *
    obtain ⟨e4, p4, c4⟩ := belowF_ok l x.1 3 hl e3
    generalize belowF l x.1 3 = y at *
    obtain ⟨e5, p5, c5⟩ := belowF_ok l y.1 6 hl e4
    generalize belowF l y.1 6 = z at *
    refine ⟨z.1, A ++ [(x.2, y.2, z.2, ())], B, e5, by simp; omega, by omega, ?_⟩
    refine CallR.of_body (n := 42) (rs := [.cell 4 43]) hY.ok Try.func64 rfl (by decide) rfl rfl rfl rfl (fun F => ?_)
    have fx := And.intro Y1 (And.intro Y2 (And.intro Y3 (And.intro Y4 (And.intro Y27 (And.intro Y41 (And.intro Y43 (And.intro Y50 (Y104))))))))
    have hap := fun (own e j e2 j2 : Nat) (H : Heap) (q1 : H.at e j = some (.arr 3 ((A).map Enc.o) false)) (q2 : H.at e2 j2 = some (.arr 3 [.nd [.int .i64 (((((x.2, y.2, z.2, ()) : GrT))).1), .int .i64 (((((x.2, y.2, z.2, ()) : GrT))).2.1), .int .i64 (((((x.2, y.2, z.2, ()) : GrT))).2.2.1)]] false)) => append_runP (Y := Y) (own := own) (t := 41) (u := 41) (e := e) (j := j) (off := 0) (n := (A).length) (e2 := e2) (j2 := j2) (f := (A).map Enc.o) (l := A) (x := ((x.2, y.2, z.2, ()) : GrT)) (H := H) Y41 Y41 Y50 rfl (by decide) q1 q2 (by rw [List.drop_zero]; exact take_map_len _ _) (by simp) (by omega) rfl rfl
    have hC1 := cx [.io] (c1)
    have hC2 := cx [.io] (c2)
    have hC3 := cx [.io] (c3)
    have hC4 := cx [.io] (c4)
    have hC5 := cx [.io] (c5)
    have fy := And.intro bs1_41 (hap)
    have hD1 := dx 4 [4, 2, 2, 1, 1, 1, 2] [(1, 1), (1, 2), (1, 3), (1, 4), (1, 5)]
    have hD2 := dx 6 [4, 2, 1, 2, 2, 1, 1, 2] [(1, 1), (1, 2), (1, 3), (1, 4), (1, 5), (1, 6)]
    refine goR ?_ ?_ ?_ ?_ ?_ ?_ ?_ ?_ ?_ ?_ ?_ ?_ ?_ ?_ ?_ ?_
    any_goals (first | exact True.intro | skip)
    all_goals (repeat (refine Wh.mk fun hcc => ?_))
    all_goals exact SW.ret (show RetQ _ _ _ _ _ _ _ from RetQ.y [0] [.nd [.ow 3 ((A ++ [(x.2, y.2, z.2, ())]).map Enc.o), .ow 3 (B.map Enc.o)]])
  have q0 : (r == 0) = false := by simpa using h0
  by_cases h1r : r = 1
  · subst h1r
    obtain ⟨e3, p3, c3⟩ := belowF_ok l s2 4 hl e2
    generalize belowF l s2 4 = x at *
    obtain ⟨ev, qv, dv'⟩ := intF_ok l x.1 [0, 100] hl e3 (by simp) (by simp)
    have dv : CallR Try.prog 66 [.io (.nd [.sl .s (l.map Enc.b), .int .i64 (x.1.1 : Nat), .int .i64 x.1.2]), .sl .b [.int .i64 0, .int .i64 100]] [.nd [.sl .s (l.map Enc.b), .int .i64 (((intF l x.1 [0, 100]).1).1 : Nat), .int .i64 ((intF l x.1 [0, 100]).1).2]] (.int .i64 (intF l x.1 [0, 100]).2) := dv'
    clear dv'
    generalize intF l x.1 [0, 100] = v at *
    have bv := fun own => buildN (Y := Y) (own := own) (t := 27) (n := 2) (ps := [(0, .int .i64 0), (1, .int .i64 100)]) (r := [.int .i64 0, .int .i64 100]) Y27 Y3 rfl (by decide) rfl
    obtain ⟨e5, p5, c5⟩ := belowF_ok l v.1 4 hl ev
    generalize belowF l v.1 4 = z at *
    have z4 := p5.2 (by decide)
    have hwz : IntKind.i64.wrap (1 + z.2) = 1 + z.2 := wrap64 _ (by omega) (by omega)
    refine ⟨z.1, A, B ++ [(x.2, v.2, 1 + z.2, ())], e5, by omega, by simp; omega, ?_⟩
    refine CallR.of_body (n := 42) (rs := [.cell 4 43]) hY.ok Try.func64 rfl (by decide) rfl rfl rfl rfl (fun F => ?_)
    have fx := And.intro Y1 (And.intro Y2 (And.intro Y3 (And.intro Y4 (And.intro Y27 (And.intro Y41 (And.intro Y43 (And.intro Y50 (Y104))))))))
    have hap := fun (own e j e2 j2 : Nat) (H : Heap) (q1 : H.at e j = some (.arr 3 ((B).map Enc.o) false)) (q2 : H.at e2 j2 = some (.arr 3 [.nd [.int .i64 (((((x.2, v.2, 1 + z.2, ()) : GrT))).1), .int .i64 (((((x.2, v.2, 1 + z.2, ()) : GrT))).2.1), .int .i64 (((((x.2, v.2, 1 + z.2, ()) : GrT))).2.2.1)]] false)) => append_runP (Y := Y) (own := own) (t := 41) (u := 41) (e := e) (j := j) (off := 0) (n := (B).length) (e2 := e2) (j2 := j2) (f := (B).map Enc.o) (l := B) (x := ((x.2, v.2, 1 + z.2, ()) : GrT)) (H := H) Y41 Y41 Y50 rfl (by decide) q1 q2 (by rw [List.drop_zero]; exact take_map_len _ _) (by simp) (by omega) rfl rfl
    have hC1 := cx [.io] (c1)
    have hC2 := cx [.io] (c2)
    have hC3 := cx [.io] (c3)
    have hC4 := cx [.io] (dv)
    have hC5 := cx [.io] (c5)
    have fy := And.intro bs1_41 (And.intro hap (And.intro bv (hwz)))
    have hD1 := dx 4 [4, 2, 2, 1, 1, 1, 2] [(1, 1), (1, 2), (1, 3), (1, 4), (1, 5)]
    have hD2 := dx 6 [4, 2, 1, 2, 2, 1, 1, 2] [(1, 1), (1, 2), (1, 3), (1, 4), (1, 5), (1, 6)]
    refine goR ?_ ?_ ?_ ?_ ?_ ?_ ?_ ?_ ?_ ?_ ?_ ?_ ?_ ?_ ?_ ?_
    any_goals (first | exact True.intro | skip)
    all_goals (repeat (refine Wh.mk fun hcc => ?_))
    all_goals exact SW.ret (show RetQ _ _ _ _ _ _ _ from RetQ.y [0] [.nd [.ow 3 (A.map Enc.o), .ow 3 ((B ++ [(x.2, v.2, 1 + z.2, ())]).map Enc.o)]])
  have q1 : (r == 1) = false := by simpa using h1r
  refine ⟨s2, A, B, e2, by omega, by omega, ?_⟩
  refine CallR.of_body (n := 42) (rs := [.cell 4 43]) hY.ok Try.func64 rfl (by decide) rfl rfl rfl rfl (fun F => ?_)
  have fx := And.intro Y1 (And.intro Y2 (And.intro Y3 (And.intro Y4 (And.intro Y27 (And.intro Y41 (And.intro Y43 (And.intro Y50 (Y104))))))))
  have hC1 := cx [.io] (c1)
  have hC2 := cx [.io] (c2)
  have fy := And.intro q0 (q1)
  have hD1 := dx 4 [4, 2, 2, 1, 1, 1, 2] [(1, 1), (1, 2), (1, 3), (1, 4), (1, 5)]
  have hD2 := dx 6 [4, 2, 1, 2, 2, 1, 1, 2] [(1, 1), (1, 2), (1, 3), (1, 4), (1, 5), (1, 6)]
  refine goR ?_ ?_ ?_ ?_ ?_ ?_ ?_ ?_ ?_ ?_ ?_ ?_ ?_ ?_ ?_ ?_
  any_goals (first | exact True.intro | skip)
  all_goals (repeat (refine Wh.mk fun hcc => ?_))
  all_goals exact SW.ret (show RetQ _ _ _ _ _ _ _ from RetQ.y [0] [.nd [.ow 3 (A.map Enc.o), .ow 3 (B.map Enc.o)]])
theorem drawAskD (l : List UInt8) (hl : l.length ≤ 1048576) : ∃ (A B : List GrT) (g : GrT), A.length ≤ 32 ∧ B.length ≤ 32 ∧ CallR Try.prog 20 [.sl .s (l.map Enc.b)] [] (.tup [.nd [.ow 3 (A.map Enc.o), .ow 3 (B.map Enc.o)], .int .i64 g.1, .int .i64 g.2.1, .int .i64 g.2.2.1]) := by
  have c1 := newF_ok l hl
  have c2 := l1Size_ok l hl 16 (by decide)
  have z1 := sizeF_pos l 16 (by decide)
  have z2 := sizeF_le l 16
  obtain ⟨s1, A, B, e1, hA, hB, c3⟩ := lkAnyD l (0, newF l) hl (Nat.zero_le _) (sizeF l 16) (by omega) (by omega)
  generalize newF l = h at *
  generalize sizeF l 16 = z at *
  simp only [Int.natCast_zero, Int.cast_ofNat_Int] at c1 c2 c3
  obtain ⟨eu, qu, du'⟩ := intF_ok l s1 [1, 2, 3, 4, 5, 6, 0, 100] hl e1 (by simp) (by simp)
  have du : CallR Try.prog 66 [.io (.nd [.sl .s (l.map Enc.b), .int .i64 (s1.1 : Nat), .int .i64 s1.2]), .sl .b [.int .i64 1, .int .i64 2, .int .i64 3, .int .i64 4, .int .i64 5, .int .i64 6, .int .i64 0, .int .i64 100]] [.nd [.sl .s (l.map Enc.b), .int .i64 (((intF l s1 [1, 2, 3, 4, 5, 6, 0, 100]).1).1 : Nat), .int .i64 ((intF l s1 [1, 2, 3, 4, 5, 6, 0, 100]).1).2]] (.int .i64 (intF l s1 [1, 2, 3, 4, 5, 6, 0, 100]).2) := du'
  clear du'
  generalize intF l s1 [1, 2, 3, 4, 5, 6, 0, 100] = u at *
  have bu := fun own => buildN (Y := Y) (own := own) (t := 27) (n := 8) (ps := [(0, .int .i64 1), (1, .int .i64 2), (2, .int .i64 3), (3, .int .i64 4), (4, .int .i64 5), (5, .int .i64 6), (6, .int .i64 0), (7, .int .i64 100)]) (r := [.int .i64 1, .int .i64 2, .int .i64 3, .int .i64 4, .int .i64 5, .int .i64 6, .int .i64 0, .int .i64 100]) Y27 Y3 rfl (by decide) rfl
  obtain ⟨ev, qv, dv'⟩ := intF_ok l u.1 [0, 1, 2, 2, -1, 100] hl eu (by simp) (by simp)
  have dv : CallR Try.prog 66 [.io (.nd [.sl .s (l.map Enc.b), .int .i64 (u.1.1 : Nat), .int .i64 u.1.2]), .sl .b [.int .i64 0, .int .i64 1, .int .i64 2, .int .i64 2, .int .i64 (-1), .int .i64 100]] [.nd [.sl .s (l.map Enc.b), .int .i64 (((intF l u.1 [0, 1, 2, 2, -1, 100]).1).1 : Nat), .int .i64 ((intF l u.1 [0, 1, 2, 2, -1, 100]).1).2]] (.int .i64 (intF l u.1 [0, 1, 2, 2, -1, 100]).2) := dv'
  clear dv'
  generalize intF l u.1 [0, 1, 2, 2, -1, 100] = v at *
  have bv := fun own => buildN (Y := Y) (own := own) (t := 27) (n := 6) (ps := [(0, .int .i64 0), (1, .int .i64 1), (2, .int .i64 2), (3, .int .i64 2), (4, .int .i64 (-1)), (5, .int .i64 100)]) (r := [.int .i64 0, .int .i64 1, .int .i64 2, .int .i64 2, .int .i64 (-1), .int .i64 100]) Y27 Y3 rfl (by decide) rfl
  obtain ⟨ew, qw, dw'⟩ := intF_ok l v.1 [1, 2, 3, 4, 4, 0, 5] hl ev (by simp) (by simp)
  have dw : CallR Try.prog 66 [.io (.nd [.sl .s (l.map Enc.b), .int .i64 (v.1.1 : Nat), .int .i64 v.1.2]), .sl .b [.int .i64 1, .int .i64 2, .int .i64 3, .int .i64 4, .int .i64 4, .int .i64 0, .int .i64 5]] [.nd [.sl .s (l.map Enc.b), .int .i64 (((intF l v.1 [1, 2, 3, 4, 4, 0, 5]).1).1 : Nat), .int .i64 ((intF l v.1 [1, 2, 3, 4, 4, 0, 5]).1).2]] (.int .i64 (intF l v.1 [1, 2, 3, 4, 4, 0, 5]).2) := dw'
  clear dw'
  generalize intF l v.1 [1, 2, 3, 4, 4, 0, 5] = w at *
  have bw := fun own => buildN (Y := Y) (own := own) (t := 27) (n := 7) (ps := [(0, .int .i64 1), (1, .int .i64 2), (2, .int .i64 3), (3, .int .i64 4), (4, .int .i64 4), (5, .int .i64 0), (6, .int .i64 5)]) (r := [.int .i64 1, .int .i64 2, .int .i64 3, .int .i64 4, .int .i64 4, .int .i64 0, .int .i64 5]) Y27 Y3 rfl (by decide) rfl
  refine ⟨A, B, (u.2, v.2, w.2, ()), hA, hB, ?_⟩
  refine CallR.of_body (n := 24) (rs := [.cell 2 43, .tmp 3, .tmp 4, .tmp 5]) hY.ok Try.func20 rfl (by decide) rfl rfl rfl rfl (fun F => ?_)
  have fx := And.intro Y1 (And.intro Y2 (And.intro Y3 (And.intro Y4 (And.intro Y5 (And.intro Y6 (And.intro Y7 (And.intro Y8 (And.intro Y22 (And.intro Y27 (And.intro Y41 (And.intro Y43 (And.intro Y50 (Y104)))))))))))))
  have hC1 := cx [.own 1] (c1)
  have hC2 := cx [.own 1, .own 0] (c2)
  have hC3 := cx [.io] (c3)
  have hC4 := cx [.io] (du)
  have hC5 := cx [.io] (dv)
  have hC6 := cx [.io] (dw)
  have fy := And.intro bu (And.intro bv (bw))
  have hD1 := dx 3 [3, 1, 2, 1, 2, 1, 1] [(0, 1), (0, 2), (0, 3), (0, 4), (0, 5), (0, 6)]
  refine goR ?_ ?_ ?_ ?_ ?_ ?_ ?_ ?_ ?_ ?_ ?_ ?_ ?_ ?_ ?_ ?_
  any_goals (first | exact True.intro | skip)
  all_goals (repeat (refine Wh.mk fun hcc => ?_))
  all_goals exact SW.ret (show RetQ _ _ _ _ _ _ _ from RetQ.y [0, 0, 0, 0] [.nd [.ow 3 (A.map Enc.o), .ow 3 (B.map Enc.o)], .int .i64 u.2, .int .i64 v.2, .int .i64 w.2])
end Q6
