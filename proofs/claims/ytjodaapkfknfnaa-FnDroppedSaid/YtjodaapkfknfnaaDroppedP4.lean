/- Shows what the parts of the program do that the claim reaches: a machine of values over the model, and the contracts of functions, for all arguments within the lengths that each theorem names. -/
import Derived.Test.YtjodaapkfknfnaaDroppedP1
import Derived.Test.YtjodaapkfknfnaaDroppedP3
import Derived.Test.YtjodaapkfknfnaaDroppedV5
import Derived.Test.YtjodaapkfknfnaaDroppedP2
set_option linter.all false

namespace Q6
open Go Go.Vm Go.Proofs
set_option maxHeartbeats 4000000
set_option synthInstance.maxSize 2000
set_option synthInstance.maxHeartbeats 400000
set_option maxRecDepth 10000
set_option linter.unusedSimpArgs false
set_option linter.unusedVariables false

open Go.By

noncomputable def hRefsF (l : List UInt8) (i : Int) : Nat → CS → List Int → CS × List Int
  | 0, s, acc => (s, acc)
  | n + 1, s, acc =>
    let a := belowF l s 32; let b := belowF l a.1 32; let x := intF l b.1 [0, i, (i + 1).tmod 32, a.2, b.2]
    hRefsF l i n x.1 (acc ++ [x.2])
theorem hRefsF_ok (l : List UInt8) (hl : l.length ≤ 1048576) (i : Int) (h0 : 0 ≤ i) (h1 : i ≤ 31) : ∀ (n : Nat) (s : CS) (acc : List Int), s.1 ≤ l.length → (∀ x ∈ acc, refB x = true) →
    (hRefsF l i n s acc).1.1 ≤ l.length ∧ (∀ x ∈ (hRefsF l i n s acc).2, refB x = true) ∧ (hRefsF l i n s acc).2.length = acc.length + n
  | 0, s, acc, h, ha => ⟨h, ha, rfl⟩
  | n + 1, s, acc, h, ha => by
    obtain ⟨b1, b2, _⟩ := belowF_ok l s 32 hl h
    obtain ⟨d1, d2, _⟩ := belowF_ok l (belowF l s 32).1 32 hl b1
    obtain ⟨c1, c2, _⟩ := intF_ok l (belowF l (belowF l s 32).1 32).1 [0, i, (i + 1).tmod 32, (belowF l s 32).2, (belowF l (belowF l s 32).1 32).2] hl d1 (by simp) (by simp)
    simp only [hRefsF]
    have e1 := b2.2 (by decide)
    have e2 := d2.2 (by decide)
    generalize belowF l (belowF l s 32).1 32 = b at *
    generalize belowF l s 32 = a at *
    have ih := hRefsF_ok l hl i h0 h1 n _ (acc ++ [(intF l b.1 [0, i, (i + 1).tmod 32, a.2, b.2]).2]) c1 (by
      intro x hx
      rcases List.mem_append.1 hx with hx | hx
      · exact ha x hx
      · simp only [List.mem_singleton] at hx
        subst hx
        have ht : 0 ≤ (i + 1).tmod 32 ∧ (i + 1).tmod 32 < 32 := ⟨Int.tmod_nonneg _ (by omega), Int.tmod_lt_of_pos _ (by decide)⟩
        generalize (i + 1).tmod 32 = t at *
        simp only [List.mem_cons, List.not_mem_nil, or_false] at c2
        unfold refB
        simp only [Bool.and_eq_true, decide_eq_true_eq]
        omega)
    refine ⟨ih.1, ih.2.1, ?_⟩
    rw [ih.2.2, List.length_append]; simp; omega
noncomputable def heapF (l : List UInt8) : Nat → CS → List SlotT → CS × List SlotT
  | 0, s, v => (s, v)
  | r + 1, s, v =>
    let o := onceF l s 3
    if o.2 = true then heapF l r o.1 v else
      let k := belowF l o.1 3; let n := belowF l k.1 9; let m := belowF l n.1 4; let b := hRefsF l ((31 - r : Nat) : Int) m.2.toNat m.1 []
      heapF l r b.1 (v.set (31 - r) (true, (1 + k.2, [n.2], b.2, ()), ()))
theorem heapF_ok (l : List UInt8) (hl : l.length ≤ 1048576) : ∀ (r : Nat) (s : CS) (v : List SlotT), s.1 ≤ l.length → r ≤ 31 → v.length = 32 → (∀ x ∈ v, slotB x = true) → hasA v 0 = false →
    (heapF l r s v).1.1 ≤ l.length ∧ (heapF l r s v).2.length = 32 ∧ (∀ x ∈ (heapF l r s v).2, slotB x = true) ∧ hasA (heapF l r s v).2 0 = false
  | 0, s, v, h, _, hv, hx, h0 => ⟨h, hv, hx, h0⟩
  | r + 1, s, v, h, hr, hv, hx, h0 => by
    obtain ⟨b1, _⟩ := onceF_ok l s 3 hl h
    simp only [heapF]
    split
    · exact heapF_ok l hl r _ v b1 (by omega) hv hx h0
    · generalize onceF l s 3 = o at *
      obtain ⟨k1, k2, _⟩ := belowF_ok l o.1 3 hl b1
      generalize belowF l o.1 3 = k at *
      obtain ⟨n1, n2, _⟩ := belowF_ok l k.1 9 hl k1
      generalize belowF l k.1 9 = n at *
      obtain ⟨m1, m2, _⟩ := belowF_ok l n.1 4 hl n1
      generalize belowF l n.1 4 = m at *
      obtain ⟨f1, f2, f3⟩ := hRefsF_ok l hl ((31 - r : Nat) : Int) (by omega) (by omega) m.2.toNat m.1 [] m1 (by simp)
      generalize hRefsF l ((31 - r : Nat) : Int) m.2.toNat m.1 [] = b at *
      have e1 := k2.2 (by decide)
      have e2 := n2.2 (by decide)
      have e3 := m2.2 (by decide)
      refine heapF_ok l hl r _ _ f1 (by omega) (by simp [hv]) (fun x hm => ?_) ?_
      · rcases List.mem_or_eq_of_mem_set hm with hm | hm
        · exact hx x hm
        · subst hm
          have i1 : intB n.2 = true := by unfold intB; simp only [Bool.and_eq_true, decide_eq_true_eq]; omega
          simp only [slotB, objB, if_true, Bool.and_eq_true, decide_eq_true_eq, List.length_cons, List.length_nil, List.all_eq_true]
          simp only [List.length_nil, Nat.zero_add] at f3
          refine ⟨⟨⟨⟨⟨by omega, by omega⟩, by omega⟩, by omega⟩, fun x hx => ?_⟩, f2⟩
          rw [List.mem_singleton] at hx; subst hx; exact i1
      · unfold hasA at h0 ⊢
        rw [List.getElem?_set_ne (by omega)]
        exact h0
def v0 : List SlotT := List.replicate 32 slotN
def slotZ : T := .nd [.bool false, .nd [.int .i64 0, .nils 1, .nils 1]]
def slotO : T := .nd [.bool false, .nd [.int .i64 0, .ow 1 [], .ow 1 []]]
theorem v0_map : v0.map Enc.o = List.replicate 32 slotO := by unfold v0; rw [List.map_replicate]; rfl
theorem fgtZ : fgt slotZ slotO := .inr ⟨_, rfl, .bool false, _, rfl, rfl, _, _, rfl, .inr ⟨_, rfl, _, _, rfl, rfl, _, _, rfl, .inr (.inr rfl), _, _, rfl, .inr (.inr rfl), rfl⟩, rfl⟩
theorem mkView (own : Nat) : makeSliceM Y own 24 (.int .i64 32) (.int .i64 32) = .pure { v := .ref own 0 0 32, news := [.arr 4 (List.replicate 32 slotZ) false] } := by
  simp [makeSliceM, Y24, Y37, zeroT, Y3, Y27, Y35, Y4, Ty.isFn, slotZ]

theorem heapW_ok (l : List UInt8) (s : CS) (hl : l.length ≤ 1048576) (hi : s.1 ≤ l.length) : CallR Try.prog 50 [.io (.nd [.sl .s (l.map Enc.b), .int .i64 (s.1 : Nat), .int .i64 s.2])] [.nd [.sl .s (l.map Enc.b), .int .i64 (((heapF l 31 s v0).1).1 : Nat), .int .i64 ((heapF l 31 s v0).1).2]] (.ow 4 ((heapF l 31 s v0).2.map Enc.o)) := by
  refine CallR.of_body (n := 51) (rs := [.tmp 2]) hY.ok Try.func50 rfl (by decide) rfl rfl rfl rfl (fun F => ?_)
  have fx := And.intro Y1 (And.intro Y2 (And.intro Y3 (And.intro Y4 (And.intro Y5 (And.intro Y24 (And.intro Y27 (And.intro Y35 (And.intro Y37 (Y104)))))))))
  have hv00 : v0.length = 32 := List.length_replicate
  generalize hT1 : heapF l 31 s v0 = T1 at *
  have fy := mkView
  have hD1 := dx 10 [9, 2, 1, 1, 1, 1, 2] [(1, 1), (1, 2), (1, 3), (1, 4), (1, 5)]
  refine goN ?_ ?_ ?_ ?_ ?_ ?_ ?_ ?_ ?_ ?_ ?_ ?_ ?_ ?_ ?_ ?_
  any_goals (first | exact True.intro | skip)
  skip
  refine SW.loop (fun x : Nat × CS × List SlotT => ⟨[.ptr 0 0 [] 0, .undef, .undef, .ref 1 0 0 x.2.2.length, .int .i64 ((32 - x.1 : Nat) : Int), .undef, .undef, .undef, .undef, .undef, .undef, .undef, .undef, .undef, .undef, .undef, .undef, .undef, .undef, .undef, .undef, .undef, .undef, .undef, .undef, .undef, .undef, .undef, .undef, .undef, .undef, .undef, .undef, .undef, .undef, .undef, .undef, .undef, .undef, .undef, .undef, .undef, .undef, .undef, .undef, .undef, .undef, .undef, .undef, .undef, .undef], [[.var (.nd [.sl .s (l.map Enc.b), .int .i64 (x.2.1.1 : Nat), .int .i64 x.2.1.2])], [.arr 4 (x.2.2.map Enc.o) false]]⟩)
    (fun N x => N = x.1 ∧ x.1 ≤ 31 ∧ x.2.1.1 ≤ l.length ∧ x.2.2.length = 32 ∧ heapF l x.1 x.2.1 x.2.2 = T1) (n := 31) (x := (31, s, v0)) ?_ ⟨rfl, Nat.le_refl _, hi, hv00, hT1⟩ ?_
  · refine Norm.trans (Norm.forgetArr 1 0 (m := List.replicate 32 slotO) rfl (fgtL_rep fgtZ 32)) ?_
    simp only [Heap.put, List.getElem?_cons_zero, List.getElem?_cons_succ, List.set_cons_succ, List.set_cons_zero, v0_map, hv00]
    have hr0 : ∀ n, renL [0, 1] (List.replicate n slotO) = List.replicate n slotO := by
      intro n
      induction n with
      | zero => rfl
      | succ n ih => rw [List.replicate_succ, renL, ih]; simp [slotO, T.ren, renL]
    exact Norm.re [0, 1] (by decide) rfl (by simp [heapFits, rowFits, obFits, T.ren, renL, hr0, slotO]) (by simp [tmFits, T.ren])
  clear hT1 hi
  rintro N ⟨r, s, v⟩ ⟨hN, hr, hs, hv, hT⟩
  simp only at hN hr hs hv hT ⊢
  have fy := Nat.add_zero
  refine goS ?_
  refine SW.cond rfl (fun hc => ?_) (fun hc => ?_)
  · have hpos : 0 < r := by simp at hc; omega
    obtain ⟨r, rfl⟩ : ∃ r', r = r' + 1 := ⟨r - 1, by omega⟩
    have hi31 : 32 - (r + 1) = 31 - r := by omega
    rw [hi31]
    have hwi : IntKind.i64.wrap (((31 - r : Nat) : Int) + 1) = ((32 - r : Nat) : Int) := by rw [wrap64 _ (by omega) (by omega)]; omega
    simp only [heapF] at hT
    obtain ⟨e1, c1⟩ := onceF_ok l s 3 hl hs
    generalize onceF l s 3 = o at *
    obtain ⟨so, bo⟩ := o
    simp only at e1 c1 hT
    cases bo
    rotate_left
    · simp only [if_true] at hT
      have hC1 := cx [.io] (c1)
      have fy := hwi
      have hD1 := dx 10 [9, 2, 1, 1, 1, 1, 2] [(1, 1), (1, 2), (1, 3), (1, 4), (1, 5)]
      refine goR ?_ ?_ ?_ ?_ ?_ ?_ ?_ ?_ ?_ ?_ ?_ ?_ ?_ ?_ ?_ ?_
      any_goals (first | exact True.intro | skip)
      all_goals (repeat (refine Wh.mk fun hcc => ?_))
      refine ⟨N - 1, (r, so, v), by omega, ⟨by simp only; omega, by simp only; omega, e1, hv, hT⟩, ?_⟩
      exact Norm.re [0, 1] (by decide) rfl (by first | (simp only [eq_self, heapFits, rowFits, obFits, List.getElem?_cons_zero, List.getElem?_cons_succ, renL_o, renL_b, true_and, and_true, and_self]; done) | simp [-List.map_set, -List.map_append, heapFits, rowFits, obFits, T.ren, renL]) (by simp [tmFits, T.ren])
    · simp only [Bool.false_eq_true, if_false] at hT
      obtain ⟨e2, p2, c2⟩ := belowF_ok l so 3 hl e1
      generalize belowF l so 3 = k at *
      obtain ⟨e3, p3, c3⟩ := belowF_ok l k.1 9 hl e2
      generalize belowF l k.1 9 = n at *
      obtain ⟨e4, p4, c4⟩ := belowF_ok l n.1 4 hl e3
      generalize belowF l n.1 4 = m at *
      obtain ⟨s4, m4⟩ := m
      simp only at e4 p4 c4 hT
      have hk3 := p2.2 (by decide)
      have hm4 := p4.2 (by decide)
      obtain ⟨M0, rfl⟩ : ∃ M0 : Nat, m4 = (M0 : Int) := ⟨m4.toNat, by omega⟩
      rw [Int.toNat_natCast] at hT
      have hwk : IntKind.i64.wrap (1 + k.2) = 1 + k.2 := wrap64 _ (by omega) (by omega)
      have hbs := fun own x => bs1_27 own x
      generalize hT2 : hRefsF l ((31 - r : Nat) : Int) M0 s4 [] = T2 at *
      have hC1 := cx [.io] (c1)
      have hC2 := cx [.io] (c2)
      have hC3 := cx [.io] (c3)
      have hC4 := cx [.io] (c4)
      have fy := And.intro hwi (And.intro hwk (bs1_27))
      have hD1 := dx 10 [9, 2, 1, 1, 1, 1, 2] [(1, 1), (1, 2), (1, 3), (1, 4), (1, 5)]
      refine goR ?_ ?_ ?_ ?_ ?_ ?_ ?_ ?_ ?_ ?_ ?_ ?_ ?_ ?_ ?_ ?_
      any_goals (first | exact True.intro | skip)
      all_goals (repeat (refine Wh.mk fun hcc => ?_))
      refine SW.loop (fun x : Nat × CS × List Int => ⟨[.ptr 0 0 [] 0, .undef, .undef, .ref 1 0 0 v.length, .int .i64 ((31 - r : Nat) : Int), .ptr 2 0 [] 0, .int .i64 (x.1 : Nat), .undef, .undef, .undef, .undef, .undef, .undef, .undef, .undef, .undef, .undef, .undef, .undef, .undef, .undef, .undef, .undef, .undef, .undef, .undef, .undef, .undef, .undef, .undef, .undef, .undef, .undef, .undef, .undef, .undef, .undef, .undef, .undef, .undef, .undef, .undef, .undef, .undef, .undef, .undef, .undef, .undef, .undef, .undef, .undef], [[.var (.nd [.sl .s (l.map Enc.b), .int .i64 (x.2.1.1 : Nat), .int .i64 x.2.1.2])], [.arr 4 (v.map Enc.o) false], [.var (.nd [.int .i64 (1 + k.2), .ref 3 0 0 1, .ref 4 0 0 x.2.2.length])], [.arr 1 [.int .i64 n.2] false], [.arr 1 (x.2.2.map Enc.o) false]]⟩)
        (fun M x => M = x.1 ∧ x.1 + x.2.2.length = M0 ∧ x.2.1.1 ≤ l.length ∧ hRefsF l ((31 - r : Nat) : Int) x.1 x.2.1 x.2.2 = T2) (n := M0) (x := (M0, s4, [])) ?_ ⟨rfl, by simp, e4, hT2⟩ ?_
      · skip
        refine Norm.trans (Norm.forget (u := .nd [.int .i64 (1 + k.2), .ref 5 0 0 1, .ow 1 []]) 6 0 rfl (.inr ⟨_, rfl, ⟨_, _, rfl, rfl, ⟨_, _, rfl, .inl rfl, ⟨_, _, rfl, .inr (.inr rfl), rfl⟩⟩⟩⟩)) ?_
        simp only [Heap.put, List.getElem?_cons_zero, List.getElem?_cons_succ, List.set_cons_succ, List.set_cons_zero]
        refine Norm.trans (Norm.expelVar 6 0 rfl) ?_
        simp only [Heap.put, List.getElem?_cons_zero, List.getElem?_cons_succ, List.set_cons_succ, List.set_cons_zero, thawA, thawAL, List.length_cons, List.length_nil, Nat.reduceAdd, List.nil_append, List.append_nil, List.cons_append, Nat.zero_add]
        exact Norm.re [0, 1, 6, 5, 8] (by decide) rfl (by first | (simp only [eq_self, heapFits, rowFits, obFits, List.getElem?_cons_zero, List.getElem?_cons_succ, renL_o, renL_b, true_and, and_true, and_self]; done) | simp [-List.map_set, -List.map_append, heapFits, rowFits, obFits, T.ren, renL]) (by simp [tmFits, T.ren])
      clear hT2
      rintro M ⟨q, s', acc⟩ ⟨hM, hq, hs', hT2⟩
      simp only at hM hq hs' hT2 ⊢
      have fy := Nat.add_zero
      refine goS ?_
      refine SW.cond rfl (fun hc2 => ?_) (fun hc2 => ?_)
      · have hpos : 0 < q := by simp at hc2; omega
        obtain ⟨q, rfl⟩ : ∃ q', q = q' + 1 := ⟨q - 1, by omega⟩
        simp only [hRefsF] at hT2
        obtain ⟨f1, q1, d1⟩ := belowF_ok l s' 32 hl hs'
        generalize belowF l s' 32 = y at *
        obtain ⟨f2, q2, d2⟩ := belowF_ok l y.1 32 hl f1
        generalize belowF l y.1 32 = z at *
        obtain ⟨f3, q3, d3'⟩ := intF_ok l z.1 [0, ((31 - r : Nat) : Int), ((((31 - r : Nat) : Int) + 1).tmod 32), y.2, z.2] hl f2 (by simp) (by simp)
        have d3 : CallR Try.prog 66 [.io (.nd [.sl .s (l.map Enc.b), .int .i64 (z.1.1 : Nat), .int .i64 z.1.2]), .sl .b [.int .i64 0, .int .i64 (((31 - r : Nat) : Int)), .int .i64 (((((31 - r : Nat) : Int) + 1).tmod 32)), .int .i64 y.2, .int .i64 z.2]] [.nd [.sl .s (l.map Enc.b), .int .i64 (((intF l z.1 [0, ((31 - r : Nat) : Int), ((((31 - r : Nat) : Int) + 1).tmod 32), y.2, z.2]).1).1 : Nat), .int .i64 ((intF l z.1 [0, ((31 - r : Nat) : Int), ((((31 - r : Nat) : Int) + 1).tmod 32), y.2, z.2]).1).2]] (.int .i64 (intF l z.1 [0, ((31 - r : Nat) : Int), ((((31 - r : Nat) : Int) + 1).tmod 32), y.2, z.2]).2) := d3'
        clear d3' q3
        generalize intF l z.1 [0, ((31 - r : Nat) : Int), ((((31 - r : Nat) : Int) + 1).tmod 32), y.2, z.2] = w at *
        have hwr : IntKind.i64.wrap (((q + 1 : Nat) : Int) - 1) = (q : Int) := by rw [wrap64 _ (by omega) (by omega)]; omega
        have hwj : IntKind.i64.wrap (((31 - r : Nat) : Int) + 1) = ((31 - r : Nat) : Int) + 1 := wrap64 _ (by omega) (by omega)
        have hwt : IntKind.i64.wrap ((((31 - r : Nat) : Int) + 1).tmod 32) = (((31 - r : Nat) : Int) + 1).tmod 32 := wrap64 _ (by have := Int.tmod_nonneg 32 (show (0 : Int) ≤ ((31 - r : Nat) : Int) + 1 by omega); omega) (by have := Int.tmod_lt_of_pos (((31 - r : Nat) : Int) + 1) (show (0 : Int) < 32 by decide); omega)
        have hb7 := fun own => buildN (Y := Y) (own := own) (t := 27) (n := 5) (ps := [(0, .int .i64 0), (1, .int .i64 (((31 - r : Nat) : Int))), (2, .int .i64 (((((31 - r : Nat) : Int) + 1).tmod 32))), (3, .int .i64 y.2), (4, .int .i64 z.2)]) (r := [.int .i64 0, .int .i64 (((31 - r : Nat) : Int)), .int .i64 (((((31 - r : Nat) : Int) + 1).tmod 32)), .int .i64 y.2, .int .i64 z.2]) Y27 Y3 rfl (by decide) rfl
        have hap := fun (own e j e2 j2 : Nat) (H : Heap) (q1 : H.at e j = some (.arr 1 ((acc).map Enc.o) false)) (q2 : H.at e2 j2 = some (.arr 1 [.int .i64 w.2] false)) => append_runP (Y := Y) (own := own) (t := 27) (u := 27) (e := e) (j := j) (off := 0) (n := (acc).length) (e2 := e2) (j2 := j2) (f := (acc).map Enc.o) (l := acc) (x := w.2) (H := H) Y27 Y27 Y3 rfl (by decide) q1 q2 (by rw [List.drop_zero]; exact take_map_len _ _) (by simp) (by omega) rfl rfl
        have hC1 := cx [.io] (d1)
        have hC2 := cx [.io] (d2)
        have hC3 := cx [.io] (d3)
        have fy := And.intro hwr (And.intro hwj (And.intro hwt (And.intro hb7 (And.intro bs1_27 (hap)))))
        have hD1 := dx 10 [9, 2, 1, 1, 1, 1, 2] [(1, 1), (1, 2), (1, 3), (1, 4), (1, 5)]
        refine goR ?_ ?_ ?_ ?_ ?_ ?_ ?_ ?_ ?_ ?_ ?_ ?_ ?_ ?_ ?_ ?_
        any_goals (first | exact True.intro | skip)
        all_goals (repeat (refine Wh.mk fun hcc => ?_))
        refine ⟨M - 1, (q, w.1, acc ++ [w.2]), by omega, ⟨by simp only; omega, by simp only [List.length_append, List.length_cons, List.length_nil]; omega, f3, hT2⟩, ?_⟩
        exact Norm.re [0, 1, 2, 3, 10] (by decide) rfl (by first | (simp only [eq_self, heapFits, rowFits, obFits, List.getElem?_cons_zero, List.getElem?_cons_succ, renL_o, renL_b, true_and, and_true, and_self]; done) | simp [-List.map_set, -List.map_append, heapFits, rowFits, obFits, T.ren, renL]) (by simp [tmFits, T.ren])
      · have hr0 : q = 0 := by
          have : ¬ 0 < q := by simp at hc2; omega
          omega
        subst hr0
        simp only [hRefsF] at hT2
        subst hT2
        simp only at hT
        have hg : (v.map Enc.o)[31 - r]? = some (Enc.o (v[31 - r]'(by omega))) := map_get Enc.o v (31 - r) (by omega)
        have hgs : ∀ X : T, ((v.map Enc.o).set (31 - r) X)[31 - r]? = some X := fun X => List.getElem?_set_self (by simp; omega)
        have hlt32 : ((31 - r : Nat) : Int) < (v.length : Int) := by omega
        have hn0 : (0 : Int) ≤ ((31 - r : Nat) : Int) := by omega
        have fy := And.intro hwi (And.intro hg (And.intro hlt32 (hn0)))
        have hD1 := dx 10 [9, 2, 1, 1, 1, 1, 2] [(1, 1), (1, 2), (1, 3), (1, 4), (1, 5)]
        refine goR ?_ ?_ ?_ ?_ ?_ ?_ ?_ ?_ ?_ ?_ ?_ ?_ ?_ ?_ ?_ ?_
        any_goals (first | exact True.intro | skip)
        all_goals (repeat (refine Wh.mk fun hcc => ?_))
        refine ⟨N - 1, (r, s', v.set (31 - r) (true, (1 + k.2, [n.2], acc, ()), ())), by omega, ⟨by simp only; omega, by simp only; omega, hs', by simp [hv], hT⟩, ?_⟩
        refine Norm.trans (Norm.soakArr 1 0 (31 - r) rfl (hgs _)) ?_
        have hset : (v.map Enc.o).set (31 - r) (.nd [.bool true, .nd [.int .i64 (1 + k.2), .ow 1 [.int .i64 n.2], .ow 1 (acc.map Enc.o)]]) = (v.set (31 - r) (true, (1 + k.2, [n.2], acc, ()), ())).map Enc.o := by rw [List.map_set]; rfl
        simp only [soakS, soakL, Heap.at, Heap.put, List.getElem?_cons_zero, List.getElem?_cons_succ, List.set_cons_zero, List.set_cons_succ, List.length_map, List.length_cons, List.length_nil, Nat.zero_add, and_self, if_true, List.set_set, hset]
        exact Norm.re [0, 1] (by decide) rfl (by first | (simp only [eq_self, heapFits, rowFits, obFits, List.getElem?_cons_zero, List.getElem?_cons_succ, renL_o, renL_b, true_and, and_true, and_self]; done) | simp [-List.map_set, -List.map_append, heapFits, rowFits, obFits, T.ren, renL]) (by simp [tmFits, T.ren])
  · have hr0 : r = 0 := by
      have : ¬ 0 < r := by simp at hc; omega
      omega
    subst hr0
    simp only [heapF] at hT
    subst hT
    have fy := Nat.add_zero
    have hD1 := dx 10 [9, 2, 1, 1, 1, 1, 2] [(1, 1), (1, 2), (1, 3), (1, 4), (1, 5)]
    refine goR ?_ ?_ ?_ ?_ ?_ ?_ ?_ ?_ ?_ ?_ ?_ ?_ ?_ ?_ ?_ ?_
    any_goals (first | exact True.intro | skip)
    all_goals (repeat (refine Wh.mk fun hcc => ?_))
    all_goals exact SW.ret (show RetQ _ _ _ _ _ _ _ from RetQ.y [4] [.ow 4 (v.map Enc.o)])
end Q6

namespace Q6
open Go Go.Vm Go.Proofs
set_option maxHeartbeats 4000000
set_option synthInstance.maxSize 2000
set_option synthInstance.maxHeartbeats 400000
set_option maxRecDepth 10000
set_option linter.unusedSimpArgs false
set_option linter.unusedVariables false

theorem big_ok (l : List UInt8) : CallR Try.prog 10 [.sl .s (l.map Enc.b)] [] (.bool (decide ((1048576 : Int) < (l.length : Int)))) := by
  refine CallR.of_body (n := 6) (rs := [.tmp 2]) hY.ok Try.func10 rfl (by decide) rfl rfl rfl rfl (fun F => ?_)
  have fx := And.intro Y3 (And.intro Y4 (And.intro Y5 (Y22)))
  have fy := Nat.add_zero
  refine goK ?_ ?_ ?_ ?_ ?_ ?_ ?_ ?_ ?_ ?_ ?_ ?_ ?_ ?_ ?_ ?_
  any_goals (first | exact True.intro | skip)
  all_goals (repeat (refine Wh.mk fun hcc => ?_))
  all_goals rfl
theorem laws_sameInts_ok (l m : List Int) (hl : Enc.lim 1048576 l) : CallR Try.prog 18 [.sl .b (l.map Enc.b), .sl .b (m.map Enc.b)] [] (.bool (decide (l = m))) := by
  refine CallR.of_body (n := 26) (rs := [.tmp 4]) hY.ok Try.func18 rfl (by decide) rfl rfl rfl rfl (fun F => ?_)
  have fx := And.intro Y3 (And.intro Y4 (Y27))
  have hl1 : l.length ≤ 1048576 := hl.1
  have fy := Nat.add_zero
  refine goS ?_
  refine SW.cond rfl (fun hc => ?_) (fun hc => ?_)
  · have hne : ¬ l = m := by intro e; subst e; simp at hc
    have fy := Nat.add_zero
    refine goK ?_ ?_ ?_ ?_ ?_ ?_ ?_ ?_ ?_ ?_ ?_ ?_ ?_ ?_ ?_ ?_
    any_goals (first | exact True.intro | skip)
    all_goals (repeat (refine Wh.mk fun hcc => ?_))
    simp [tupOf, fixEs, hne]
  have hlen : l.length = m.length := by have : (l.length : Int) = m.length := by simpa using hc
                                        omega
  refine SW.skip ?_
  simp only [thenS]
  have fy := Nat.add_zero
  refine goN ?_ ?_ ?_ ?_ ?_ ?_ ?_ ?_ ?_ ?_ ?_ ?_ ?_ ?_ ?_ ?_
  any_goals (first | exact True.intro | skip)
  skip
  refine SW.loop (fun i : Nat => ⟨[.sl .b (l.map Enc.b), .sl .b (m.map Enc.b), .undef, .undef, .undef, .int .i64 i, .undef, .undef, .undef, .undef, .undef, .undef, .undef, .undef, .undef, .undef, .undef, .undef, .undef, .undef, .undef, .undef, .undef, .undef, .undef, .undef], [[]]⟩)
    (fun n i => n = l.length - i ∧ i ≤ l.length ∧ ∀ j (h : j < l.length), j < i → l[j] = m[j]'(by omega)) (n := l.length) (x := 0) (Norm.to 0 rfl (by simp [weakL])) ⟨rfl, Nat.zero_le _, fun j _ h => absurd h (Nat.not_lt_zero _)⟩ ?_
  rintro n i ⟨hn, hi, hp⟩
  have fy := Nat.add_zero
  refine goS ?_
  refine SW.cond rfl (fun hc => ?_) (fun hc => ?_)
  · have hlt : i < l.length := by simpa using hc
    have hlt' : i < m.length := by omega
    have hgl : (l.map Enc.b)[i]? = some (.int .i64 l[i]) := map_get Enc.b l i hlt
    have hgm : (m.map Enc.b)[i]? = some (.int .i64 m[i]) := map_get Enc.b m i hlt'
    have fy := And.intro hgl (hgm)
    refine goK ?_ ?_ ?_ ?_ ?_ ?_ ?_ ?_ ?_ ?_ ?_ ?_ ?_ ?_ ?_ ?_
    any_goals (first | exact True.intro | skip)
    all_goals (repeat (refine Wh.mk fun hcc => ?_))
    · have hx := hcc
      have hne : ¬ l[i] = m[i] := by intro e; simp [e] at hx
      have hlm : ¬ l = m := by intro e; subst e; exact hne rfl
      simp [tupOf, fixEs, hlm]
    · have hx := hcc
      have hx' : l[i] = m[i] := by first | (simpa using hx; done) | (apply UInt8.toNat_inj.1; simp at hx; omega)
      refine ⟨n - 1, i + 1, by omega, ⟨by omega, by omega, fun j hj hji => ?_⟩, ?_⟩
      · by_cases he : j = i
        · subst he; exact hx'
        · exact hp j hj (by omega)
      · rw [wrap64 _ (by omega) (by omega)]
        first | exact Norm.to 0 rfl (by simp [weakL]) | exact Norm.to 1 rfl (by simp [weakL])
  · have hge : i = l.length := by
      have : ¬ i < l.length := by simpa using hc
      omega
    have hlm : l = m := List.ext_getElem hlen fun j h1 h2 => hp j h1 (by omega)
    have fy := Nat.add_zero
    refine goK ?_ ?_ ?_ ?_ ?_ ?_ ?_ ?_ ?_ ?_ ?_ ?_ ?_ ?_ ?_ ?_
    any_goals (first | exact True.intro | skip)
    all_goals (repeat (refine Wh.mk fun hcc => ?_))
    simp [tupOf, fixEs, hlm]
def amongB (l : List Int) (n : Int) : Bool := l.any fun x => decide (x = n)
theorem amongB_iff {l : List Int} {n : Int} : amongB l n = true ↔ n ∈ l := by unfold amongB; simp
theorem among_ok (l : List Int) (hl : l.length ≤ 1048576) (n : Int) : CallR Try.prog 15 [.sl .b (l.map Enc.b), .int .i64 n] [] (.bool (amongB l n)) := by
  refine CallR.of_body (n := 18) (rs := [.tmp 4]) hY.ok Try.func15 rfl (by decide) rfl rfl rfl rfl (fun F => ?_)
  have fx := And.intro Y3 (And.intro Y4 (Y27))
  have fy := Nat.add_zero
  refine goN ?_ ?_ ?_ ?_ ?_ ?_ ?_ ?_ ?_ ?_ ?_ ?_ ?_ ?_ ?_ ?_
  any_goals (first | exact True.intro | skip)
  skip
  refine SW.loop (fun i : Nat => ⟨[.sl .b (l.map Enc.b), .int .i64 n, .undef, .undef, .undef, .int .i64 (i : Nat), .undef, .undef, .undef, .undef, .undef, .undef, .undef, .undef, .undef, .undef, .undef, .undef], [[]]⟩)
    (fun N i => N = l.length - i ∧ i ≤ l.length ∧ ∀ j (h : j < l.length), j < i → (fun x => !decide (x = n)) l[j] = true) (n := l.length) (x := 0) (by first | exact Norm.to 0 rfl (by simp [weakL]) | exact Norm.to 1 rfl (by simp [weakL])) ⟨rfl, Nat.zero_le _, fun j _ h => absurd h (Nat.not_lt_zero _)⟩ ?_
  rintro N i ⟨hN, hi, hp⟩
  have fy := Nat.add_zero
  refine goS ?_
  refine SW.cond rfl (fun hci => ?_) (fun hci => ?_)
  · skip
    have hlti : i < l.length := by simpa using hci
    have hltIi : (i : Int) < (l.length : Int) := by omega
    have hg : (l.map Enc.b)[i]? = some (.int .i64 l[i]) := map_get Enc.b l i hlti
    have hq : (l[i] == n) = decide (l[i] = n) := rfl
    generalize hb : decide (l[i] = n) = b at *
    cases b
    · skip
      have fy := And.intro hg (And.intro hq (hltIi))
      refine goR ?_ ?_ ?_ ?_ ?_ ?_ ?_ ?_ ?_ ?_ ?_ ?_ ?_ ?_ ?_ ?_
      any_goals (first | exact True.intro | skip)
      all_goals (repeat (refine Wh.mk fun hcc => ?_))
      refine ⟨N - 1, i + 1, by omega, ⟨by omega, by omega, fun j hj hji => ?_⟩, ?_⟩
      · by_cases he : j = i
        · subst he; exact (by simp [hb])
        · exact hp j hj (by omega)
      · rw [wrap64 _ (by omega) (by omega)]
        first | exact Norm.to 0 rfl (by simp [weakL]) | exact Norm.to 1 rfl (by simp [weakL]) | exact Norm.to 2 rfl (by simp [weakL]) | exact Norm.to 3 rfl (by simp [weakL])
    · have hy : amongB l n = true := by unfold amongB; rw [List.any_eq_true]; exact ⟨_, List.getElem_mem hlti, hb⟩
      have fy := And.intro hg (And.intro hq (hltIi))
      refine goK ?_ ?_ ?_ ?_ ?_ ?_ ?_ ?_ ?_ ?_ ?_ ?_ ?_ ?_ ?_ ?_
      any_goals (first | exact True.intro | skip)
      all_goals (repeat (refine Wh.mk fun hcc => ?_))
      all_goals simp [tupOf, fixEs, hy]
  · skip
    have hgei : i = l.length := by
      have : ¬ i < l.length := by simpa using hci
      omega
    have hall : l.all (fun x => !decide (x = n)) = true := all_of _ _ (fun j hj => hp j hj (by omega))
    have hy : amongB l n = false := by
      unfold amongB; rw [List.any_eq_false]; intro x hx; have := List.all_eq_true.1 hall x hx; simpa using this
    have fy := Nat.add_zero
    refine goK ?_ ?_ ?_ ?_ ?_ ?_ ?_ ?_ ?_ ?_ ?_ ?_ ?_ ?_ ?_ ?_
    any_goals (first | exact True.intro | skip)
    all_goals (repeat (refine Wh.mk fun hcc => ?_))
    all_goals simp [tupOf, fixEs, hy]
noncomputable def newF (l : List UInt8) : Int := by
  classical
  exact if h : ∃ h : Int, CallR Try.prog 49 [.sl .s (l.map Enc.b)] [] (.fp (.io (.nd [.sl .s (l.map Enc.b), .int .i64 0, .int .i64 h]))) then h.choose else 0
theorem newF_ok (l : List UInt8) (hl : l.length ≤ 1048576) : CallR Try.prog 49 [.sl .s (l.map Enc.b)] [] (.fp (.io (.nd [.sl .s (l.map Enc.b), .int .i64 0, .int .i64 (newF l)]))) := by
  unfold newF
  rw [dif_pos (new_ok l hl)]
  exact (new_ok l hl).choose_spec
noncomputable def drawHeap (l : List UInt8) : List SlotT := (heapF l 31 (0, newF l) v0).2
theorem drawHeap_view (l : List UInt8) (hl : l.length ≤ 1048576) : viewB (drawHeap l) = true ∧ (∀ i, hasA (drawHeap l) i = false → refsA (drawHeap l) i = []) := by
  obtain ⟨_, h1, h2, h3⟩ := heapF_ok l hl 31 (0, newF l) v0 (Nat.zero_le _) (by decide) List.length_replicate (by intro x hx; rw [List.eq_of_mem_replicate hx]; decide) (by decide)
  unfold drawHeap
  generalize (heapF l 31 (0, newF l) v0).2 = v at *
  constructor
  · unfold viewB
    cases v with
    | nil => simp at h1
    | cons s v' =>
      have h0 : s.1 = false := by simpa [hasA] using h3
      simp only [h1, h0, Bool.and_eq_true, List.all_eq_true]
      exact ⟨⟨by decide, by decide⟩, h2⟩
  · intro i hi
    unfold hasA at hi; unfold refsA
    cases hg : v[i]? with
    | none => rfl
    | some s =>
      rw [hg] at hi
      have hs := h2 s (List.mem_of_getElem? hg)
      simp only at hi
      simp only [slotB, hi, Bool.false_eq_true, if_false, noObjB, Bool.and_eq_true, decide_eq_true_eq] at hs
      exact List.length_eq_zero_iff.1 hs.2
theorem drawHeapW_ok (l : List UInt8) (hl : l.length ≤ 1048576) : CallR Try.prog 11 [.sl .s (l.map Enc.b)] [] (.ow 4 ((drawHeap l).map Enc.o)) := by
  refine CallR.of_body (n := 8) (rs := [.tmp 2]) hY.ok Try.func11 rfl (by decide) rfl rfl rfl rfl (fun F => ?_)
  have fx := And.intro Y3 (And.intro Y4 (And.intro Y5 (And.intro Y22 (And.intro Y24 (And.intro Y27 (And.intro Y35 (And.intro Y37 (Y104))))))))
  have c1 := newF_ok l hl
  have c2 := heapW_ok l (0, newF l) hl (Nat.zero_le _)
  unfold drawHeap
  generalize newF l = h at *
  generalize heapF l 31 (0, h) v0 = r at *
  obtain ⟨⟨n0, h0⟩, v⟩ := r
  simp only [Int.natCast_zero] at c1 c2 ⊢
  have hC1 := cx [.own 1] (c1)
  have hC2 := cx [.io] (c2)
  have fy := Nat.add_zero
  refine goR ?_ ?_ ?_ ?_ ?_ ?_ ?_ ?_ ?_ ?_ ?_ ?_ ?_ ?_ ?_ ?_
  any_goals (first | exact True.intro | skip)
  all_goals (repeat (refine Wh.mk fun hcc => ?_))
  all_goals exact SW.ret (show RetQ _ _ _ _ _ _ _ from RetQ.y [4] [.ow 4 (v.map Enc.o)])
end Q6

namespace Q6
open Go Go.Vm Go.Proofs
set_option maxHeartbeats 4000000
set_option synthInstance.maxSize 2000
set_option synthInstance.maxHeartbeats 400000
set_option maxRecDepth 10000
set_option linter.unusedSimpArgs false
set_option linter.unusedVariables false

open Qlk

noncomputable def lkStepF (l : List UInt8) (s : CS) (L : LkT) : CS × LkT :=
  let t := belowF l s 5; let o := onceF l t.1 6
  if o.2 = true then (o.1, (dropF L (1 + t.2)).1) else if (L.2.1.any fun x => decide (x.1 = 1 + t.2)) = true then (o.1, L)
  else let r := belowF l o.1 3; let m := belowF l r.1 4; (m.1, (askF L (1 + t.2, r.2, 1 + m.2, ())).1)
noncomputable def lkDrawF (l : List UInt8) : Nat → CS → LkT → CS × LkT
  | 0, s, L => (s, L)
  | n + 1, s, L => lkDrawF l n (lkStepF l s L).1 (lkStepF l s L).2
theorem ask_size (L : LkT) (g : GrT) : (askF L g).1.1.length + (askF L g).1.2.1.length ≤ L.1.length + L.2.1.length + 1 := by
  unfold askF
  split
  · simp only; omega
  · split
    · have := @give_len L.1 g (wouldF L.1 g); simp only; omega
    · simp only [List.length_append, List.length_singleton]; omega
theorem lkStep_ok (l : List UInt8) (s : CS) (L : LkT) (hl : l.length ≤ 1048576) (hi : s.1 ≤ l.length) (hL : LkOk L) (hn : L.1.length + L.2.1.length ≤ 58) :
    (lkStepF l s L).1.1 ≤ l.length ∧ LkOk (lkStepF l s L).2 ∧ (lkStepF l s L).2.1.length + (lkStepF l s L).2.2.1.length ≤ L.1.length + L.2.1.length + 1 := by
  unfold lkStepF
  simp only
  obtain ⟨a1, a2, _⟩ := belowF_ok l s 5 hl hi
  generalize belowF l s 5 = t at *
  obtain ⟨b1, _⟩ := onceF_ok l t.1 6 hl a1
  generalize onceF l t.1 6 = o at *
  have t5 := a2.2 (by decide)
  split
  · obtain ⟨h1, _, _, _, h5⟩ := drop_ok hL (1 + t.2) (by omega)
    exact ⟨b1, h1, by simp only; omega⟩
  · split
    · exact ⟨b1, hL, by simp only; omega⟩
    · rename_i hw
      obtain ⟨c1, c2, _⟩ := belowF_ok l o.1 3 hl b1
      generalize belowF l o.1 3 = r at *
      obtain ⟨d1, d2, _⟩ := belowF_ok l r.1 4 hl c1
      generalize belowF l r.1 4 = m at *
      have r3 := c2.2 (by decide)
      have m4 := d2.2 (by decide)
      refine ⟨d1, ask_ok hL ?_ ?_ (by omega) (by omega), ask_size L _⟩
      · unfold grB modeB
        simp only [Bool.and_eq_true, decide_eq_true_eq]
        omega
      · intro x hx he
        exact hw (List.any_eq_true.2 ⟨x, hx, by simpa using he⟩)
theorem lkDraw_ok (l : List UInt8) (hl : l.length ≤ 1048576) : ∀ (n : Nat) (s : CS) (L : LkT), s.1 ≤ l.length → LkOk L → L.1.length + L.2.1.length + n ≤ 58 →
    (lkDrawF l n s L).1.1 ≤ l.length ∧ LkOk (lkDrawF l n s L).2 ∧ (lkDrawF l n s L).2.1.length + (lkDrawF l n s L).2.2.1.length ≤ L.1.length + L.2.1.length + n
  | 0, s, L, h, hL, hn => ⟨h, hL, by simp [lkDrawF]⟩
  | n + 1, s, L, h, hL, hn => by
    obtain ⟨h1, h2, h3⟩ := lkStep_ok l s L hl h hL (by omega)
    obtain ⟨h4, h5, h6⟩ := lkDraw_ok l hl n _ _ h1 h2 (by omega)
    exact ⟨h4, h5, by simp only [lkDrawF]; omega⟩
theorem openK (tm : List T) (C : T) (hC : ∀ e j, thawA e C j = (C, [])) (G W : List GrT) : Norm ⟨tm, [[.var (C)], [.var (.nd [.nils 3, .nils 3])], [.var (.nd [.ow 3 ((G).map Enc.o), .ow 3 ((W).map Enc.o)])]]⟩ ⟨tm, [[.var (C)], [.var (.nd [.nils 3, .nils 3])], [.var (.nd [.ref 3 0 0 (G).length, .ref 3 1 0 (W).length])], [.arr 3 ((G).map Enc.o) false, .arr 3 ((W).map Enc.o) false]]⟩ := by
  have h := Norm.expelVar (tm := tm) (H := [[.var (C)], [.var (.nd [.nils 3, .nils 3])], [.var (.nd [.ow 3 ((G).map Enc.o), .ow 3 ((W).map Enc.o)])]]) 2 0 rfl
  simp only [thawA, thawAL, Heap.put, List.getElem?_cons_zero, List.getElem?_cons_succ, List.set_cons_zero, List.set_cons_succ, List.length_cons, List.length_nil, List.nil_append, List.cons_append, List.append_nil, Nat.zero_add, Nat.reduceAdd, List.length_map] at h
  exact h

theorem sAsk0_ok (G W : List GrT) (hG : G.length ≤ 1000) (hW : W.length ≤ 1000) (hv : ∀ x ∈ G, grB x = true) (g : GrT) : CallR Try.prog 80 [.io (.nd [.ow 3 ((G).map Enc.o), .ow 3 ((W).map Enc.o)]), .nd [.int .i64 g.1, .int .i64 g.2.1, .int .i64 g.2.2.1]] [.nd [.ow 3 (((askF (G, W, ()) g).1.1).map Enc.o), .ow 3 (((askF (G, W, ()) g).1.2.1).map Enc.o)]] (.int .i64 (askF (G, W, ()) g).2) := by
  refine CallR.of_body (n := 57) (rs := [.tmp 4]) hY.ok Try.func80 rfl (by decide) rfl rfl rfl rfl (fun F => ?_)
  have fx := And.intro Y1 (And.intro Y3 (And.intro Y4 (And.intro Y41 (And.intro Y43 (And.intro Y50 (Y131))))))
  have cH := sHas_ok G W hG g
  have cW := sWould_ok G W hG hv g
  have cF := sFits_ok G W hG g (wouldF G g)
  have cR := sForRes_ok W hW g.2.1
  have cG := sGive_ok G W hG hW g (wouldF G g)
  unfold askF
  simp only
  have q1 : (wouldF G g == hasF G g) = decide (wouldF G g = hasF G g) := rfl
  have q2 : (hasF G g != 0) = decide (hasF G g ≠ 0) := by rw [decide_not]; rfl
  generalize giveF G g (wouldF G g) = G2 at *
  generalize fitsF G g (wouldF G g) = b1 at *
  generalize forRes W g.2.1 = b3 at *
  generalize hasF G g = k at *
  generalize wouldF G g = m at *
  by_cases h0 : m = k
  · rw [decide_eq_true h0] at q1
    simp only [if_pos h0]
    have hC1 := cx [] (cH)
    have hC2 := cx [] (cW)
    have fy := q1
    have hD1 := dx 8 [7, 1, 3] [(4, 1)]
    refine goR ?_ ?_ ?_ ?_ ?_ ?_ ?_ ?_ ?_ ?_ ?_ ?_ ?_ ?_ ?_ ?_
    any_goals (first | exact True.intro | skip)
    all_goals (repeat (refine Wh.mk fun hcc => ?_))
    all_goals exact SW.ret (show RetQ _ _ _ _ _ _ _ from RetQ.y [0] [.int .i64 0])
  rw [decide_eq_false h0] at q1
  simp only [if_neg h0]
  generalize decide (k ≠ 0) = b2 at *
  cases b1
  · skip
    rw [if_neg (by simp)]
    have hap := fun (own e j e2 j2 : Nat) (H : Heap) (q1 : H.at e j = some (.arr 3 ((W).map Enc.o) false)) (q2 : H.at e2 j2 = some (.arr 3 [.nd [.int .i64 g.1, .int .i64 g.2.1, .int .i64 g.2.2.1]] false)) => append_runP (Y := Y) (own := own) (t := 41) (u := 41) (e := e) (j := j) (off := 0) (n := (W).length) (e2 := e2) (j2 := j2) (f := (W).map Enc.o) (l := W) (x := g) (H := H) Y41 Y41 Y50 rfl (by decide) q1 q2 (by rw [List.drop_zero]; exact take_map_len _ _) (by simp) (by omega) rfl rfl
    have hC1 := cx [] (cH)
    have hC2 := cx [] (cW)
    have hC3 := cx [] (cF)
    have fy := And.intro q1 (And.intro q2 (And.intro bs1_41 (hap)))
    have hD1 := dx 8 [7, 1, 3] [(4, 1)]
    refine goR ?_ ?_ ?_ ?_ ?_ ?_ ?_ ?_ ?_ ?_ ?_ ?_ ?_ ?_ ?_ ?_
    any_goals (first | exact True.intro | skip)
    all_goals (repeat (refine Wh.mk fun hcc => ?_))
    all_goals exact SW.ret (show RetQ _ _ _ _ _ _ _ from RetQ.y [0] [.int .i64 1])
  · cases b2
    rotate_left
    · skip
      rw [if_pos (by simp)]
      have hC1 := cx [] (cH)
      have hC2 := cx [] (cW)
      have hC3 := cx [] (cF)
      have hC4 := cx [.io] (cG)
      have fy := And.intro q1 (q2)
      have hD1 := dx 8 [7, 1, 3] [(4, 1)]
      refine goR ?_ ?_ ?_ ?_ ?_ ?_ ?_ ?_ ?_ ?_ ?_ ?_ ?_ ?_ ?_ ?_
      any_goals (first | exact True.intro | skip)
      all_goals (repeat (refine Wh.mk fun hcc => ?_))
      all_goals exact SW.ret (show RetQ _ _ _ _ _ _ _ from RetQ.y [0] [.int .i64 0])
    · cases b3
      · skip
        rw [if_pos (by simp)]
        have hC1 := cx [] (cH)
        have hC2 := cx [] (cW)
        have hC3 := cx [] (cF)
        have hC4 := cx [] (cR)
        have hC5 := cx [.io] (cG)
        have fy := And.intro q1 (q2)
        have hD1 := dx 8 [7, 1, 3] [(4, 1)]
        refine goR ?_ ?_ ?_ ?_ ?_ ?_ ?_ ?_ ?_ ?_ ?_ ?_ ?_ ?_ ?_ ?_
        any_goals (first | exact True.intro | skip)
        all_goals (repeat (refine Wh.mk fun hcc => ?_))
        all_goals exact SW.ret (show RetQ _ _ _ _ _ _ _ from RetQ.y [0] [.int .i64 0])
      · skip
        rw [if_neg (by simp)]
        have hap := fun (own e j e2 j2 : Nat) (H : Heap) (q1 : H.at e j = some (.arr 3 ((W).map Enc.o) false)) (q2 : H.at e2 j2 = some (.arr 3 [.nd [.int .i64 g.1, .int .i64 g.2.1, .int .i64 g.2.2.1]] false)) => append_runP (Y := Y) (own := own) (t := 41) (u := 41) (e := e) (j := j) (off := 0) (n := (W).length) (e2 := e2) (j2 := j2) (f := (W).map Enc.o) (l := W) (x := g) (H := H) Y41 Y41 Y50 rfl (by decide) q1 q2 (by rw [List.drop_zero]; exact take_map_len _ _) (by simp) (by omega) rfl rfl
        have hC1 := cx [] (cH)
        have hC2 := cx [] (cW)
        have hC3 := cx [] (cF)
        have hC4 := cx [] (cR)
        have fy := And.intro q1 (And.intro q2 (And.intro bs1_41 (hap)))
        have hD1 := dx 8 [7, 1, 3] [(4, 1)]
        refine goR ?_ ?_ ?_ ?_ ?_ ?_ ?_ ?_ ?_ ?_ ?_ ?_ ?_ ?_ ?_ ?_
        any_goals (first | exact True.intro | skip)
        all_goals (repeat (refine Wh.mk fun hcc => ?_))
        all_goals exact SW.ret (show RetQ _ _ _ _ _ _ _ from RetQ.y [0] [.int .i64 1])
theorem lk0_ok : LkOk (([], [], ()) : LkT) := ⟨by simp, by simp, by simp, by simp, by simp, by simp⟩
theorem lkDrawW_ok (l : List UInt8) (s : CS) (hl : l.length ≤ 1048576) (hi : s.1 ≤ l.length) (most : Nat) (h1 : 1 ≤ most) (hm : most ≤ 50) : CallR Try.prog 93 [.io (.nd [.sl .s (l.map Enc.b), .int .i64 (s.1 : Nat), .int .i64 s.2]), .int .i64 (most : Nat)] [.nd [.sl .s (l.map Enc.b), .int .i64 (((lkDrawF l (belowF l s most).2.toNat (belowF l s most).1 (([], [], ()) : LkT)).1).1 : Nat), .int .i64 ((lkDrawF l (belowF l s most).2.toNat (belowF l s most).1 (([], [], ()) : LkT)).1).2]] (.nd [.ow 3 (((lkDrawF l (belowF l s most).2.toNat (belowF l s most).1 (([], [], ()) : LkT)).2.1).map Enc.o), .ow 3 (((lkDrawF l (belowF l s most).2.toNat (belowF l s most).1 (([], [], ()) : LkT)).2.2.1).map Enc.o)]) := by
  refine CallR.of_body (n := 36) (rs := [.cell 4 43]) hY.ok Try.func93 rfl (by decide) rfl rfl rfl rfl (fun F => ?_)
  have fx := And.intro Y1 (And.intro Y2 (And.intro Y3 (And.intro Y4 (And.intro Y27 (And.intro Y41 (And.intro Y43 (And.intro Y50 (And.intro Y104 (Y131)))))))))
  obtain ⟨e1, p1, c1⟩ := belowF_ok l s most hl hi
  generalize belowF l s most = n at *
  obtain ⟨s1, n1⟩ := n
  simp only at e1 p1 c1 ⊢
  obtain ⟨N0, rfl⟩ : ∃ N0 : Nat, n1 = (N0 : Int) := ⟨n1.toNat, by omega⟩
  rw [Int.toNat_natCast]
  generalize hT1 : lkDrawF l N0 s1 ([], [], ()) = T1 at *
  have hC1 := cx [.io] (c1)
  have fy := Nat.add_zero
  refine goN ?_ ?_ ?_ ?_ ?_ ?_ ?_ ?_ ?_ ?_ ?_ ?_ ?_ ?_ ?_ ?_
  any_goals (first | exact True.intro | skip)
  skip
  have hN0 : N0 ≤ 49 := by have := p1.2 (by omega); omega
  refine SW.loop (fun x : Nat × CS × LkT => ⟨[.ptr 0 0 [] 0, .undef, .undef, .undef, .ptr 1 0 [] 0, .ptr 2 0 [] 0, .int .i64 (x.1 : Nat), .undef, .undef, .undef, .undef, .undef, .undef, .undef, .undef, .undef, .undef, .undef, .undef, .undef, .undef, .undef, .undef, .undef, .undef, .undef, .undef, .undef, .undef, .undef, .undef, .undef, .undef, .undef, .undef, .undef], [[.var (.nd [.sl .s (l.map Enc.b), .int .i64 (x.2.1.1 : Nat), .int .i64 x.2.1.2])], [.var (.nd [.nils 3, .nils 3])], [.var (.nd [.ref 3 0 0 (x.2.2.1).length, .ref 3 1 0 (x.2.2.2.1).length])], [.arr 3 ((x.2.2.1).map Enc.o) false, .arr 3 ((x.2.2.2.1).map Enc.o) false]]⟩)
    (fun N x => N = x.1 ∧ x.2.1.1 ≤ l.length ∧ LkOk x.2.2 ∧ x.2.2.1.length + x.2.2.2.1.length + x.1 ≤ 50 ∧ lkDrawF l x.1 x.2.1 x.2.2 = T1) (n := N0) (x := (N0, s1, (([], [], ()) : LkT))) ?_ ⟨rfl, e1, lk0_ok, by simp; omega, hT1⟩ ?_
  · refine Norm.trans ?_ (openK _ (.nd [.sl .s (l.map Enc.b), .int .i64 (s1.1 : Nat), .int .i64 s1.2]) (fun _ _ => rfl) [] [])
    refine Norm.trans (Norm.forget (u := .nd [.ow 3 [], .ow 3 []]) 2 0 rfl (.inr ⟨_, rfl, ⟨_, _, rfl, .inr (.inr rfl), ⟨_, _, rfl, .inr (.inr rfl), rfl⟩⟩⟩)) ?_
    simp only [Heap.put, List.getElem?_cons_zero, List.getElem?_cons_succ, List.set_cons_succ, List.set_cons_zero]
    exact Norm.re [0, 1, 2] (by decide) rfl (by first | (simp only [eq_self, heapFits, rowFits, obFits, List.getElem?_cons_zero, List.getElem?_cons_succ, renL_o, renL_b, true_and, and_true, and_self]; done) | simp [-List.map_set, -List.map_append, heapFits, rowFits, obFits, T.ren, renL]) (by simp [tmFits, T.ren, renL])
  clear hT1
  rintro N ⟨r, s', L⟩ ⟨hN, hs, hL, hsz, hT⟩
  simp only at hN hs hL hsz hT ⊢
  have fy := Nat.add_zero
  refine goS ?_
  refine SW.cond rfl (fun hc => ?_) (fun hc => ?_)
  · have hpos : 0 < r := by simp at hc; omega
    obtain ⟨r, rfl⟩ : ∃ r', r = r' + 1 := ⟨r - 1, by omega⟩
    simp only [lkDrawF] at hT
    have hst := lkStep_ok l s' L hl hs hL (by omega)
    unfold lkStepF at hst hT
    simp only at hst hT
    obtain ⟨a1, a2, d1⟩ := belowF_ok l s' 5 hl hs
    generalize belowF l s' 5 = t at *
    obtain ⟨b1, d2⟩ := onceF_ok l t.1 6 hl a1
    generalize onceF l t.1 6 = o at *
    obtain ⟨so, bo⟩ := o
    simp only at b1 d2 hst hT
    have t5 := a2.2 (by decide)
    have hwt : IntKind.i64.wrap (1 + t.2) = 1 + t.2 := wrap64 _ (by omega) (by omega)
    have hwr : IntKind.i64.wrap (((r + 1 : Nat) : Int) - 1) = (r : Int) := by rw [wrap64 _ (by omega) (by omega)]; omega
    obtain ⟨A, B, ⟨⟩⟩ := L
    have hA := hL.gl
    have hB := hL.wl
    have hv := hL.g
    simp only at hA hB hv hsz ⊢
    cases bo
    rotate_left
    · simp only [if_true] at hst hT
      have d3 := sDrop_ok A B hL (1 + t.2)
      unfold dropF at hst hT
      generalize dropR (A, B, ()) (1 + t.2) = D at *
      obtain ⟨D1, D2, D3⟩ := D
      simp only at hst hT d3
      obtain ⟨_, k2, k3⟩ := hst
      have hC1 := cx [.io] (d1)
      have hC2 := cx [.io] (d2)
      have hC3 := cx [.io] (d3)
      have fy := And.intro hwt (hwr)
      refine goR ?_ ?_ ?_ ?_ ?_ ?_ ?_ ?_ ?_ ?_ ?_ ?_ ?_ ?_ ?_ ?_
      any_goals (first | exact True.intro | skip)
      all_goals (repeat (refine Wh.mk fun hcc => ?_))
      refine ⟨N - 1, (r, so, (D1, D2, ())), by omega, ⟨by simp only; omega, b1, k2, by simp only; omega, hT⟩, ?_⟩
      refine Norm.trans ?_ (openK _ (.nd [.sl .s (l.map Enc.b), .int .i64 (so.1 : Nat), .int .i64 so.2]) (fun _ _ => rfl) D1 D2)
      exact Norm.re [0, 1, 2] (by decide) rfl (by first | (simp only [eq_self, heapFits, rowFits, obFits, List.getElem?_cons_zero, List.getElem?_cons_succ, renL_o, renL_b, true_and, and_true, and_self]; done) | simp [-List.map_set, -List.map_append, heapFits, rowFits, obFits, T.ren, renL]) (by simp [tmFits, T.ren, renL])
    · simp only [Bool.false_eq_true, if_false] at hst hT
      have d3 := sWaits_ok A B (by omega) (1 + t.2)
      generalize (B.any fun x => decide (x.1 = 1 + t.2)) = w at *
      cases w
      rotate_left
      · simp only [if_true] at hst hT
        have hC1 := cx [.io] (d1)
        have hC2 := cx [.io] (d2)
        have hC3 := cx [] (d3)
        have fy := And.intro hwt (hwr)
        refine goR ?_ ?_ ?_ ?_ ?_ ?_ ?_ ?_ ?_ ?_ ?_ ?_ ?_ ?_ ?_ ?_
        any_goals (first | exact True.intro | skip)
        all_goals (repeat (refine Wh.mk fun hcc => ?_))
        refine ⟨N - 1, (r, so, (A, B, ())), by omega, ⟨by simp only; omega, b1, hL, by simp only; omega, hT⟩, ?_⟩
        exact Norm.re [0, 1, 2, 3] (by decide) rfl (by first | (simp only [eq_self, heapFits, rowFits, obFits, List.getElem?_cons_zero, List.getElem?_cons_succ, renL_o, renL_b, true_and, and_true, and_self]; done) | simp [-List.map_set, -List.map_append, heapFits, rowFits, obFits, T.ren, renL]) (by simp [tmFits, T.ren, renL])
      · simp only [Bool.false_eq_true, if_false] at hst hT
        obtain ⟨f1, f2, d4⟩ := belowF_ok l so 3 hl b1
        generalize belowF l so 3 = y at *
        obtain ⟨g1, g2, d5⟩ := belowF_ok l y.1 4 hl f1
        generalize belowF l y.1 4 = m at *
        have m4 := g2.2 (by decide)
        have hwm : IntKind.i64.wrap (1 + m.2) = 1 + m.2 := wrap64 _ (by omega) (by omega)
        have d6 := sAsk0_ok A B (by omega) (by omega) hv (1 + t.2, y.2, 1 + m.2, ())
        generalize askF (A, B, ()) (1 + t.2, y.2, 1 + m.2, ()) = K at *
        obtain ⟨⟨K1, K2, ⟨⟩⟩, K3⟩ := K
        simp only at hst hT d6
        obtain ⟨_, k2, k3⟩ := hst
        have hC1 := cx [.io] (d1)
        have hC2 := cx [.io] (d2)
        have hC3 := cx [] (d3)
        have hC4 := cx [.io] (d4)
        have hC5 := cx [.io] (d5)
        have hC6 := cx [.io] (d6)
        have fy := And.intro hwt (And.intro hwr (hwm))
        refine goR ?_ ?_ ?_ ?_ ?_ ?_ ?_ ?_ ?_ ?_ ?_ ?_ ?_ ?_ ?_ ?_
        any_goals (first | exact True.intro | skip)
        all_goals (repeat (refine Wh.mk fun hcc => ?_))
        refine ⟨N - 1, (r, m.1, (K1, K2, ())), by omega, ⟨by simp only; omega, g1, k2, by simp only; omega, hT⟩, ?_⟩
        refine Norm.trans ?_ (openK _ (.nd [.sl .s (l.map Enc.b), .int .i64 (m.1.1 : Nat), .int .i64 m.1.2]) (fun _ _ => rfl) K1 K2)
        exact Norm.re [0, 1, 2] (by decide) rfl (by first | (simp only [eq_self, heapFits, rowFits, obFits, List.getElem?_cons_zero, List.getElem?_cons_succ, renL_o, renL_b, true_and, and_true, and_self]; done) | simp [-List.map_set, -List.map_append, heapFits, rowFits, obFits, T.ren, renL]) (by simp [tmFits, T.ren, renL])
  · have hr0 : r = 0 := by
      have : ¬ 0 < r := by simp at hc; omega
      omega
    subst hr0
    simp only [lkDrawF] at hT
    subst hT
    have fy := Nat.add_zero
    refine goR ?_ ?_ ?_ ?_ ?_ ?_ ?_ ?_ ?_ ?_ ?_ ?_ ?_ ?_ ?_ ?_
    any_goals (first | exact True.intro | skip)
    all_goals (repeat (refine Wh.mk fun hcc => ?_))
    all_goals exact SW.ret (show RetQ _ _ _ _ _ _ _ from RetQ.y [0] [.nd [.ow 3 (L.1.map Enc.o), .ow 3 (L.2.1.map Enc.o)]])
noncomputable def drawLocks (l : List UInt8) : LkT := (lkDrawF l (belowF l (0, newF l) (sizeF l 30 : Nat)).2.toNat (belowF l (0, newF l) (sizeF l 30 : Nat)).1 (([], [], ()) : LkT)).2
theorem sizeF_pos (l : List UInt8) (most : Nat) (h : 3 ≤ most) : 3 ≤ sizeF l most := by unfold sizeF; split <;> omega
theorem drawLocks_ok (l : List UInt8) (hl : l.length ≤ 1048576) : LkOk (drawLocks l) ∧ (drawLocks l).1.length + (drawLocks l).2.1.length ≤ 29 := by
  obtain ⟨e1, p1, _⟩ := belowF_ok l (0, newF l) (sizeF l 30 : Nat) hl (Nat.zero_le _)
  have h1 := sizeF_le l 30
  have h2 := sizeF_pos l 30 (by decide)
  have h3 := p1.2 (by omega)
  obtain ⟨_, h5, h6⟩ := lkDraw_ok l hl (belowF l (0, newF l) (sizeF l 30 : Nat)).2.toNat (belowF l (0, newF l) (sizeF l 30 : Nat)).1 (([], [], ()) : LkT) e1 lk0_ok (by simp; omega)
  refine ⟨h5, ?_⟩
  unfold drawLocks
  simp only [List.length_nil, Nat.zero_add] at h6
  omega
theorem drawLocksW_ok (l : List UInt8) (hl : l.length ≤ 1048576) : CallR Try.prog 35 [.sl .s (l.map Enc.b)] [] (.nd [.ow 3 (((drawLocks l).1).map Enc.o), .ow 3 (((drawLocks l).2.1).map Enc.o)]) := by
  refine CallR.of_body (n := 10) (rs := [.cell 2 43]) hY.ok Try.func35 rfl (by decide) rfl rfl rfl rfl (fun F => ?_)
  have fx := And.intro Y3 (And.intro Y5 (And.intro Y22 (And.intro Y41 (And.intro Y43 (And.intro Y50 (Y104))))))
  have c1 := newF_ok l hl
  have c2 := l1Size_ok l hl 30 (by decide)
  have c3 := lkDrawW_ok l (0, newF l) hl (Nat.zero_le _) (sizeF l 30) (by have := sizeF_pos l 30 (by decide); omega) (by have := sizeF_le l 30; omega)
  unfold drawLocks
  generalize newF l = h at *
  generalize lkDrawF l (belowF l (0, h) (sizeF l 30 : Nat)).2.toNat (belowF l (0, h) (sizeF l 30 : Nat)).1 (([], [], ()) : LkT) = r at *
  generalize sizeF l 30 = z at *
  obtain ⟨⟨n0, h0⟩, A, B, ⟨⟩⟩ := r
  simp only [Int.natCast_zero, Int.cast_ofNat_Int] at c1 c2 c3 ⊢
  have hC1 := cx [.own 1] (c1)
  have hC2 := cx [.own 1, .own 0] (c2)
  have hC3 := cx [.io] (c3)
  have fy := Nat.add_zero
  refine goR ?_ ?_ ?_ ?_ ?_ ?_ ?_ ?_ ?_ ?_ ?_ ?_ ?_ ?_ ?_ ?_
  any_goals (first | exact True.intro | skip)
  all_goals (repeat (refine Wh.mk fun hcc => ?_))
  all_goals exact SW.ret (show RetQ _ _ _ _ _ _ _ from RetQ.y [0] [.nd [.ow 3 (A.map Enc.o), .ow 3 (B.map Enc.o)]])
end Q6

namespace Q6
open Go Go.Vm Go.Proofs
set_option maxHeartbeats 4000000
set_option synthInstance.maxSize 2000
set_option synthInstance.maxHeartbeats 400000
set_option maxRecDepth 10000
set_option linter.unusedSimpArgs false
set_option linter.unusedVariables false

open Qlk

theorem filtM (P : GrT → Bool) {l : List GrT} {i : Nat} (h : i < l.length) : ((l.take (i + 1)).filter P).map (·.1) = ((l.take i).filter P).map (·.1) ++ (if P l[i] = true then [l[i].1] else []) := by
  rw [List.take_succ_eq_append_getElem h, List.filter_append, List.map_append]
  congr 1
  cases hb : P l[i] <;> simp [hb]
theorem filtM_len (P : GrT → Bool) (l : List GrT) (i : Nat) : (((l.take i).filter P).map (·.1)).length ≤ i := by
  have h1 := List.length_filter_le P (l.take i)
  rw [List.length_take] at h1; rw [List.length_map]; omega
def txs (P : GrT → Bool) (l : List GrT) (i : Nat) : List Int := ((l.take i).filter P).map (·.1)
theorem txs_zero (P : GrT → Bool) (l : List GrT) : txs P l 0 = [] := rfl
theorem txs_succ (P : GrT → Bool) {l : List GrT} {i : Nat} (h : i < l.length) : txs P l (i + 1) = txs P l i ++ (if P l[i] = true then [l[i].1] else []) := filtM P h
theorem txs_len (P : GrT → Bool) (l : List GrT) (i : Nat) : (txs P l i).length ≤ i := filtM_len P l i
theorem txs_all (P : GrT → Bool) (l : List GrT) : txs P l l.length = (l.filter P).map (·.1) := by unfold txs; rw [List.take_length]
def resP (r : Int) (x : GrT) : Bool := decide (x.2.1 = r)
theorem forK_eq (G W : List GrT) (g : GrT) (k : Nat) : forK (G, W, ()) g k = (G.filter (conG g (wouldF G g))).map (·.1) ++ ((W.take k).filter (resP g.2.1)).map (·.1) := rfl

theorem iFor_ok (G W : List GrT) (hl : LkOk (G, W, ())) (k : Nat) (hk : k < W.length) : CallR Try.prog 147 [.nd [.sl .b (G.map Enc.b), .sl .b (W.map Enc.b)], .int .i64 (k : Nat)] [] (.ow 1 ((forK (G, W, ()) W[k] k).map Enc.o)) := by
  refine CallR.of_body (n := 81) (rs := [.tmp 4]) hY.ok Try.func147 rfl (by decide) rfl rfl rfl rfl (fun F => ?_)
  have fx := And.intro Y1 (And.intro Y2 (And.intro Y3 (And.intro Y4 (And.intro Y27 (And.intro Y41 (And.intro Y43 (Y50)))))))
  rw [forK_eq]
  have hG := hl.gl
  have hW := hl.wl
  have hgr := hl.g
  have hwg := hl.w W[k] (List.getElem_mem hk)
  have hwp := fun (j : Nat) (h : j < k) => show (W[j]'(by omega)).1 ≠ W[k].1 from (List.pairwise_iff_getElem.1 hl.wp) j k (show j < W.length by omega) hk h
  simp only at hG hW hgr
  have hgk : (W.map Enc.b)[k]? = some (.nd [.int .i64 W[k].1, .int .i64 W[k].2.1, .int .i64 W[k].2.2.1]) := map_get Enc.b W k hk
  have hkI : (k : Int) < (W.length : Int) := by omega
  have cW := would_w G (by omega) W W[k]
  rw [wouldI_eq hgr hwg] at cW
  generalize hm : wouldF G W[k] = m at *
  generalize hgq : W[k] = g at *
  clear hl hgr hwg
  have hC1 := cx [] (cW)
  have fy := And.intro hgk (And.intro hkI (bs0_27))
  refine goN ?_ ?_ ?_ ?_ ?_ ?_ ?_ ?_ ?_ ?_ ?_ ?_ ?_ ?_ ?_ ?_
  any_goals (first | exact True.intro | skip)
  skip
  refine SW.loop (fun i : Nat => ⟨[.undef, .int .i64 (k : Nat), .ptr 1 0 [] 0, .undef, .undef, .ptr 2 0 [] 0, .int .i64 m, .ref 3 0 0 (txs (conG g m) G i).length, .undef, .undef, .undef, .undef, .undef, .undef, .undef, .undef, .undef, .undef, .undef, .undef, .undef, .undef, .sl .b (G.map Enc.b), .int .i64 (G.length : Nat), .int .i64 (i : Nat), .undef, .undef, .undef, .undef, .undef, .undef, .undef, .undef, .undef, .undef, .undef, .undef, .undef, .undef, .undef, .undef, .undef, .undef, .undef, .undef, .undef, .undef, .undef, .undef, .undef, .undef, .undef, .undef, .undef, .undef, .undef, .undef, .undef, .undef, .undef, .undef, .undef, .undef, .undef, .undef, .undef, .undef, .undef, .undef, .undef, .undef, .undef, .undef, .undef, .undef, .undef, .undef, .undef, .undef, .undef, .undef], [[], [.var (.nd [.sl .b (G.map Enc.b), .sl .b (W.map Enc.b)])], [.var (.nd [.int .i64 g.1, .int .i64 g.2.1, .int .i64 g.2.2.1])], [.arr 1 ((txs (conG g m) G i).map Enc.o) false]]⟩)
    (fun N i => N = G.length - i ∧ i ≤ G.length) (n := G.length) (x := 0) ?_ ⟨rfl, Nat.zero_le _⟩ ?_
  · simp only [txs_zero, List.append_nil]
    exact Norm.re [0, 1, 2, 4] (by decide) rfl (by first | (simp only [eq_self, heapFits, rowFits, obFits, List.getElem?_cons_zero, List.getElem?_cons_succ, renL_o, renL_b, true_and, and_true, and_self]; done) | simp [-List.map_set, -List.map_append, heapFits, rowFits, obFits, T.ren, renL]) (by simp [tmFits, T.ren, renL])
  rintro N i ⟨hN, hi⟩
  have fy := Nat.add_zero
  refine goS ?_
  refine SW.cond rfl (fun hc => ?_) (fun hc => ?_)
  · have hlt : i < G.length := by simp at hc; omega
    have hltI : (i : Int) < (G.length : Int) := by omega
    have hwi : IntKind.i64.wrap ((i : Int) + 1) = ((i + 1 : Nat) : Int) := by rw [wrap64 _ (by omega) (by omega)]; omega
    have hF := txs_succ (conG g m) hlt
    have hFl := txs_len (conG g m) G i
    have hg : (G.map Enc.b)[i]? = some (.nd [.int .i64 G[i].1, .int .i64 G[i].2.1, .int .i64 G[i].2.2.1]) := map_get Enc.b G i hlt
    have hGo := iGoes_ok m G[i].2.2.1
    have hI : conG g m G[i] = (decide (G[i].2.1 = g.2.1) && !decide (G[i].1 = g.1) && !goesB m G[i].2.2.1) := rfl
    have q1 : (G[i].2.1 == g.2.1) = decide (G[i].2.1 = g.2.1) := rfl
    have q2 : (G[i].1 != g.1) = !decide (G[i].1 = g.1) := rfl
    generalize decide (G[i].2.1 = g.2.1) = b1 at *
    generalize decide (G[i].1 = g.1) = b2 at *
    generalize goesB m G[i].2.2.1 = b3 at *
    generalize txs (conG g m) G i = K at *
    generalize hg1 : G[i] = y at *
    cases b1
    · skip
      rw [if_neg (by simp [hI]), List.append_nil] at hF
      have hC1 := cx [] (hGo)
      have fy := And.intro hg (And.intro hltI (And.intro hwi (And.intro q1 (q2))))
      refine goR ?_ ?_ ?_ ?_ ?_ ?_ ?_ ?_ ?_ ?_ ?_ ?_ ?_ ?_ ?_ ?_
      any_goals (first | exact True.intro | skip)
      all_goals (repeat (refine Wh.mk fun hcc => ?_))
      refine ⟨N - 1, i + 1, by omega, ⟨by omega, by omega⟩, ?_⟩
      rw [hF]
      exact Norm.re [0, 1, 2, 3] (by decide) rfl (by first | (simp only [eq_self, heapFits, rowFits, obFits, List.getElem?_cons_zero, List.getElem?_cons_succ, renL_o, renL_b, true_and, and_true, and_self]; done) | simp [-List.map_set, -List.map_append, heapFits, rowFits, obFits, T.ren, renL]) (by simp [tmFits, T.ren, renL])
    · skip
      cases b2
      rotate_left
      · skip
        rw [if_neg (by simp [hI]), List.append_nil] at hF
        have hC1 := cx [] (hGo)
        have fy := And.intro hg (And.intro hltI (And.intro hwi (And.intro q1 (q2))))
        refine goR ?_ ?_ ?_ ?_ ?_ ?_ ?_ ?_ ?_ ?_ ?_ ?_ ?_ ?_ ?_ ?_
        any_goals (first | exact True.intro | skip)
        all_goals (repeat (refine Wh.mk fun hcc => ?_))
        refine ⟨N - 1, i + 1, by omega, ⟨by omega, by omega⟩, ?_⟩
        rw [hF]
        exact Norm.re [0, 1, 2, 3] (by decide) rfl (by first | (simp only [eq_self, heapFits, rowFits, obFits, List.getElem?_cons_zero, List.getElem?_cons_succ, renL_o, renL_b, true_and, and_true, and_self]; done) | simp [-List.map_set, -List.map_append, heapFits, rowFits, obFits, T.ren, renL]) (by simp [tmFits, T.ren, renL])
      · skip
        cases b3
        rotate_left
        · skip
          rw [if_neg (by simp [hI]), List.append_nil] at hF
          have hC1 := cx [] (hGo)
          have fy := And.intro hg (And.intro hltI (And.intro hwi (And.intro q1 (q2))))
          refine goR ?_ ?_ ?_ ?_ ?_ ?_ ?_ ?_ ?_ ?_ ?_ ?_ ?_ ?_ ?_ ?_
          any_goals (first | exact True.intro | skip)
          all_goals (repeat (refine Wh.mk fun hcc => ?_))
          refine ⟨N - 1, i + 1, by omega, ⟨by omega, by omega⟩, ?_⟩
          rw [hF]
          exact Norm.re [0, 1, 2, 3] (by decide) rfl (by first | (simp only [eq_self, heapFits, rowFits, obFits, List.getElem?_cons_zero, List.getElem?_cons_succ, renL_o, renL_b, true_and, and_true, and_self]; done) | simp [-List.map_set, -List.map_append, heapFits, rowFits, obFits, T.ren, renL]) (by simp [tmFits, T.ren, renL])
        · skip
          rw [if_pos (by simp [hI])] at hF
          have hap := fun (own e j e2 j2 : Nat) (H : Heap) (q1 : H.at e j = some (.arr 1 ((K).map Enc.o) false)) (q2 : H.at e2 j2 = some (.arr 1 [.int .i64 y.1] false)) => append_runP (Y := Y) (own := own) (t := 27) (u := 27) (e := e) (j := j) (off := 0) (n := (K).length) (e2 := e2) (j2 := j2) (f := (K).map Enc.o) (l := K) (x := y.1) (H := H) Y27 Y27 Y3 rfl (by decide) q1 q2 (by rw [List.drop_zero]; exact take_map_len _ _) (by simp) (by omega) rfl rfl
          have hC1 := cx [] (hGo)
          have fy := And.intro hg (And.intro hltI (And.intro hwi (And.intro bs1_27 (And.intro hap (And.intro q1 (q2))))))
          refine goR ?_ ?_ ?_ ?_ ?_ ?_ ?_ ?_ ?_ ?_ ?_ ?_ ?_ ?_ ?_ ?_
          any_goals (first | exact True.intro | skip)
          all_goals (repeat (refine Wh.mk fun hcc => ?_))
          refine ⟨N - 1, i + 1, by omega, ⟨by omega, by omega⟩, ?_⟩
          rw [hF]
          exact Norm.re [0, 1, 2, 7] (by decide) rfl (by first | (simp only [eq_self, heapFits, rowFits, obFits, List.getElem?_cons_zero, List.getElem?_cons_succ, renL_o, renL_b, true_and, and_true, and_self]; done) | simp [-List.map_set, -List.map_append, heapFits, rowFits, obFits, T.ren, renL]) (by simp [tmFits, T.ren, renL])
  have hige : i = G.length := by
    have : ¬ i < G.length := by simp at hc; omega
    omega
  subst hige
  rw [txs_all]
  have hAl := List.length_filter_le (conG g m) G
  have hAl2 : ((G.filter (conG g m)).map (·.1)).length ≤ 60 := by rw [List.length_map]; omega
  generalize (G.filter (conG g m)).map (·.1) = A at *
  obtain ⟨V, hV, hVl⟩ : ∃ V, V = W.take k ∧ V.length = k := ⟨_, rfl, by rw [List.length_take]; omega⟩
  have hVp : ∀ (j : Nat) (h : j < V.length), V[j].1 ≠ g.1 := fun j h => by subst hV; rw [List.getElem_take]; exact hwp j (by omega)
  rw [← hV]
  have hsr := fun (H : Heap) => show (sliceM Y 41 (.sl .b (W.map Enc.b)) none (some (.int .i64 (k : Nat))) none).run H = some { v := .sl .b (V.map Enc.b) } by
      subst hV
      simp only [sliceM, Y41, loF, hiF]
      rw [if_pos ⟨by decide, by omega, by rw [List.length_map]; omega, fun u hu => by have := List.mem_of_mem_take hu; obtain ⟨x, _, rfl⟩ := List.mem_map.1 this; rw [Y50]; rfl⟩]
      simp [RM.run]
  have fy := hsr
  refine goN ?_ ?_ ?_ ?_ ?_ ?_ ?_ ?_ ?_ ?_ ?_ ?_ ?_ ?_ ?_ ?_
  any_goals (first | exact True.intro | skip)
  skip
  refine SW.loop (fun i : Nat => ⟨[.undef, .undef, .ptr 1 0 [] 0, .undef, .undef, .ptr 2 0 [] 0, .undef, .ref 3 0 0 (A ++ txs (resP g.2.1) V i).length, .undef, .undef, .undef, .undef, .undef, .undef, .undef, .undef, .undef, .undef, .undef, .undef, .undef, .undef, .undef, .undef, .undef, .undef, .undef, .undef, .undef, .undef, .undef, .undef, .undef, .undef, .undef, .undef, .undef, .undef, .undef, .undef, .undef, .undef, .undef, .undef, .undef, .undef, .undef, .undef, .undef, .undef, .undef, .undef, .undef, .undef, .undef, .undef, .sl .b (V.map Enc.b), .int .i64 (V.length : Nat), .int .i64 (i : Nat), .undef, .undef, .undef, .undef, .undef, .undef, .undef, .undef, .undef, .undef, .undef, .undef, .undef, .undef, .undef, .undef, .undef, .undef, .undef, .undef, .undef, .undef], [[], [.var (.nd [.sl .b (G.map Enc.b), .sl .b (W.map Enc.b)])], [.var (.nd [.int .i64 g.1, .int .i64 g.2.1, .int .i64 g.2.2.1])], [.arr 1 ((A ++ txs (resP g.2.1) V i).map Enc.o) false]]⟩)
    (fun N i => N = V.length - i ∧ i ≤ V.length) (n := V.length) (x := 0) ?_ ⟨rfl, Nat.zero_le _⟩ ?_
  · simp only [txs_zero, List.append_nil]
    exact Norm.re [0, 1, 2, 3] (by decide) rfl (by first | (simp only [eq_self, heapFits, rowFits, obFits, List.getElem?_cons_zero, List.getElem?_cons_succ, renL_o, renL_b, true_and, and_true, and_self]; done) | simp [-List.map_set, -List.map_append, heapFits, rowFits, obFits, T.ren, renL]) (by simp [tmFits, T.ren, renL])
  rintro N i ⟨hN, hi⟩
  have fy := Nat.add_zero
  refine goS ?_
  refine SW.cond rfl (fun hc => ?_) (fun hc => ?_)
  · have hlt : i < V.length := by simp at hc; omega
    have hltI : (i : Int) < (V.length : Int) := by omega
    have hwi : IntKind.i64.wrap ((i : Int) + 1) = ((i + 1 : Nat) : Int) := by rw [wrap64 _ (by omega) (by omega)]; omega
    have hF := txs_succ (resP g.2.1) hlt
    have hFl := txs_len (resP g.2.1) V i
    have hg : (V.map Enc.b)[i]? = some (.nd [.int .i64 V[i].1, .int .i64 V[i].2.1, .int .i64 V[i].2.2.1]) := map_get Enc.b V i hlt
    have hI : resP g.2.1 V[i] = decide (V[i].2.1 = g.2.1) := rfl
    have q1 : (V[i].2.1 == g.2.1) = decide (V[i].2.1 = g.2.1) := rfl
    have q2 : (V[i].1 != g.1) = true := by simp [hVp i hlt]
    generalize decide (V[i].2.1 = g.2.1) = b1 at *
    generalize txs (resP g.2.1) V i = K at *
    generalize hg1 : V[i] = y at *
    cases b1
    · skip
      rw [if_neg (by simp [hI]), List.append_nil] at hF
      have fy := And.intro hg (And.intro hltI (And.intro hwi (And.intro q1 (q2))))
      refine goR ?_ ?_ ?_ ?_ ?_ ?_ ?_ ?_ ?_ ?_ ?_ ?_ ?_ ?_ ?_ ?_
      any_goals (first | exact True.intro | skip)
      all_goals (repeat (refine Wh.mk fun hcc => ?_))
      refine ⟨N - 1, i + 1, by omega, ⟨by omega, by omega⟩, ?_⟩
      rw [hF]
      exact Norm.re [0, 1, 2, 3] (by decide) rfl (by first | (simp only [eq_self, heapFits, rowFits, obFits, List.getElem?_cons_zero, List.getElem?_cons_succ, renL_o, renL_b, true_and, and_true, and_self]; done) | simp [-List.map_set, -List.map_append, heapFits, rowFits, obFits, T.ren, renL]) (by simp [tmFits, T.ren, renL])
    · skip
      rw [if_pos (by simp [hI])] at hF
      have hap := fun (own e j e2 j2 : Nat) (H : Heap) (q1 : H.at e j = some (.arr 1 (((A ++ K)).map Enc.o) false)) (q2 : H.at e2 j2 = some (.arr 1 [.int .i64 y.1] false)) => append_runP (Y := Y) (own := own) (t := 27) (u := 27) (e := e) (j := j) (off := 0) (n := ((A ++ K)).length) (e2 := e2) (j2 := j2) (f := ((A ++ K)).map Enc.o) (l := (A ++ K)) (x := y.1) (H := H) Y27 Y27 Y3 rfl (by decide) q1 q2 (by rw [List.drop_zero]; exact take_map_len _ _) (by simp) (by simp only [List.length_append]; omega) rfl rfl
      have fy := And.intro hg (And.intro hltI (And.intro hwi (And.intro bs1_27 (And.intro hap (And.intro q1 (q2))))))
      refine goR ?_ ?_ ?_ ?_ ?_ ?_ ?_ ?_ ?_ ?_ ?_ ?_ ?_ ?_ ?_ ?_
      any_goals (first | exact True.intro | skip)
      all_goals (repeat (refine Wh.mk fun hcc => ?_))
      refine ⟨N - 1, i + 1, by omega, ⟨by omega, by omega⟩, ?_⟩
      rw [hF]
      rw [← List.append_assoc]
      have hla : (A ++ K ++ [y.1]).length = (A ++ K).length + 1 := by simp only [List.length_append, List.length_singleton]
      rw [hla]
      exact Norm.re [0, 1, 2, 6] (by decide) rfl (by first | (simp only [eq_self, heapFits, rowFits, obFits, List.getElem?_cons_zero, List.getElem?_cons_succ, renL_o, renL_b, true_and, and_true, and_self]; done) | simp [-List.map_set, -List.map_append, heapFits, rowFits, obFits, T.ren, renL]) (by simp [tmFits, T.ren, renL])
  have hige : i = V.length := by
    have : ¬ i < V.length := by simp at hc; omega
    omega
  subst hige
  rw [txs_all]
  generalize A ++ (V.filter (resP g.2.1)).map (·.1) = Z at *
  have fy := Nat.add_zero
  refine goR ?_ ?_ ?_ ?_ ?_ ?_ ?_ ?_ ?_ ?_ ?_ ?_ ?_ ?_ ?_ ?_
  any_goals (first | exact True.intro | skip)
  all_goals (repeat (refine Wh.mk fun hcc => ?_))
  all_goals exact SW.ret (show RetQ _ _ _ _ _ _ _ from RetQ.y [1] [.ow 1 (Z.map Enc.o)])
theorem sFor_ok (G W : List GrT) (hl : LkOk (G, W, ())) (k : Nat) (hk : k < W.length) : CallR Try.prog 149 [.nd [.sl .b (G.map Enc.b), .sl .b (W.map Enc.b)], .int .i64 (k : Nat)] [] (.ow 1 ((forK (G, W, ()) W[k] k).map Enc.o)) := by
  refine CallR.of_body (n := 80) (rs := [.tmp 4]) hY.ok Try.func149 rfl (by decide) rfl rfl rfl rfl (fun F => ?_)
  have fx := And.intro Y1 (And.intro Y2 (And.intro Y3 (And.intro Y4 (And.intro Y27 (And.intro Y41 (And.intro Y43 (Y50)))))))
  rw [forK_eq]
  have hG := hl.gl
  have hW := hl.wl
  have hgr := hl.g
  have hwg := hl.w W[k] (List.getElem_mem hk)
  have hwp := fun (j : Nat) (h : j < k) => show (W[j]'(by omega)).1 ≠ W[k].1 from (List.pairwise_iff_getElem.1 hl.wp) j k (show j < W.length by omega) hk h
  simp only at hG hW hgr
  have hgk : (W.map Enc.b)[k]? = some (.nd [.int .i64 W[k].1, .int .i64 W[k].2.1, .int .i64 W[k].2.2.1]) := map_get Enc.b W k hk
  have hkI : (k : Int) < (W.length : Int) := by omega
  have cW := sWould_ok G W (by omega) hgr W[k]
  generalize hm : wouldF G W[k] = m at *
  generalize hgq : W[k] = g at *
  clear hl hgr hwg
  have hC1 := cx [] (cW)
  have fy := And.intro hgk (And.intro hkI (bs0_27))
  refine goN ?_ ?_ ?_ ?_ ?_ ?_ ?_ ?_ ?_ ?_ ?_ ?_ ?_ ?_ ?_ ?_
  any_goals (first | exact True.intro | skip)
  skip
  refine SW.loop (fun i : Nat => ⟨[.undef, .int .i64 (k : Nat), .ptr 1 0 [] 0, .undef, .undef, .ptr 2 0 [] 0, .int .i64 m, .ref 3 0 0 (txs (conG g m) G i).length, .int .i64 (i : Nat), .undef, .undef, .undef, .undef, .undef, .undef, .undef, .undef, .undef, .undef, .undef, .undef, .undef, .undef, .undef, .undef, .undef, .undef, .undef, .undef, .undef, .undef, .undef, .undef, .undef, .undef, .undef, .undef, .undef, .undef, .undef, .undef, .undef, .undef, .undef, .undef, .undef, .undef, .undef, .undef, .undef, .undef, .undef, .undef, .undef, .undef, .undef, .undef, .undef, .undef, .undef, .undef, .undef, .undef, .undef, .undef, .undef, .undef, .undef, .undef, .undef, .undef, .undef, .undef, .undef, .undef, .undef, .undef, .undef, .undef, .undef], [[], [.var (.nd [.sl .b (G.map Enc.b), .sl .b (W.map Enc.b)])], [.var (.nd [.int .i64 g.1, .int .i64 g.2.1, .int .i64 g.2.2.1])], [.arr 1 ((txs (conG g m) G i).map Enc.o) false]]⟩)
    (fun N i => N = G.length - i ∧ i ≤ G.length) (n := G.length) (x := 0) ?_ ⟨rfl, Nat.zero_le _⟩ ?_
  · simp only [txs_zero, List.append_nil]
    exact Norm.re [0, 1, 2, 4] (by decide) rfl (by first | (simp only [eq_self, heapFits, rowFits, obFits, List.getElem?_cons_zero, List.getElem?_cons_succ, renL_o, renL_b, true_and, and_true, and_self]; done) | simp [-List.map_set, -List.map_append, heapFits, rowFits, obFits, T.ren, renL]) (by simp [tmFits, T.ren, renL])
  rintro N i ⟨hN, hi⟩
  have fy := Nat.add_zero
  refine goS ?_
  refine SW.cond rfl (fun hc => ?_) (fun hc => ?_)
  · have hlt : i < G.length := by simp at hc; omega
    have hltI : (i : Int) < (G.length : Int) := by omega
    have hwi : IntKind.i64.wrap ((i : Int) + 1) = ((i + 1 : Nat) : Int) := by rw [wrap64 _ (by omega) (by omega)]; omega
    have hF := txs_succ (conG g m) hlt
    have hFl := txs_len (conG g m) G i
    have hg : (G.map Enc.b)[i]? = some (.nd [.int .i64 G[i].1, .int .i64 G[i].2.1, .int .i64 G[i].2.2.1]) := map_get Enc.b G i hlt
    have hGo := sGoes_ok m G[i].2.2.1
    have hI : conG g m G[i] = (decide (G[i].2.1 = g.2.1) && !decide (G[i].1 = g.1) && !goesB m G[i].2.2.1) := rfl
    have q1 : (G[i].2.1 == g.2.1) = decide (G[i].2.1 = g.2.1) := rfl
    have q2 : (G[i].1 != g.1) = !decide (G[i].1 = g.1) := rfl
    generalize decide (G[i].2.1 = g.2.1) = b1 at *
    generalize decide (G[i].1 = g.1) = b2 at *
    generalize goesB m G[i].2.2.1 = b3 at *
    generalize txs (conG g m) G i = K at *
    generalize hg1 : G[i] = y at *
    cases b1
    · skip
      rw [if_neg (by simp [hI]), List.append_nil] at hF
      have hC1 := cx [] (hGo)
      have fy := And.intro hg (And.intro hltI (And.intro hwi (And.intro q1 (q2))))
      refine goR ?_ ?_ ?_ ?_ ?_ ?_ ?_ ?_ ?_ ?_ ?_ ?_ ?_ ?_ ?_ ?_
      any_goals (first | exact True.intro | skip)
      all_goals (repeat (refine Wh.mk fun hcc => ?_))
      refine ⟨N - 1, i + 1, by omega, ⟨by omega, by omega⟩, ?_⟩
      rw [hF]
      exact Norm.re [0, 1, 2, 3] (by decide) rfl (by first | (simp only [eq_self, heapFits, rowFits, obFits, List.getElem?_cons_zero, List.getElem?_cons_succ, renL_o, renL_b, true_and, and_true, and_self]; done) | simp [-List.map_set, -List.map_append, heapFits, rowFits, obFits, T.ren, renL]) (by simp [tmFits, T.ren, renL])
    · skip
      cases b2
      rotate_left
      · skip
        rw [if_neg (by simp [hI]), List.append_nil] at hF
        have hC1 := cx [] (hGo)
        have fy := And.intro hg (And.intro hltI (And.intro hwi (And.intro q1 (q2))))
        refine goR ?_ ?_ ?_ ?_ ?_ ?_ ?_ ?_ ?_ ?_ ?_ ?_ ?_ ?_ ?_ ?_
        any_goals (first | exact True.intro | skip)
        all_goals (repeat (refine Wh.mk fun hcc => ?_))
        refine ⟨N - 1, i + 1, by omega, ⟨by omega, by omega⟩, ?_⟩
        rw [hF]
        exact Norm.re [0, 1, 2, 3] (by decide) rfl (by first | (simp only [eq_self, heapFits, rowFits, obFits, List.getElem?_cons_zero, List.getElem?_cons_succ, renL_o, renL_b, true_and, and_true, and_self]; done) | simp [-List.map_set, -List.map_append, heapFits, rowFits, obFits, T.ren, renL]) (by simp [tmFits, T.ren, renL])
      · skip
        cases b3
        rotate_left
        · skip
          rw [if_neg (by simp [hI]), List.append_nil] at hF
          have hC1 := cx [] (hGo)
          have fy := And.intro hg (And.intro hltI (And.intro hwi (And.intro q1 (q2))))
          refine goR ?_ ?_ ?_ ?_ ?_ ?_ ?_ ?_ ?_ ?_ ?_ ?_ ?_ ?_ ?_ ?_
          any_goals (first | exact True.intro | skip)
          all_goals (repeat (refine Wh.mk fun hcc => ?_))
          refine ⟨N - 1, i + 1, by omega, ⟨by omega, by omega⟩, ?_⟩
          rw [hF]
          exact Norm.re [0, 1, 2, 3] (by decide) rfl (by first | (simp only [eq_self, heapFits, rowFits, obFits, List.getElem?_cons_zero, List.getElem?_cons_succ, renL_o, renL_b, true_and, and_true, and_self]; done) | simp [-List.map_set, -List.map_append, heapFits, rowFits, obFits, T.ren, renL]) (by simp [tmFits, T.ren, renL])
        · skip
          rw [if_pos (by simp [hI])] at hF
          have hap := fun (own e j e2 j2 : Nat) (H : Heap) (q1 : H.at e j = some (.arr 1 ((K).map Enc.o) false)) (q2 : H.at e2 j2 = some (.arr 1 [.int .i64 y.1] false)) => append_runP (Y := Y) (own := own) (t := 27) (u := 27) (e := e) (j := j) (off := 0) (n := (K).length) (e2 := e2) (j2 := j2) (f := (K).map Enc.o) (l := K) (x := y.1) (H := H) Y27 Y27 Y3 rfl (by decide) q1 q2 (by rw [List.drop_zero]; exact take_map_len _ _) (by simp) (by omega) rfl rfl
          have hC1 := cx [] (hGo)
          have fy := And.intro hg (And.intro hltI (And.intro hwi (And.intro bs1_27 (And.intro hap (And.intro q1 (q2))))))
          refine goR ?_ ?_ ?_ ?_ ?_ ?_ ?_ ?_ ?_ ?_ ?_ ?_ ?_ ?_ ?_ ?_
          any_goals (first | exact True.intro | skip)
          all_goals (repeat (refine Wh.mk fun hcc => ?_))
          refine ⟨N - 1, i + 1, by omega, ⟨by omega, by omega⟩, ?_⟩
          rw [hF]
          exact Norm.re [0, 1, 2, 7] (by decide) rfl (by first | (simp only [eq_self, heapFits, rowFits, obFits, List.getElem?_cons_zero, List.getElem?_cons_succ, renL_o, renL_b, true_and, and_true, and_self]; done) | simp [-List.map_set, -List.map_append, heapFits, rowFits, obFits, T.ren, renL]) (by simp [tmFits, T.ren, renL])
  have hige : i = G.length := by
    have : ¬ i < G.length := by simp at hc; omega
    omega
  subst hige
  rw [txs_all]
  have hAl := List.length_filter_le (conG g m) G
  have hAl2 : ((G.filter (conG g m)).map (·.1)).length ≤ 60 := by rw [List.length_map]; omega
  generalize (G.filter (conG g m)).map (·.1) = A at *
  have fy := Nat.add_zero
  refine goN ?_ ?_ ?_ ?_ ?_ ?_ ?_ ?_ ?_ ?_ ?_ ?_ ?_ ?_ ?_ ?_
  any_goals (first | exact True.intro | skip)
  skip
  obtain ⟨V, hV, hVl⟩ : ∃ V, V = W.take k ∧ V.length = k := ⟨_, rfl, by rw [List.length_take]; omega⟩
  rw [← hV]
  refine SW.loop (fun i : Nat => ⟨[.undef, .int .i64 (k : Nat), .ptr 1 0 [] 0, .undef, .undef, .ptr 2 0 [] 0, .undef, .ref 3 0 0 (A ++ txs (resP g.2.1) V i).length, .undef, .undef, .int .i64 (i : Nat), .undef, .undef, .undef, .undef, .undef, .undef, .undef, .undef, .undef, .undef, .undef, .undef, .undef, .undef, .undef, .undef, .undef, .undef, .undef, .undef, .undef, .undef, .undef, .undef, .undef, .undef, .undef, .undef, .undef, .undef, .undef, .undef, .undef, .undef, .undef, .undef, .undef, .undef, .undef, .undef, .undef, .undef, .undef, .undef, .undef, .undef, .undef, .undef, .undef, .undef, .undef, .undef, .undef, .undef, .undef, .undef, .undef, .undef, .undef, .undef, .undef, .undef, .undef, .undef, .undef, .undef, .undef, .undef, .undef], [[], [.var (.nd [.sl .b (G.map Enc.b), .sl .b (W.map Enc.b)])], [.var (.nd [.int .i64 g.1, .int .i64 g.2.1, .int .i64 g.2.2.1])], [.arr 1 ((A ++ txs (resP g.2.1) V i).map Enc.o) false]]⟩)
    (fun N i => N = V.length - i ∧ i ≤ V.length) (n := V.length) (x := 0) ?_ ⟨rfl, Nat.zero_le _⟩ ?_
  · simp only [txs_zero, List.append_nil]
    exact Norm.re [0, 1, 2, 3] (by decide) rfl (by first | (simp only [eq_self, heapFits, rowFits, obFits, List.getElem?_cons_zero, List.getElem?_cons_succ, renL_o, renL_b, true_and, and_true, and_self]; done) | simp [-List.map_set, -List.map_append, heapFits, rowFits, obFits, T.ren, renL]) (by simp [tmFits, T.ren, renL])
  rintro N i ⟨hN, hi⟩
  have fy := Nat.add_zero
  refine goS ?_
  refine SW.cond rfl (fun hc => ?_) (fun hc => ?_)
  · have hlt : i < V.length := by simp at hc; omega
    have hltI : (i : Int) < (V.length : Int) := by omega
    have hwi : IntKind.i64.wrap ((i : Int) + 1) = ((i + 1 : Nat) : Int) := by rw [wrap64 _ (by omega) (by omega)]; omega
    have hF := txs_succ (resP g.2.1) hlt
    have hFl := txs_len (resP g.2.1) V i
    have hg : (W.map Enc.b)[i]? = some (.nd [.int .i64 V[i].1, .int .i64 V[i].2.1, .int .i64 V[i].2.2.1]) := by subst hV; rw [List.getElem?_map, List.getElem?_eq_getElem (by omega), List.getElem_take]; rfl
    have hltW : (i : Int) < (W.length : Int) := by omega
    have hI : resP g.2.1 V[i] = decide (V[i].2.1 = g.2.1) := rfl
    have q1 : (V[i].2.1 == g.2.1) = decide (V[i].2.1 = g.2.1) := rfl
    generalize decide (V[i].2.1 = g.2.1) = b1 at *
    generalize txs (resP g.2.1) V i = K at *
    generalize hg1 : V[i] = y at *
    cases b1
    · skip
      rw [if_neg (by simp [hI]), List.append_nil] at hF
      have fy := And.intro hg (And.intro hltI (And.intro hwi (And.intro q1 (hltW))))
      refine goR ?_ ?_ ?_ ?_ ?_ ?_ ?_ ?_ ?_ ?_ ?_ ?_ ?_ ?_ ?_ ?_
      any_goals (first | exact True.intro | skip)
      all_goals (repeat (refine Wh.mk fun hcc => ?_))
      refine ⟨N - 1, i + 1, by omega, ⟨by omega, by omega⟩, ?_⟩
      rw [hF]
      exact Norm.re [0, 1, 2, 3] (by decide) rfl (by first | (simp only [eq_self, heapFits, rowFits, obFits, List.getElem?_cons_zero, List.getElem?_cons_succ, renL_o, renL_b, true_and, and_true, and_self]; done) | simp [-List.map_set, -List.map_append, heapFits, rowFits, obFits, T.ren, renL]) (by simp [tmFits, T.ren, renL])
    · skip
      rw [if_pos (by simp [hI])] at hF
      have hap := fun (own e j e2 j2 : Nat) (H : Heap) (q1 : H.at e j = some (.arr 1 (((A ++ K)).map Enc.o) false)) (q2 : H.at e2 j2 = some (.arr 1 [.int .i64 y.1] false)) => append_runP (Y := Y) (own := own) (t := 27) (u := 27) (e := e) (j := j) (off := 0) (n := ((A ++ K)).length) (e2 := e2) (j2 := j2) (f := ((A ++ K)).map Enc.o) (l := (A ++ K)) (x := y.1) (H := H) Y27 Y27 Y3 rfl (by decide) q1 q2 (by rw [List.drop_zero]; exact take_map_len _ _) (by simp) (by simp only [List.length_append]; omega) rfl rfl
      have fy := And.intro hg (And.intro hltI (And.intro hwi (And.intro bs1_27 (And.intro hap (And.intro q1 (hltW))))))
      refine goR ?_ ?_ ?_ ?_ ?_ ?_ ?_ ?_ ?_ ?_ ?_ ?_ ?_ ?_ ?_ ?_
      any_goals (first | exact True.intro | skip)
      all_goals (repeat (refine Wh.mk fun hcc => ?_))
      refine ⟨N - 1, i + 1, by omega, ⟨by omega, by omega⟩, ?_⟩
      rw [hF]
      rw [← List.append_assoc]
      have hla : (A ++ K ++ [y.1]).length = (A ++ K).length + 1 := by simp only [List.length_append, List.length_singleton]
      rw [hla]
      exact Norm.re [0, 1, 2, 5] (by decide) rfl (by first | (simp only [eq_self, heapFits, rowFits, obFits, List.getElem?_cons_zero, List.getElem?_cons_succ, renL_o, renL_b, true_and, and_true, and_self]; done) | simp [-List.map_set, -List.map_append, heapFits, rowFits, obFits, T.ren, renL]) (by simp [tmFits, T.ren, renL])
  have hige : i = V.length := by
    have : ¬ i < V.length := by simp at hc; omega
    omega
  subst hige
  rw [txs_all]
  generalize A ++ (V.filter (resP g.2.1)).map (·.1) = Z at *
  have fy := Nat.add_zero
  refine goR ?_ ?_ ?_ ?_ ?_ ?_ ?_ ?_ ?_ ?_ ?_ ?_ ?_ ?_ ?_ ?_
  any_goals (first | exact True.intro | skip)
  all_goals (repeat (refine Wh.mk fun hcc => ?_))
  all_goals exact SW.ret (show RetQ _ _ _ _ _ _ _ from RetQ.y [1] [.ow 1 (Z.map Enc.o)])
end Q6

namespace Q6
open Go Go.Vm Go.Proofs
set_option maxHeartbeats 4000000
set_option synthInstance.maxSize 2000
set_option synthInstance.maxHeartbeats 400000
set_option maxRecDepth 10000
set_option linter.unusedSimpArgs false
set_option linter.unusedVariables false

open Qlk

theorem outF_cases (G W : List GrT) (t : Int) : (∃ (k : Nat) (h : k < W.length), idxOf (fun x : GrT => decide (x.1 = t)) W = (k : Int) ∧ outF (G, W, ()) t = forK (G, W, ()) W[k] k) ∨ (idxOf (fun x : GrT => decide (x.1 = t)) W = -1 ∧ outF (G, W, ()) t = []) := by
  unfold outF idxOf
  simp only
  cases h : W.findIdx? (fun x => decide (x.1 = t)) with
  | none => exact .inr ⟨rfl, rfl⟩
  | some k =>
    obtain ⟨h1, _, _⟩ := List.findIdx?_eq_some_iff_getElem.1 h
    exact .inl ⟨k, h1, rfl, by simp only [List.getElem?_eq_getElem h1]⟩
theorem seen_len {G W : List GrT} (hl : LkOk (G, W, ())) {s : List Int} (h : s.Nodup) (hn : ∀ y ∈ s, y ∈ names (G, W, ())) : s.length ≤ 120 := by
  have h1 := nodup_len h hn
  have h2 := hl.gl
  have h3 := hl.wl
  unfold names at h1
  simp only [List.length_append, List.length_map] at h1 h2 h3
  omega

theorem indexI_ok (l : List Int) (hl : l.length ≤ 1048576) (v : Int) : CallR Try.prog 176 [.sl .b (l.map Enc.b), .int .i64 v] [] (.int .i64 (idxOf (fun x : Int => decide (v = x)) l)) := by
  refine CallR.of_body (n := 19) (rs := [.tmp 4]) hY.ok Try.func176 rfl (by decide) rfl rfl rfl rfl (fun F => ?_)
  have fx := And.intro Y3 (And.intro Y4 (Y27))
  have fy := Nat.add_zero
  refine goN ?_ ?_ ?_ ?_ ?_ ?_ ?_ ?_ ?_ ?_ ?_ ?_ ?_ ?_ ?_ ?_
  any_goals (first | exact True.intro | skip)
  skip
  refine SW.loop (fun i : Nat => ⟨[.sl .b (l.map Enc.b), .int .i64 v, .undef, .undef, .undef, .undef, .undef, .int .i64 (l.length : Nat), .int .i64 (i : Nat), .undef, .undef, .undef, .undef, .undef, .undef, .undef, .undef, .undef, .undef], [[]]⟩)
    (fun n i => n = l.length - i ∧ i ≤ l.length ∧ ∀ j (h : j < l.length), j < i → (fun x : Int => decide (v = x)) l[j] = false) (n := l.length) (x := 0) (by exact Norm.to 0 rfl (by simp [weakL])) ⟨rfl, Nat.zero_le _, fun j _ h => absurd h (Nat.not_lt_zero _)⟩ ?_
  rintro n i ⟨hn, hi, hp⟩
  have fy := Nat.add_zero
  refine goS ?_
  refine SW.cond rfl (fun hc => ?_) (fun hc => ?_)
  · have hlt : i < l.length := by simp at hc; omega
    have hltI : (i : Int) < (l.length : Int) := by omega
    have hg : (l.map Enc.b)[i]? = some (T.int .i64 l[i]) := map_get Enc.b l i hlt
    have hwi : IntKind.i64.wrap ((i : Int) + 1) = ((i + 1 : Nat) : Int) := by rw [wrap64 _ (by omega) (by omega)]; omega
    have hq : (v == l[i]) = decide (v = l[i]) := rfl
    have hYq : decide (v = l[i]) = true → idxOf (fun x : Int => decide (v = x)) l = (i : Int) := fun h => idxOf_eq _ _ hlt h (fun j hj => hp j (by omega) hj)
    generalize hb : decide (v = l[i]) = b at *
    cases b
    · skip
      have fy := And.intro hg (And.intro hltI (And.intro hwi (hq)))
      refine goR ?_ ?_ ?_ ?_ ?_ ?_ ?_ ?_ ?_ ?_ ?_ ?_ ?_ ?_ ?_ ?_
      any_goals (first | exact True.intro | skip)
      all_goals (repeat (refine Wh.mk fun hcc => ?_))
      refine ⟨n - 1, i + 1, by omega, ⟨by omega, by omega, fun j hj hji => ?_⟩, by exact Norm.to 0 rfl (by simp [weakL])⟩
      rcases Nat.lt_or_ge j i with h' | h'
      · exact hp j hj h'
      · have : j = i := by omega
        subst this; exact hb
    · have hY2 := hYq rfl
      rw [hY2]
      have fy := And.intro hg (And.intro hltI (And.intro hwi (hq)))
      refine goK ?_ ?_ ?_ ?_ ?_ ?_ ?_ ?_ ?_ ?_ ?_ ?_ ?_ ?_ ?_ ?_
      any_goals (first | exact True.intro | skip)
      all_goals (repeat (refine Wh.mk fun hcc => ?_))
      all_goals rfl
  · have hge : ¬ i < l.length := by simp at hc; omega
    rw [idxOf_none _ _ (fun j hj => hp j hj (by omega))]
    have fy := Nat.add_zero
    refine goK ?_ ?_ ?_ ?_ ?_ ?_ ?_ ?_ ?_ ?_ ?_ ?_ ?_ ?_ ?_ ?_
    any_goals (first | exact True.intro | skip)
    all_goals (repeat (refine Wh.mk fun hcc => ?_))
    all_goals rfl
theorem containsI_ok (l : List Int) (hl : l.length ≤ 1048576) (v : Int) : CallR Try.prog 148 [.sl .b (l.map Enc.b), .int .i64 v] [] (.bool (amongB l v)) := by
  refine CallR.of_body (n := 9) (rs := [.tmp 4]) hY.ok Try.func148 rfl (by decide) rfl rfl rfl rfl (fun F => ?_)
  have fx := And.intro Y3 (And.intro Y4 (Y27))
  have hc := indexI_ok l hl v
  have ha : amongB l v = decide (0 ≤ idxOf (fun x : Int => decide (v = x)) l) := by
    rw [idx_any]; unfold amongB; congr 1; funext x; simp [eq_comm]
  rw [ha]
  have hC1 := cx [] (hc)
  have fy := Nat.add_zero
  refine goK ?_ ?_ ?_ ?_ ?_ ?_ ?_ ?_ ?_ ?_ ?_ ?_ ?_ ?_ ?_ ?_
  any_goals (first | exact True.intro | skip)
  all_goals (repeat (refine Wh.mk fun hcc => ?_))
  all_goals rfl
theorem comesBack_ok (G W : List GrT) (hl : LkOk (G, W, ())) (tx : Int) : CallR Try.prog 94 [.nd [.sl .b (G.map Enc.b), .sl .b (W.map Enc.b)], .int .i64 tx] [] (.bool (cycB (G, W, ()) tx)) := by
  refine CallR.of_body (n := 49) (rs := [.tmp 4]) hY.ok Try.func94 rfl (by decide) rfl rfl rfl rfl (fun F => ?_)
  have fx := And.intro Y1 (And.intro Y3 (And.intro Y4 (And.intro Y27 (And.intro Y41 (And.intro Y43 (Y50))))))
  have hG := hl.gl
  have hW := hl.wl
  simp only at hG hW
  have fy := And.intro bs0_27 (bs1_27)
  refine goN ?_ ?_ ?_ ?_ ?_ ?_ ?_ ?_ ?_ ?_ ?_ ?_ ?_ ?_ ?_ ?_
  any_goals (first | exact True.intro | skip)
  skip
  refine SW.loop (fun x : List Int × List Int × Nat => ⟨[.undef, .int .i64 tx, .ptr 1 0 [] 0, .undef, .undef, .ref 2 0 0 x.1.length, .ref 3 0 x.2.2 (x.2.1.length - x.2.2), .undef, .undef, .undef, .undef, .undef, .undef, .undef, .undef, .undef, .undef, .undef, .undef, .undef, .undef, .undef, .undef, .undef, .undef, .undef, .undef, .undef, .undef, .undef, .undef, .undef, .undef, .undef, .undef, .undef, .undef, .undef, .undef, .undef, .undef, .undef, .undef, .undef, .undef, .undef, .undef, .undef, .undef], [[], [.var (.nd [.sl .b (G.map Enc.b), .sl .b (W.map Enc.b)])], [.arr 1 (x.1.map Enc.o) false], [.arr 1 (x.2.1.map Enc.o) false]]⟩)
    (fun N x => N = 2 * (120 - x.1.length) + (x.2.1.length - x.2.2) ∧ x.2.2 ≤ x.2.1.length ∧ x.2.1.length - x.2.2 ≤ x.1.length + 1 ∧ BI (G, W, ()) tx x.1 (x.2.1.drop x.2.2)) (n := 241) (x := ([], [tx], 0)) ?_ ⟨rfl, by simp, by simp, BI.init _ _⟩ ?_
  · skip
    exact Norm.re [0, 1, 2, 3] (by decide) rfl (by first | (simp only [eq_self, heapFits, rowFits, obFits, List.getElem?_cons_zero, List.getElem?_cons_succ, renL_o, renL_b, true_and, and_true, and_self]; done) | simp [-List.map_set, -List.map_append, heapFits, rowFits, obFits, T.ren, renL, o_int]) (by simp [tmFits, T.ren, renL])
  rintro N ⟨seen, f, off⟩ ⟨hN, hoff, hfl, hb⟩
  simp only at hN hoff hfl hb ⊢
  have fy := Nat.add_zero
  refine goS ?_
  refine SW.cond rfl (fun hc => ?_) (fun hc => ?_)
  · have hlt : off < f.length := by simp at hc; omega
    have hn0 : (0 : Int) < ((f.length - off : Nat) : Int) := by omega
    have hg1 : (f.map Enc.o)[off]? = some (T.int .i64 f[off]) := map_get Enc.o f off hlt
    have hdrop : f.drop off = f[off] :: f.drop (off + 1) := List.drop_eq_getElem_cons hlt
    rw [hdrop] at hb
    have hsl120 := seen_len hl hb.nd hb.nm
    have hp := hb.pop
    generalize hye : f[off] = y at *
    have hsl := fun (e j : Nat) (H : Heap) (q1 : H.at e j = some (.arr 1 (f.map Enc.o) false)) => show (sliceM Y 27 (.ref e j off (f.length - off)) (some (.int .i64 1)) none none).run H = some { v := .ref e j (off + 1) (f.length - off - 1) } by simp only [sliceM, Y27, loF, hiF]; rw [if_pos ⟨by decide, by omega, Int.le_refl _⟩]; simp [RM.run, q1, Y3]
    have hsub : f.length - (off + 1) = f.length - off - 1 := by omega
    have cA := waitAt_ok G W (by omega) y
    rcases outF_cases G W y with ⟨k, hk, e1, e2⟩ | ⟨e1, e2⟩
    rotate_left
    · rw [e1] at cA
      rw [e2] at hp
      have hC1 := cx [] (cA)
      have fy := And.intro hn0 (And.intro hg1 (hsl))
      refine goR ?_ ?_ ?_ ?_ ?_ ?_ ?_ ?_ ?_ ?_ ?_ ?_ ?_ ?_ ?_ ?_
      any_goals (first | exact True.intro | skip)
      all_goals (repeat (refine Wh.mk fun hcc => ?_))
      refine ⟨N - 1, (seen, f, off + 1), by omega, ⟨by simp only; omega, by simp only; omega, by simp only; omega, hp.done⟩, ?_⟩
      simp only [hsub]
      exact Norm.re [0, 1, 2, 3] (by decide) rfl (by first | (simp only [eq_self, heapFits, rowFits, obFits, List.getElem?_cons_zero, List.getElem?_cons_succ, renL_o, renL_b, true_and, and_true, and_self]; done) | simp [-List.map_set, -List.map_append, heapFits, rowFits, obFits, T.ren, renL]) (by simp [tmFits, T.ren, renL])
    · rw [e1] at cA
      have cF := iFor_ok G W hl k hk
      rw [← e2] at cF
      have hZl : (outF (G, W, ()) y).length ≤ 120 := by
        rw [e2, forK_eq, List.length_append, List.length_map, List.length_map]
        have h1 := List.length_filter_le (conG W[k] (wouldF G W[k])) G
        have h2 := List.length_filter_le (resP W[k].2.1) (W.take k)
        rw [List.length_take] at h2
        omega
      clear e1 e2
      generalize outF (G, W, ()) y = Z at *
      have hk0 : decide ((k : Int) < 0) = false := by simp
      have hC1 := cx [] (cA)
      have hC2 := cx [] (cF)
      have fy := And.intro hn0 (And.intro hg1 (And.intro hsl (hk0)))
      refine goR ?_ ?_ ?_ ?_ ?_ ?_ ?_ ?_ ?_ ?_ ?_ ?_ ?_ ?_ ?_ ?_
      any_goals (first | exact True.intro | skip)
      all_goals (repeat (refine Wh.mk fun hcc => ?_))
      refine SW.loop (fun x : List Int × List Int × Nat × Nat => ⟨[.undef, .int .i64 tx, .ptr 1 0 [] 0, .undef, .undef, .ref 2 0 0 x.1.length, .ref 3 0 x.2.2.1 (x.2.1.length - x.2.2.1), .undef, .undef, .undef, .undef, .undef, .undef, .undef, .undef, .undef, .undef, .undef, .undef, .undef, .undef, .undef, .undef, .undef, .undef, .undef, .undef, .ref 4 0 0 Z.length, .int .i64 (Z.length : Nat), .int .i64 (x.2.2.2 : Nat), .undef, .undef, .undef, .undef, .undef, .undef, .undef, .undef, .undef, .undef, .undef, .undef, .undef, .undef, .undef, .undef, .undef, .undef, .undef], [[], [.var (.nd [.sl .b (G.map Enc.b), .sl .b (W.map Enc.b)])], [.arr 1 (x.1.map Enc.o) false], [.arr 1 (x.2.1.map Enc.o) false], [.arr 1 (Z.map Enc.o) false]]⟩)
        (fun M x => M = Z.length - x.2.2.2 ∧ x.2.2.2 ≤ Z.length ∧ x.2.2.1 ≤ x.2.1.length ∧ x.2.1.length - x.2.2.1 ≤ x.1.length + 1 ∧ x.1.length ≤ 120 ∧ 2 * (120 - x.1.length) + (x.2.1.length - x.2.2.1) < N ∧ BI2 (G, W, ()) tx y x.1 (x.2.1.drop x.2.2.1) (Z.drop x.2.2.2)) (n := Z.length) (x := (seen, f, off + 1, 0)) ?_ ⟨rfl, Nat.zero_le _, hlt, by simp only; omega, hsl120, by simp only; omega, hp⟩ ?_
      · simp only [hsub]
        exact Norm.re [0, 1, 2, 3, 5] (by decide) rfl (by first | (simp only [eq_self, heapFits, rowFits, obFits, List.getElem?_cons_zero, List.getElem?_cons_succ, renL_o, renL_b, true_and, and_true, and_self]; done) | simp [-List.map_set, -List.map_append, heapFits, rowFits, obFits, T.ren, renL]) (by simp [tmFits, T.ren, renL])
      clear hp hb hg1 hsl hdrop hye hsub hoff hfl hsl120 hn0 hlt hc
      rintro M ⟨seen, f, off, j⟩ ⟨hM, hj, hoff, hfl, hsn, hmeas, hp⟩
      simp only at hM hj hoff hfl hsn hmeas hp ⊢
      have fy := Nat.add_zero
      refine goS ?_
      refine SW.cond rfl (fun hc2 => ?_) (fun hc2 => ?_)
      · have hlj : j < Z.length := by simp at hc2; omega
        have hljI : (j : Int) < (Z.length : Int) := by omega
        have hgz : (Z.map Enc.o)[j]? = some (T.int .i64 Z[j]) := map_get Enc.o Z j hlj
        rw [List.drop_eq_getElem_cons hlj] at hp
        have hwj : IntKind.i64.wrap ((j : Int) + 1) = ((j + 1 : Nat) : Int) := by rw [wrap64 _ (by omega) (by omega)]; omega
        have cC := containsI_ok seen (by omega) Z[j]
        generalize hze : Z[j] = z at *
        have hq : (z == tx) = decide (z = tx) := rfl
        by_cases hzt : z = tx
        · rw [decide_eq_true hzt] at hq
          rw [hzt] at hp
          rw [hp.cyc]
          have fy := And.intro hgz (And.intro hljI (And.intro hwj (hq)))
          refine goK ?_ ?_ ?_ ?_ ?_ ?_ ?_ ?_ ?_ ?_ ?_ ?_ ?_ ?_ ?_ ?_
          any_goals (first | exact True.intro | skip)
          all_goals (repeat (refine Wh.mk fun hcc => ?_))
          all_goals rfl
        · rw [decide_eq_false hzt] at hq
          cases ha : amongB seen z
          rotate_left
          · rw [ha] at cC
            have hC1 := cx [] (cC)
            have fy := And.intro hgz (And.intro hljI (And.intro hwj (hq)))
            refine goR ?_ ?_ ?_ ?_ ?_ ?_ ?_ ?_ ?_ ?_ ?_ ?_ ?_ ?_ ?_ ?_
            any_goals (first | exact True.intro | skip)
            all_goals (repeat (refine Wh.mk fun hcc => ?_))
            refine ⟨M - 1, (seen, f, off, j + 1), by omega, ⟨by simp only; omega, by simp only; omega, hoff, hfl, hsn, hmeas, hp.skip (amongB_iff.1 ha)⟩, ?_⟩
            exact Norm.re [0, 1, 2, 3, 4] (by decide) rfl (by first | (simp only [eq_self, heapFits, rowFits, obFits, List.getElem?_cons_zero, List.getElem?_cons_succ, renL_o, renL_b, true_and, and_true, and_self]; done) | simp [-List.map_set, -List.map_append, heapFits, rowFits, obFits, T.ren, renL]) (by simp [tmFits, T.ren, renL])
          · rw [ha] at cC
            have hpu := hp.push (fun h => by rw [amongB_iff.2 h] at ha; cases ha) hzt
            have hs2 := seen_len hl hpu.nd hpu.nm
            simp only [List.length_append, List.length_singleton] at hs2
            have ha1 := fun (own e j e2 j2 : Nat) (H : Heap) (q1 : H.at e j = some (.arr 1 ((seen).map Enc.o) false)) (q2 : H.at e2 j2 = some (.arr 1 [.int .i64 z] false)) => append_runP (Y := Y) (own := own) (t := 27) (u := 27) (e := e) (j := j) (off := 0) (n := (seen).length) (e2 := e2) (j2 := j2) (f := (seen).map Enc.o) (l := seen) (x := z) (H := H) Y27 Y27 Y3 rfl (by decide) q1 q2 (by rw [List.drop_zero]; exact take_map_len _ _) (by simp) (by omega) rfl rfl
            have ha2 := fun (own e j_ e2 j2 : Nat) (H : Heap) (q1 : H.at e j_ = some (.arr 1 (f.map Enc.o) false)) (q2 : H.at e2 j2 = some (.arr 1 [.int .i64 z] false)) => append_runP (Y := Y) (own := own) (t := 27) (u := 27) (e := e) (j := j_) (off := off) (n := f.length - off) (e2 := e2) (j2 := j2) (f := f.map Enc.o) (l := f.drop off) (x := z) (H := H) Y27 Y27 Y3 rfl (by decide) q1 q2 (by rw [List.take_of_length_le (by simp), List.map_drop]) (by simp; omega) (by omega) rfl rfl
            have hC1 := cx [] (cC)
            have fy := And.intro hgz (And.intro hljI (And.intro hwj (And.intro hq (And.intro bs1_27 (And.intro ha1 (ha2))))))
            refine goR ?_ ?_ ?_ ?_ ?_ ?_ ?_ ?_ ?_ ?_ ?_ ?_ ?_ ?_ ?_ ?_
            any_goals (first | exact True.intro | skip)
            all_goals (repeat (refine Wh.mk fun hcc => ?_))
            have hdl : (f.drop off).length = f.length - off := List.length_drop ..
            have hfl2 : (f.drop off ++ [z]).length - 0 = f.length - off + 1 := by rw [List.length_append, hdl]; rfl
            refine ⟨M - 1, (seen ++ [z], f.drop off ++ [z], 0, j + 1), by omega, ⟨by simp only; omega, by simp only; omega, Nat.zero_le _, by simp only [List.length_append, List.length_singleton, hdl]; omega, by simp only [List.length_append, List.length_singleton]; omega, by simp only [List.length_append, List.length_singleton, hdl]; omega, by simpa using hpu⟩, ?_⟩
            simp only [hfl2]
            exact Norm.re [0, 1, 7, 9, 4] (by decide) rfl (by first | (simp only [eq_self, heapFits, rowFits, obFits, List.getElem?_cons_zero, List.getElem?_cons_succ, renL_o, renL_b, true_and, and_true, and_self]; done) | simp [-List.map_set, -List.map_append, heapFits, rowFits, obFits, T.ren, renL]) (by simp [tmFits, T.ren, renL])
      · have hje : j = Z.length := by
          have : ¬ j < Z.length := by simp at hc2; omega
          omega
        subst hje
        rw [List.drop_length] at hp
        have fy := Nat.add_zero
        refine goR ?_ ?_ ?_ ?_ ?_ ?_ ?_ ?_ ?_ ?_ ?_ ?_ ?_ ?_ ?_ ?_
        any_goals (first | exact True.intro | skip)
        all_goals (repeat (refine Wh.mk fun hcc => ?_))
        refine ⟨2 * (120 - seen.length) + (f.length - off), (seen, f, off), by omega, ⟨rfl, hoff, hfl, hp.done⟩, ?_⟩
        exact Norm.re [0, 1, 2, 3] (by decide) rfl (by first | (simp only [eq_self, heapFits, rowFits, obFits, List.getElem?_cons_zero, List.getElem?_cons_succ, renL_o, renL_b, true_and, and_true, and_self]; done) | simp [-List.map_set, -List.map_append, heapFits, rowFits, obFits, T.ren, renL]) (by simp [tmFits, T.ren, renL])
  · have hoe : off = f.length := by
      have : ¬ off < f.length := by simp at hc; omega
      omega
    subst hoe
    rw [List.drop_length] at hb
    rw [hb.done]
    have fy := Nat.add_zero
    refine goK ?_ ?_ ?_ ?_ ?_ ?_ ?_ ?_ ?_ ?_ ?_ ?_ ?_ ?_ ?_ ?_
    any_goals (first | exact True.intro | skip)
    all_goals (repeat (refine Wh.mk fun hcc => ?_))
    all_goals rfl
end Q6
