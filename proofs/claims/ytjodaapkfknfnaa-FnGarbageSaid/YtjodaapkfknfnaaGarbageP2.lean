/- Shows what the parts of the program do that the claim reaches: a machine of values over the model, and the contracts of functions, for all arguments within the lengths that each theorem names. -/
import Derived.Test.YtjodaapkfknfnaaGarbageP1
import Derived.Test.YtjodaapkfknfnaaGarbageV5
import Derived.Test.YtjodaapkfknfnaaGarbageV4
set_option linter.all false

namespace Q6
open Go Go.Vm Go.Proofs
set_option maxHeartbeats 4000000
set_option synthInstance.maxSize 2000
set_option synthInstance.maxHeartbeats 400000
set_option maxRecDepth 10000
set_option linter.unusedSimpArgs false
set_option linter.unusedVariables false

open Go.By

/-! ### draws as functions -/
noncomputable def pick {α : Type} [Inhabited α] (P : CS × α → Prop) : CS × α := by
  classical
  exact if h : ∃ x, P x then Classical.choose h else ((0, 0), default)
theorem pick_spec {α : Type} [Inhabited α] {P : CS × α → Prop} (h : ∃ x, P x) : P (pick P) := by
  unfold pick
  rw [dif_pos h]
  exact Classical.choose_spec h
noncomputable def belowF (l : List UInt8) (s : CS) (n : Int) : CS × Int := pick fun x => x.1.1 ≤ l.length ∧ (0 ≤ x.2 ∧ (0 < n → x.2 < n)) ∧ CallR Try.prog 127 [.io (.nd [.sl .s (l.map Enc.b), .int .i64 (s.1 : Nat), .int .i64 s.2]), .int .i64 n] [.nd [.sl .s (l.map Enc.b), .int .i64 (x.1.1 : Nat), .int .i64 x.1.2]] (.int .i64 x.2)
theorem belowF_ok (l : List UInt8) (s : CS) (n : Int) (hl : l.length ≤ 1048576) (hi : s.1 ≤ l.length) : (belowF l s n).1.1 ≤ l.length ∧ (0 ≤ (belowF l s n).2 ∧ (0 < n → (belowF l s n).2 < n)) ∧ CallR Try.prog 127 [.io (.nd [.sl .s (l.map Enc.b), .int .i64 (s.1 : Nat), .int .i64 s.2]), .int .i64 n] [.nd [.sl .s (l.map Enc.b), .int .i64 (((belowF l s n).1).1 : Nat), .int .i64 ((belowF l s n).1).2]] (.int .i64 (belowF l s n).2) :=
  pick_spec (P := fun x => x.1.1 ≤ l.length ∧ (0 ≤ x.2 ∧ (0 < n → x.2 < n)) ∧ CallR Try.prog 127 [.io (.nd [.sl .s (l.map Enc.b), .int .i64 (s.1 : Nat), .int .i64 s.2]), .int .i64 n] [.nd [.sl .s (l.map Enc.b), .int .i64 (x.1.1 : Nat), .int .i64 x.1.2]] (.int .i64 x.2)) (by
    obtain ⟨s', x, h1, h2, h3⟩ := below_ok l s hl hi n
    exact ⟨(s', x), h1, h2, h3⟩)
noncomputable def onceF (l : List UInt8) (s : CS) (n : Int) : CS × Bool := pick fun x => x.1.1 ≤ l.length ∧ CallR Try.prog 126 [.io (.nd [.sl .s (l.map Enc.b), .int .i64 (s.1 : Nat), .int .i64 s.2]), .int .i64 n] [.nd [.sl .s (l.map Enc.b), .int .i64 (x.1.1 : Nat), .int .i64 x.1.2]] (.bool x.2)
theorem onceF_ok (l : List UInt8) (s : CS) (n : Int) (hl : l.length ≤ 1048576) (hi : s.1 ≤ l.length) : (onceF l s n).1.1 ≤ l.length ∧ CallR Try.prog 126 [.io (.nd [.sl .s (l.map Enc.b), .int .i64 (s.1 : Nat), .int .i64 s.2]), .int .i64 n] [.nd [.sl .s (l.map Enc.b), .int .i64 (((onceF l s n).1).1 : Nat), .int .i64 ((onceF l s n).1).2]] (.bool (onceF l s n).2) :=
  pick_spec (P := fun x => x.1.1 ≤ l.length ∧ CallR Try.prog 126 [.io (.nd [.sl .s (l.map Enc.b), .int .i64 (s.1 : Nat), .int .i64 s.2]), .int .i64 n] [.nd [.sl .s (l.map Enc.b), .int .i64 (x.1.1 : Nat), .int .i64 x.1.2]] (.bool x.2)) (by
    obtain ⟨s', x, h1, h3⟩ := once_ok l s hl hi n
    exact ⟨(s', x), h1, h3⟩)
noncomputable def intF (l : List UInt8) (s : CS) (ns : List Int) : CS × Int := pick fun x => x.1.1 ≤ l.length ∧ x.2 ∈ ns ∧ CallR Try.prog 66 [.io (.nd [.sl .s (l.map Enc.b), .int .i64 (s.1 : Nat), .int .i64 s.2]), .sl .b (ns.map Enc.b)] [.nd [.sl .s (l.map Enc.b), .int .i64 (x.1.1 : Nat), .int .i64 x.1.2]] (.int .i64 x.2)
theorem intF_ok (l : List UInt8) (s : CS) (ns : List Int) (hl : l.length ≤ 1048576) (hi : s.1 ≤ l.length) (h0 : 0 < ns.length) (h1 : ns.length ≤ 1048576) : (intF l s ns).1.1 ≤ l.length ∧ (intF l s ns).2 ∈ ns ∧ CallR Try.prog 66 [.io (.nd [.sl .s (l.map Enc.b), .int .i64 (s.1 : Nat), .int .i64 s.2]), .sl .b (ns.map Enc.b)] [.nd [.sl .s (l.map Enc.b), .int .i64 (((intF l s ns).1).1 : Nat), .int .i64 ((intF l s ns).1).2]] (.int .i64 (intF l s ns).2) :=
  pick_spec (P := fun x => x.1.1 ≤ l.length ∧ x.2 ∈ ns ∧ CallR Try.prog 66 [.io (.nd [.sl .s (l.map Enc.b), .int .i64 (s.1 : Nat), .int .i64 s.2]), .sl .b (ns.map Enc.b)] [.nd [.sl .s (l.map Enc.b), .int .i64 (x.1.1 : Nat), .int .i64 x.1.2]] (.int .i64 x.2)) (by
    obtain ⟨s', x, h1, h2, h3⟩ := int_ok l s hl hi ns h0 h1
    exact ⟨(s', x), h1, h2, h3⟩)
theorem buildN {Y : TypeId → TyI} {own t el by' n : Nat} {k : Ty} {ps : List (Nat × T)} {r : List T} (h1 : Y t = ⟨.sl el, 1, 24⟩) (h2 : Y el = ⟨k, 1, by'⟩) (h3 : k.isFn = false) (hn : n * 1 ≤ 2 ^ 24)
    (hs : setAll (plAr 1) (List.replicate n (zeroT Y 9 el)) ps = some r) :
    buildSliceM Y own t n ps = .pure { v := .ref own 0 0 n, news := [.arr 1 r false] } := by
  simp only [buildSliceM, h1, h2, h3]
  rw [if_pos ⟨by decide, hn, trivial⟩, hs]
/-! objects -/
noncomputable def oIntsF (l : List UInt8) : Nat → CS → List Int → CS × List Int
  | 0, s, acc => (s, acc)
  | n + 1, s, acc => oIntsF l n (intF l (belowF l s 50).1 [0, 1, -1, 7, 1000000, -1000000, (belowF l s 50).2]).1 (acc ++ [(intF l (belowF l s 50).1 [0, 1, -1, 7, 1000000, -1000000, (belowF l s 50).2]).2])
noncomputable def oRefsF (l : List UInt8) : Nat → CS → List Int → CS × List Int
  | 0, s, acc => (s, acc)
  | n + 1, s, acc => oRefsF l n (intF l (belowF l s 32).1 [0, 1, 2, 3, 5, 8, 12, 31, (belowF l s 32).2]).1 (acc ++ [(intF l (belowF l s 32).1 [0, 1, 2, 3, 5, 8, 12, 31, (belowF l s 32).2]).2])
noncomputable def objF (l : List UInt8) (s : CS) : CS × ObjT :=
  let k := belowF l s 5; let n := belowF l k.1 3; let a := oIntsF l n.2.toNat n.1 []; let m := belowF l a.1 4; let b := oRefsF l m.2.toNat m.1 []
  (b.1, (1 + k.2, a.2, b.2, ()))
theorem oIntsF_ok (l : List UInt8) (hl : l.length ≤ 1048576) : ∀ (n : Nat) (s : CS) (acc : List Int), s.1 ≤ l.length → (∀ x ∈ acc, intB x = true) →
    (oIntsF l n s acc).1.1 ≤ l.length ∧ (∀ x ∈ (oIntsF l n s acc).2, intB x = true) ∧ (oIntsF l n s acc).2.length = acc.length + n
  | 0, s, acc, h, ha => ⟨h, ha, rfl⟩
  | n + 1, s, acc, h, ha => by
    obtain ⟨b1, b2, _⟩ := belowF_ok l s 50 hl h
    obtain ⟨c1, c2, _⟩ := intF_ok l (belowF l s 50).1 [0, 1, -1, 7, 1000000, -1000000, (belowF l s 50).2] hl b1 (by simp) (by simp)
    have ih := oIntsF_ok l hl n _ (acc ++ [(intF l (belowF l s 50).1 [0, 1, -1, 7, 1000000, -1000000, (belowF l s 50).2]).2]) c1 (by
      intro x hx
      rcases List.mem_append.1 hx with hx | hx
      · exact ha x hx
      · simp only [List.mem_singleton] at hx
        subst hx
        have h50 := b2.2 (by decide)
        simp only [List.mem_cons, List.not_mem_nil, or_false] at c2
        unfold intB
        simp only [Bool.and_eq_true, decide_eq_true_eq]
        omega)
    simp only [oIntsF]
    refine ⟨ih.1, ih.2.1, ?_⟩
    rw [ih.2.2, List.length_append]; simp; omega
theorem oRefsF_ok (l : List UInt8) (hl : l.length ≤ 1048576) : ∀ (n : Nat) (s : CS) (acc : List Int), s.1 ≤ l.length → (∀ x ∈ acc, refB x = true) →
    (oRefsF l n s acc).1.1 ≤ l.length ∧ (∀ x ∈ (oRefsF l n s acc).2, refB x = true) ∧ (oRefsF l n s acc).2.length = acc.length + n
  | 0, s, acc, h, ha => ⟨h, ha, rfl⟩
  | n + 1, s, acc, h, ha => by
    obtain ⟨b1, b2, _⟩ := belowF_ok l s 32 hl h
    obtain ⟨c1, c2, _⟩ := intF_ok l (belowF l s 32).1 [0, 1, 2, 3, 5, 8, 12, 31, (belowF l s 32).2] hl b1 (by simp) (by simp)
    have ih := oRefsF_ok l hl n _ (acc ++ [(intF l (belowF l s 32).1 [0, 1, 2, 3, 5, 8, 12, 31, (belowF l s 32).2]).2]) c1 (by
      intro x hx
      rcases List.mem_append.1 hx with hx | hx
      · exact ha x hx
      · simp only [List.mem_singleton] at hx
        subst hx
        have h50 := b2.2 (by decide)
        simp only [List.mem_cons, List.not_mem_nil, or_false] at c2
        unfold refB
        simp only [Bool.and_eq_true, decide_eq_true_eq]
        omega)
    simp only [oRefsF]
    refine ⟨ih.1, ih.2.1, ?_⟩
    rw [ih.2.2, List.length_append]; simp; omega
theorem objF_ok (l : List UInt8) (s : CS) (hl : l.length ≤ 1048576) (hi : s.1 ≤ l.length) : (objF l s).1.1 ≤ l.length ∧ objB (objF l s).2 = true := by
  unfold objF
  simp only
  obtain ⟨a1, a2, _⟩ := belowF_ok l s 5 hl hi
  obtain ⟨b1, b2, _⟩ := belowF_ok l _ 3 hl a1
  obtain ⟨c1, c2, c3⟩ := oIntsF_ok l hl (belowF l (belowF l s 5).1 3).2.toNat _ [] b1 (by simp)
  obtain ⟨d1, d2, _⟩ := belowF_ok l _ 4 hl c1
  obtain ⟨e1, e2, e3⟩ := oRefsF_ok l hl (belowF l (oIntsF l (belowF l (belowF l s 5).1 3).2.toNat (belowF l (belowF l s 5).1 3).1 []).1 4).2.toNat _ [] d1 (by simp)
  refine ⟨e1, ?_⟩
  have h5 := a2.2 (by decide)
  have h3 := b2.2 (by decide)
  have h4 := d2.2 (by decide)
  unfold objB
  simp only [Bool.and_eq_true, decide_eq_true_eq, List.all_eq_true]
  simp only [List.length_nil, Nat.zero_add] at c3 e3
  refine ⟨⟨⟨⟨⟨by omega, by omega⟩, by omega⟩, by omega⟩, c2⟩, e2⟩

end Q6

namespace Q6
open Go Go.Vm

/-! ### what is reached: the plain law -/
def mrk (m : List Bool) (i : Nat) : Bool := m.getD i false
def hasA (v : List SlotT) (i : Nat) : Bool := match v[i]? with | some s => s.1 | none => false
def refsA (v : List SlotT) (i : Nat) : List Int := match v[i]? with | some s => s.2.1.2.2.1 | none => []

structure VOk (v : List SlotT) : Prop where
  len : v.length = 32
  z : hasA v 0 = false
  rf : ∀ i, ∀ r ∈ refsA v i, 0 ≤ r ∧ r ≤ 31
  rl : ∀ i, (refsA v i).length ≤ 5

inductive Rch (v : List SlotT) (root : Nat) : Nat → Prop
  | root : hasA v root = true → Rch v root root
  | step {x : Nat} {r : Int} : Rch v root x → r ∈ refsA v x → hasA v r.toNat = true → Rch v root r.toNat

open Classical in
noncomputable def reachL (v : List SlotT) (root : Nat) : List Bool := (List.range 32).map fun i => decide (Rch v root i)

theorem reachL_len (v : List SlotT) (root : Nat) : (reachL v root).length = 32 := by simp [reachL]

theorem mrk_set {m : List Bool} {i j : Nat} (hi : i < m.length) : mrk (m.set i true) j = true ↔ (j = i ∨ mrk m j = true) := by
  unfold mrk
  by_cases h : j = i
  · subst h; simp [hi]
  · simp [List.getElem?_set_ne (Ne.symm h), h]
theorem mrk_lt {m : List Bool} {i : Nat} (h : mrk m i = true) : i < m.length := by
  unfold mrk at h
  rcases Nat.lt_or_ge i m.length with h' | h'
  · exact h'
  · simp [List.getElem?_eq_none h'] at h
theorem cnt_set : ∀ {m : List Bool} {i : Nat}, i < m.length → mrk m i = false → (m.set i true).count false + 1 = m.count false
  | [], i, h, _ => by simp at h
  | b :: m, 0, _, h => by simp [mrk] at h; subst h; simp
  | b :: m, i + 1, h, h1 => by
    have := cnt_set (m := m) (i := i) (by simpa using h) (by simpa [mrk] using h1)
    simp only [List.set_cons_succ, List.count_cons]
    omega

theorem list_of_mrk {m : List Bool} {v : List SlotT} {root : Nat} (hl : m.length = 32) (h : ∀ i, mrk m i = true ↔ Rch v root i) : m = reachL v root := by
  refine List.ext_getElem (by rw [hl, reachL_len]) fun i h1 h2 => ?_
  have := h i
  simp only [mrk, List.getD_eq_getElem?_getD, List.getElem?_eq_getElem h1, Option.getD_some] at this
  simp only [reachL, List.getElem_map, List.getElem_range]
  by_cases hr : Rch v root i
  · simp [hr, this.2 hr]
  · have : ¬ m[i] = true := fun h' => hr (this.1 h')
    simp [hr, this]

/-- the impl's walk: marks, and what waits -/
structure JI (v : List SlotT) (root : Nat) (m : List Bool) (q : List Int) : Prop where
  ml : m.length = 32
  sound : ∀ i, mrk m i = true → Rch v root i
  qs : ∀ x ∈ q, 0 ≤ x ∧ x ≤ 31 ∧ (hasA v x.toNat = true → Rch v root x.toNat)
  cl : ∀ i, mrk m i = true → ∀ r ∈ refsA v i, hasA v r.toNat = true → mrk m r.toNat = true ∨ r ∈ q
  rt : hasA v root = true → mrk m root = true ∨ (root : Int) ∈ q

theorem mrk_rep (n i : Nat) : mrk (List.replicate n false) i = false := by
  unfold mrk
  simp only [List.getD_eq_getElem?_getD, List.getElem?_replicate]
  split <;> rfl
theorem JI.init {v : List SlotT} {root : Nat} (hr : root ≤ 31) : JI v root (List.replicate 32 false) [(root : Int)] where
  ml := by simp
  sound i h := by rw [mrk_rep] at h; cases h
  qs x hx := by
    simp at hx; subst hx
    exact ⟨by omega, by omega, fun h => by simpa using Rch.root (by simpa using h)⟩
  cl i h := by rw [mrk_rep] at h; cases h
  rt _ := .inr (by simp)

theorem JI.skip {v : List SlotT} (hv : VOk v) {root : Nat} {m : List Bool} {x : Int} {q : List Int} (h : JI v root m (x :: q)) (hx : x = 0 ∨ hasA v x.toNat = false ∨ mrk m x.toNat = true) : JI v root m q where
  ml := h.ml
  sound := h.sound
  qs y hy := h.qs y (by simp [hy])
  cl i hi r hr hh := by
    rcases h.cl i hi r hr hh with h' | h'
    · exact .inl h'
    · rcases List.mem_cons.1 h' with rfl | h'
      · rcases hx with rfl | hx | hx
        · have := hv.z; simp at hh; rw [this] at hh; cases hh
        · rw [hx] at hh; cases hh
        · exact .inl hx
      · exact .inr h'
  rt hh := by
    rcases h.rt hh with h' | h'
    · exact .inl h'
    · rcases List.mem_cons.1 h' with h' | h'
      · subst h'
        rcases hx with hx | hx | hx
        · have : root = 0 := by omega
          subst this
          have := hv.z; rw [this] at hh; cases hh
        · simp at hx; rw [hx] at hh; cases hh
        · exact .inl (by simpa using hx)
      · exact .inr h'

theorem JI.take {v : List SlotT} (hv : VOk v) {root : Nat} {m : List Bool} {x : Int} {q : List Int} (h : JI v root m (x :: q)) (hh : hasA v x.toNat = true) : JI v root (m.set x.toNat true) (q ++ refsA v x.toNat) := by
  obtain ⟨q1, q2, q3⟩ := h.qs x (by simp)
  have hlt : x.toNat < m.length := by rw [h.ml]; omega
  have hx := q3 hh
  refine ⟨by simp [h.ml], fun i hi => ?_, fun y hy => ?_, fun i hi r hr hr2 => ?_, fun hr => ?_⟩
  · rcases (mrk_set hlt).1 hi with rfl | hi
    · exact hx
    · exact h.sound i hi
  · rcases List.mem_append.1 hy with hy | hy
    · exact h.qs y (by simp [hy])
    · obtain ⟨a, b⟩ := hv.rf _ y hy
      exact ⟨a, b, fun h3 => Rch.step hx hy h3⟩
  · rcases (mrk_set hlt).1 hi with rfl | hi
    · exact .inr (by simp [hr])
    · rcases h.cl i hi r hr hr2 with h' | h'
      · exact .inl ((mrk_set hlt).2 (.inr h'))
      · rcases List.mem_cons.1 h' with rfl | h'
        · exact .inl ((mrk_set hlt).2 (.inl rfl))
        · exact .inr (by simp [h'])
  · rcases h.rt hr with h' | h'
    · exact .inl ((mrk_set hlt).2 (.inr h'))
    · rcases List.mem_cons.1 h' with h' | h'
      · exact .inl ((mrk_set hlt).2 (.inl (by omega)))
      · exact .inr (by simp [h'])

theorem JI.done {v : List SlotT} {root : Nat} {m : List Bool} (h : JI v root m []) : m = reachL v root := by
  refine list_of_mrk h.ml fun i => ⟨h.sound i, fun hr => ?_⟩
  induction hr with
  | root hh => rcases h.rt hh with h' | h'
               · exact h'
               · simp at h'
  | step _ hm hh ih => rcases h.cl _ ih _ hm hh with h' | h'
                       · exact h'
                       · simp at h'

/-- the reference's walk -/
structure JS (v : List SlotT) (root : Nat) (m : List Bool) (q : List Int) (k : Nat) : Prop where
  ml : m.length = 32
  kl : k ≤ q.length
  sound : ∀ i, mrk m i = true → Rch v root i ∧ (i : Int) ∈ q
  qs : ∀ x ∈ q, 0 ≤ x ∧ x ≤ 31 ∧ Rch v root x.toNat
  cl : ∀ j x, j < k → q[j]? = some x → ∀ r ∈ refsA v x.toNat, hasA v r.toNat = true → mrk m r.toNat = true
  rt : hasA v root = true → mrk m root = true

theorem JS.init {v : List SlotT} {root : Nat} (hr : root ≤ 31) (hh : hasA v root = true) : JS v root ((List.replicate 32 false).set root true) [(root : Int)] 0 := by
  have hlt : root < (List.replicate 32 false).length := by simp; omega
  refine ⟨by simp, by simp, fun i hi => ?_, fun x hx => ?_, fun j x hj => by omega, fun _ => (mrk_set hlt).2 (.inl rfl)⟩
  · rcases (mrk_set hlt).1 hi with rfl | hi
    · exact ⟨.root hh, by simp⟩
    · rw [mrk_rep] at hi; cases hi
  · simp at hx; subst hx
    exact ⟨by omega, by omega, by simpa using Rch.root hh⟩
theorem JS.none {v : List SlotT} {root : Nat} (hh : hasA v root = false) : JS v root (List.replicate 32 false) [] 0 :=
  ⟨by simp, by simp, fun i hi => (by rw [mrk_rep] at hi; cases hi), by simp, fun j x hj => by omega, fun h => (by rw [hh] at h; cases h)⟩

structure JS2 (v : List SlotT) (root : Nat) (m : List Bool) (q : List Int) (k : Nat) (x : Int) (i : Nat) : Prop where
  js : JS v root m q k
  at_ : q[k]? = some x
  il : i ≤ (refsA v x.toNat).length
  cl : ∀ j r, j < i → (refsA v x.toNat)[j]? = some r → hasA v r.toNat = true → mrk m r.toNat = true

theorem JS2.skip {v : List SlotT} {root : Nat} {m : List Bool} {q : List Int} {k i : Nat} {x r : Int} (h : JS2 v root m q k x i) (hr : (refsA v x.toNat)[i]? = some r) (hx : hasA v r.toNat = false ∨ mrk m r.toNat = true) : JS2 v root m q k x (i + 1) where
  js := h.js
  at_ := h.at_
  il := (List.getElem?_eq_some_iff.1 hr).1
  cl j r' hj hr' hh := by
    rcases Nat.lt_or_ge j i with h' | h'
    · exact h.cl j r' h' hr' hh
    · have : j = i := by omega
      subst this
      rw [hr] at hr'; cases hr'
      rcases hx with hx | hx
      · rw [hx] at hh; cases hh
      · exact hx

theorem JS2.push {v : List SlotT} (hv : VOk v) {root : Nat} {m : List Bool} {q : List Int} {k i : Nat} {x r : Int} (h : JS2 v root m q k x i) (hr : (refsA v x.toNat)[i]? = some r) (hh : hasA v r.toNat = true) : JS2 v root (m.set r.toNat true) (q ++ [r]) k x (i + 1) := by
  have hmem : r ∈ refsA v x.toNat := List.mem_of_getElem? hr
  obtain ⟨a, b⟩ := hv.rf _ r hmem
  have hlt : r.toNat < m.length := by rw [h.js.ml]; omega
  have hxq : x ∈ q := List.mem_of_getElem? h.at_
  have hR : Rch v root r.toNat := .step (h.js.qs x hxq).2.2 hmem hh
  have hk := (List.getElem?_eq_some_iff.1 h.at_).1
  refine ⟨⟨by simp [h.js.ml], by have := h.js.kl; simp; omega, fun i hi => ?_, fun y hy => ?_, fun j y hj hy r' hr' h3 => ?_, fun h3 => (mrk_set hlt).2 (.inr (h.js.rt h3))⟩, ?_, (List.getElem?_eq_some_iff.1 hr).1, fun j r' hj hr' h3 => ?_⟩
  · rcases (mrk_set hlt).1 hi with rfl | hi
    · exact ⟨hR, by simp; right; omega⟩
    · obtain ⟨c, d⟩ := h.js.sound i hi; exact ⟨c, by simp [d]⟩
  · rcases List.mem_append.1 hy with hy | hy
    · exact h.js.qs y hy
    · simp at hy; subst hy; exact ⟨a, b, hR⟩
  · rw [List.getElem?_append_left (by omega)] at hy
    exact (mrk_set hlt).2 (.inr (h.js.cl j y hj hy r' hr' h3))
  · rw [List.getElem?_append_left hk]; exact h.at_
  · rcases Nat.lt_or_ge j i with h' | h'
    · exact (mrk_set hlt).2 (.inr (h.cl j r' h' hr' h3))
    · have : j = i := by omega
      subst this
      rw [hr] at hr'; cases hr'
      exact (mrk_set hlt).2 (.inl rfl)

theorem JS2.next {v : List SlotT} {root : Nat} {m : List Bool} {q : List Int} {k : Nat} {x : Int} (h : JS2 v root m q k x (refsA v x.toNat).length) : JS v root m q (k + 1) where
  ml := h.js.ml
  kl := (List.getElem?_eq_some_iff.1 h.at_).1
  sound := h.js.sound
  qs := h.js.qs
  cl j y hj hy r hr hh := by
    rcases Nat.lt_or_ge j k with h' | h'
    · exact h.js.cl j y h' hy r hr hh
    · have : j = k := by omega
      subst this
      rw [h.at_] at hy; cases hy
      obtain ⟨i, hi, rfl⟩ := List.getElem_of_mem hr
      exact h.cl i _ hi (List.getElem?_eq_getElem hi) hh
  rt := h.js.rt

theorem JS.done {v : List SlotT} {root : Nat} {m : List Bool} {q : List Int} (h : JS v root m q q.length) : m = reachL v root := by
  refine list_of_mrk h.ml fun i => ⟨fun hi => (h.sound i hi).1, fun hr => ?_⟩
  induction hr with
  | root hh => exact h.rt hh
  | step _ hm hh ih =>
    obtain ⟨_, hq⟩ := h.sound _ ih
    obtain ⟨j, hj, he⟩ := List.getElem_of_mem hq
    exact h.cl j _ hj (by rw [List.getElem?_eq_getElem hj, he]) _ (by simpa using hm) hh
end Q6

namespace Q6
open Go Go.Vm

/-! ### marking with a stack of so many places: the plain law -/
structure MS where
  m : List Bool
  q : List Int
  o : Bool

def lackB (v : List SlotT) (m : List Bool) (r : Int) : Bool := hasA v r.toNat && !mrk m r.toNat
def put1 (most : Int) (s : MS) (r : Int) : MS := if (s.q.length : Int) < most then ⟨s.m, s.q ++ [r], s.o⟩ else ⟨s.m, s.q, true⟩
def see1 (v : List SlotT) (most : Int) (s : MS) (r : Int) : MS := if lackB v s.m r = true then put1 most ⟨s.m.set r.toNat true, s.q, s.o⟩ r else s
def seeA (v : List SlotT) (most : Int) (s : MS) (l : List Int) : MS := l.foldl (see1 v most) s
def drainF (v : List SlotT) (most : Int) : Nat → MS → MS
  | 0, s => s
  | n + 1, s => match s.q.getLast? with
    | none => s
    | some x => drainF v most n (seeA v most ⟨s.m, s.q.dropLast, s.o⟩ (refsA v x.toNat))
def drn (v : List SlotT) (most : Int) (s : MS) : MS := drainF v most 200 s
def lacks (v : List SlotT) (m : List Bool) (i : Nat) : Bool := (refsA v i).any (lackB v m)
def scan1 (v : List SlotT) (most : Int) (s : MS) (i : Nat) : MS := if (mrk s.m i && lacks v s.m i) = true then put1 most s (i : Int) else s
def scanA (v : List SlotT) (most : Int) (s : MS) (n : Nat) : MS := (List.range n).foldl (scan1 v most) ⟨s.m, s.q, false⟩
/-- 'd': behind a drain -/
def outD (v : List SlotT) (most : Int) : Nat → MS → Nat → List Bool × Nat
  | 0, d, t => (d.m, t)
  | n + 1, d, t => if d.o = true then outD v most n (drn v most (scanA v most d 32)) (t + 1) else (d.m, t)
def outOk (v : List SlotT) (most : Int) : Nat → MS → Prop
  | 0, d => d.o = false
  | n + 1, d => d.o = true → outOk v most n (drn v most (scanA v most d 32))
def ms0 (v : List SlotT) (root : Nat) : MS := if hasA v root = true then ⟨(List.replicate 32 false).set root true, [(root : Int)], false⟩ else ⟨List.replicate 32 false, [], false⟩
def markR (v : List SlotT) (root : Nat) (most : Int) : List Bool × Nat := outD v most 34 (drn v most (ms0 v root)) 0

structure Good (most : Int) (s : MS) : Prop where
  ml : s.m.length = 32
  ql : (s.q.length : Int) ≤ most
  qr : ∀ x ∈ s.q, 0 ≤ x ∧ x ≤ 31
def meas (s : MS) : Nat := 2 * s.m.count false + s.q.length

theorem lackB_lt {v : List SlotT} {m : List Bool} {r : Int} : lackB v m r = true → mrk m r.toNat = false := by
  unfold lackB; intro h; simp at h; exact h.2

theorem Good.put1 {most : Int} {s : MS} {r : Int} (h : Good most s) (hr : 0 ≤ r ∧ r ≤ 31) : Good most (put1 most s r) := by
  unfold Q6.put1
  split
  · rename_i hlt
    refine ⟨h.ml, by simp only [List.length_append, List.length_singleton]; omega, fun x hx => ?_⟩
    rcases List.mem_append.1 hx with hx | hx
    · exact h.qr x hx
    · simp at hx; subst hx; exact hr
  · exact ⟨h.ml, h.ql, h.qr⟩
theorem put1_m {most : Int} {s : MS} {r : Int} : (put1 most s r).m = s.m := by unfold put1; split <;> rfl
theorem put1_meas {most : Int} {s : MS} {r : Int} : meas (put1 most s r) ≤ meas s + 1 := by
  unfold put1 meas; split <;> simp <;> omega

theorem Good.see1 {v : List SlotT} {most : Int} {s : MS} {r : Int} (h : Good most s) (hr : 0 ≤ r ∧ r ≤ 31) : Good most (see1 v most s r) := by
  unfold Q6.see1
  split
  · exact Good.put1 ⟨by simp [h.ml], h.ql, h.qr⟩ hr
  · exact h
theorem cnt_mark {m : List Bool} {r : Int} (hl : m.length = 32) (hr : 0 ≤ r ∧ r ≤ 31) (h : mrk m r.toNat = false) : (m.set r.toNat true).count false + 1 = m.count false := cnt_set (by omega) h
theorem see1_cnt {v : List SlotT} {most : Int} {s : MS} {r : Int} (h : Good most s) (hr : 0 ≤ r ∧ r ≤ 31) :
    (see1 v most s r).m.count false ≤ s.m.count false ∧ meas (see1 v most s r) ≤ meas s ∧ (lackB v s.m r = true → (see1 v most s r).m.count false < s.m.count false) := by
  unfold see1
  split
  · rename_i hl
    have h1 := cnt_mark h.ml hr (lackB_lt hl)
    have h2 := put1_meas (most := most) (s := ⟨s.m.set r.toNat true, s.q, s.o⟩) (r := r)
    rw [put1_m]
    refine ⟨by simp only; omega, ?_, fun _ => by simp only; omega⟩
    unfold meas at *
    simp only at h2 ⊢
    omega
  · rename_i hl
    exact ⟨Nat.le_refl _, Nat.le_refl _, fun h => absurd h hl⟩

theorem seeA_ok {v : List SlotT} {most : Int} : ∀ (l : List Int) {s : MS}, Good most s → (∀ r ∈ l, 0 ≤ r ∧ r ≤ 31) →
    Good most (seeA v most s l) ∧ (seeA v most s l).m.count false ≤ s.m.count false ∧ meas (seeA v most s l) ≤ meas s
  | [], s, h, _ => ⟨h, Nat.le_refl _, Nat.le_refl _⟩
  | r :: l, s, h, hr => by
    have h1 := h.see1 (v := v) (hr r (by simp))
    obtain ⟨h2, h3, _⟩ := see1_cnt (v := v) h (hr r (by simp))
    obtain ⟨h4, h5, h6⟩ := seeA_ok l h1 (fun x hx => hr x (by simp [hx]))
    exact ⟨h4, Nat.le_trans h5 h2, Nat.le_trans h6 h3⟩
theorem seeA_lt {v : List SlotT} {most : Int} : ∀ (l : List Int) {s : MS}, Good most s → (∀ r ∈ l, 0 ≤ r ∧ r ≤ 31) → l.any (lackB v s.m) = true → (seeA v most s l).m.count false < s.m.count false
  | [], s, h, _, ha => by simp at ha
  | r :: l, s, h, hr, ha => by
    have h1 := h.see1 (v := v) (hr r (by simp))
    obtain ⟨h2, h3, hlt⟩ := see1_cnt (v := v) h (hr r (by simp))
    obtain ⟨h4, h5, h6⟩ := seeA_ok (v := v) l h1 (fun x hx => hr x (by simp [hx]))
    cases hl : lackB v s.m r with
    | true => exact Nat.lt_of_le_of_lt h5 (hlt hl)
    | false =>
      have : see1 v most s r = s := by unfold see1; simp [hl]
      simp only [List.any_cons, hl, Bool.false_or] at ha
      show (seeA v most (see1 v most s r) l).m.count false < _
      rw [this]
      exact seeA_lt l h (fun x hx => hr x (by simp [hx])) ha

theorem last_of {q : List Int} {x : Int} (h : q.getLast? = some x) : q = q.dropLast ++ [x] ∧ x ∈ q := by
  have hne : q ≠ [] := by intro e; subst e; simp at h
  have h2 := List.dropLast_concat_getLast hne
  rw [List.getLast?_eq_some_getLast hne, Option.some.injEq] at h
  rw [h] at h2
  exact ⟨h2.symm, by rw [← h2]; simp⟩

theorem Good.pop {most : Int} {s : MS} {x : Int} (h : Good most s) (hx : s.q.getLast? = some x) : Good most ⟨s.m, s.q.dropLast, s.o⟩ ∧ (0 ≤ x ∧ x ≤ 31) ∧ meas ⟨s.m, s.q.dropLast, s.o⟩ + 1 = meas s := by
  obtain ⟨h1, h2⟩ := last_of hx
  have hlen : s.q.length = s.q.dropLast.length + 1 := by have := congrArg List.length h1; simpa using this
  refine ⟨⟨h.ml, by have := h.ql; simp only; omega, fun y hy => h.qr y (List.dropLast_subset _ hy)⟩, h.qr x h2, ?_⟩
  unfold meas; simp only; omega

theorem drainF_ok {v : List SlotT} (hv : VOk v) {most : Int} : ∀ (n : Nat) {s : MS}, Good most s → meas s ≤ n →
    Good most (drainF v most n s) ∧ (drainF v most n s).q = [] ∧ (drainF v most n s).m.count false ≤ s.m.count false
  | 0, s, h, hm => ⟨h, by unfold meas at hm; exact List.length_eq_zero_iff.1 (by show s.q.length = 0; omega), Nat.le_refl _⟩
  | n + 1, s, h, hm => by
    unfold drainF
    cases hx : s.q.getLast? with
    | none => exact ⟨h, by simpa using hx, Nat.le_refl _⟩
    | some x =>
      obtain ⟨h1, h2, h3⟩ := h.pop hx
      obtain ⟨h4, h5, h6⟩ := seeA_ok (v := v) (refsA v x.toNat) h1 (hv.rf _)
      obtain ⟨h7, h8, h9⟩ := drainF_ok hv n h4 (by omega)
      exact ⟨h7, h8, Nat.le_trans h9 h5⟩

theorem Good.meas {most : Int} {s : MS} (h : Good most s) (hm : most ≤ 40) : meas s ≤ 200 := by
  unfold Q6.meas
  have h1 := h.ql
  have h2 : s.m.count false ≤ s.m.length := List.count_le_length
  have := h.ml
  omega

theorem drn_ok {v : List SlotT} (hv : VOk v) {most : Int} (hm : most ≤ 40) {s : MS} (h : Good most s) : Good most (drn v most s) ∧ (drn v most s).q = [] ∧ (drn v most s).m.count false ≤ s.m.count false :=
  drainF_ok hv 200 h (h.meas hm)
theorem drn_nil {v : List SlotT} {most : Int} {s : MS} (h : s.q = []) : drn v most s = s := by
  unfold drn; simp [drainF, h]
theorem drn_lt {v : List SlotT} (hv : VOk v) {most : Int} (hm : most ≤ 40) {s : MS} (h : Good most s) {x : Int} (hx : s.q.getLast? = some x) (hl : lacks v s.m x.toNat = true) : (drn v most s).m.count false < s.m.count false := by
  obtain ⟨h1, h2, h3⟩ := h.pop hx
  obtain ⟨h4, h5, h6⟩ := seeA_ok (v := v) (refsA v x.toNat) h1 (hv.rf _)
  have h7 := seeA_lt (v := v) (refsA v x.toNat) h1 (hv.rf _) hl
  have hme := h.meas hm
  obtain ⟨_, _, h8⟩ := drainF_ok hv 199 h4 (by omega)
  unfold drn
  show (drainF v most (199 + 1) s).m.count false < _
  rw [drainF, hx]
  exact Nat.lt_of_le_of_lt h8 h7

theorem scanA_ok {v : List SlotT} {most : Int} (h0 : 1 ≤ most) {d : MS} (h : Good most d) (hq : d.q = []) : ∀ n, n ≤ 32 →
    Good most (scanA v most d n) ∧ (scanA v most d n).m = d.m ∧ (∀ x ∈ (scanA v most d n).q, lacks v d.m x.toNat = true) ∧ ((scanA v most d n).o = true → (scanA v most d n).q ≠ [])
  | 0, _ => by
    refine ⟨⟨h.ml, h.ql, h.qr⟩, rfl, ?_, ?_⟩
    · rw [show (scanA v most d 0).q = d.q from rfl, hq]
      intro x hx; cases hx
    · intro e; cases e
  | n + 1, hn => by
    obtain ⟨h1, h2, h3, h4⟩ := scanA_ok h0 h hq n (by omega)
    have e : scanA v most d (n + 1) = scan1 v most (scanA v most d n) n := by unfold scanA; rw [List.range_succ, List.foldl_append]; rfl
    rw [e]
    unfold scan1
    split
    · rename_i hc
      rw [Bool.and_eq_true, h2] at hc
      refine ⟨h1.put1 ⟨by omega, by omega⟩, by rw [put1_m]; exact h2, fun x hx => ?_, fun ho => ?_⟩
      · unfold put1 at hx
        split at hx
        · rcases List.mem_append.1 hx with hx | hx
          · exact h3 x hx
          · simp at hx; subst hx; simpa using hc.2
        · exact h3 x hx
      · unfold put1
        split
        · simp
        · rename_i hlt
          intro e
          have e' : (scanA v most d n).q = [] := e
          rw [e'] at hlt
          simp at hlt; omega
    · exact ⟨h1, h2, h3, h4⟩

theorem outOk_of {v : List SlotT} (hv : VOk v) {most : Int} (h0 : 1 ≤ most) (hm : most ≤ 40) : ∀ (n : Nat) {d : MS}, Good most d → d.q = [] → d.m.count false + 2 ≤ n → outOk v most n d
  | 0, d, _, _, hn => by omega
  | n + 1, d, h, hq, hn => fun ho => by
    obtain ⟨h1, h2, h3, h4⟩ := scanA_ok (v := v) h0 h hq 32 (by omega)
    cases hx : (scanA v most d 32).q.getLast? with
    | none =>
      have hnil : (scanA v most d 32).q = [] := by simpa using hx
      rw [drn_nil hnil]
      have hof : (scanA v most d 32).o = false := by
        cases hh : (scanA v most d 32).o with
        | false => rfl
        | true => exact absurd hnil (h4 hh)
      cases n with
      | zero => exact hof
      | succ n => intro h'; rw [hof] at h'; cases h'
    | some x =>
      have hl := h3 x (last_of hx).2
      have := drn_lt hv hm h1 hx (by rw [h2]; exact hl)
      obtain ⟨h5, h6, h7⟩ := drn_ok hv hm h1
      refine outOk_of hv h0 hm n h5 h6 ?_
      rw [h2] at this; omega

theorem ms0_good {v : List SlotT} {root : Nat} {most : Int} (h0 : 1 ≤ most) (hr : root ≤ 31) : Good most (ms0 v root) := by
  unfold ms0
  split
  · exact ⟨by simp, by simp; omega, fun x hx => by simp at hx; subst hx; omega⟩
  · exact ⟨by simp, by simp; omega, fun x hx => by cases hx⟩

theorem cnt_le32 {most : Int} {s : MS} (h : Good most s) : s.m.count false ≤ 32 := by rw [← h.ml]; exact List.count_le_length

theorem outD_len {v : List SlotT} (hv : VOk v) {most : Int} (h0 : 1 ≤ most) (hm : most ≤ 40) : ∀ (n : Nat) {d : MS} (t : Nat), Good most d → d.q = [] → (outD v most n d t).1.length = 32 ∧ (outD v most n d t).2 ≤ t + n
  | 0, d, t, h, _ => ⟨h.ml, by simp [outD]⟩
  | n + 1, d, t, h, hq => by
    unfold outD
    split
    · obtain ⟨h1, h2, h3, h4⟩ := scanA_ok (v := v) h0 h hq 32 (by omega)
      obtain ⟨h5, h6, h7⟩ := drn_ok hv hm h1
      have := outD_len hv h0 hm n (t + 1) h5 h6
      exact ⟨this.1, by omega⟩
    · exact ⟨h.ml, by simp⟩
end Q6

namespace Q6
open Go Go.Vm

/-! ### what is marked is what is reached, whatever room the stack has -/
theorem lackB_mono {v : List SlotT} {m : List Bool} {j : Nat} {r : Int} (h : lackB v (m.set j true) r = true) : lackB v m r = true := by
  unfold lackB at h ⊢
  simp only [Bool.and_eq_true, Bool.not_eq_true'] at h ⊢
  refine ⟨h.1, ?_⟩
  cases hm : mrk m r.toNat with
  | false => rfl
  | true =>
    exfalso
    have h2 := h.2
    rcases Nat.lt_or_ge j m.length with hj | hj
    · rw [(mrk_set hj).2 (.inr hm)] at h2; cases h2
    · rw [List.set_eq_of_length_le hj, hm] at h2; cases h2
theorem lackB_set {v : List SlotT} {m : List Bool} {r : Int} (hl : r.toNat < m.length) : lackB v (m.set r.toNat true) r = false := by
  unfold lackB
  rw [(mrk_set hl).2 (.inl rfl)]; simp
theorem lacks_mono {v : List SlotT} {m : List Bool} {i j : Nat} (h : lacks v m i = false) : lacks v (m.set j true) i = false := by
  unfold lacks at h ⊢
  rw [List.any_eq_false] at h ⊢
  exact fun r hr hh => h r hr (lackB_mono hh)

structure MI (v : List SlotT) (root : Nat) (s : MS) : Prop where
  ml : s.m.length = 32
  sound : ∀ i, mrk s.m i = true → Rch v root i
  qm : ∀ x ∈ s.q, mrk s.m x.toNat = true ∧ 0 ≤ x
  cl : s.o = false → ∀ i, mrk s.m i = true → (i : Int) ∈ s.q ∨ lacks v s.m i = false
  rt : hasA v root = true → mrk s.m root = true
/-- while the references of 'x' are looked at; 'l' is left -/
structure MI2 (v : List SlotT) (root : Nat) (s : MS) (x : Nat) (l : List Int) : Prop where
  ml : s.m.length = 32
  sound : ∀ i, mrk s.m i = true → Rch v root i
  qm : ∀ x ∈ s.q, mrk s.m x.toNat = true ∧ 0 ≤ x
  cl : s.o = false → ∀ i, mrk s.m i = true → (i : Int) ∈ s.q ∨ lacks v s.m i = false ∨ (i = x ∧ ∀ r ∈ refsA v i, lackB v s.m r = true → r ∈ l)
  rt : hasA v root = true → mrk s.m root = true
  xs : Rch v root x
  ls : ∀ r ∈ l, r ∈ refsA v x
theorem MI2.see {v : List SlotT} (hv : VOk v) {root : Nat} {most : Int} {s : MS} {x : Nat} {r : Int} {l : List Int} (h : MI2 v root s x (r :: l)) : MI2 v root (see1 v most s r) x l := by
  have hr := h.ls r (by simp)
  obtain ⟨r0, r1⟩ := hv.rf _ r hr
  have hlt : r.toNat < s.m.length := by rw [h.ml]; omega
  unfold see1
  by_cases hl : lackB v s.m r = true
  · rw [if_pos hl]
    have hh : hasA v r.toNat = true := by unfold lackB at hl; simp only [Bool.and_eq_true] at hl; exact hl.1
    have hsound : ∀ i, mrk (s.m.set r.toNat true) i = true → Rch v root i := fun i hi => by
      rcases (mrk_set hlt).1 hi with rfl | hi
      · exact .step h.xs hr hh
      · exact h.sound i hi
    have hrt : hasA v root = true → mrk (s.m.set r.toNat true) root = true := fun e => (mrk_set hlt).2 (.inr (h.rt e))
    unfold put1
    simp only
    split
    · refine ⟨by simp [h.ml], hsound, fun y hy => ?_, fun ho i hi => ?_, hrt, h.xs, fun y hy => h.ls y (by simp [hy])⟩
      · rcases List.mem_append.1 hy with hy | hy
        · exact ⟨(mrk_set hlt).2 (.inr (h.qm y hy).1), (h.qm y hy).2⟩
        · simp at hy; subst hy; exact ⟨(mrk_set hlt).2 (.inl rfl), r0⟩
      · rcases (mrk_set hlt).1 hi with rfl | hi
        · left; simp; right; omega
        · rcases h.cl ho i hi with h1 | h1 | ⟨h1, h2⟩
          · left; simp [h1]
          · exact .inr (.inl (lacks_mono h1))
          · refine .inr (.inr ⟨h1, fun y hy hly => ?_⟩)
            have := h2 y hy (lackB_mono hly)
            rcases List.mem_cons.1 this with rfl | h3
            · rw [lackB_set hlt] at hly; cases hly
            · exact h3
    · exact ⟨by simp [h.ml], hsound, fun y hy => ⟨(mrk_set hlt).2 (.inr (h.qm y hy).1), (h.qm y hy).2⟩, fun ho => (by cases ho), hrt, h.xs, fun y hy => h.ls y (by simp [hy])⟩
  · rw [if_neg hl]
    refine ⟨h.ml, h.sound, h.qm, fun ho i hi => ?_, h.rt, h.xs, fun y hy => h.ls y (by simp [hy])⟩
    rcases h.cl ho i hi with h1 | h1 | ⟨h1, h2⟩
    · exact .inl h1
    · exact .inr (.inl h1)
    · refine .inr (.inr ⟨h1, fun y hy hly => ?_⟩)
      rcases List.mem_cons.1 (h2 y hy hly) with rfl | h3
      · exact absurd hly hl
      · exact h3
theorem MI2.seeA {v : List SlotT} (hv : VOk v) {root : Nat} {most : Int} {x : Nat} : ∀ (l : List Int) {s : MS}, MI2 v root s x l → MI v root (seeA v most s l)
  | [], s, h => by
    refine ⟨h.ml, h.sound, h.qm, fun ho i hi => ?_, h.rt⟩
    rcases h.cl ho i hi with h1 | h1 | ⟨h1, h2⟩
    · exact .inl h1
    · exact .inr h1
    · right
      show lacks v s.m i = false
      unfold lacks
      rw [List.any_eq_false]
      intro r hr hh
      have := h2 r hr hh
      cases this
  | r :: l, s, h => MI2.seeA hv l (h.see (most := most) hv)
theorem MI.drainF {v : List SlotT} (hv : VOk v) {root : Nat} {most : Int} : ∀ (n : Nat) {s : MS}, MI v root s → MI v root (drainF v most n s)
  | 0, s, h => h
  | n + 1, s, h => by
    unfold Q6.drainF
    cases hx : s.q.getLast? with
    | none => exact h
    | some x =>
      obtain ⟨h1, h2⟩ := last_of hx
      obtain ⟨hm, h0⟩ := h.qm x h2
      refine MI.drainF hv n (MI2.seeA (x := x.toNat) hv _ ⟨h.ml, h.sound, fun y hy => h.qm y (List.dropLast_subset _ hy), fun ho i hi => ?_, h.rt, h.sound _ hm, fun r hr => hr⟩)
      rcases h.cl ho i hi with h3 | h3
      · rw [h1] at h3
        rcases List.mem_append.1 h3 with h3 | h3
        · exact .inl h3
        · simp at h3
          have : i = x.toNat := by omega
          subst this
          exact .inr (.inr ⟨rfl, fun r hr _ => hr⟩)
      · exact .inr (.inl h3)
theorem MI.scan {v : List SlotT} {root : Nat} {most : Int} {d : MS} (h : MI v root d) : ∀ n : Nat, n ≤ 32 →
    (scanA v most d n).m = d.m ∧ (∀ x ∈ (scanA v most d n).q, x ∈ d.q ∨ (mrk d.m x.toNat = true ∧ 0 ≤ x)) ∧ ((scanA v most d n).o = false → ∀ i, i < n → mrk d.m i = true → (i : Int) ∈ (scanA v most d n).q ∨ lacks v d.m i = false)
  | 0, _ => ⟨rfl, fun x hx => .inl hx, fun _ i hi => absurd hi (Nat.not_lt_zero _)⟩
  | n + 1, hn => by
    obtain ⟨h1, h2, h3⟩ := MI.scan (most := most) h n (by omega)
    have e : scanA v most d (n + 1) = scan1 v most (scanA v most d n) n := by unfold scanA; rw [List.range_succ, List.foldl_append]; rfl
    rw [e]
    generalize scanA v most d n = s at *
    unfold scan1
    by_cases hc : (mrk s.m n && lacks v s.m n) = true
    · rw [if_pos hc]
      rw [Bool.and_eq_true, h1] at hc
      unfold put1
      split
      · refine ⟨h1, fun x hx => ?_, fun ho i hi hm => ?_⟩
        · rcases List.mem_append.1 hx with hx | hx
          · exact h2 x hx
          · simp at hx; subst hx; right; exact ⟨by simpa using hc.1, by omega⟩
        · rcases Nat.lt_or_ge i n with h' | h'
          · rcases h3 ho i h' hm with h4 | h4
            · left; simp [h4]
            · exact .inr h4
          · have : i = n := by omega
            subst this
            left; simp
      · exact ⟨h1, h2, fun ho => (by cases ho)⟩
    · rw [if_neg hc]
      refine ⟨h1, h2, fun ho i hi hm => ?_⟩
      rcases Nat.lt_or_ge i n with h' | h'
      · exact h3 ho i h' hm
      · have : i = n := by omega
        subst this
        right
        rw [h1, hm, Bool.true_and] at hc
        simpa using hc
theorem MI.scanA {v : List SlotT} {root : Nat} {most : Int} {d : MS} (h : MI v root d) : MI v root (scanA v most d 32) := by
  obtain ⟨h1, h2, h3⟩ := MI.scan (most := most) h 32 (Nat.le_refl _)
  refine ⟨by rw [h1]; exact h.ml, fun i hi => h.sound i (by rw [← h1]; exact hi), fun x hx => ?_, fun ho i hi => ?_, fun e => by rw [h1]; exact h.rt e⟩
  · rw [h1]
    rcases h2 x hx with h4 | h4
    · exact h.qm x h4
    · exact h4
  · rw [h1] at hi ⊢
    exact h3 ho i (by have := mrk_lt hi; rw [h.ml] at this; exact this) hi
theorem MI.done {v : List SlotT} {root : Nat} {d : MS} (h : MI v root d) (hq : d.q = []) (ho : d.o = false) : d.m = reachL v root := by
  refine list_of_mrk h.ml fun i => ⟨h.sound i, fun hr => ?_⟩
  induction hr with
  | root hh => exact h.rt hh
  | step _ hm hh ih =>
    rename_i x r _
    rcases h.cl ho _ ih with h1 | h1
    · rw [hq] at h1; cases h1
    · unfold lacks at h1
      rw [List.any_eq_false] at h1
      have := h1 _ hm
      unfold lackB at this
      rw [hh] at this
      simpa using this
theorem MI.out {v : List SlotT} (hv : VOk v) {root : Nat} {most : Int} (h0 : 1 ≤ most) (hm : most ≤ 40) : ∀ (n : Nat) {d : MS} (t : Nat), MI v root d → Good most d → d.q = [] → outOk v most n d → (outD v most n d t).1 = reachL v root
  | 0, d, t, h, _, hq, ho => h.done hq ho
  | n + 1, d, t, h, hg, hq, ho => by
    unfold outD
    by_cases hd : d.o = true
    · rw [if_pos hd]
      obtain ⟨h1, h2, h3, h4⟩ := scanA_ok (v := v) h0 hg hq 32 (by omega)
      obtain ⟨h5, h6, h7⟩ := drn_ok hv hm h1
      exact MI.out hv h0 hm n (t + 1) (MI.drainF hv 200 h.scanA) h5 h6 (ho hd)
    · rw [if_neg hd]
      exact h.done hq (by simpa using hd)
theorem MI.init {v : List SlotT} {root : Nat} (hr : root ≤ 31) : MI v root (ms0 v root) := by
  unfold ms0
  by_cases hh : hasA v root = true
  · rw [if_pos hh]
    have hlt : root < (List.replicate 32 false).length := by simp; omega
    refine ⟨by simp, fun i hi => ?_, fun x hx => ?_, fun _ i hi => ?_, fun _ => (mrk_set hlt).2 (.inl rfl)⟩
    · rcases (mrk_set hlt).1 hi with rfl | hi
      · exact .root hh
      · rw [mrk_rep] at hi; cases hi
    · simp at hx; subst hx
      exact ⟨(mrk_set hlt).2 (.inl (by simp)), by omega⟩
    · rcases (mrk_set hlt).1 hi with rfl | hi
      · left; simp
      · rw [mrk_rep] at hi; cases hi
  · rw [if_neg hh]
    exact ⟨by simp, fun i hi => (by rw [mrk_rep] at hi; cases hi), fun x hx => (by cases hx), fun _ i hi => (by rw [mrk_rep] at hi; cases hi), fun e => absurd e hh⟩
/-- WHAT IS MARKED IS WHAT IS REACHED -/
theorem mark_reach {v : List SlotT} (hv : VOk v) {root : Nat} (hr : root ≤ 31) {most : Int} (h0 : 1 ≤ most) (hm : most ≤ 40) : (markR v root most).1 = reachL v root := by
  have hg := ms0_good (v := v) h0 hr
  obtain ⟨h5, h6, h7⟩ := drn_ok hv hm hg
  unfold markR
  refine MI.out hv h0 hm 34 0 (MI.drainF hv 200 (MI.init hr)) h5 h6 (outOk_of hv h0 hm 34 h5 h6 ?_)
  have := cnt_le32 h5
  omega
/-! with room for forty nothing is looked through anew -/
def Small (s : MS) : Prop := s.m.length = 32 ∧ s.q.length + s.m.count false ≤ 32 ∧ s.o = false ∧ ∀ x ∈ s.q, 0 ≤ x ∧ x ≤ 31
theorem Small.see {v : List SlotT} {s : MS} {r : Int} (h : Small s) (hr : 0 ≤ r ∧ r ≤ 31) : Small (see1 v 40 s r) := by
  obtain ⟨h1, h2, h3, h4⟩ := h
  unfold see1
  split
  · rename_i hl
    have hc := cnt_mark h1 hr (lackB_lt hl)
    unfold put1
    rw [if_pos (by simp only; omega)]
    refine ⟨by simp [h1], by simp only [List.length_append, List.length_singleton]; omega, h3, fun x hx => ?_⟩
    rcases List.mem_append.1 hx with hx | hx
    · exact h4 x hx
    · simp at hx; subst hx; exact hr
  · exact ⟨h1, h2, h3, h4⟩
theorem Small.seeA {v : List SlotT} : ∀ (l : List Int) {s : MS}, Small s → (∀ r ∈ l, 0 ≤ r ∧ r ≤ 31) → Small (seeA v 40 s l)
  | [], _, h, _ => h
  | r :: l, _, h, hr => Small.seeA l (h.see (hr r (by simp))) (fun x hx => hr x (by simp [hx]))
theorem Small.drain {v : List SlotT} (hv : VOk v) : ∀ (n : Nat) {s : MS}, Small s → Small (drainF v 40 n s)
  | 0, _, h => h
  | n + 1, s, h => by
    unfold drainF
    cases hx : s.q.getLast? with
    | none => exact h
    | some x =>
      obtain ⟨h1, h2, h3, h4⟩ := h
      have hl : s.q.dropLast.length ≤ s.q.length := by simp
      exact Small.drain hv n (Small.seeA _ ⟨h1, by simp only; omega, h3, fun y hy => h4 y (List.dropLast_subset _ hy)⟩ (hv.rf _))
theorem mark_none {v : List SlotT} (hv : VOk v) {root : Nat} (hr : root ≤ 31) : (markR v root 40).2 = 0 := by
  have hs : Small (ms0 v root) := by
    unfold ms0
    split
    · have hc := cnt_set (m := List.replicate 32 false) (i := root) (by simp; omega) (mrk_rep _ _)
      rw [List.count_replicate_self] at hc
      exact ⟨by simp, by simp only [List.length_singleton]; omega, rfl, fun x hx => by simp at hx; subst hx; omega⟩
    · exact ⟨by simp, by simp, rfl, fun x hx => by cases hx⟩
  have hd := (Small.drain hv 200 hs).2.2.1
  unfold markR
  show (outD v 40 (33 + 1) (drn v 40 (ms0 v root)) 0).2 = 0
  unfold outD
  rw [if_neg (by unfold drn; rw [hd]; decide)]
end Q6

namespace Q6
open Go Go.Vm

/-! ### what is garbage: the plain law -/
abbrev PairT' := Int × Int × Unit
def slotN : SlotT := (false, (0, [], [], ()), ())
def garbQ (l : List SlotT) (m : List Bool) (i : Nat) : Bool := hasA l i && !mrk m i
def dRowQ (l : List SlotT) (i : Nat) (rs : List Int) : List PairT' := (rs.filter fun r => decide (0 < r) && !hasA l r.toNat).map fun r => ((i : Int), r, ())
def dAllQ (l : List SlotT) (n : Nat) : List PairT' := (List.range n).flatMap fun i => dRowQ l i (refsA l i)
theorem Rch.has {v : List SlotT} {root i : Nat} (h : Rch v root i) : hasA v i = true := by
  cases h with
  | root h => exact h
  | step _ _ h => exact h
theorem hasA_lt {v : List SlotT} {i : Nat} (h : hasA v i = true) : i < v.length := by
  unfold hasA at h
  split at h
  · rename_i s hs; exact (List.getElem?_eq_some_iff.1 hs).1
  · cases h
theorem mrk_reachL {v : List SlotT} (hl : v.length = 32) {root i : Nat} : mrk (reachL v root) i = true ↔ Rch v root i := by
  constructor
  · intro h
    have hlt := mrk_lt h
    rw [reachL_len] at hlt
    unfold mrk at h
    rw [List.getD_eq_getElem?_getD, List.getElem?_eq_getElem (by rw [reachL_len]; exact hlt), Option.getD_some] at h
    simp only [reachL, List.getElem_map, List.getElem_range, decide_eq_true_eq] at h
    exact h
  · intro h
    have hlt := hasA_lt h.has
    rw [hl] at hlt
    unfold mrk
    rw [List.getD_eq_getElem?_getD, List.getElem?_eq_getElem (by rw [reachL_len]; exact hlt), Option.getD_some]
    simp only [reachL, List.getElem_map, List.getElem_range, decide_eq_true_eq]
    exact h
theorem idxs_mem {p : Nat → Bool} {n : Nat} {x : Int} : x ∈ idxs p n ↔ ∃ i : Nat, x = i ∧ i < n ∧ p i = true := by
  unfold idxs
  simp only [List.mem_map, List.mem_filter, List.mem_range]
  constructor
  · rintro ⟨i, ⟨h1, h2⟩, rfl⟩; exact ⟨i, rfl, h1, h2⟩
  · rintro ⟨i, rfl, h1, h2⟩; exact ⟨i, ⟨h1, h2⟩, rfl⟩
theorem garb_iff {v : List SlotT} (hl : v.length = 32) {root i : Nat} : garbQ v (reachL v root) i = true ↔ hasA v i = true ∧ ¬ Rch v root i := by
  unfold garbQ
  rw [Bool.and_eq_true, Bool.not_eq_true', ← Bool.not_eq_true, mrk_reachL hl]
theorem idxs_split {p q r : Nat → Bool} (h : ∀ i, r i = (p i || q i)) (hd : ∀ i, p i = true → q i = false) : ∀ n, (idxs p n).length + (idxs q n).length = (idxs r n).length
  | 0 => rfl
  | n + 1 => by
    have ih := idxs_split h hd n
    have hn := h n
    cases hp : p n with
    | true =>
      have hq := hd n hp
      rw [hp] at hn
      rw [idxs_yes hp, idxs_no hq, idxs_yes (p := r) (by rw [hn]; rfl)]
      simp only [List.length_append, List.length_singleton]; omega
    | false =>
      rw [hp, Bool.false_or] at hn
      cases hq : q n with
      | true => rw [hq] at hn; rw [idxs_no hp, idxs_yes hq, idxs_yes hn]; simp only [List.length_append, List.length_singleton]; omega
      | false => rw [hq] at hn; rw [idxs_no hp, idxs_no hq, idxs_no hn]; exact ih
/-- each object is reached or garbage -/
theorem garb_count {v : List SlotT} (hl : v.length = 32) (root n : Nat) : (idxs (mrk (reachL v root)) n).length + (idxs (garbQ v (reachL v root)) n).length = (idxs (hasA v) n).length := by
  refine idxs_split (fun i => ?_) (fun i hi => ?_) n
  · unfold garbQ
    cases hm : mrk (reachL v root) i with
    | true => rw [((mrk_reachL hl).1 hm).has]; rfl
    | false => simp
  · unfold garbQ; rw [hi]; simp
/-- what is reached names no garbage -/
theorem garb_free {v : List SlotT} (hv : VOk v) {root : Nat} {x r : Int} (hx : x ∈ idxs (mrk (reachL v root)) 32) (hr : r ∈ refsA v x.toNat) : r ∉ idxs (garbQ v (reachL v root)) 32 := by
  intro hg
  obtain ⟨i, rfl, _, hi⟩ := idxs_mem.1 hx
  obtain ⟨k, rfl, _, hk⟩ := idxs_mem.1 hg
  obtain ⟨h1, h2⟩ := (garb_iff hv.len).1 hk
  have := Rch.step ((mrk_reachL hv.len).1 hi) hr (by simpa using h1)
  exact h2 (by simpa using this)
/-! without the garbage -/
def cutV (v : List SlotT) (g : List Int) : List SlotT := g.foldl (fun w i => w.set i.toNat slotN) v
theorem cutV_len : ∀ (g : List Int) (v : List SlotT), (cutV v g).length = v.length
  | [], v => rfl
  | x :: g, v => by
    show (cutV (v.set x.toNat slotN) g).length = _
    rw [cutV_len g, List.length_set]
theorem cutV_get : ∀ (g : List Int) (v : List SlotT) (j : Nat), j < v.length → (∀ x ∈ g, 0 ≤ x) → (cutV v g)[j]? = if (j : Int) ∈ g then some slotN else v[j]?
  | [], v, j, _, _ => by simp [cutV]
  | x :: g, v, j, hj, h0 => by
    show (cutV (v.set x.toNat slotN) g)[j]? = _
    rw [cutV_get g _ j (by rw [List.length_set]; exact hj) (fun y hy => h0 y (by simp [hy]))]
    have hx := h0 x (by simp)
    by_cases hg : (j : Int) ∈ g
    · rw [if_pos hg, if_pos (by simp [hg])]
    · rw [if_neg hg]
      by_cases he : x.toNat = j
      · subst he
        rw [List.getElem?_set_self hj, if_pos (by simp; left; omega)]
      · rw [List.getElem?_set_ne he, if_neg]
        simp only [List.mem_cons, not_or]
        exact ⟨by omega, hg⟩
theorem cut_has {v : List SlotT} {g : List Int} (h0 : ∀ x ∈ g, 0 ≤ x) {j : Nat} : hasA (cutV v g) j = (hasA v j && !decide ((j : Int) ∈ g)) := by
  rcases Nat.lt_or_ge j v.length with hj | hj
  · unfold hasA
    rw [cutV_get g v j hj h0]
    by_cases hg : (j : Int) ∈ g <;> simp [hg, slotN]
  · have h1 : hasA v j = false := by unfold hasA; rw [List.getElem?_eq_none hj]
    have h2 : hasA (cutV v g) j = false := by unfold hasA; rw [List.getElem?_eq_none (by rw [cutV_len]; exact hj)]
    rw [h1, h2]; rfl
theorem cut_refs {v : List SlotT} {g : List Int} (h0 : ∀ x ∈ g, 0 ≤ x) {j : Nat} : refsA (cutV v g) j = if (j : Int) ∈ g then [] else refsA v j := by
  rcases Nat.lt_or_ge j v.length with hj | hj
  · unfold refsA
    rw [cutV_get g v j hj h0]
    by_cases hg : (j : Int) ∈ g <;> simp [hg, slotN]
  · have h1 : refsA v j = [] := by unfold refsA; rw [List.getElem?_eq_none hj]
    have h2 : refsA (cutV v g) j = [] := by unfold refsA; rw [List.getElem?_eq_none (by rw [cutV_len]; exact hj)]
    rw [h1, h2]; split <;> rfl
section
variable {v : List SlotT} {root : Nat}
noncomputable def grb (v : List SlotT) (root : Nat) : List Int := idxs (garbQ v (reachL v root)) 32
theorem grb_pos : ∀ x ∈ grb v root, 0 ≤ x := fun x hx => by obtain ⟨i, rfl, _⟩ := idxs_mem.1 hx; omega
theorem grb_mem (hv : VOk v) {i : Nat} : (i : Int) ∈ grb v root ↔ hasA v i = true ∧ ¬ Rch v root i := by
  constructor
  · intro h
    obtain ⟨k, hk, _, h2⟩ := idxs_mem.1 h
    have : k = i := by omega
    subst this
    exact (garb_iff hv.len).1 h2
  · intro h
    have := hasA_lt h.1
    rw [hv.len] at this
    exact idxs_mem.2 ⟨i, rfl, this, (garb_iff hv.len).2 h⟩
theorem cut_has' (hv : VOk v) {i : Nat} : hasA (cutV v (grb v root)) i = true ↔ Rch v root i := by
  rw [cut_has grb_pos, Bool.and_eq_true, Bool.not_eq_true', decide_eq_false_iff_not, grb_mem hv]
  constructor
  · intro ⟨h1, h2⟩
    exact Classical.byContradiction fun h => h2 ⟨h1, h⟩
  · intro h
    exact ⟨h.has, fun ⟨_, h2⟩ => h2 h⟩
theorem Rch_cut (hv : VOk v) {i : Nat} : Rch (cutV v (grb v root)) root i ↔ Rch v root i := by
  constructor
  · intro h
    exact (cut_has' hv).1 h.has
  · intro h
    induction h with
    | root hh => exact .root ((cut_has' hv).2 (.root hh))
    | step h hm hh ih =>
      refine .step ih ?_ ((cut_has' hv).2 (.step h hm hh))
      rw [cut_refs grb_pos, if_neg (fun hg => ((grb_mem hv).1 hg).2 h)]
      exact hm
/-- without the garbage the same is reached -/
theorem reach_cut (hv : VOk v) : reachL (cutV v (grb v root)) root = reachL v root := by
  unfold reachL
  refine List.map_congr_left fun i _ => ?_
  simp only [decide_eq_decide]
  exact Rch_cut hv
theorem garb_cut (hv : VOk v) : idxs (garbQ (cutV v (grb v root)) (reachL (cutV v (grb v root)) root)) 32 = [] := by
  rw [List.eq_nil_iff_forall_not_mem]
  intro x hx
  obtain ⟨i, rfl, _, hi⟩ := idxs_mem.1 hx
  have hl : (cutV v (grb v root)).length = 32 := by rw [cutV_len]; exact hv.len
  obtain ⟨h1, h2⟩ := (garb_iff hl).1 hi
  exact h2 ((Rch_cut hv).2 ((cut_has' hv).1 h1))
theorem dang_row (hv : VOk v) (hn : ∀ i, hasA v i = false → refsA v i = []) (i : Nat) : (dRowQ (cutV v (grb v root)) i (refsA (cutV v (grb v root)) i)).length ≤ (dRowQ v i (refsA v i)).length := by
  rw [cut_refs grb_pos]
  split
  · simp [dRowQ]
  · rename_i hg
    by_cases hr : Rch v root i
    · unfold dRowQ
      rw [List.length_map, List.length_map]
      rw [List.filter_congr (q := fun r => decide (0 < r) && !hasA v r.toNat)]
      · exact Nat.le_refl _
      · intro r hm
        congr 2
        cases hh : hasA v r.toNat with
        | true => exact (cut_has' hv).2 (.step hr hm hh)
        | false => rw [cut_has grb_pos, hh]; rfl
    · have : hasA v i = false := by
        cases hh : hasA v i with
        | false => rfl
        | true => exact absurd ((grb_mem hv).2 ⟨hh, hr⟩) hg
      rw [hn i this]
      simp [dRowQ]
theorem dang_cut (hv : VOk v) (hn : ∀ i, hasA v i = false → refsA v i = []) : ∀ n, (dAllQ (cutV v (grb v root)) n).length ≤ (dAllQ v n).length
  | 0 => Nat.le_refl _
  | n + 1 => by
    have ih := dang_cut hv hn n
    have h1 := dang_row (root := root) hv hn n
    simp only [dAllQ, List.range_succ, List.flatMap_append, List.length_append, List.flatMap_cons, List.flatMap_nil, List.append_nil] at ih ⊢
    omega
end
end Q6

namespace Go.Vm
set_option linter.unusedVariables false
/-! ### what an array's elements hold is no longer known, or nil becomes an empty slice -/
theorem fgtL_len : ∀ {l m : List T}, fgtL l m → m.length = l.length
  | [], m, h => by simp only [fgtL] at h; subst h; rfl
  | t :: l, m, h => by
    obtain ⟨u, m', rfl, _, h2⟩ := h
    simp [fgtL_len h2]
theorem fgt_rows {c : Cx} {es : Nat} : ∀ (l : List T) {m : List T} {cs : List Value} {bs : List Nat}, fgtL l m → RRows c es l cs bs → RRows c es m cs bs
  | [], m, cs, bs, h, r => by simp only [fgtL] at h; subst h; exact r
  | t :: l, m, cs, bs, h, r => by
    obtain ⟨u, m', rfl, h1, h2⟩ := h
    obtain ⟨c1, c2, b1, b2, e1, e2, e3, r1, r2⟩ := r
    exact ⟨c1, c2, b1, b2, e1, e2, e3, fgt_rc t h1 r1, fgt_rows l h2 r2⟩
theorem Norm.forgetArr {tm : List T} {H : Heap} (e j : Nat) {es : Nat} {l m : List T} (ha : H.at e j = some (.arr es l false)) (hf : fgtL l m) : Norm ⟨tm, H⟩ ⟨tm, H.put e j (.arr es m false)⟩ := fun F c a bs hi => by
  obtain ⟨p, q, r, hb, ho, hinv⟩ := HR.drop hi.h ha
  have hgone : (H.put e j .gone).at e j = some .gone := at_put (x := .gone) ha
  have hl := fgtL_len hf
  obtain ⟨i, hmu, e1, e2, e3, ho⟩ := ho
  have hnd := hi.h.nd
  rw [hb, List.nodup_append, List.nodup_append] at hnd
  have ho' : HOb c e j (.arr es m false) q := by
    refine ⟨i, hmu, e1, e2, by rw [hl]; exact e3, ?_⟩
    rcases ho with ⟨h0, h1⟩ | ⟨rows, bs', hq, hrows, hcell, hoa⟩
    · exact .inl ⟨h0, h1⟩
    · exact .inr ⟨rows, bs', hq, fgt_rows l hf hrows, hcell, hoa⟩
  obtain ⟨bs2, hfin⟩ := soak_back (q' := q) (ob := .arr es m false) hi.h hb (.refl hinv) hgone ho' (fun x hx => .inl hx) hnd.2.1.1
  rw [put_put] at hfin
  exact ⟨c, bs2, rfl, hfin, hi.tm, hi.df, hi.pin⟩
theorem fgtL_rep {t u : T} (h : fgt t u) : ∀ n : Nat, fgtL (List.replicate n t) (List.replicate n u)
  | 0 => rfl
  | n + 1 => ⟨u, _, rfl, h, fgtL_rep h n⟩
end Go.Vm

namespace Q6
open Go Go.Vm Go.Proofs
set_option maxHeartbeats 4000000
set_option synthInstance.maxSize 2000
set_option synthInstance.maxHeartbeats 400000
set_option maxRecDepth 10000
set_option linter.unusedSimpArgs false
set_option linter.unusedVariables false


theorem vok_of {v : List SlotT} (h : viewB v = true) : VOk v := by
  unfold viewB at h
  simp only [Bool.and_eq_true, decide_eq_true_eq] at h
  obtain ⟨⟨h1, h2⟩, h3⟩ := h
  have each : ∀ i s, v[i]? = some s → slotB s = true := fun i s hs => List.all_eq_true.1 h3 s (List.mem_of_getElem? hs)
  have refs : ∀ s, slotB s = true → s.2.1.2.2.1.length ≤ 5 ∧ ∀ r ∈ s.2.1.2.2.1, 0 ≤ r ∧ r ≤ 31 := fun s hs => by
    unfold slotB at hs
    split at hs
    · simp only [objB, Bool.and_eq_true, decide_eq_true_eq] at hs
      refine ⟨hs.1.1.2, fun r hr => ?_⟩
      have := List.all_eq_true.1 hs.2 r hr
      simp only [refB, Bool.and_eq_true, decide_eq_true_eq] at this
      omega
    · simp only [noObjB, Bool.and_eq_true, decide_eq_true_eq] at hs
      have h0 := List.length_eq_zero_iff.1 hs.2
      rw [h0]; simp
  refine ⟨h1, ?_, fun i r hr => ?_, fun i => ?_⟩
  · cases v with
    | nil => simp at h1
    | cons s v => simpa [hasA] using h2
  · unfold refsA at hr
    split at hr
    · rename_i s hs; exact (refs s (each i s hs)).2 r hr
    · simp at hr
  · unfold refsA
    split
    · rename_i s hs; exact (refs s (each i s hs)).1
    · simp

def rep32 : List Bool := List.replicate 32 false
theorem rep32_get (i : Nat) (h : i < rep32.length) : rep32[i] = false := by unfold rep32; exact List.getElem_replicate ..
theorem mk32 (own : Nat) : makeSliceM Y own 29 (.int .i64 32) (.int .i64 32) = .pure { v := .ref own 0 0 32, news := [.arr 1 (rep32.map Enc.o) false] } := rfl
theorem set_o {α : Type} [Enc α] (m : List α) (i : Nat) (x : α) : (m.map Enc.o).set i (Enc.o x) = (m.set i x).map Enc.o := by rw [List.map_set]

end Q6

namespace Q6
open Go Go.Vm Go.Proofs
set_option maxHeartbeats 4000000
set_option synthInstance.maxSize 2000
set_option synthInstance.maxHeartbeats 400000
set_option maxRecDepth 10000
set_option linter.unusedSimpArgs false
set_option linter.unusedVariables false

open Go.By

noncomputable def hRefsF (l : List UInt8) (i : Int) : Nat → CS → List Int → CS × List Int
  | 0, s, acc => (s, acc)
  | n + 1, s, acc =>
    let a := belowF l s 32; let b := belowF l a.1 32; let x := intF l b.1 [0, i, (i + 1).tmod 32, a.2, b.2]
    hRefsF l i n x.1 (acc ++ [x.2])
theorem hRefsF_ok (l : List UInt8) (hl : l.length ≤ 1048576) (i : Int) (h0 : 0 ≤ i) (h1 : i ≤ 31) : ∀ (n : Nat) (s : CS) (acc : List Int), s.1 ≤ l.length → (∀ x ∈ acc, refB x = true) →
    (hRefsF l i n s acc).1.1 ≤ l.length ∧ (∀ x ∈ (hRefsF l i n s acc).2, refB x = true) ∧ (hRefsF l i n s acc).2.length = acc.length + n
  | 0, s, acc, h, ha => ⟨h, ha, rfl⟩
  | n + 1, s, acc, h, ha => by
    obtain ⟨b1, b2, _⟩ := belowF_ok l s 32 hl h
    obtain ⟨d1, d2, _⟩ := belowF_ok l (belowF l s 32).1 32 hl b1
    obtain ⟨c1, c2, _⟩ := intF_ok l (belowF l (belowF l s 32).1 32).1 [0, i, (i + 1).tmod 32, (belowF l s 32).2, (belowF l (belowF l s 32).1 32).2] hl d1 (by simp) (by simp)
    simp only [hRefsF]
    have e1 := b2.2 (by decide)
    have e2 := d2.2 (by decide)
    generalize belowF l (belowF l s 32).1 32 = b at *
    generalize belowF l s 32 = a at *
    have ih := hRefsF_ok l hl i h0 h1 n _ (acc ++ [(intF l b.1 [0, i, (i + 1).tmod 32, a.2, b.2]).2]) c1 (by
      intro x hx
      rcases List.mem_append.1 hx with hx | hx
      · exact ha x hx
      · simp only [List.mem_singleton] at hx
        subst hx
        have ht : 0 ≤ (i + 1).tmod 32 ∧ (i + 1).tmod 32 < 32 := ⟨Int.tmod_nonneg _ (by omega), Int.tmod_lt_of_pos _ (by decide)⟩
        generalize (i + 1).tmod 32 = t at *
        simp only [List.mem_cons, List.not_mem_nil, or_false] at c2
        unfold refB
        simp only [Bool.and_eq_true, decide_eq_true_eq]
        omega)
    refine ⟨ih.1, ih.2.1, ?_⟩
    rw [ih.2.2, List.length_append]; simp; omega
noncomputable def heapF (l : List UInt8) : Nat → CS → List SlotT → CS × List SlotT
  | 0, s, v => (s, v)
  | r + 1, s, v =>
    let o := onceF l s 3
    if o.2 = true then heapF l r o.1 v else
      let k := belowF l o.1 3; let n := belowF l k.1 9; let m := belowF l n.1 4; let b := hRefsF l ((31 - r : Nat) : Int) m.2.toNat m.1 []
      heapF l r b.1 (v.set (31 - r) (true, (1 + k.2, [n.2], b.2, ()), ()))
theorem heapF_ok (l : List UInt8) (hl : l.length ≤ 1048576) : ∀ (r : Nat) (s : CS) (v : List SlotT), s.1 ≤ l.length → r ≤ 31 → v.length = 32 → (∀ x ∈ v, slotB x = true) → hasA v 0 = false →
    (heapF l r s v).1.1 ≤ l.length ∧ (heapF l r s v).2.length = 32 ∧ (∀ x ∈ (heapF l r s v).2, slotB x = true) ∧ hasA (heapF l r s v).2 0 = false
  | 0, s, v, h, _, hv, hx, h0 => ⟨h, hv, hx, h0⟩
  | r + 1, s, v, h, hr, hv, hx, h0 => by
    obtain ⟨b1, _⟩ := onceF_ok l s 3 hl h
    simp only [heapF]
    split
    · exact heapF_ok l hl r _ v b1 (by omega) hv hx h0
    · generalize onceF l s 3 = o at *
      obtain ⟨k1, k2, _⟩ := belowF_ok l o.1 3 hl b1
      generalize belowF l o.1 3 = k at *
      obtain ⟨n1, n2, _⟩ := belowF_ok l k.1 9 hl k1
      generalize belowF l k.1 9 = n at *
      obtain ⟨m1, m2, _⟩ := belowF_ok l n.1 4 hl n1
      generalize belowF l n.1 4 = m at *
      obtain ⟨f1, f2, f3⟩ := hRefsF_ok l hl ((31 - r : Nat) : Int) (by omega) (by omega) m.2.toNat m.1 [] m1 (by simp)
      generalize hRefsF l ((31 - r : Nat) : Int) m.2.toNat m.1 [] = b at *
      have e1 := k2.2 (by decide)
      have e2 := n2.2 (by decide)
      have e3 := m2.2 (by decide)
      refine heapF_ok l hl r _ _ f1 (by omega) (by simp [hv]) (fun x hm => ?_) ?_
      · rcases List.mem_or_eq_of_mem_set hm with hm | hm
        · exact hx x hm
        · subst hm
          have i1 : intB n.2 = true := by unfold intB; simp only [Bool.and_eq_true, decide_eq_true_eq]; omega
          simp only [slotB, objB, if_true, Bool.and_eq_true, decide_eq_true_eq, List.length_cons, List.length_nil, List.all_eq_true]
          simp only [List.length_nil, Nat.zero_add] at f3
          refine ⟨⟨⟨⟨⟨by omega, by omega⟩, by omega⟩, by omega⟩, fun x hx => ?_⟩, f2⟩
          rw [List.mem_singleton] at hx; subst hx; exact i1
      · unfold hasA at h0 ⊢
        rw [List.getElem?_set_ne (by omega)]
        exact h0
def v0 : List SlotT := List.replicate 32 slotN
def slotZ : T := .nd [.bool false, .nd [.int .i64 0, .nils 1, .nils 1]]
def slotO : T := .nd [.bool false, .nd [.int .i64 0, .ow 1 [], .ow 1 []]]
theorem v0_map : v0.map Enc.o = List.replicate 32 slotO := by unfold v0; rw [List.map_replicate]; rfl
theorem fgtZ : fgt slotZ slotO := .inr ⟨_, rfl, .bool false, _, rfl, rfl, _, _, rfl, .inr ⟨_, rfl, _, _, rfl, rfl, _, _, rfl, .inr (.inr rfl), _, _, rfl, .inr (.inr rfl), rfl⟩, rfl⟩
theorem mkView (own : Nat) : makeSliceM Y own 24 (.int .i64 32) (.int .i64 32) = .pure { v := .ref own 0 0 32, news := [.arr 4 (List.replicate 32 slotZ) false] } := by
  simp [makeSliceM, Y24, Y37, zeroT, Y3, Y27, Y35, Y4, Ty.isFn, slotZ]

theorem heapW_ok (l : List UInt8) (s : CS) (hl : l.length ≤ 1048576) (hi : s.1 ≤ l.length) : CallR Try.prog 50 [.io (.nd [.sl .s (l.map Enc.b), .int .i64 (s.1 : Nat), .int .i64 s.2])] [.nd [.sl .s (l.map Enc.b), .int .i64 (((heapF l 31 s v0).1).1 : Nat), .int .i64 ((heapF l 31 s v0).1).2]] (.ow 4 ((heapF l 31 s v0).2.map Enc.o)) := by
  refine CallR.of_body (n := 51) (rs := [.tmp 2]) hY.ok Try.func50 rfl (by decide) rfl rfl rfl rfl (fun F => ?_)
  have fx := And.intro Y1 (And.intro Y2 (And.intro Y3 (And.intro Y4 (And.intro Y5 (And.intro Y24 (And.intro Y27 (And.intro Y35 (And.intro Y37 (Y104)))))))))
  have hv00 : v0.length = 32 := List.length_replicate
  generalize hT1 : heapF l 31 s v0 = T1 at *
  have fy := mkView
  have hD1 := dx 10 [9, 2, 1, 1, 1, 1, 2] [(1, 1), (1, 2), (1, 3), (1, 4), (1, 5)]
  refine goN ?_ ?_ ?_ ?_ ?_ ?_ ?_ ?_ ?_ ?_ ?_ ?_ ?_ ?_ ?_ ?_
  any_goals (first | exact True.intro | skip)
  skip
  refine SW.loop (fun x : Nat × CS × List SlotT => ⟨[.ptr 0 0 [] 0, .undef, .undef, .ref 1 0 0 x.2.2.length, .int .i64 ((32 - x.1 : Nat) : Int), .undef, .undef, .undef, .undef, .undef, .undef, .undef, .undef, .undef, .undef, .undef, .undef, .undef, .undef, .undef, .undef, .undef, .undef, .undef, .undef, .undef, .undef, .undef, .undef, .undef, .undef, .undef, .undef, .undef, .undef, .undef, .undef, .undef, .undef, .undef, .undef, .undef, .undef, .undef, .undef, .undef, .undef, .undef, .undef, .undef, .undef], [[.var (.nd [.sl .s (l.map Enc.b), .int .i64 (x.2.1.1 : Nat), .int .i64 x.2.1.2])], [.arr 4 (x.2.2.map Enc.o) false]]⟩)
    (fun N x => N = x.1 ∧ x.1 ≤ 31 ∧ x.2.1.1 ≤ l.length ∧ x.2.2.length = 32 ∧ heapF l x.1 x.2.1 x.2.2 = T1) (n := 31) (x := (31, s, v0)) ?_ ⟨rfl, Nat.le_refl _, hi, hv00, hT1⟩ ?_
  · refine Norm.trans (Norm.forgetArr 1 0 (m := List.replicate 32 slotO) rfl (fgtL_rep fgtZ 32)) ?_
    simp only [Heap.put, List.getElem?_cons_zero, List.getElem?_cons_succ, List.set_cons_succ, List.set_cons_zero, v0_map, hv00]
    have hr0 : ∀ n, renL [0, 1] (List.replicate n slotO) = List.replicate n slotO := by
      intro n
      induction n with
      | zero => rfl
      | succ n ih => rw [List.replicate_succ, renL, ih]; simp [slotO, T.ren, renL]
    exact Norm.re [0, 1] (by decide) rfl (by simp [heapFits, rowFits, obFits, T.ren, renL, hr0, slotO]) (by simp [tmFits, T.ren])
  clear hT1 hi
  rintro N ⟨r, s, v⟩ ⟨hN, hr, hs, hv, hT⟩
  simp only at hN hr hs hv hT ⊢
  have fy := Nat.add_zero
  refine goS ?_
  refine SW.cond rfl (fun hc => ?_) (fun hc => ?_)
  · have hpos : 0 < r := by simp at hc; omega
    obtain ⟨r, rfl⟩ : ∃ r', r = r' + 1 := ⟨r - 1, by omega⟩
    have hi31 : 32 - (r + 1) = 31 - r := by omega
    rw [hi31]
    have hwi : IntKind.i64.wrap (((31 - r : Nat) : Int) + 1) = ((32 - r : Nat) : Int) := by rw [wrap64 _ (by omega) (by omega)]; omega
    simp only [heapF] at hT
    obtain ⟨e1, c1⟩ := onceF_ok l s 3 hl hs
    generalize onceF l s 3 = o at *
    obtain ⟨so, bo⟩ := o
    simp only at e1 c1 hT
    cases bo
    rotate_left
    · simp only [if_true] at hT
      have hC1 := cx [.io] (c1)
      have fy := hwi
      have hD1 := dx 10 [9, 2, 1, 1, 1, 1, 2] [(1, 1), (1, 2), (1, 3), (1, 4), (1, 5)]
      refine goR ?_ ?_ ?_ ?_ ?_ ?_ ?_ ?_ ?_ ?_ ?_ ?_ ?_ ?_ ?_ ?_
      any_goals (first | exact True.intro | skip)
      all_goals (repeat (refine Wh.mk fun hcc => ?_))
      refine ⟨N - 1, (r, so, v), by omega, ⟨by simp only; omega, by simp only; omega, e1, hv, hT⟩, ?_⟩
      exact Norm.re [0, 1] (by decide) rfl (by first | (simp only [eq_self, heapFits, rowFits, obFits, List.getElem?_cons_zero, List.getElem?_cons_succ, renL_o, renL_b, true_and, and_true, and_self]; done) | simp [-List.map_set, -List.map_append, heapFits, rowFits, obFits, T.ren, renL]) (by simp [tmFits, T.ren])
    · simp only [Bool.false_eq_true, if_false] at hT
      obtain ⟨e2, p2, c2⟩ := belowF_ok l so 3 hl e1
      generalize belowF l so 3 = k at *
      obtain ⟨e3, p3, c3⟩ := belowF_ok l k.1 9 hl e2
      generalize belowF l k.1 9 = n at *
      obtain ⟨e4, p4, c4⟩ := belowF_ok l n.1 4 hl e3
      generalize belowF l n.1 4 = m at *
      obtain ⟨s4, m4⟩ := m
      simp only at e4 p4 c4 hT
      have hk3 := p2.2 (by decide)
      have hm4 := p4.2 (by decide)
      obtain ⟨M0, rfl⟩ : ∃ M0 : Nat, m4 = (M0 : Int) := ⟨m4.toNat, by omega⟩
      rw [Int.toNat_natCast] at hT
      have hwk : IntKind.i64.wrap (1 + k.2) = 1 + k.2 := wrap64 _ (by omega) (by omega)
      have hbs := fun own x => bs1_27 own x
      generalize hT2 : hRefsF l ((31 - r : Nat) : Int) M0 s4 [] = T2 at *
      have hC1 := cx [.io] (c1)
      have hC2 := cx [.io] (c2)
      have hC3 := cx [.io] (c3)
      have hC4 := cx [.io] (c4)
      have fy := And.intro hwi (And.intro hwk (bs1_27))
      have hD1 := dx 10 [9, 2, 1, 1, 1, 1, 2] [(1, 1), (1, 2), (1, 3), (1, 4), (1, 5)]
      refine goR ?_ ?_ ?_ ?_ ?_ ?_ ?_ ?_ ?_ ?_ ?_ ?_ ?_ ?_ ?_ ?_
      any_goals (first | exact True.intro | skip)
      all_goals (repeat (refine Wh.mk fun hcc => ?_))
      refine SW.loop (fun x : Nat × CS × List Int => ⟨[.ptr 0 0 [] 0, .undef, .undef, .ref 1 0 0 v.length, .int .i64 ((31 - r : Nat) : Int), .ptr 2 0 [] 0, .int .i64 (x.1 : Nat), .undef, .undef, .undef, .undef, .undef, .undef, .undef, .undef, .undef, .undef, .undef, .undef, .undef, .undef, .undef, .undef, .undef, .undef, .undef, .undef, .undef, .undef, .undef, .undef, .undef, .undef, .undef, .undef, .undef, .undef, .undef, .undef, .undef, .undef, .undef, .undef, .undef, .undef, .undef, .undef, .undef, .undef, .undef, .undef], [[.var (.nd [.sl .s (l.map Enc.b), .int .i64 (x.2.1.1 : Nat), .int .i64 x.2.1.2])], [.arr 4 (v.map Enc.o) false], [.var (.nd [.int .i64 (1 + k.2), .ref 3 0 0 1, .ref 4 0 0 x.2.2.length])], [.arr 1 [.int .i64 n.2] false], [.arr 1 (x.2.2.map Enc.o) false]]⟩)
        (fun M x => M = x.1 ∧ x.1 + x.2.2.length = M0 ∧ x.2.1.1 ≤ l.length ∧ hRefsF l ((31 - r : Nat) : Int) x.1 x.2.1 x.2.2 = T2) (n := M0) (x := (M0, s4, [])) ?_ ⟨rfl, by simp, e4, hT2⟩ ?_
      · skip
        refine Norm.trans (Norm.forget (u := .nd [.int .i64 (1 + k.2), .ref 5 0 0 1, .ow 1 []]) 6 0 rfl (.inr ⟨_, rfl, ⟨_, _, rfl, rfl, ⟨_, _, rfl, .inl rfl, ⟨_, _, rfl, .inr (.inr rfl), rfl⟩⟩⟩⟩)) ?_
        simp only [Heap.put, List.getElem?_cons_zero, List.getElem?_cons_succ, List.set_cons_succ, List.set_cons_zero]
        refine Norm.trans (Norm.expelVar 6 0 rfl) ?_
        simp only [Heap.put, List.getElem?_cons_zero, List.getElem?_cons_succ, List.set_cons_succ, List.set_cons_zero, thawA, thawAL, List.length_cons, List.length_nil, Nat.reduceAdd, List.nil_append, List.append_nil, List.cons_append, Nat.zero_add]
        exact Norm.re [0, 1, 6, 5, 8] (by decide) rfl (by first | (simp only [eq_self, heapFits, rowFits, obFits, List.getElem?_cons_zero, List.getElem?_cons_succ, renL_o, renL_b, true_and, and_true, and_self]; done) | simp [-List.map_set, -List.map_append, heapFits, rowFits, obFits, T.ren, renL]) (by simp [tmFits, T.ren])
      clear hT2
      rintro M ⟨q, s', acc⟩ ⟨hM, hq, hs', hT2⟩
      simp only at hM hq hs' hT2 ⊢
      have fy := Nat.add_zero
      refine goS ?_
      refine SW.cond rfl (fun hc2 => ?_) (fun hc2 => ?_)
      · have hpos : 0 < q := by simp at hc2; omega
        obtain ⟨q, rfl⟩ : ∃ q', q = q' + 1 := ⟨q - 1, by omega⟩
        simp only [hRefsF] at hT2
        obtain ⟨f1, q1, d1⟩ := belowF_ok l s' 32 hl hs'
        generalize belowF l s' 32 = y at *
        obtain ⟨f2, q2, d2⟩ := belowF_ok l y.1 32 hl f1
        generalize belowF l y.1 32 = z at *
        obtain ⟨f3, q3, d3'⟩ := intF_ok l z.1 [0, ((31 - r : Nat) : Int), ((((31 - r : Nat) : Int) + 1).tmod 32), y.2, z.2] hl f2 (by simp) (by simp)
        have d3 : CallR Try.prog 66 [.io (.nd [.sl .s (l.map Enc.b), .int .i64 (z.1.1 : Nat), .int .i64 z.1.2]), .sl .b [.int .i64 0, .int .i64 (((31 - r : Nat) : Int)), .int .i64 (((((31 - r : Nat) : Int) + 1).tmod 32)), .int .i64 y.2, .int .i64 z.2]] [.nd [.sl .s (l.map Enc.b), .int .i64 (((intF l z.1 [0, ((31 - r : Nat) : Int), ((((31 - r : Nat) : Int) + 1).tmod 32), y.2, z.2]).1).1 : Nat), .int .i64 ((intF l z.1 [0, ((31 - r : Nat) : Int), ((((31 - r : Nat) : Int) + 1).tmod 32), y.2, z.2]).1).2]] (.int .i64 (intF l z.1 [0, ((31 - r : Nat) : Int), ((((31 - r : Nat) : Int) + 1).tmod 32), y.2, z.2]).2) := d3'
        clear d3' q3
        generalize intF l z.1 [0, ((31 - r : Nat) : Int), ((((31 - r : Nat) : Int) + 1).tmod 32), y.2, z.2] = w at *
        have hwr : IntKind.i64.wrap (((q + 1 : Nat) : Int) - 1) = (q : Int) := by rw [wrap64 _ (by omega) (by omega)]; omega
        have hwj : IntKind.i64.wrap (((31 - r : Nat) : Int) + 1) = ((31 - r : Nat) : Int) + 1 := wrap64 _ (by omega) (by omega)
        have hwt : IntKind.i64.wrap ((((31 - r : Nat) : Int) + 1).tmod 32) = (((31 - r : Nat) : Int) + 1).tmod 32 := wrap64 _ (by have := Int.tmod_nonneg 32 (show (0 : Int) ≤ ((31 - r : Nat) : Int) + 1 by omega); omega) (by have := Int.tmod_lt_of_pos (((31 - r : Nat) : Int) + 1) (show (0 : Int) < 32 by decide); omega)
        have hb7 := fun own => buildN (Y := Y) (own := own) (t := 27) (n := 5) (ps := [(0, .int .i64 0), (1, .int .i64 (((31 - r : Nat) : Int))), (2, .int .i64 (((((31 - r : Nat) : Int) + 1).tmod 32))), (3, .int .i64 y.2), (4, .int .i64 z.2)]) (r := [.int .i64 0, .int .i64 (((31 - r : Nat) : Int)), .int .i64 (((((31 - r : Nat) : Int) + 1).tmod 32)), .int .i64 y.2, .int .i64 z.2]) Y27 Y3 rfl (by decide) rfl
        have hap := fun (own e j e2 j2 : Nat) (H : Heap) (q1 : H.at e j = some (.arr 1 ((acc).map Enc.o) false)) (q2 : H.at e2 j2 = some (.arr 1 [.int .i64 w.2] false)) => append_runP (Y := Y) (own := own) (t := 27) (u := 27) (e := e) (j := j) (off := 0) (n := (acc).length) (e2 := e2) (j2 := j2) (f := (acc).map Enc.o) (l := acc) (x := w.2) (H := H) Y27 Y27 Y3 rfl (by decide) q1 q2 (by rw [List.drop_zero]; exact take_map_len _ _) (by simp) (by omega) rfl rfl
        have hC1 := cx [.io] (d1)
        have hC2 := cx [.io] (d2)
        have hC3 := cx [.io] (d3)
        have fy := And.intro hwr (And.intro hwj (And.intro hwt (And.intro hb7 (And.intro bs1_27 (hap)))))
        have hD1 := dx 10 [9, 2, 1, 1, 1, 1, 2] [(1, 1), (1, 2), (1, 3), (1, 4), (1, 5)]
        refine goR ?_ ?_ ?_ ?_ ?_ ?_ ?_ ?_ ?_ ?_ ?_ ?_ ?_ ?_ ?_ ?_
        any_goals (first | exact True.intro | skip)
        all_goals (repeat (refine Wh.mk fun hcc => ?_))
        refine ⟨M - 1, (q, w.1, acc ++ [w.2]), by omega, ⟨by simp only; omega, by simp only [List.length_append, List.length_cons, List.length_nil]; omega, f3, hT2⟩, ?_⟩
        exact Norm.re [0, 1, 2, 3, 10] (by decide) rfl (by first | (simp only [eq_self, heapFits, rowFits, obFits, List.getElem?_cons_zero, List.getElem?_cons_succ, renL_o, renL_b, true_and, and_true, and_self]; done) | simp [-List.map_set, -List.map_append, heapFits, rowFits, obFits, T.ren, renL]) (by simp [tmFits, T.ren])
      · have hr0 : q = 0 := by
          have : ¬ 0 < q := by simp at hc2; omega
          omega
        subst hr0
        simp only [hRefsF] at hT2
        subst hT2
        simp only at hT
        have hg : (v.map Enc.o)[31 - r]? = some (Enc.o (v[31 - r]'(by omega))) := map_get Enc.o v (31 - r) (by omega)
        have hgs : ∀ X : T, ((v.map Enc.o).set (31 - r) X)[31 - r]? = some X := fun X => List.getElem?_set_self (by simp; omega)
        have hlt32 : ((31 - r : Nat) : Int) < (v.length : Int) := by omega
        have hn0 : (0 : Int) ≤ ((31 - r : Nat) : Int) := by omega
        have fy := And.intro hwi (And.intro hg (And.intro hlt32 (hn0)))
        have hD1 := dx 10 [9, 2, 1, 1, 1, 1, 2] [(1, 1), (1, 2), (1, 3), (1, 4), (1, 5)]
        refine goR ?_ ?_ ?_ ?_ ?_ ?_ ?_ ?_ ?_ ?_ ?_ ?_ ?_ ?_ ?_ ?_
        any_goals (first | exact True.intro | skip)
        all_goals (repeat (refine Wh.mk fun hcc => ?_))
        refine ⟨N - 1, (r, s', v.set (31 - r) (true, (1 + k.2, [n.2], acc, ()), ())), by omega, ⟨by simp only; omega, by simp only; omega, hs', by simp [hv], hT⟩, ?_⟩
        refine Norm.trans (Norm.soakArr 1 0 (31 - r) rfl (hgs _)) ?_
        have hset : (v.map Enc.o).set (31 - r) (.nd [.bool true, .nd [.int .i64 (1 + k.2), .ow 1 [.int .i64 n.2], .ow 1 (acc.map Enc.o)]]) = (v.set (31 - r) (true, (1 + k.2, [n.2], acc, ()), ())).map Enc.o := by rw [List.map_set]; rfl
        simp only [soakS, soakL, Heap.at, Heap.put, List.getElem?_cons_zero, List.getElem?_cons_succ, List.set_cons_zero, List.set_cons_succ, List.length_map, List.length_cons, List.length_nil, Nat.zero_add, and_self, if_true, List.set_set, hset]
        exact Norm.re [0, 1] (by decide) rfl (by first | (simp only [eq_self, heapFits, rowFits, obFits, List.getElem?_cons_zero, List.getElem?_cons_succ, renL_o, renL_b, true_and, and_true, and_self]; done) | simp [-List.map_set, -List.map_append, heapFits, rowFits, obFits, T.ren, renL]) (by simp [tmFits, T.ren])
  · have hr0 : r = 0 := by
      have : ¬ 0 < r := by simp at hc; omega
      omega
    subst hr0
    simp only [heapF] at hT
    subst hT
    have fy := Nat.add_zero
    have hD1 := dx 10 [9, 2, 1, 1, 1, 1, 2] [(1, 1), (1, 2), (1, 3), (1, 4), (1, 5)]
    refine goR ?_ ?_ ?_ ?_ ?_ ?_ ?_ ?_ ?_ ?_ ?_ ?_ ?_ ?_ ?_ ?_
    any_goals (first | exact True.intro | skip)
    all_goals (repeat (refine Wh.mk fun hcc => ?_))
    all_goals exact SW.ret (show RetQ _ _ _ _ _ _ _ from RetQ.y [4] [.ow 4 (v.map Enc.o)])
end Q6

namespace Q6
open Go Go.Vm Go.Proofs
set_option maxHeartbeats 4000000
set_option synthInstance.maxSize 2000
set_option synthInstance.maxHeartbeats 400000
set_option maxRecDepth 10000
set_option linter.unusedSimpArgs false
set_option linter.unusedVariables false

def atF (l : List UInt8) (k : Nat) : Int := if h : k < l.length then ((l[k]).toNat : Int) else Int.tmod ((k : Int) * 31 + l.length * 7) 256
theorem atF_rng (l : List UInt8) (k : Nat) : 0 ≤ atF l k ∧ atF l k ≤ 255 := by
  unfold atF
  split
  · have := (l[k]).toNat_lt; omega
  · rw [Int.tmod_eq_emod_of_nonneg (by omega)]; omega
theorem at_ok (l : List UInt8) (hl : l.length ≤ 1048576) (k : Nat) (hk : k ≤ 1000) : CallR Try.prog 12 [.sl .s (l.map Enc.b), .int .i64 (k : Nat)] [] (.int .i64 (atF l k)) := by
  refine CallR.of_body (n := 21) (rs := [.tmp 4]) hY.ok Try.func12 rfl (by decide) rfl rfl rfl rfl (fun F => ?_)
  have fx := And.intro Y3 (And.intro Y4 (And.intro Y5 (Y22)))
  unfold atF
  by_cases h : k < l.length
  · rw [dif_pos h]
    have hd : decide ((k : Int) < (l.length : Int)) = true := by simp; omega
    have hltI : (k : Int) < (l.length : Int) := by omega
    have hg : (l.map Enc.b)[k]? = some (Enc.b l[k]) := map_get Enc.b l k h
    have hb : (Enc.b l[k] : T) = .int .u8 ((l[k]).toNat : Int) := rfl
    rw [hb] at hg
    have hc := byte_i64 l[k]
    have fy := And.intro hd (And.intro hltI (And.intro hg (hc)))
    refine goK ?_ ?_ ?_ ?_ ?_ ?_ ?_ ?_ ?_ ?_ ?_ ?_ ?_ ?_ ?_ ?_
    any_goals (first | exact True.intro | skip)
    all_goals (repeat (refine Wh.mk fun hcc => ?_))
    all_goals (first | rfl | (simp only [tupOf, fixEs]; done) | simp [tupOf, fixEs])
  · rw [dif_neg h]
    have hd : decide ((k : Int) < (l.length : Int)) = false := by simp; omega
    have w1 : IntKind.i64.wrap ((k : Int) * 31) = (k : Int) * 31 := wrap64 _ (by omega) (by omega)
    have w2 : IntKind.i64.wrap ((l.length : Int) * 7) = (l.length : Int) * 7 := wrap64 _ (by omega) (by omega)
    have w3 : IntKind.i64.wrap ((k : Int) * 31 + (l.length : Int) * 7) = (k : Int) * 31 + (l.length : Int) * 7 := wrap64 _ (by omega) (by omega)
    have h0 : 0 ≤ Int.tmod ((k : Int) * 31 + (l.length : Int) * 7) 256 ∧ Int.tmod ((k : Int) * 31 + (l.length : Int) * 7) 256 ≤ 255 := by rw [Int.tmod_eq_emod_of_nonneg (by omega)]; omega
    have w4 : IntKind.i64.wrap (Int.tmod ((k : Int) * 31 + (l.length : Int) * 7) 256) = Int.tmod ((k : Int) * 31 + (l.length : Int) * 7) 256 := wrap64 _ (by omega) (by omega)
    have fy := And.intro hd (And.intro w1 (And.intro w2 (And.intro w3 (w4))))
    refine goK ?_ ?_ ?_ ?_ ?_ ?_ ?_ ?_ ?_ ?_ ?_ ?_ ?_ ?_ ?_ ?_
    any_goals (first | exact True.intro | skip)
    all_goals (repeat (refine Wh.mk fun hcc => ?_))
    all_goals (first | rfl | (simp only [tupOf, fixEs]; done) | simp [tupOf, fixEs])
def sizeF (l : List UInt8) (most : Nat) : Nat := if 3 + l.length / 12 > most then most else 3 + l.length / 12
theorem sizeF_le (l : List UInt8) (most : Nat) : sizeF l most ≤ most := by unfold sizeF; split <;> omega
theorem l1Size_ok (l : List UInt8) (hl : l.length ≤ 1048576) (most : Nat) (hm : most ≤ 1000) : CallR Try.prog 65 [.sl .s (l.map Enc.b), .int .i64 (most : Nat)] [] (.int .i64 (sizeF l most : Nat)) := by
  refine CallR.of_body (n := 15) (rs := [.tmp 4]) hY.ok Try.func65 rfl (by decide) rfl rfl rfl rfl (fun F => ?_)
  have fx := And.intro Y3 (And.intro Y4 (And.intro Y5 (Y22)))
  unfold sizeF
  have hq : Int.tdiv (l.length : Int) 12 = ((l.length / 12 : Nat) : Int) := by rw [Int.tdiv_eq_ediv_of_nonneg (by omega)]; omega
  have w1 : IntKind.i64.wrap ((l.length / 12 : Nat) : Int) = ((l.length / 12 : Nat) : Int) := wrap64 _ (by omega) (by omega)
  have w2 : IntKind.i64.wrap (3 + ((l.length / 12 : Nat) : Int)) = ((3 + l.length / 12 : Nat) : Int) := by rw [wrap64 _ (by omega) (by omega)]; omega
  generalize 3 + l.length / 12 = n at *
  skip
  by_cases h : n > most
  · rw [if_pos h]
    have hd : decide ((n : Int) > (most : Int)) = true := by simp; omega
    have fy := And.intro hd (And.intro hq (And.intro w1 (w2)))
    refine goK ?_ ?_ ?_ ?_ ?_ ?_ ?_ ?_ ?_ ?_ ?_ ?_ ?_ ?_ ?_ ?_
    any_goals (first | exact True.intro | skip)
    all_goals (repeat (refine Wh.mk fun hcc => ?_))
    all_goals (first | rfl | (simp only [tupOf, fixEs]; done) | simp [tupOf, fixEs])
  · rw [if_neg h]
    have hd : decide ((n : Int) > (most : Int)) = false := by simp; omega
    have fy := And.intro hd (And.intro hq (And.intro w1 (w2)))
    refine goK ?_ ?_ ?_ ?_ ?_ ?_ ?_ ?_ ?_ ?_ ?_ ?_ ?_ ?_ ?_ ?_
    any_goals (first | exact True.intro | skip)
    all_goals (repeat (refine Wh.mk fun hcc => ?_))
    all_goals (first | rfl | (simp only [tupOf, fixEs]; done) | simp [tupOf, fixEs])
end Q6

namespace Q6
open Go Go.Vm Go.Proofs
set_option maxHeartbeats 4000000
set_option synthInstance.maxSize 2000
set_option synthInstance.maxHeartbeats 400000
set_option maxRecDepth 10000
set_option linter.unusedSimpArgs false
set_option linter.unusedVariables false

theorem big_ok (l : List UInt8) : CallR Try.prog 10 [.sl .s (l.map Enc.b)] [] (.bool (decide ((1048576 : Int) < (l.length : Int)))) := by
  refine CallR.of_body (n := 6) (rs := [.tmp 2]) hY.ok Try.func10 rfl (by decide) rfl rfl rfl rfl (fun F => ?_)
  have fx := And.intro Y3 (And.intro Y4 (And.intro Y5 (Y22)))
  have fy := Nat.add_zero
  refine goK ?_ ?_ ?_ ?_ ?_ ?_ ?_ ?_ ?_ ?_ ?_ ?_ ?_ ?_ ?_ ?_
  any_goals (first | exact True.intro | skip)
  all_goals (repeat (refine Wh.mk fun hcc => ?_))
  all_goals rfl
theorem laws_sameInts_ok (l m : List Int) (hl : Enc.lim 1048576 l) : CallR Try.prog 18 [.sl .b (l.map Enc.b), .sl .b (m.map Enc.b)] [] (.bool (decide (l = m))) := by
  refine CallR.of_body (n := 26) (rs := [.tmp 4]) hY.ok Try.func18 rfl (by decide) rfl rfl rfl rfl (fun F => ?_)
  have fx := And.intro Y3 (And.intro Y4 (Y27))
  have hl1 : l.length ≤ 1048576 := hl.1
  have fy := Nat.add_zero
  refine goS ?_
  refine SW.cond rfl (fun hc => ?_) (fun hc => ?_)
  · have hne : ¬ l = m := by intro e; subst e; simp at hc
    have fy := Nat.add_zero
    refine goK ?_ ?_ ?_ ?_ ?_ ?_ ?_ ?_ ?_ ?_ ?_ ?_ ?_ ?_ ?_ ?_
    any_goals (first | exact True.intro | skip)
    all_goals (repeat (refine Wh.mk fun hcc => ?_))
    simp [tupOf, fixEs, hne]
  have hlen : l.length = m.length := by have : (l.length : Int) = m.length := by simpa using hc
                                        omega
  refine SW.skip ?_
  simp only [thenS]
  have fy := Nat.add_zero
  refine goN ?_ ?_ ?_ ?_ ?_ ?_ ?_ ?_ ?_ ?_ ?_ ?_ ?_ ?_ ?_ ?_
  any_goals (first | exact True.intro | skip)
  skip
  refine SW.loop (fun i : Nat => ⟨[.sl .b (l.map Enc.b), .sl .b (m.map Enc.b), .undef, .undef, .undef, .int .i64 i, .undef, .undef, .undef, .undef, .undef, .undef, .undef, .undef, .undef, .undef, .undef, .undef, .undef, .undef, .undef, .undef, .undef, .undef, .undef, .undef], [[]]⟩)
    (fun n i => n = l.length - i ∧ i ≤ l.length ∧ ∀ j (h : j < l.length), j < i → l[j] = m[j]'(by omega)) (n := l.length) (x := 0) (Norm.to 0 rfl (by simp [weakL])) ⟨rfl, Nat.zero_le _, fun j _ h => absurd h (Nat.not_lt_zero _)⟩ ?_
  rintro n i ⟨hn, hi, hp⟩
  have fy := Nat.add_zero
  refine goS ?_
  refine SW.cond rfl (fun hc => ?_) (fun hc => ?_)
  · have hlt : i < l.length := by simpa using hc
    have hlt' : i < m.length := by omega
    have hgl : (l.map Enc.b)[i]? = some (.int .i64 l[i]) := map_get Enc.b l i hlt
    have hgm : (m.map Enc.b)[i]? = some (.int .i64 m[i]) := map_get Enc.b m i hlt'
    have fy := And.intro hgl (hgm)
    refine goK ?_ ?_ ?_ ?_ ?_ ?_ ?_ ?_ ?_ ?_ ?_ ?_ ?_ ?_ ?_ ?_
    any_goals (first | exact True.intro | skip)
    all_goals (repeat (refine Wh.mk fun hcc => ?_))
    · have hx := hcc
      have hne : ¬ l[i] = m[i] := by intro e; simp [e] at hx
      have hlm : ¬ l = m := by intro e; subst e; exact hne rfl
      simp [tupOf, fixEs, hlm]
    · have hx := hcc
      have hx' : l[i] = m[i] := by first | (simpa using hx; done) | (apply UInt8.toNat_inj.1; simp at hx; omega)
      refine ⟨n - 1, i + 1, by omega, ⟨by omega, by omega, fun j hj hji => ?_⟩, ?_⟩
      · by_cases he : j = i
        · subst he; exact hx'
        · exact hp j hj (by omega)
      · rw [wrap64 _ (by omega) (by omega)]
        first | exact Norm.to 0 rfl (by simp [weakL]) | exact Norm.to 1 rfl (by simp [weakL])
  · have hge : i = l.length := by
      have : ¬ i < l.length := by simpa using hc
      omega
    have hlm : l = m := List.ext_getElem hlen fun j h1 h2 => hp j h1 (by omega)
    have fy := Nat.add_zero
    refine goK ?_ ?_ ?_ ?_ ?_ ?_ ?_ ?_ ?_ ?_ ?_ ?_ ?_ ?_ ?_ ?_
    any_goals (first | exact True.intro | skip)
    all_goals (repeat (refine Wh.mk fun hcc => ?_))
    simp [tupOf, fixEs, hlm]
def amongB (l : List Int) (n : Int) : Bool := l.any fun x => decide (x = n)
theorem amongB_iff {l : List Int} {n : Int} : amongB l n = true ↔ n ∈ l := by unfold amongB; simp
theorem among_ok (l : List Int) (hl : l.length ≤ 1048576) (n : Int) : CallR Try.prog 15 [.sl .b (l.map Enc.b), .int .i64 n] [] (.bool (amongB l n)) := by
  refine CallR.of_body (n := 18) (rs := [.tmp 4]) hY.ok Try.func15 rfl (by decide) rfl rfl rfl rfl (fun F => ?_)
  have fx := And.intro Y3 (And.intro Y4 (Y27))
  have fy := Nat.add_zero
  refine goN ?_ ?_ ?_ ?_ ?_ ?_ ?_ ?_ ?_ ?_ ?_ ?_ ?_ ?_ ?_ ?_
  any_goals (first | exact True.intro | skip)
  skip
  refine SW.loop (fun i : Nat => ⟨[.sl .b (l.map Enc.b), .int .i64 n, .undef, .undef, .undef, .int .i64 (i : Nat), .undef, .undef, .undef, .undef, .undef, .undef, .undef, .undef, .undef, .undef, .undef, .undef], [[]]⟩)
    (fun N i => N = l.length - i ∧ i ≤ l.length ∧ ∀ j (h : j < l.length), j < i → (fun x => !decide (x = n)) l[j] = true) (n := l.length) (x := 0) (by first | exact Norm.to 0 rfl (by simp [weakL]) | exact Norm.to 1 rfl (by simp [weakL])) ⟨rfl, Nat.zero_le _, fun j _ h => absurd h (Nat.not_lt_zero _)⟩ ?_
  rintro N i ⟨hN, hi, hp⟩
  have fy := Nat.add_zero
  refine goS ?_
  refine SW.cond rfl (fun hci => ?_) (fun hci => ?_)
  · skip
    have hlti : i < l.length := by simpa using hci
    have hltIi : (i : Int) < (l.length : Int) := by omega
    have hg : (l.map Enc.b)[i]? = some (.int .i64 l[i]) := map_get Enc.b l i hlti
    have hq : (l[i] == n) = decide (l[i] = n) := rfl
    generalize hb : decide (l[i] = n) = b at *
    cases b
    · skip
      have fy := And.intro hg (And.intro hq (hltIi))
      refine goR ?_ ?_ ?_ ?_ ?_ ?_ ?_ ?_ ?_ ?_ ?_ ?_ ?_ ?_ ?_ ?_
      any_goals (first | exact True.intro | skip)
      all_goals (repeat (refine Wh.mk fun hcc => ?_))
      refine ⟨N - 1, i + 1, by omega, ⟨by omega, by omega, fun j hj hji => ?_⟩, ?_⟩
      · by_cases he : j = i
        · subst he; exact (by simp [hb])
        · exact hp j hj (by omega)
      · rw [wrap64 _ (by omega) (by omega)]
        first | exact Norm.to 0 rfl (by simp [weakL]) | exact Norm.to 1 rfl (by simp [weakL]) | exact Norm.to 2 rfl (by simp [weakL]) | exact Norm.to 3 rfl (by simp [weakL])
    · have hy : amongB l n = true := by unfold amongB; rw [List.any_eq_true]; exact ⟨_, List.getElem_mem hlti, hb⟩
      have fy := And.intro hg (And.intro hq (hltIi))
      refine goK ?_ ?_ ?_ ?_ ?_ ?_ ?_ ?_ ?_ ?_ ?_ ?_ ?_ ?_ ?_ ?_
      any_goals (first | exact True.intro | skip)
      all_goals (repeat (refine Wh.mk fun hcc => ?_))
      all_goals simp [tupOf, fixEs, hy]
  · skip
    have hgei : i = l.length := by
      have : ¬ i < l.length := by simpa using hci
      omega
    have hall : l.all (fun x => !decide (x = n)) = true := all_of _ _ (fun j hj => hp j hj (by omega))
    have hy : amongB l n = false := by
      unfold amongB; rw [List.any_eq_false]; intro x hx; have := List.all_eq_true.1 hall x hx; simpa using this
    have fy := Nat.add_zero
    refine goK ?_ ?_ ?_ ?_ ?_ ?_ ?_ ?_ ?_ ?_ ?_ ?_ ?_ ?_ ?_ ?_
    any_goals (first | exact True.intro | skip)
    all_goals (repeat (refine Wh.mk fun hcc => ?_))
    all_goals simp [tupOf, fixEs, hy]
noncomputable def newF (l : List UInt8) : Int := by
  classical
  exact if h : ∃ h : Int, CallR Try.prog 49 [.sl .s (l.map Enc.b)] [] (.fp (.io (.nd [.sl .s (l.map Enc.b), .int .i64 0, .int .i64 h]))) then h.choose else 0
theorem newF_ok (l : List UInt8) (hl : l.length ≤ 1048576) : CallR Try.prog 49 [.sl .s (l.map Enc.b)] [] (.fp (.io (.nd [.sl .s (l.map Enc.b), .int .i64 0, .int .i64 (newF l)]))) := by
  unfold newF
  rw [dif_pos (new_ok l hl)]
  exact (new_ok l hl).choose_spec
noncomputable def drawHeap (l : List UInt8) : List SlotT := (heapF l 31 (0, newF l) v0).2
theorem drawHeap_view (l : List UInt8) (hl : l.length ≤ 1048576) : viewB (drawHeap l) = true ∧ (∀ i, hasA (drawHeap l) i = false → refsA (drawHeap l) i = []) := by
  obtain ⟨_, h1, h2, h3⟩ := heapF_ok l hl 31 (0, newF l) v0 (Nat.zero_le _) (by decide) List.length_replicate (by intro x hx; rw [List.eq_of_mem_replicate hx]; decide) (by decide)
  unfold drawHeap
  generalize (heapF l 31 (0, newF l) v0).2 = v at *
  constructor
  · unfold viewB
    cases v with
    | nil => simp at h1
    | cons s v' =>
      have h0 : s.1 = false := by simpa [hasA] using h3
      simp only [h1, h0, Bool.and_eq_true, List.all_eq_true]
      exact ⟨⟨by decide, by decide⟩, h2⟩
  · intro i hi
    unfold hasA at hi; unfold refsA
    cases hg : v[i]? with
    | none => rfl
    | some s =>
      rw [hg] at hi
      have hs := h2 s (List.mem_of_getElem? hg)
      simp only at hi
      simp only [slotB, hi, Bool.false_eq_true, if_false, noObjB, Bool.and_eq_true, decide_eq_true_eq] at hs
      exact List.length_eq_zero_iff.1 hs.2
theorem drawHeapW_ok (l : List UInt8) (hl : l.length ≤ 1048576) : CallR Try.prog 11 [.sl .s (l.map Enc.b)] [] (.ow 4 ((drawHeap l).map Enc.o)) := by
  refine CallR.of_body (n := 8) (rs := [.tmp 2]) hY.ok Try.func11 rfl (by decide) rfl rfl rfl rfl (fun F => ?_)
  have fx := And.intro Y3 (And.intro Y4 (And.intro Y5 (And.intro Y22 (And.intro Y24 (And.intro Y27 (And.intro Y35 (And.intro Y37 (Y104))))))))
  have c1 := newF_ok l hl
  have c2 := heapW_ok l (0, newF l) hl (Nat.zero_le _)
  unfold drawHeap
  generalize newF l = h at *
  generalize heapF l 31 (0, h) v0 = r at *
  obtain ⟨⟨n0, h0⟩, v⟩ := r
  simp only [Int.natCast_zero] at c1 c2 ⊢
  have hC1 := cx [.own 1] (c1)
  have hC2 := cx [.io] (c2)
  have fy := Nat.add_zero
  refine goR ?_ ?_ ?_ ?_ ?_ ?_ ?_ ?_ ?_ ?_ ?_ ?_ ?_ ?_ ?_ ?_
  any_goals (first | exact True.intro | skip)
  all_goals (repeat (refine Wh.mk fun hcc => ?_))
  all_goals exact SW.ret (show RetQ _ _ _ _ _ _ _ from RetQ.y [4] [.ow 4 (v.map Enc.o)])
end Q6

namespace Q6
open Go Go.Vm Go.Proofs
set_option maxHeartbeats 4000000
set_option synthInstance.maxSize 2000
set_option synthInstance.maxHeartbeats 400000
set_option maxRecDepth 10000
set_option linter.unusedSimpArgs false
set_option linter.unusedVariables false

theorem put_y (k : Nat) (v : List SlotT) (s : MS) (most r : Int) (hq : s.q.length ≤ 1000) (hlt : (s.q.length : Int) < most) : CallR Try.prog 55 [.io (.nd [.sl (.r k) (tgL (cst k) (v.map Enc.b)), .ow 1 ((s.m).map Enc.o), .ow 1 ((s.q).map Enc.o), .int .i64 most, .bool s.o]), .int .i64 r] [.nd [.sl (.r k) (tgL (cst k) (v.map Enc.b)), .ow 1 (((⟨s.m, s.q ++ [r], s.o⟩ : MS).m).map Enc.o), .ow 1 (((⟨s.m, s.q ++ [r], s.o⟩ : MS).q).map Enc.o), .int .i64 most, .bool (⟨s.m, s.q ++ [r], s.o⟩ : MS).o]] (.tup []) := by
  refine CallR.of_body (n := 27) (rs := []) hY.ok Try.func55 rfl (by decide) rfl rfl rfl rfl (fun F => ?_)
  have fx := And.intro Y1 (And.intro Y2 (And.intro Y3 (And.intro Y4 (And.intro Y24 (And.intro Y27 (And.intro Y29 (And.intro Y35 (And.intro Y37 (And.intro Y111 (Y113))))))))))
  have hd : decide ((s.q.length : Int) ≥ most) = false := by simp; omega
  have ha := append_runP (Y := Y) (H := [[.var (.nd [.sl (.r k) (tgL (cst k) (v.map Enc.b)), .ref 0 1 0 s.m.length, .ref 0 2 0 s.q.length, .int .i64 most, .bool s.o]), .arr 1 (s.m.map Enc.o) false, .arr 1 (s.q.map Enc.o) false], [.arr 1 [.int .i64 r] false], []]) (own := 2) (t := 27) (u := 27) (e := 0) (j := 2) (off := 0) (n := s.q.length) (e2 := 1) (j2 := 0) (f := (s.q.map Enc.o)) (l := s.q) (x := r) Y27 Y27 Y3 rfl (by decide) rfl rfl (by simp) (by simp) (by omega) rfl rfl
  have fy := And.intro hd (And.intro bs1_27 (ha))
  refine goR ?_ ?_ ?_ ?_ ?_ ?_ ?_ ?_ ?_ ?_ ?_ ?_ ?_ ?_ ?_ ?_
  any_goals (first | exact True.intro | skip)
  all_goals (repeat (refine Wh.mk fun hcc => ?_))
  all_goals first | exact SW.ret (show RetQ _ _ _ _ _ _ _ from RetQ.y [] []) | ((try refine SW.skip ?_); exact ⟨.inl rfl, (show RetQ _ _ _ _ _ .ret _ from RetQ.y [] []).2⟩)
theorem put_n (k : Nat) (v : List SlotT) (s : MS) (most r : Int) (hq : s.q.length ≤ 1000) (hlt : ¬ (s.q.length : Int) < most) : CallR Try.prog 55 [.io (.nd [.sl (.r k) (tgL (cst k) (v.map Enc.b)), .ow 1 ((s.m).map Enc.o), .ow 1 ((s.q).map Enc.o), .int .i64 most, .bool s.o]), .int .i64 r] [.nd [.sl (.r k) (tgL (cst k) (v.map Enc.b)), .ow 1 (((⟨s.m, s.q, true⟩ : MS).m).map Enc.o), .ow 1 (((⟨s.m, s.q, true⟩ : MS).q).map Enc.o), .int .i64 most, .bool (⟨s.m, s.q, true⟩ : MS).o]] (.tup []) := by
  refine CallR.of_body (n := 27) (rs := []) hY.ok Try.func55 rfl (by decide) rfl rfl rfl rfl (fun F => ?_)
  have fx := And.intro Y1 (And.intro Y2 (And.intro Y3 (And.intro Y4 (And.intro Y24 (And.intro Y27 (And.intro Y29 (And.intro Y35 (And.intro Y37 (And.intro Y111 (Y113))))))))))
  have hd : decide ((s.q.length : Int) ≥ most) = true := by simp; omega
  have fy := And.intro hd (bs1_27)
  refine goR ?_ ?_ ?_ ?_ ?_ ?_ ?_ ?_ ?_ ?_ ?_ ?_ ?_ ?_ ?_ ?_
  any_goals (first | exact True.intro | skip)
  all_goals (repeat (refine Wh.mk fun hcc => ?_))
  all_goals first | exact SW.ret (show RetQ _ _ _ _ _ _ _ from RetQ.y [] []) | ((try refine SW.skip ?_); exact ⟨.inl rfl, (show RetQ _ _ _ _ _ .ret _ from RetQ.y [] []).2⟩)
theorem put_ok (k : Nat) (v : List SlotT) (s : MS) (most r : Int) (hq : s.q.length ≤ 1000) : CallR Try.prog 55 [.io (.nd [.sl (.r k) (tgL (cst k) (v.map Enc.b)), .ow 1 ((s.m).map Enc.o), .ow 1 ((s.q).map Enc.o), .int .i64 most, .bool s.o]), .int .i64 r] [.nd [.sl (.r k) (tgL (cst k) (v.map Enc.b)), .ow 1 (((put1 most s r).m).map Enc.o), .ow 1 (((put1 most s r).q).map Enc.o), .int .i64 most, .bool (put1 most s r).o]] (.tup []) := by
  unfold put1
  by_cases h : (s.q.length : Int) < most
  · rw [if_pos h]; exact put_y k v s most r hq h
  · rw [if_neg h]; exact put_n k v s most r hq h
theorem unmarked_ok (v : List SlotT) (s : MS) (most r : Int) (hv : VOk v) (hm : s.m.length = 32) (hr : 0 ≤ r ∧ r ≤ 31) : CallR Try.prog 59 [.fp (.nd [.sl .b (v.map Enc.b), .sl .b (s.m.map Enc.b), .sl .b (s.q.map Enc.b), .int .i64 most, .bool s.o]), .int .i64 r] [] (.bool (lackB v s.m r)) := by
  refine CallR.of_body (n := 27) (rs := [.tmp 4]) hY.ok Try.func59 rfl (by decide) rfl rfl rfl rfl (fun F => ?_)
  have fx := And.intro Y1 (And.intro Y3 (And.intro Y4 (And.intro Y24 (And.intro Y27 (And.intro Y29 (And.intro Y35 (And.intro Y37 (And.intro Y111 (Y113)))))))))
  have hlt : r.toNat < v.length := by rw [hv.len]; omega
  have hltm : r.toNat < s.m.length := by omega
  have hg : (v.map Enc.b)[r.toNat]? = some (.nd [.bool v[r.toNat].1, .nd [.int .i64 v[r.toNat].2.1.1, .sl .b (v[r.toNat].2.1.2.1.map Enc.b), .sl .b (v[r.toNat].2.1.2.2.1.map Enc.b)]]) := map_get Enc.b v _ hlt
  have hgm : (s.m.map Enc.b)[r.toNat]? = some (.bool s.m[r.toNat]) := map_get Enc.b s.m _ hltm
  have hrd : decide (0 ≤ r) = true := by simp; omega
  have hr0 : 0 ≤ r := hr.1
  have h1 : hasA v r.toNat = v[r.toNat].1 := by unfold hasA; rw [List.getElem?_eq_getElem hlt]
  have h2 : mrk s.m r.toNat = s.m[r.toNat] := by unfold mrk; rw [List.getD_eq_getElem?_getD, List.getElem?_eq_getElem hltm]; rfl
  have h3 : r = 0 → lackB v s.m r = false := fun e => by subst e; unfold lackB; rw [show (0 : Int).toNat = 0 from rfl, hv.z]; rfl
  have fy := And.intro hg (And.intro hgm (hr0))
  refine goK ?_ ?_ ?_ ?_ ?_ ?_ ?_ ?_ ?_ ?_ ?_ ?_ ?_ ?_ ?_ ?_
  any_goals (first | exact True.intro | skip)
  all_goals (repeat (refine Wh.mk fun hcc => ?_))
  all_goals first
    | (simp [tupOf, fixEs, lackB, h1, h2, *]; done)
    | (rename_i hbb
       have e : r = 0 := by simp at hbb; omega
       simp [tupOf, fixEs, h3 e])
theorem idxUn_ok (l : List Int) (hl : Enc.lim 1048576 l) (v : List SlotT) (s : MS) (most : Int) (hv : VOk v) (hm : s.m.length = 32) (hr : ∀ r ∈ l, 0 ≤ r ∧ r ≤ 31)  : CallR Try.prog 128 [.sl .b (l.map Enc.b), .fn 59 [.fp (.nd [.sl .b (v.map Enc.b), .sl .b (s.m.map Enc.b), .sl .b (s.q.map Enc.b), .int .i64 most, .bool s.o])] []] [] (.int .i64 (idxOf (lackB v s.m) l)) := by
  refine CallR.of_body (n := 19) (rs := [.tmp 4]) hY.ok Try.func128 rfl (by decide) rfl rfl rfl rfl (fun F => ?_)
  have fx := And.intro Y3 (And.intro Y4 (And.intro Y27 (Y107)))
  have hl1 : l.length ≤ 1048576 := hl.1
  have fy := Nat.add_zero
  refine goN ?_ ?_ ?_ ?_ ?_ ?_ ?_ ?_ ?_ ?_ ?_ ?_ ?_ ?_ ?_ ?_
  any_goals (first | exact True.intro | skip)
  skip
  refine SW.loop (fun i : Nat => ⟨[.sl .b (l.map Enc.b), .fn 59 [.fp (.nd [.sl .b (v.map Enc.b), .sl .b (s.m.map Enc.b), .sl .b (s.q.map Enc.b), .int .i64 most, .bool s.o])] [], .undef, .undef, .undef, .undef, .undef, .int .i64 l.length, .int .i64 i, .undef, .undef, .undef, .undef, .undef, .undef, .undef, .undef, .undef, .undef], [[]]⟩)
    (fun n i => n = l.length - i ∧ i ≤ l.length ∧ ∀ j (h : j < l.length), j < i → (lackB v s.m) l[j] = false) (n := l.length) (x := 0) (Norm.to 0 rfl (by simp [weakL])) ⟨rfl, Nat.zero_le _, fun j _ h => absurd h (Nat.not_lt_zero _)⟩ ?_
  rintro n i ⟨hn, hi, hp⟩
  have fy := Nat.add_zero
  refine goS ?_
  refine SW.cond rfl (fun hc => ?_) (fun hc => ?_)
  · have hlt : i < l.length := by simpa using hc
    have hg : (l.map Enc.b)[i]? = some (.int .i64 l[i]) := map_get Enc.b l i hlt
    have hC1 := cx [] (unmarked_ok v s most l[i] hv hm (hr _ (List.getElem_mem hlt)))
    have fy := hg
    refine goK ?_ ?_ ?_ ?_ ?_ ?_ ?_ ?_ ?_ ?_ ?_ ?_ ?_ ?_ ?_ ?_
    any_goals (first | exact True.intro | skip)
    all_goals (repeat (refine Wh.mk fun hcc => ?_))
    · have hx := hcc
      have hx' : (lackB v s.m) l[i] = true := by simpa using hx
      simp only [tupOf, fixEs, idxOf_eq (lackB v s.m) l hlt hx' (fun j hj => hp j (by omega) hj)]
    · have hx := hcc
      have hx' : (lackB v s.m) l[i] = false := by simpa using hx
      refine ⟨n - 1, i + 1, by omega, ⟨by omega, by omega, fun j hj hji => ?_⟩, ?_⟩
      · by_cases he : j = i
        · subst he; exact hx'
        · exact hp j hj (by omega)
      · rw [wrap64 _ (by omega) (by omega)]
        first | exact Norm.to 0 rfl (by simp [weakL]) | exact Norm.to 1 rfl (by simp [weakL]) | exact Norm.to 2 rfl (by simp [weakL])
  · have hge : i = l.length := by
      have : ¬ i < l.length := by simpa using hc
      omega
    have fy := Nat.add_zero
    refine goK ?_ ?_ ?_ ?_ ?_ ?_ ?_ ?_ ?_ ?_ ?_ ?_ ?_ ?_ ?_ ?_
    any_goals (first | exact True.intro | skip)
    all_goals (repeat (refine Wh.mk fun hcc => ?_))
    simp only [tupOf, fixEs, idxOf_none (lackB v s.m) l (fun j hj => hp j hj (by omega))]
theorem anyUn_ok (l : List Int) (hl : Enc.lim 1048576 l) (v : List SlotT) (s : MS) (most : Int) (hv : VOk v) (hm : s.m.length = 32) (hr : ∀ r ∈ l, 0 ≤ r ∧ r ≤ 31)  : CallR Try.prog 58 [.sl .b (l.map Enc.b), .fn 59 [.fp (.nd [.sl .b (v.map Enc.b), .sl .b (s.m.map Enc.b), .sl .b (s.q.map Enc.b), .int .i64 most, .bool s.o])] []] [] (.bool (l.any (lackB v s.m))) := by
  refine CallR.of_body (n := 9) (rs := [.tmp 4]) hY.ok Try.func58 rfl (by decide) rfl rfl rfl rfl (fun F => ?_)
  have fx := And.intro Y3 (And.intro Y4 (And.intro Y27 (Y107)))
  have hC1 := cx [] (idxUn_ok l hl v s most hv hm hr)
  have fy := Nat.add_zero
  refine goK ?_ ?_ ?_ ?_ ?_ ?_ ?_ ?_ ?_ ?_ ?_ ?_ ?_ ?_ ?_ ?_
  any_goals (first | exact True.intro | skip)
  all_goals (repeat (refine Wh.mk fun hcc => ?_))
  all_goals simp only [tupOf, fixEs, ge_iff_le, idx_any]
end Q6

namespace Q6
open Go Go.Vm Go.Proofs
set_option maxHeartbeats 4000000
set_option synthInstance.maxSize 2000
set_option synthInstance.maxHeartbeats 400000
set_option maxRecDepth 10000
set_option linter.unusedSimpArgs false
set_option linter.unusedVariables false

theorem norm_open (k : Nat) (v : List SlotT) (tm : List T) (m : List Bool) (q : List Int) (most : Int) (o : Bool) (n : Nat) : Norm ⟨tm, [[.var (.nd [.sl (.r k) (tgL (cst k) (v.map Enc.b)), .ow 1 ((m).map Enc.o), .ow 1 ((q).map Enc.o), .int .i64 most, .bool o]), .gone, .gone]] ++ List.replicate n []⟩ ⟨tm, [[.var (.nd [.sl (.r k) (tgL (cst k) (v.map Enc.b)), .ref 1 0 0 (m).length, .ref 1 1 0 (q).length, .int .i64 most, .bool o]), .gone, .gone], [.arr 1 ((m).map Enc.o) false, .arr 1 ((q).map Enc.o) false]]⟩ := by
  refine Norm.trans (Norm.trim n) ?_
  have h := Norm.expelVar (tm := tm) (H := [[.var (.nd [.sl (.r k) (tgL (cst k) (v.map Enc.b)), .ow 1 ((m).map Enc.o), .ow 1 ((q).map Enc.o), .int .i64 most, .bool o]), .gone, .gone]]) 0 0 rfl
  simp only [thawA, thawAL, Heap.put, List.getElem?_cons_zero, List.set_cons_zero, List.length_cons, List.length_nil, List.nil_append, List.cons_append, List.append_nil, Nat.zero_add, Nat.reduceAdd, List.length_map] at h
  exact h
theorem norm_first (k : Nat) (v : List SlotT) (tm : List T) (m : List Bool) (q : List Int) (most : Int) (o : Bool) : Norm ⟨tm, [[.var (.nd [.sl (.r k) (tgL (cst k) (v.map Enc.b)), .ref 0 1 0 m.length, .ref 0 2 0 q.length, .int .i64 most, .bool o]), .arr 1 (m.map Enc.o) false, .arr 1 (q.map Enc.o) false]]⟩ ⟨tm, [[.var (.nd [.sl (.r k) (tgL (cst k) (v.map Enc.b)), .ref 1 0 0 (m).length, .ref 1 1 0 (q).length, .int .i64 most, .bool o]), .gone, .gone], [.arr 1 ((m).map Enc.o) false, .arr 1 ((q).map Enc.o) false]]⟩ := by
  refine Norm.trans ?_ (norm_open k v tm m q most o 0)
  have h := Norm.soakVar (tm := tm) (H := [[.var (.nd [.sl (.r k) (tgL (cst k) (v.map Enc.b)), .ref 0 1 0 m.length, .ref 0 2 0 q.length, .int .i64 most, .bool o]), .arr 1 (m.map Enc.o) false, .arr 1 (q.map Enc.o) false]]) 0 0 rfl
  simp only [soakS, soakL, Heap.at, Heap.put, List.getElem?_cons_zero, List.getElem?_cons_succ, List.set_cons_zero, List.set_cons_succ, List.length_map, and_self, if_true] at h
  exact h

theorem drain_ok (k : Nat) (v : List SlotT) (hv : VOk v) (hvl : Enc.lim 1048576 v) (s : MS) (most : Int) (hm : most ≤ 40) (hG : Good most s) : CallR Try.prog 56 [.io (.nd [.sl (.r k) (tgL (cst k) (v.map Enc.b)), .ow 1 ((s.m).map Enc.o), .ow 1 ((s.q).map Enc.o), .int .i64 most, .bool s.o])] [.nd [.sl (.r k) (tgL (cst k) (v.map Enc.b)), .ow 1 (((drn v most s).m).map Enc.o), .ow 1 (((drn v most s).q).map Enc.o), .int .i64 most, .bool (drn v most s).o]] (.tup []) := by
  refine CallR.of_body (n := 64) (rs := []) hY.ok Try.func56 rfl (by decide) rfl rfl rfl rfl (fun F => ?_)
  have fx := And.intro Y1 (And.intro Y2 (And.intro Y3 (And.intro Y4 (And.intro Y24 (And.intro Y27 (And.intro Y29 (And.intro Y35 (And.intro Y37 (And.intro Y111 (Y113))))))))))
  have hD := drn_ok hv hm hG
  have h0 : entryS 64 [.io (.nd [.sl (.r k) (tgL (cst k) (v.map Enc.b)), .ow 1 ((s.m).map Enc.o), .ow 1 ((s.q).map Enc.o), .int .i64 most, .bool s.o])] = ⟨.ptr 0 0 [] 0 :: List.replicate 63 .undef, [[.var (.nd [.sl (.r k) (tgL (cst k) (v.map Enc.b)), .ref 0 1 0 s.m.length, .ref 0 2 0 s.q.length, .int .i64 most, .bool s.o]), .arr 1 (s.m.map Enc.o) false, .arr 1 (s.q.map Enc.o) false]]⟩ := by simp [entryS, thawAL, thawA, T.asArr]
  rw [h0]
  refine SW.norm (norm_first k v _ s.m s.q most s.o) ?_
  refine SW.block ?_
  refine SW.loop (fun x : MS => ⟨[.ptr 0 0 [] 0, .undef, .undef, .undef, .undef, .undef, .undef, .undef, .undef, .undef, .undef, .undef, .undef, .undef, .undef, .undef, .undef, .undef, .undef, .undef, .undef, .undef, .undef, .undef, .undef, .undef, .undef, .undef, .undef, .undef, .undef, .undef, .undef, .undef, .undef, .undef, .undef, .undef, .undef, .undef, .undef, .undef, .undef, .undef, .undef, .undef, .undef, .undef, .undef, .undef, .undef, .undef, .undef, .undef, .undef, .undef, .undef, .undef, .undef, .undef, .undef, .undef, .undef, .undef], [[.var (.nd [.sl (.r k) (tgL (cst k) (v.map Enc.b)), .ref 1 0 0 (x.m).length, .ref 1 1 0 (x.q).length, .int .i64 most, .bool x.o]), .gone, .gone], [.arr 1 ((x.m).map Enc.o) false, .arr 1 ((x.q).map Enc.o) false]]⟩)
    (fun n x => n ≤ 200 ∧ Good most x ∧ drainF v most n x = drn v most s) (n := 200) (x := s) (Norm.to 0 rfl (by simp [weakL, List.replicate])) ⟨Nat.le_refl _, hG, rfl⟩ ?_
  rintro n x ⟨hn, hx, hdr⟩
  simp only
  have fy := Nat.add_zero
  refine goS ?_
  refine SW.cond rfl (fun hc => ?_) (fun hc => ?_)
  · have hqn : 0 < x.q.length := by simp at hc; omega
    obtain ⟨z, hz⟩ : ∃ z, x.q.getLast? = some z := by
      cases h : x.q.getLast? with
      | none => rw [List.getLast?_eq_none_iff] at h; rw [h] at hqn; simp at hqn
      | some z => exact ⟨z, rfl⟩
    obtain ⟨n, rfl⟩ : ∃ m, n = m + 1 := by
      cases n with
      | zero => exfalso; have h := hD.2.1; rw [← hdr] at h; simp only [drainF] at h; rw [h] at hqn; simp at hqn
      | succ m => exact ⟨m, rfl⟩
    obtain ⟨hp1, hp2, hp3⟩ := hx.pop hz
    have hql := hx.ql
    have hdl : x.q.dropLast.length = x.q.length - 1 := List.length_dropLast ..
    have hw : IntKind.i64.wrap ((x.q.length : Int) - 1) = ((x.q.length - 1 : Nat) : Int) := by rw [wrap64 _ (by omega) (by omega)]; omega
    have hltI : ((x.q.length - 1 : Nat) : Int) < (x.q.length : Int) := by omega
    have hleI : ((x.q.length - 1 : Nat) : Int) ≤ (x.q.length : Int) := by omega
    have hsl := fun (e j : Nat) (H : Heap) (q1 : H.at e j = some (.arr 1 (x.q.map Enc.o) false)) => show (sliceM Y 27 (.ref e j 0 x.q.length) none (some (.int .i64 ((x.q.length - 1 : Nat) : Int))) none).run H = some { v := .ref e j 0 (x.q.length - 1) } by simp only [sliceM, Y27, loF, hiF]; rw [if_pos ⟨by decide, by omega, by omega⟩]; simp [RM.run, q1, Y3]
    have hgz : (x.q.map (Enc.o : Int → T))[x.q.length - 1]? = some (.int .i64 z) := by rw [List.getElem?_map, ← List.getLast?_eq_getElem?, hz]; rfl
    have hz0 : 0 ≤ z := hp2.1
    have hzl : z.toNat < v.length := by rw [hv.len]; omega
    have hgv : (tgL (cst k) (v.map Enc.b))[z.toNat]? = some (.nd [.bool v[z.toNat].1, .nd [.int .i64 v[z.toNat].2.1.1, .sl (.r k) (v[z.toNat].2.1.2.1.map Enc.b), .sl (.r k) (v[z.toNat].2.1.2.2.1.map Enc.b)]]) := by
      rw [get_t (cst k) v z.toNat hzl, show (Enc.b v[z.toNat] : T) = .nd [.bool v[z.toNat].1, .nd [.int .i64 v[z.toNat].2.1.1, .sl .b (v[z.toNat].2.1.2.1.map Enc.b), .sl .b (v[z.toNat].2.1.2.2.1.map Enc.b)]] from rfl]
      simp only [T.tg, tgL, tgL_int, cst]
    have hrf : refsA v z.toNat = v[z.toNat].2.1.2.2.1 := by unfold refsA; rw [List.getElem?_eq_getElem hzl]
    have hrr := hv.rf z.toNat
    have hrl := hv.rl z.toNat
    have hdr' : drainF v most n (seeA v most ⟨x.m, x.q.dropLast, x.o⟩ (refsA v z.toNat)) = drn v most s := by rw [← hdr]; simp only [drainF, hz]
    rw [hrf] at hrr hrl hdr'
    generalize hRR : v[z.toNat].2.1.2.2.1 = refs at *
    have fy := And.intro hw (And.intro hltI (And.intro hleI (And.intro hgz (And.intro hz0 (And.intro hgv (And.intro hsl (And.intro Nat.sub_zero (And.intro Nat.zero_add (Int.toNat_natCast)))))))))
    refine goN ?_ ?_ ?_ ?_ ?_ ?_ ?_ ?_ ?_ ?_ ?_ ?_ ?_ ?_ ?_ ?_
    any_goals (first | exact True.intro | skip)
    skip
    refine SW.loop (fun x2 : MS × Nat => ⟨[.ptr 0 0 [] 0, .undef, .undef, .undef, .undef, .undef, .undef, .undef, .undef, .undef, .undef, .undef, .undef, .undef, .undef, .undef, .undef, .undef, .undef, .undef, .undef, .undef, .undef, .undef, .undef, .undef, .undef, .undef, .undef, .undef, .undef, .undef, .undef, .undef, .undef, .undef, .undef, .undef, .undef, .undef, .undef, .undef, .undef, .undef, .undef, .sl (.r k) (refs.map Enc.b), .int .i64 refs.length, .int .i64 x2.2, .undef, .undef, .undef, .undef, .undef, .undef, .undef, .undef, .undef, .undef, .undef, .undef, .undef, .undef, .undef, .undef], [[.var (.nd [.sl (.r k) (tgL (cst k) (v.map Enc.b)), .ref 1 0 0 (x2.1.m).length, .ref 1 1 0 (x2.1.q).length, .int .i64 most, .bool x2.1.o]), .gone, .gone], [.arr 1 ((x2.1.m).map Enc.o) false, .arr 1 ((x2.1.q).map Enc.o) false]]⟩)
      (fun N x2 => N = refs.length - x2.2 ∧ x2.2 ≤ refs.length ∧ Good most x2.1 ∧ x2.1 = seeA v most ⟨x.m, x.q.dropLast, x.o⟩ (refs.take x2.2)) (n := refs.length) (x := (⟨x.m, x.q.dropLast, x.o⟩, 0)) ?_ ⟨rfl, Nat.zero_le _, hp1, rfl⟩ ?_
    · refine Norm.trans (Norm.trunc 1 1 (x.q.length - 1) rfl) ?_
      have htk : (x.q.map (Enc.o : Int → T)).take (x.q.length - 1) = x.q.dropLast.map Enc.o := by rw [← List.map_take, List.dropLast_eq_take]
      simp only [Heap.put, List.getElem?_cons_zero, List.getElem?_cons_succ, List.set_cons_zero, List.set_cons_succ, htk, hdl]
      exact Norm.to 0 rfl (by simp [weakL])
    · rintro N ⟨y, i⟩ ⟨hN, hi, hy, hyy⟩
      simp only at hN hi hy hyy ⊢
      have fy := Nat.add_zero
      refine goS ?_
      refine SW.cond rfl (fun hc2 => ?_) (fun hc2 => ?_)
      · have hlt : i < refs.length := by simp at hc2; omega
        have hgr : (refs.map Enc.b)[i]? = some (T.int .i64 refs[i]) := map_get Enc.b refs i hlt
        have hr := hrr refs[i] (List.getElem_mem hlt)
        have hr0 : 0 ≤ refs[i] := hr.1
        have hrm : refs[i] < (y.m.length : Int) := by rw [hy.ml]; omega
        have hU := unmarked_ok v y most refs[i] hv hy.ml hr
        have hstep : seeA v most ⟨x.m, x.q.dropLast, x.o⟩ (refs.take (i + 1)) = see1 v most y refs[i] := by
          rw [hyy, List.take_add_one, List.getElem?_eq_getElem hlt]; unfold seeA; rw [List.foldl_append]; rfl
        have hwi : IntKind.i64.wrap ((i : Int) + 1) = ((i + 1 : Nat) : Int) := by rw [wrap64 _ (by omega) (by omega)]; omega
        cases hl : lackB v y.m refs[i] with
        | false =>
          rw [hl] at hU
          have hC1 := cx [] (hU)
          have fy := And.intro hgr (And.intro hr0 (And.intro hrm (And.intro hwi (And.intro Nat.zero_add (Int.toNat_natCast)))))
          refine goR ?_ ?_ ?_ ?_ ?_ ?_ ?_ ?_ ?_ ?_ ?_ ?_ ?_ ?_ ?_ ?_
          any_goals (first | exact True.intro | skip)
          all_goals (repeat (refine Wh.mk fun hcc => ?_))
          refine ⟨N - 1, (y, i + 1), by omega, ⟨by simp only; omega, by simp only; omega, hy, ?_⟩, ?_⟩
          · simp only; rw [hstep]; unfold see1; simp [hl]
          · exact Norm.re [0, 1] (by decide) rfl (by simp only [eq_self, heapFits, rowFits, obFits, List.getElem?_cons_zero, List.getElem?_cons_succ, renL_o, renL_b, true_and, and_true, and_self, renL_t, renL_cons, renL_nil, T.ren]) (by simp [tmFits, T.ren])
        | true =>
          rw [hl] at hU
          have hgm : (y.m.map (Enc.o : Bool → T))[refs[i].toNat]? = some (.bool y.m[refs[i].toNat]) := map_get Enc.o y.m _ (by rw [hy.ml]; omega)
          have hsm : (y.m.map (Enc.o : Bool → T)).set refs[i].toNat (.bool true) = (y.m.set refs[i].toNat true).map Enc.o := set_o y.m _ true
          have hml : (y.m.set refs[i].toNat true).length = y.m.length := List.length_set ..
          have hqy := hy.ql
          have hP := put_ok (k + 1) v ⟨y.m.set refs[i].toNat true, y.q, y.o⟩ most refs[i] (by simp only; omega)
          simp only at hP
          have hsee : see1 v most y refs[i] = put1 most ⟨y.m.set refs[i].toNat true, y.q, y.o⟩ refs[i] := by unfold see1; rw [if_pos hl]
          generalize put1 most ⟨y.m.set refs[i].toNat true, y.q, y.o⟩ refs[i] = y' at *
          have hC1 := cx [] (hU)
          have hC2 := cx [.io] (hP)
          have fy := And.intro hgr (And.intro hr0 (And.intro hrm (And.intro hwi (And.intro hgm (And.intro hsm (And.intro ((((((((tgL_up0 (α := SlotT))))))))) (And.intro tgL_up (And.intro tgL_dn (And.intro (((((((((((tgL_dn0 (α := SlotT)))))))))))) (And.intro Nat.zero_add (Int.toNat_natCast)))))))))))
          refine goR ?_ ?_ ?_ ?_ ?_ ?_ ?_ ?_ ?_ ?_ ?_ ?_ ?_ ?_ ?_ ?_
          any_goals (first | exact True.intro | skip)
          all_goals (repeat (refine Wh.mk fun hcc => ?_))
          refine ⟨N - 1, (y', i + 1), by omega, ⟨by simp only; omega, by simp only; omega, by rw [← hsee]; exact hy.see1 hr, by simp only; rw [hstep, hsee]⟩, ?_⟩
          exact Norm.trans (Norm.re [0] (by decide) rfl (by simp [heapFits, rowFits, obFits, T.ren, renL]) (by simp [tmFits, T.ren])) (norm_open k v _ y'.m y'.q most y'.o 0)
      · have hge : i = refs.length := by
          have : ¬ i < refs.length := by simp at hc2; omega
          omega
        subst hge
        rw [List.take_length] at hyy
        have fy := Nat.add_zero
        refine goR ?_ ?_ ?_ ?_ ?_ ?_ ?_ ?_ ?_ ?_ ?_ ?_ ?_ ?_ ?_ ?_
        any_goals (first | exact True.intro | skip)
        all_goals (repeat (refine Wh.mk fun hcc => ?_))
        exact ⟨n, y, by omega, ⟨by omega, hy, by rw [hyy]; exact hdr'⟩, Norm.re [0, 1] (by decide) rfl (by simp only [eq_self, heapFits, rowFits, obFits, List.getElem?_cons_zero, List.getElem?_cons_succ, renL_o, renL_b, true_and, and_true, and_self, renL_t, renL_cons, renL_nil, T.ren]) (by simp [tmFits, T.ren])⟩
  · have hq0 : x.q = [] := by simp at hc; exact hc
    have hxd : x = drn v most s := by rw [← hdr]; cases n <;> simp [drainF, hq0]
    rw [← hxd]
    have fy := Nat.add_zero
    refine goR ?_ ?_ ?_ ?_ ?_ ?_ ?_ ?_ ?_ ?_ ?_ ?_ ?_ ?_ ?_ ?_
    any_goals (first | exact True.intro | skip)
    all_goals (repeat (refine Wh.mk fun hcc => ?_))
    refine (show RetQ _ _ _ _ _ _ _ from ⟨.inl rfl, [], [], [], ?_, ⟨rfl, ?_, rfl, rfl, ?_, rfl⟩⟩)
    rotate_left
    · (simp [-List.map_set, -List.map_append, pass1, modeOf, giveS, giveSL, Heap.at, Heap.put, fixEs, ioAt, ioAtT, ioKs, ioKT, ioM, ioT, thawA, thawAL, T.asArr, T.cel, T.clo, cloL, T.cloA, cloAL]; rfl)
    · simp [-List.map_set, -List.map_append, cloOL, T.cloO, T.asArr, T.clo, cloL]
end Q6

namespace Q6
open Go Go.Vm Go.Proofs
set_option maxHeartbeats 4000000
set_option synthInstance.maxSize 2000
set_option synthInstance.maxHeartbeats 400000
set_option maxRecDepth 10000
set_option linter.unusedSimpArgs false
set_option linter.unusedVariables false

theorem cloneB_ok (l : List Bool) (hl : l.length ≤ 1048576) : CallR Try.prog 57 [.sl .b (l.map Enc.b)] [] (.ow 1 (l.map Enc.o)) := by
  refine CallR.of_body (n := 8) (rs := [.tmp 2]) hY.ok Try.func57 rfl (by decide) rfl rfl rfl rfl (fun F => ?_)
  have fx := And.intro Y4 (Y29)
  have hap := @append_run Y 2 29 29 1 0 0 0 4 1 1 _ .b [] (l.map Enc.b) [[], [.arr 1 [] false], []] Y29 Y29 Y4 rfl (by decide) rfl (by simp) (by simp; omega) (nwL_b l) (fun z hz => by have := List.mem_of_mem_take hz; obtain ⟨x, _, rfl⟩ := List.mem_map.1 this; rfl)
  have hbo : l.map (Enc.b : Bool → T) = l.map Enc.o := rfl
  simp only [List.drop_nil, List.take_nil, List.nil_append, List.length_map, Nat.zero_add, kill] at hap
  refine SW.ops_seq hY fun y1 hy1 => ?_
  simp only [k13, upT_g, dnT_g, nb_g, dnT_b, dnT_s, dnT_0, dnT_r, fx, wo, decide_true, decide_false, wz0, wz1, wz2, wz3, wz4, wz5, wz6, wz7, wz8, appM, Ty.isInt, capT, appendZM, buildM, setAll, plSt, plAr, mnmx, Int.reduceLT, vrec, List.drop_succ_cons, List.drop_zero, convertM, indexM, fieldM, Int.toNat_zero, Int.toNat_one, Int.le_refl, Int.zero_le_ofNat, Int.reduceEq, Int.reduceNe, ne_eq, not_false_eq_true, u8_wrap, marksG_len, marks_len, bne_self_eq_false, take_map_len, tgL_byte, T.asArr, T.tg, tgL, indexAddrM, wk, wl, eq_self, isCall, callT, opM, S.ev, S.put, entryS, thawAL, thawA, RM.run, RM.bind, RM.ofOpt, allocs, Heap.ups, Heap.put, Heap.at, List.replicate, Nat.reduceAdd, Nat.reduceSub, ofConst, nilAs, if_false, if_true, binT, binTy, unT, guardT, quietK, reduceIte, boxM, allocM, loadM, storeM, fieldAddrM, lenT, extractT, subM, setOb, T.get, T.setp, T.offs, T.nw, nwL, T.cel, T.isNd, T.size, sizeL, TyI.agg, Ty.agg, Ty.isFn, zeroT, Nat.reduceLT, Nat.reduceEqDiff, sumT, kill]
  subst hy1
  refine SW.seq ?_
  refine SW.seq ?_
  refine SW.nilq hY rfl (by rw [Y29]) (by rw [Y29]; decide) (by simp) fun b hb => ?_
  simp only [thenS, List.set_cons_succ, List.set_cons_zero]
  cases b with
  | true =>
    have hl0 : l = [] := by cases l with | nil => rfl | cons x m => exact absurd (hb (by simp)) (by decide)
    subst hl0
    have fy := Nat.add_zero
    refine goK ?_ ?_ ?_ ?_ ?_ ?_ ?_ ?_ ?_ ?_ ?_ ?_ ?_ ?_ ?_ ?_
    any_goals (first | exact True.intro | skip)
    all_goals (repeat (refine Wh.mk fun hcc => ?_))
    all_goals simp [tupOf, fixEs]
  | false =>
    have fy := And.intro bs0_29 (hap)
    refine goR ?_ ?_ ?_ ?_ ?_ ?_ ?_ ?_ ?_ ?_ ?_ ?_ ?_ ?_ ?_ ?_
    any_goals (first | exact True.intro | skip)
    all_goals (repeat (refine Wh.mk fun hcc => ?_))
    rw [hbo]
    exact SW.ret (show RetQ _ _ _ _ _ _ _ from RetQ.y [1] [.ow 1 (l.map Enc.o)])
end Q6
