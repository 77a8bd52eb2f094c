/- Shows what the parts of the program do that the claim reaches: a machine of values over the model, and the contracts of functions, for all arguments within the lengths that each theorem names. -/
import Derived.Test.YtlffogdkmdafiaaXMarkP2
import Derived.Test.YtlffogdkmdafiaaVm4
import Derived.Test.YtlffogdkmdafiaaXMarkP1
set_option linter.all false

namespace Q1
open Go Go.Vm Go.Proofs
set_option maxHeartbeats 4000000
set_option synthInstance.maxSize 2000
set_option synthInstance.maxHeartbeats 400000
set_option maxRecDepth 10000
set_option linter.unusedSimpArgs false
set_option linter.unusedVariables false


def callB (l : List SlotT) (a : Int) : Bool := viewB l && (decide (a ≥ 1) && decide (a ≤ 31))
noncomputable def reachR (l : List SlotT) (a : Int) : List Int := if callB l a then idxs (mrk (reachL l a.toNat)) 32 else []
def garbP (l : List SlotT) (m : List Bool) (i : Nat) : Bool := hasA l i && !mrk m i
noncomputable def garbR (l : List SlotT) (a : Int) : List Int := if callB l a then idxs (garbP l (reachL l a.toNat)) 32 else []
theorem callB_t {l : List SlotT} {a : Int} (hv : viewB l = true) (ha : 1 ≤ a ∧ a ≤ 31) : callB l a = true := by simp [callB, hv, ha]
theorem callB_c {l : List SlotT} {a : Int} (h : callB l a = true) : viewB l = true ∧ 1 ≤ a ∧ a ≤ 31 := by simpa [callB] using h

theorem l11Call_ok (l : List SlotT) (hl : Enc.lim 1048576 l) (a : Int) : CallR Try.prog 87 [.sl .b (l.map Enc.b), .int .i64 a] [] (.bool (callB l a)) := by
  refine CallR.of_body (n := 11) (rs := [.tmp 4]) hY.ok Try.func87 rfl (by decide) rfl rfl rfl rfl (fun F => ?_)
  repeat' first
    | ((have hk8 := Nat.add_zero); (first | refine SW.ops_seq hY fun y1 hy1 => ?_ | refine SW.ops hY ?_ | refine vcall_to [] (specViewOk_ok l hl) rfl (by first | rfl | (simp [pass2, T.tg, tgL, upT, lendM, lendA, lendAL, elemsM, Heap.at, RM.bind, RM.run]; done) | (simp [pass2, T.tg, tgL, upT, lendM, lendA, lendAL, elemsM, Heap.at, RM.bind, RM.run]; rfl)) (by first | rfl | simp [resClo, T.clo, cloL, T.clP, clPL]) rfl ?_ | refine vcall_to [] (l1In_ok _ _ _) rfl (by first | rfl | (simp [pass2, T.tg, tgL, upT, lendM, lendA, lendAL, elemsM, Heap.at, RM.bind, RM.run]; done) | (simp [pass2, T.tg, tgL, upT, lendM, lendA, lendAL, elemsM, Heap.at, RM.bind, RM.run]; rfl)) (by first | rfl | simp [resClo, T.clo, cloL, T.clP, clPL]) rfl ?_ | (simp only [k8]; refine ⟨fun hb => ?_, fun hb => ?_⟩ <;> (try replace hb := Bool.eq_false_iff.2 hb) <;> (first | exact absurd hb (by decide) | replace hk8 := hb))) <;> (simp only [hk8, T.asArr, T.tg, tgL, dnT, indexAddrM, wk, wl, eq_self, isCall, callT, opM, S.ev, S.put, entryS, thawAL, thawA, RM.run, RM.bind, RM.ofOpt, allocs, Heap.ups, Heap.put, Heap.at, List.replicate, Nat.reduceAdd, Nat.reduceSub, ofConst, nilAs, if_false, if_true, binT, binTy, unT, guardT, pickT, quietK, stripT, openT, reduceIte, boxM, allocM, loadM, storeM, fieldAddrM, lenT, extractT, subM, setOb, T.get, T.setp, T.offs, T.nw, nwL, T.cel, T.isNd, T.size, sizeL, TyI.agg, Ty.agg, Ty.isFn, zeroT, Nat.reduceLT, Nat.reduceEqDiff, sumT, kill, Y3, Y4, Y24, Y27, Y30, Y32]; clear hk8; first | subst hy1 | (try simp only [thenS, blockS, if_true, if_false, Nat.reduceEqDiff, reduceIte])))
    | exact absurd trivial hb
    | exact absurd hb (by decide)
    | exact absurd hcc (by decide)
    | refine SW.seq ?_
    | refine SW.block ?_
    | (refine SW.cond rfl (fun hcc => ?_) (fun hcc => ?_))
    | (refine SW.exit ?_; simp only [thenS, blockS, if_true, if_false, Nat.reduceEqDiff, reduceIte])
    | (refine SW.skip ?_; simp only [thenS, blockS])
    | refine SW.ret (show RetQ _ _ _ _ _ _ _ from ⟨.inr rfl, [_], [1], [_], _, rfl, rfl, rfl, rfl, rfl, ?_⟩)
  all_goals ((try simp only [tupOf, fixEs]); (first | (done) | (simp_all [callB]; done) | grind [callB]))
end Q1

namespace Q1
open Go Go.Vm Go.Proofs
set_option maxHeartbeats 4000000
set_option synthInstance.maxSize 2000
set_option synthInstance.maxHeartbeats 400000
set_option maxRecDepth 10000
set_option linter.unusedSimpArgs false
set_option linter.unusedVariables false


theorem slotCost_nn (s : SlotT) : 0 ≤ slotCost s := by unfold slotCost; omega
theorem markK_nn : ∀ (l : List SlotT) (k : Int), 0 ≤ k → 0 ≤ markK l k
  | [], k, h => h
  | s :: l, k, h => markK_nn l _ (by have := slotCost_nn s; omega)
theorem reachR_len (l : List SlotT) (a : Int) : (reachR l a).length ≤ 32 := by
  unfold reachR; split
  · exact idxs_len _ _
  · simp
theorem garbR_len (l : List SlotT) (a : Int) : (garbR l a).length ≤ 32 := by
  unfold garbR; split
  · exact idxs_len _ _
  · simp

end Q1

namespace Q1
open Go Go.Vm

/-! ### marking with a stack of so many places: the plain law -/
structure MS where
  m : List Bool
  q : List Int
  o : Bool

def lackB (v : List SlotT) (m : List Bool) (r : Int) : Bool := hasA v r.toNat && !mrk m r.toNat
def put1 (most : Int) (s : MS) (r : Int) : MS := if (s.q.length : Int) < most then ⟨s.m, s.q ++ [r], s.o⟩ else ⟨s.m, s.q, true⟩
def see1 (v : List SlotT) (most : Int) (s : MS) (r : Int) : MS := if lackB v s.m r = true then put1 most ⟨s.m.set r.toNat true, s.q, s.o⟩ r else s
def seeA (v : List SlotT) (most : Int) (s : MS) (l : List Int) : MS := l.foldl (see1 v most) s
def drainF (v : List SlotT) (most : Int) : Nat → MS → MS
  | 0, s => s
  | n + 1, s => match s.q.getLast? with
    | none => s
    | some x => drainF v most n (seeA v most ⟨s.m, s.q.dropLast, s.o⟩ (refsA v x.toNat))
def drn (v : List SlotT) (most : Int) (s : MS) : MS := drainF v most 200 s
def lacks (v : List SlotT) (m : List Bool) (i : Nat) : Bool := (refsA v i).any (lackB v m)
def scan1 (v : List SlotT) (most : Int) (s : MS) (i : Nat) : MS := if (mrk s.m i && lacks v s.m i) = true then put1 most s (i : Int) else s
def scanA (v : List SlotT) (most : Int) (s : MS) (n : Nat) : MS := (List.range n).foldl (scan1 v most) ⟨s.m, s.q, false⟩
/-- 'd': behind a drain -/
def outD (v : List SlotT) (most : Int) : Nat → MS → Nat → List Bool × Nat
  | 0, d, t => (d.m, t)
  | n + 1, d, t => if d.o = true then outD v most n (drn v most (scanA v most d 32)) (t + 1) else (d.m, t)
def outOk (v : List SlotT) (most : Int) : Nat → MS → Prop
  | 0, d => d.o = false
  | n + 1, d => d.o = true → outOk v most n (drn v most (scanA v most d 32))
def ms0 (v : List SlotT) (root : Nat) : MS := if hasA v root = true then ⟨(List.replicate 32 false).set root true, [(root : Int)], false⟩ else ⟨List.replicate 32 false, [], false⟩
def markR (v : List SlotT) (root : Nat) (most : Int) : List Bool × Nat := outD v most 34 (drn v most (ms0 v root)) 0

structure Good (most : Int) (s : MS) : Prop where
  ml : s.m.length = 32
  ql : (s.q.length : Int) ≤ most
  qr : ∀ x ∈ s.q, 0 ≤ x ∧ x ≤ 31
def meas (s : MS) : Nat := 2 * s.m.count false + s.q.length

theorem lackB_lt {v : List SlotT} {m : List Bool} {r : Int} : lackB v m r = true → mrk m r.toNat = false := by
  unfold lackB; intro h; simp at h; exact h.2

theorem Good.put1 {most : Int} {s : MS} {r : Int} (h : Good most s) (hr : 0 ≤ r ∧ r ≤ 31) : Good most (put1 most s r) := by
  unfold Q1.put1
  split
  · rename_i hlt
    refine ⟨h.ml, by simp only [List.length_append, List.length_singleton]; omega, fun x hx => ?_⟩
    rcases List.mem_append.1 hx with hx | hx
    · exact h.qr x hx
    · simp at hx; subst hx; exact hr
  · exact ⟨h.ml, h.ql, h.qr⟩
theorem put1_m {most : Int} {s : MS} {r : Int} : (put1 most s r).m = s.m := by unfold put1; split <;> rfl
theorem put1_meas {most : Int} {s : MS} {r : Int} : meas (put1 most s r) ≤ meas s + 1 := by
  unfold put1 meas; split <;> simp <;> omega

theorem Good.see1 {v : List SlotT} {most : Int} {s : MS} {r : Int} (h : Good most s) (hr : 0 ≤ r ∧ r ≤ 31) : Good most (see1 v most s r) := by
  unfold Q1.see1
  split
  · exact Good.put1 ⟨by simp [h.ml], h.ql, h.qr⟩ hr
  · exact h
theorem cnt_mark {m : List Bool} {r : Int} (hl : m.length = 32) (hr : 0 ≤ r ∧ r ≤ 31) (h : mrk m r.toNat = false) : (m.set r.toNat true).count false + 1 = m.count false := cnt_set (by omega) h
theorem see1_cnt {v : List SlotT} {most : Int} {s : MS} {r : Int} (h : Good most s) (hr : 0 ≤ r ∧ r ≤ 31) :
    (see1 v most s r).m.count false ≤ s.m.count false ∧ meas (see1 v most s r) ≤ meas s ∧ (lackB v s.m r = true → (see1 v most s r).m.count false < s.m.count false) := by
  unfold see1
  split
  · rename_i hl
    have h1 := cnt_mark h.ml hr (lackB_lt hl)
    have h2 := put1_meas (most := most) (s := ⟨s.m.set r.toNat true, s.q, s.o⟩) (r := r)
    rw [put1_m]
    refine ⟨by simp only; omega, ?_, fun _ => by simp only; omega⟩
    unfold meas at *
    simp only at h2 ⊢
    omega
  · rename_i hl
    exact ⟨Nat.le_refl _, Nat.le_refl _, fun h => absurd h hl⟩

theorem seeA_ok {v : List SlotT} {most : Int} : ∀ (l : List Int) {s : MS}, Good most s → (∀ r ∈ l, 0 ≤ r ∧ r ≤ 31) →
    Good most (seeA v most s l) ∧ (seeA v most s l).m.count false ≤ s.m.count false ∧ meas (seeA v most s l) ≤ meas s
  | [], s, h, _ => ⟨h, Nat.le_refl _, Nat.le_refl _⟩
  | r :: l, s, h, hr => by
    have h1 := h.see1 (v := v) (hr r (by simp))
    obtain ⟨h2, h3, _⟩ := see1_cnt (v := v) h (hr r (by simp))
    obtain ⟨h4, h5, h6⟩ := seeA_ok l h1 (fun x hx => hr x (by simp [hx]))
    exact ⟨h4, Nat.le_trans h5 h2, Nat.le_trans h6 h3⟩
theorem seeA_lt {v : List SlotT} {most : Int} : ∀ (l : List Int) {s : MS}, Good most s → (∀ r ∈ l, 0 ≤ r ∧ r ≤ 31) → l.any (lackB v s.m) = true → (seeA v most s l).m.count false < s.m.count false
  | [], s, h, _, ha => by simp at ha
  | r :: l, s, h, hr, ha => by
    have h1 := h.see1 (v := v) (hr r (by simp))
    obtain ⟨h2, h3, hlt⟩ := see1_cnt (v := v) h (hr r (by simp))
    obtain ⟨h4, h5, h6⟩ := seeA_ok (v := v) l h1 (fun x hx => hr x (by simp [hx]))
    cases hl : lackB v s.m r with
    | true => exact Nat.lt_of_le_of_lt h5 (hlt hl)
    | false =>
      have : see1 v most s r = s := by unfold see1; simp [hl]
      simp only [List.any_cons, hl, Bool.false_or] at ha
      show (seeA v most (see1 v most s r) l).m.count false < _
      rw [this]
      exact seeA_lt l h (fun x hx => hr x (by simp [hx])) ha

theorem last_of {q : List Int} {x : Int} (h : q.getLast? = some x) : q = q.dropLast ++ [x] ∧ x ∈ q := by
  have hne : q ≠ [] := by intro e; subst e; simp at h
  have h2 := List.dropLast_concat_getLast hne
  rw [List.getLast?_eq_some_getLast hne, Option.some.injEq] at h
  rw [h] at h2
  exact ⟨h2.symm, by rw [← h2]; simp⟩

theorem Good.pop {most : Int} {s : MS} {x : Int} (h : Good most s) (hx : s.q.getLast? = some x) : Good most ⟨s.m, s.q.dropLast, s.o⟩ ∧ (0 ≤ x ∧ x ≤ 31) ∧ meas ⟨s.m, s.q.dropLast, s.o⟩ + 1 = meas s := by
  obtain ⟨h1, h2⟩ := last_of hx
  have hlen : s.q.length = s.q.dropLast.length + 1 := by have := congrArg List.length h1; simpa using this
  refine ⟨⟨h.ml, by have := h.ql; simp only; omega, fun y hy => h.qr y (List.dropLast_subset _ hy)⟩, h.qr x h2, ?_⟩
  unfold meas; simp only; omega

theorem drainF_ok {v : List SlotT} (hv : VOk v) {most : Int} : ∀ (n : Nat) {s : MS}, Good most s → meas s ≤ n →
    Good most (drainF v most n s) ∧ (drainF v most n s).q = [] ∧ (drainF v most n s).m.count false ≤ s.m.count false
  | 0, s, h, hm => ⟨h, by unfold meas at hm; exact List.length_eq_zero_iff.1 (by show s.q.length = 0; omega), Nat.le_refl _⟩
  | n + 1, s, h, hm => by
    unfold drainF
    cases hx : s.q.getLast? with
    | none => exact ⟨h, by simpa using hx, Nat.le_refl _⟩
    | some x =>
      obtain ⟨h1, h2, h3⟩ := h.pop hx
      obtain ⟨h4, h5, h6⟩ := seeA_ok (v := v) (refsA v x.toNat) h1 (hv.rf _)
      obtain ⟨h7, h8, h9⟩ := drainF_ok hv n h4 (by omega)
      exact ⟨h7, h8, Nat.le_trans h9 h5⟩

theorem Good.meas {most : Int} {s : MS} (h : Good most s) (hm : most ≤ 40) : meas s ≤ 200 := by
  unfold Q1.meas
  have h1 := h.ql
  have h2 : s.m.count false ≤ s.m.length := List.count_le_length
  have := h.ml
  omega

theorem drn_ok {v : List SlotT} (hv : VOk v) {most : Int} (hm : most ≤ 40) {s : MS} (h : Good most s) : Good most (drn v most s) ∧ (drn v most s).q = [] ∧ (drn v most s).m.count false ≤ s.m.count false :=
  drainF_ok hv 200 h (h.meas hm)
theorem drn_nil {v : List SlotT} {most : Int} {s : MS} (h : s.q = []) : drn v most s = s := by
  unfold drn; simp [drainF, h]
theorem drn_lt {v : List SlotT} (hv : VOk v) {most : Int} (hm : most ≤ 40) {s : MS} (h : Good most s) {x : Int} (hx : s.q.getLast? = some x) (hl : lacks v s.m x.toNat = true) : (drn v most s).m.count false < s.m.count false := by
  obtain ⟨h1, h2, h3⟩ := h.pop hx
  obtain ⟨h4, h5, h6⟩ := seeA_ok (v := v) (refsA v x.toNat) h1 (hv.rf _)
  have h7 := seeA_lt (v := v) (refsA v x.toNat) h1 (hv.rf _) hl
  have hme := h.meas hm
  obtain ⟨_, _, h8⟩ := drainF_ok hv 199 h4 (by omega)
  unfold drn
  show (drainF v most (199 + 1) s).m.count false < _
  rw [drainF, hx]
  exact Nat.lt_of_le_of_lt h8 h7

theorem scanA_ok {v : List SlotT} {most : Int} (h0 : 1 ≤ most) {d : MS} (h : Good most d) (hq : d.q = []) : ∀ n, n ≤ 32 →
    Good most (scanA v most d n) ∧ (scanA v most d n).m = d.m ∧ (∀ x ∈ (scanA v most d n).q, lacks v d.m x.toNat = true) ∧ ((scanA v most d n).o = true → (scanA v most d n).q ≠ [])
  | 0, _ => by
    refine ⟨⟨h.ml, h.ql, h.qr⟩, rfl, ?_, ?_⟩
    · rw [show (scanA v most d 0).q = d.q from rfl, hq]
      intro x hx; cases hx
    · intro e; cases e
  | n + 1, hn => by
    obtain ⟨h1, h2, h3, h4⟩ := scanA_ok h0 h hq n (by omega)
    have e : scanA v most d (n + 1) = scan1 v most (scanA v most d n) n := by unfold scanA; rw [List.range_succ, List.foldl_append]; rfl
    rw [e]
    unfold scan1
    split
    · rename_i hc
      rw [Bool.and_eq_true, h2] at hc
      refine ⟨h1.put1 ⟨by omega, by omega⟩, by rw [put1_m]; exact h2, fun x hx => ?_, fun ho => ?_⟩
      · unfold put1 at hx
        split at hx
        · rcases List.mem_append.1 hx with hx | hx
          · exact h3 x hx
          · simp at hx; subst hx; simpa using hc.2
        · exact h3 x hx
      · unfold put1
        split
        · simp
        · rename_i hlt
          intro e
          have e' : (scanA v most d n).q = [] := e
          rw [e'] at hlt
          simp at hlt; omega
    · exact ⟨h1, h2, h3, h4⟩

theorem outOk_of {v : List SlotT} (hv : VOk v) {most : Int} (h0 : 1 ≤ most) (hm : most ≤ 40) : ∀ (n : Nat) {d : MS}, Good most d → d.q = [] → d.m.count false + 2 ≤ n → outOk v most n d
  | 0, d, _, _, hn => by omega
  | n + 1, d, h, hq, hn => fun ho => by
    obtain ⟨h1, h2, h3, h4⟩ := scanA_ok (v := v) h0 h hq 32 (by omega)
    cases hx : (scanA v most d 32).q.getLast? with
    | none =>
      have hnil : (scanA v most d 32).q = [] := by simpa using hx
      rw [drn_nil hnil]
      have hof : (scanA v most d 32).o = false := by
        cases hh : (scanA v most d 32).o with
        | false => rfl
        | true => exact absurd hnil (h4 hh)
      cases n with
      | zero => exact hof
      | succ n => intro h'; rw [hof] at h'; cases h'
    | some x =>
      have hl := h3 x (last_of hx).2
      have := drn_lt hv hm h1 hx (by rw [h2]; exact hl)
      obtain ⟨h5, h6, h7⟩ := drn_ok hv hm h1
      refine outOk_of hv h0 hm n h5 h6 ?_
      rw [h2] at this; omega

theorem ms0_good {v : List SlotT} {root : Nat} {most : Int} (h0 : 1 ≤ most) (hr : root ≤ 31) : Good most (ms0 v root) := by
  unfold ms0
  split
  · exact ⟨by simp, by simp; omega, fun x hx => by simp at hx; subst hx; omega⟩
  · exact ⟨by simp, by simp; omega, fun x hx => by cases hx⟩

theorem cnt_le32 {most : Int} {s : MS} (h : Good most s) : s.m.count false ≤ 32 := by rw [← h.ml]; exact List.count_le_length

theorem outD_len {v : List SlotT} (hv : VOk v) {most : Int} (h0 : 1 ≤ most) (hm : most ≤ 40) : ∀ (n : Nat) {d : MS} (t : Nat), Good most d → d.q = [] → (outD v most n d t).1.length = 32 ∧ (outD v most n d t).2 ≤ t + n
  | 0, d, t, h, _ => ⟨h.ml, by simp [outD]⟩
  | n + 1, d, t, h, hq => by
    unfold outD
    split
    · obtain ⟨h1, h2, h3, h4⟩ := scanA_ok (v := v) h0 h hq 32 (by omega)
      obtain ⟨h5, h6, h7⟩ := drn_ok hv hm h1
      have := outD_len hv h0 hm n (t + 1) h5 h6
      exact ⟨this.1, by omega⟩
    · exact ⟨h.ml, by simp⟩
end Q1

namespace Q1
open Go Go.Vm Go.Proofs
set_option maxHeartbeats 4000000
set_option synthInstance.maxSize 2000
set_option synthInstance.maxHeartbeats 400000
set_option maxRecDepth 10000
set_option linter.unusedSimpArgs false
set_option linter.unusedVariables false

theorem put_y (k : Nat) (v : List SlotT) (s : MS) (most r : Int) (hq : s.q.length ≤ 1000) (hlt : (s.q.length : Int) < most) : CallR Try.prog 73 [.io (.nd [.sl (.r k) (tgL (cst k) (v.map Enc.b)), .ow 1 ((s.m).map Enc.o), .ow 1 ((s.q).map Enc.o), .int .i64 most, .bool s.o]), .int .i64 r] [.nd [.sl (.r k) (tgL (cst k) (v.map Enc.b)), .ow 1 (((⟨s.m, s.q ++ [r], s.o⟩ : MS).m).map Enc.o), .ow 1 (((⟨s.m, s.q ++ [r], s.o⟩ : MS).q).map Enc.o), .int .i64 most, .bool (⟨s.m, s.q ++ [r], s.o⟩ : MS).o]] (.tup []) := by
  refine CallR.of_body (n := 27) (rs := []) hY.ok Try.func73 rfl (by decide) rfl rfl rfl rfl (fun F => ?_)
  have hd : decide ((s.q.length : Int) ≥ most) = false := by simp; omega
  have ha := append_runP (Y := Y) (H := [[.var (.nd [.sl (.r k) (tgL (cst k) (v.map Enc.b)), .ref 0 1 0 s.m.length, .ref 0 2 0 s.q.length, .int .i64 most, .bool s.o]), .arr 1 (s.m.map Enc.o) false, .arr 1 (s.q.map Enc.o) false], [.arr 1 [.int .i64 r] false], []]) (own := 2) (t := 27) (u := 27) (e := 0) (j := 2) (off := 0) (n := s.q.length) (e2 := 1) (j2 := 0) (f := (s.q.map Enc.o)) (l := s.q) (x := r) Y27 Y27 Y3 rfl (by decide) rfl rfl (by simp) (by simp) (by omega) rfl rfl
  repeat' first
    | ((have hk8 := Nat.add_zero); (first | refine SW.ops_seq hY fun y1 hy1 => ?_ | refine SW.ops hY ?_ | refine SW.draw_seq hY mixed (by kernel_rfl) fun y1 hy1 => ?_ | refine SW.draw hY mixed (by kernel_rfl) ?_ | (simp only [k8]; refine ⟨fun hb => ?_, fun hb => ?_⟩ <;> (try replace hb := Bool.eq_false_iff.2 hb) <;> (first | exact absurd hb (by decide) | replace hk8 := hb))) <;> (simp only [hk8, hd, bs1_27, ha, T.asArr, T.tg, tgL, dnT, indexAddrM, wk, wl, eq_self, isCall, callT, opM, S.ev, S.put, entryS, thawAL, thawA, RM.run, RM.bind, RM.ofOpt, allocs, Heap.ups, Heap.put, Heap.at, List.replicate, Nat.reduceAdd, Nat.reduceSub, ofConst, nilAs, if_false, if_true, binT, binTy, unT, guardT, pickT, quietK, stripT, openT, reduceIte, boxM, allocM, loadM, storeM, fieldAddrM, lenT, extractT, subM, setOb, T.get, T.setp, T.offs, T.nw, nwL, T.cel, T.isNd, T.size, sizeL, TyI.agg, Ty.agg, Ty.isFn, zeroT, Nat.reduceLT, Nat.reduceEqDiff, sumT, kill, Y1, Y2, Y3, Y4, Y24, Y27, Y30, Y32, Y37, Y92, Y94]; clear hk8; first | subst hy1 | (try simp only [thenS, blockS, if_true, if_false, Nat.reduceEqDiff, reduceIte])))
    | exact absurd trivial hb
    | exact absurd hb (by decide)
    | exact absurd hcc (by decide)
    | refine SW.seq ?_
    | refine SW.block ?_
    | (refine SW.cond rfl (fun hcc => ?_) (fun hcc => ?_))
    | (refine SW.exit ?_; simp only [thenS, blockS, if_true, if_false, Nat.reduceEqDiff, reduceIte])
    | (refine SW.skip ?_; simp only [thenS, blockS])
    | refine SW.ret (show RetQ _ _ _ _ _ _ _ from ⟨.inr rfl, [], [], [], ?_, ⟨rfl, ?_, rfl, rfl, ?_, rfl⟩⟩)
  refine (show RetQ _ _ _ _ _ _ _ from ⟨.inl rfl, [], [], [], ?_, ⟨rfl, ?_, rfl, rfl, ?_, rfl⟩⟩)
  rotate_left
  · (simp [-List.map_set, -List.map_append, pass1, modeOf, giveS, giveSL, Heap.at, Heap.put, fixEs, ioAt, ioKs, ioM, ioT, thawA, thawAL, T.asArr, T.cel, T.clo, cloL, T.cloA, cloAL]; rfl)
  · simp [-List.map_set, -List.map_append, cloOL, T.cloO, T.asArr, T.clo, cloL]
theorem put_n (k : Nat) (v : List SlotT) (s : MS) (most r : Int) (hq : s.q.length ≤ 1000) (hlt : ¬ (s.q.length : Int) < most) : CallR Try.prog 73 [.io (.nd [.sl (.r k) (tgL (cst k) (v.map Enc.b)), .ow 1 ((s.m).map Enc.o), .ow 1 ((s.q).map Enc.o), .int .i64 most, .bool s.o]), .int .i64 r] [.nd [.sl (.r k) (tgL (cst k) (v.map Enc.b)), .ow 1 (((⟨s.m, s.q, true⟩ : MS).m).map Enc.o), .ow 1 (((⟨s.m, s.q, true⟩ : MS).q).map Enc.o), .int .i64 most, .bool (⟨s.m, s.q, true⟩ : MS).o]] (.tup []) := by
  refine CallR.of_body (n := 27) (rs := []) hY.ok Try.func73 rfl (by decide) rfl rfl rfl rfl (fun F => ?_)
  have hd : decide ((s.q.length : Int) ≥ most) = true := by simp; omega
  repeat' first
    | ((have hk8 := Nat.add_zero); (first | refine SW.ops_seq hY fun y1 hy1 => ?_ | refine SW.ops hY ?_ | refine SW.draw_seq hY mixed (by kernel_rfl) fun y1 hy1 => ?_ | refine SW.draw hY mixed (by kernel_rfl) ?_ | (simp only [k8]; refine ⟨fun hb => ?_, fun hb => ?_⟩ <;> (try replace hb := Bool.eq_false_iff.2 hb) <;> (first | exact absurd hb (by decide) | replace hk8 := hb))) <;> (simp only [hk8, hd, bs1_27, T.asArr, T.tg, tgL, dnT, indexAddrM, wk, wl, eq_self, isCall, callT, opM, S.ev, S.put, entryS, thawAL, thawA, RM.run, RM.bind, RM.ofOpt, allocs, Heap.ups, Heap.put, Heap.at, List.replicate, Nat.reduceAdd, Nat.reduceSub, ofConst, nilAs, if_false, if_true, binT, binTy, unT, guardT, pickT, quietK, stripT, openT, reduceIte, boxM, allocM, loadM, storeM, fieldAddrM, lenT, extractT, subM, setOb, T.get, T.setp, T.offs, T.nw, nwL, T.cel, T.isNd, T.size, sizeL, TyI.agg, Ty.agg, Ty.isFn, zeroT, Nat.reduceLT, Nat.reduceEqDiff, sumT, kill, Y1, Y2, Y3, Y4, Y24, Y27, Y30, Y32, Y37, Y92, Y94]; clear hk8; first | subst hy1 | (try simp only [thenS, blockS, if_true, if_false, Nat.reduceEqDiff, reduceIte])))
    | exact absurd trivial hb
    | exact absurd hb (by decide)
    | exact absurd hcc (by decide)
    | refine SW.seq ?_
    | refine SW.block ?_
    | (refine SW.cond rfl (fun hcc => ?_) (fun hcc => ?_))
    | (refine SW.exit ?_; simp only [thenS, blockS, if_true, if_false, Nat.reduceEqDiff, reduceIte])
    | (refine SW.skip ?_; simp only [thenS, blockS])
    | refine SW.ret (show RetQ _ _ _ _ _ _ _ from ⟨.inr rfl, [], [], [], ?_, ⟨rfl, ?_, rfl, rfl, ?_, rfl⟩⟩)
  rotate_left
  · (simp [-List.map_set, -List.map_append, pass1, modeOf, giveS, giveSL, Heap.at, Heap.put, fixEs, ioAt, ioKs, ioM, ioT, thawA, thawAL, T.asArr, T.cel, T.clo, cloL, T.cloA, cloAL]; rfl)
  · simp [-List.map_set, -List.map_append, cloOL, T.cloO, T.asArr, T.clo, cloL]
theorem put_ok (k : Nat) (v : List SlotT) (s : MS) (most r : Int) (hq : s.q.length ≤ 1000) : CallR Try.prog 73 [.io (.nd [.sl (.r k) (tgL (cst k) (v.map Enc.b)), .ow 1 ((s.m).map Enc.o), .ow 1 ((s.q).map Enc.o), .int .i64 most, .bool s.o]), .int .i64 r] [.nd [.sl (.r k) (tgL (cst k) (v.map Enc.b)), .ow 1 (((put1 most s r).m).map Enc.o), .ow 1 (((put1 most s r).q).map Enc.o), .int .i64 most, .bool (put1 most s r).o]] (.tup []) := by
  unfold put1
  by_cases h : (s.q.length : Int) < most
  · rw [if_pos h]; exact put_y k v s most r hq h
  · rw [if_neg h]; exact put_n k v s most r hq h
theorem unmarked_ok (v : List SlotT) (s : MS) (most r : Int) (hv : VOk v) (hm : s.m.length = 32) (hr : 0 ≤ r ∧ r ≤ 31) : CallR Try.prog 77 [.fp (.nd [.sl .b (v.map Enc.b), .sl .b (s.m.map Enc.b), .sl .b (s.q.map Enc.b), .int .i64 most, .bool s.o]), .int .i64 r] [] (.bool (lackB v s.m r)) := by
  refine CallR.of_body (n := 27) (rs := [.tmp 4]) hY.ok Try.func77 rfl (by decide) rfl rfl rfl rfl (fun F => ?_)
  have hlt : r.toNat < v.length := by rw [hv.len]; omega
  have hltm : r.toNat < s.m.length := by omega
  have hg : (v.map Enc.b)[r.toNat]? = some (.nd [.bool v[r.toNat].1, .nd [.int .i64 v[r.toNat].2.1.1, .sl .b (v[r.toNat].2.1.2.1.map Enc.b), .sl .b (v[r.toNat].2.1.2.2.1.map Enc.b)]]) := map_get Enc.b v _ hlt
  have hgm : (s.m.map Enc.b)[r.toNat]? = some (.bool s.m[r.toNat]) := map_get Enc.b s.m _ hltm
  have hrd : decide (0 ≤ r) = true := by simp; omega
  have hr0 : 0 ≤ r := hr.1
  have h1 : hasA v r.toNat = v[r.toNat].1 := by unfold hasA; rw [List.getElem?_eq_getElem hlt]
  have h2 : mrk s.m r.toNat = s.m[r.toNat] := by unfold mrk; rw [List.getD_eq_getElem?_getD, List.getElem?_eq_getElem hltm]; rfl
  have h3 : r = 0 → lackB v s.m r = false := fun e => by subst e; unfold lackB; rw [show (0 : Int).toNat = 0 from rfl, hv.z]; rfl
  repeat' first
    | ((have hk8 := Nat.add_zero); (first | refine SW.ops_seq hY fun y1 hy1 => ?_ | refine SW.ops hY ?_ | refine SW.draw_seq hY mixed (by kernel_rfl) fun y1 hy1 => ?_ | refine SW.draw hY mixed (by kernel_rfl) ?_ | (simp only [k8]; refine ⟨fun hb => ?_, fun hb => ?_⟩ <;> (try replace hb := Bool.eq_false_iff.2 hb) <;> (first | exact absurd hb (by decide) | replace hk8 := hb))) <;> (simp only [hk8, hg, hgm, hr0, T.asArr, T.tg, tgL, dnT, indexAddrM, wk, wl, eq_self, isCall, callT, opM, S.ev, S.put, entryS, thawAL, thawA, RM.run, RM.bind, RM.ofOpt, allocs, Heap.ups, Heap.put, Heap.at, List.replicate, Nat.reduceAdd, Nat.reduceSub, ofConst, nilAs, if_false, if_true, binT, binTy, unT, guardT, pickT, quietK, stripT, openT, reduceIte, boxM, allocM, loadM, storeM, fieldAddrM, lenT, extractT, subM, setOb, T.get, T.setp, T.offs, T.nw, nwL, T.cel, T.isNd, T.size, sizeL, TyI.agg, Ty.agg, Ty.isFn, zeroT, Nat.reduceLT, Nat.reduceEqDiff, sumT, kill, Y1, Y3, Y4, Y24, Y27, Y30, Y32, Y37, Y92, Y94]; clear hk8; first | subst hy1 | (try simp only [thenS, blockS, if_true, if_false, Nat.reduceEqDiff, reduceIte])))
    | exact absurd trivial hb
    | exact absurd hb (by decide)
    | exact absurd hcc (by decide)
    | refine SW.seq ?_
    | refine SW.block ?_
    | (refine SW.cond rfl (fun hcc => ?_) (fun hcc => ?_))
    | (refine SW.exit ?_; simp only [thenS, blockS, if_true, if_false, Nat.reduceEqDiff, reduceIte])
    | (refine SW.skip ?_; simp only [thenS, blockS])
    | refine SW.ret (show RetQ _ _ _ _ _ _ _ from ⟨.inr rfl, [_], [1], [_], _, rfl, rfl, rfl, rfl, rfl, ?_⟩)
  all_goals first
    | (simp [tupOf, fixEs, lackB, h1, h2, *]; done)
    | (rename_i hbb
       have e : r = 0 := by simp at hbb; omega
       simp [tupOf, fixEs, h3 e])
theorem idxUn_ok (l : List Int) (hl : Enc.lim 1048576 l) (v : List SlotT) (s : MS) (most : Int) (hv : VOk v) (hm : s.m.length = 32) (hr : ∀ r ∈ l, 0 ≤ r ∧ r ≤ 31)  : CallR Try.prog 140 [.sl .b (l.map Enc.b), .fn 77 [.fp (.nd [.sl .b (v.map Enc.b), .sl .b (s.m.map Enc.b), .sl .b (s.q.map Enc.b), .int .i64 most, .bool s.o])] []] [] (.int .i64 (idxOf (lackB v s.m) l)) := by
  refine CallR.of_body (n := 19) (rs := [.tmp 4]) hY.ok Try.func140 rfl (by decide) rfl rfl rfl rfl (fun F => ?_)
  have hl1 : l.length ≤ 1048576 := hl.1
  repeat' first
    | ((have hk8 := Nat.add_zero); (first | refine SW.ops_seq hY fun y1 hy1 => ?_ | refine SW.ops hY ?_ | refine SW.draw_seq hY mixed (by kernel_rfl) fun y1 hy1 => ?_ | refine SW.draw hY mixed (by kernel_rfl) ?_) <;> (simp only [hk8, T.asArr, T.tg, tgL, dnT, indexAddrM, wk, wl, eq_self, isCall, callT, opM, S.ev, S.put, entryS, thawAL, thawA, RM.run, RM.bind, RM.ofOpt, allocs, Heap.ups, Heap.put, Heap.at, List.replicate, Nat.reduceAdd, Nat.reduceSub, ofConst, nilAs, if_false, if_true, binT, binTy, unT, guardT, pickT, quietK, stripT, openT, reduceIte, boxM, allocM, loadM, storeM, fieldAddrM, lenT, extractT, subM, setOb, T.get, T.setp, T.offs, T.nw, nwL, T.cel, T.isNd, T.size, sizeL, TyI.agg, Ty.agg, Ty.isFn, zeroT, Nat.reduceLT, Nat.reduceEqDiff, sumT, kill, Y3, Y4, Y27, Y87]; clear hk8; first | subst hy1 | (try simp only [thenS, blockS, if_true, if_false, Nat.reduceEqDiff, reduceIte])))
    | exact absurd trivial hb
    | exact absurd hb (by decide)
    | exact absurd hcc (by decide)
    | refine SW.seq ?_
    | refine SW.block ?_
    | (refine SW.exit ?_; simp only [thenS, blockS, if_true, if_false, Nat.reduceEqDiff, reduceIte])
    | (refine SW.skip ?_; simp only [thenS, blockS])
  refine SW.loop (fun i : Nat => ⟨[.sl .b (l.map Enc.b), .fn 77 [.fp (.nd [.sl .b (v.map Enc.b), .sl .b (s.m.map Enc.b), .sl .b (s.q.map Enc.b), .int .i64 most, .bool s.o])] [], .undef, .undef, .undef, .undef, .undef, .int .i64 l.length, .int .i64 i, .undef, .undef, .undef, .undef, .undef, .undef, .undef, .undef, .undef, .undef], [[]]⟩)
    (fun n i => n = l.length - i ∧ i ≤ l.length ∧ ∀ j (h : j < l.length), j < i → (lackB v s.m) l[j] = false) (n := l.length) (x := 0) (Norm.to 0 rfl (by simp [weakL])) ⟨rfl, Nat.zero_le _, fun j _ h => absurd h (Nat.not_lt_zero _)⟩ ?_
  rintro n i ⟨hn, hi, hp⟩
  repeat' first
    | (refine SW.ops_seq hY fun y1 hy1 => ?_; simp only [T.asArr, T.tg, tgL, dnT, indexAddrM, wk, wl, eq_self, isCall, callT, opM, S.ev, S.put, entryS, thawAL, thawA, RM.run, RM.bind, RM.ofOpt, allocs, Heap.ups, Heap.put, Heap.at, List.replicate, Nat.reduceAdd, Nat.reduceSub, ofConst, nilAs, if_false, if_true, binT, binTy, unT, guardT, pickT, quietK, stripT, openT, reduceIte, boxM, allocM, loadM, storeM, fieldAddrM, lenT, extractT, subM, setOb, T.get, T.setp, T.offs, T.nw, nwL, T.cel, T.isNd, T.size, sizeL, TyI.agg, Ty.agg, Ty.isFn, zeroT, Nat.reduceLT, Nat.reduceEqDiff, sumT, kill, Y3, Y4, Y27, Y87]; subst hy1)
    | refine SW.seq ?_
  refine SW.cond rfl (fun hc => ?_) (fun hc => ?_)
  · have hlt : i < l.length := by simpa using hc
    have hg : (l.map Enc.b)[i]? = some (.int .i64 l[i]) := map_get Enc.b l i hlt
    repeat' first
      | ((have hk8 := Nat.add_zero); (first | refine SW.ops_seq hY fun y1 hy1 => ?_ | refine SW.ops hY ?_ | refine SW.draw_seq hY mixed (by kernel_rfl) fun y1 hy1 => ?_ | refine SW.draw hY mixed (by kernel_rfl) ?_ | refine vcall_to [] (unmarked_ok v s most l[i] hv hm (hr _ (List.getElem_mem hlt))) rfl (by first | rfl | (simp [pass2, T.tg, tgL, upT, lendM, lendA, lendAL, elemsM, Heap.at, RM.bind, RM.run]; done) | (simp [pass2, T.tg, tgL, upT, lendM, lendA, lendAL, elemsM, Heap.at, RM.bind, RM.run]; rfl)) (by first | rfl | simp [resClo, T.clo, cloL, T.clP, clPL]) rfl ?_ | (simp only [k8]; refine ⟨fun hb => ?_, fun hb => ?_⟩ <;> (try replace hb := Bool.eq_false_iff.2 hb) <;> (first | exact absurd hb (by decide) | replace hk8 := hb))) <;> (simp only [hk8, hg, T.asArr, T.tg, tgL, dnT, indexAddrM, wk, wl, eq_self, isCall, callT, opM, S.ev, S.put, entryS, thawAL, thawA, RM.run, RM.bind, RM.ofOpt, allocs, Heap.ups, Heap.put, Heap.at, List.replicate, Nat.reduceAdd, Nat.reduceSub, ofConst, nilAs, if_false, if_true, binT, binTy, unT, guardT, pickT, quietK, stripT, openT, reduceIte, boxM, allocM, loadM, storeM, fieldAddrM, lenT, extractT, subM, setOb, T.get, T.setp, T.offs, T.nw, nwL, T.cel, T.isNd, T.size, sizeL, TyI.agg, Ty.agg, Ty.isFn, zeroT, Nat.reduceLT, Nat.reduceEqDiff, sumT, kill, Y3, Y4, Y27, Y87]; clear hk8; first | subst hy1 | (try simp only [thenS, blockS, if_true, if_false, Nat.reduceEqDiff, reduceIte])))
      | exact absurd trivial hb
      | exact absurd hb (by decide)
      | exact absurd hcc (by decide)
      | refine SW.seq ?_
      | refine SW.block ?_
      | (refine SW.cond rfl (fun hcc => ?_) (fun hcc => ?_))
      | (refine SW.exit ?_; simp only [thenS, blockS, if_true, if_false, Nat.reduceEqDiff, reduceIte])
      | (refine SW.skip ?_; simp only [thenS, blockS])
      | refine SW.ret (show RetQ _ _ _ _ _ _ _ from ⟨.inr rfl, [_], [1], [_], _, rfl, rfl, rfl, rfl, rfl, ?_⟩)
    · have hx := hcc
      have hx' : (lackB v s.m) l[i] = true := by simpa using hx
      simp only [tupOf, fixEs, idxOf_eq (lackB v s.m) l hlt hx' (fun j hj => hp j (by omega) hj)]
    · have hx := hcc
      have hx' : (lackB v s.m) l[i] = false := by simpa using hx
      refine ⟨n - 1, i + 1, by omega, ⟨by omega, by omega, fun j hj hji => ?_⟩, ?_⟩
      · by_cases he : j = i
        · subst he; exact hx'
        · exact hp j hj (by omega)
      · rw [wrap64 _ (by omega) (by omega)]
        first | exact Norm.to 0 rfl (by simp [weakL]) | exact Norm.to 1 rfl (by simp [weakL]) | exact Norm.to 2 rfl (by simp [weakL])
  · have hge : i = l.length := by
      have : ¬ i < l.length := by simpa using hc
      omega
    repeat' first
      | ((have hk8 := Nat.add_zero); (first | refine SW.ops_seq hY fun y1 hy1 => ?_ | refine SW.ops hY ?_ | refine SW.draw_seq hY mixed (by kernel_rfl) fun y1 hy1 => ?_ | refine SW.draw hY mixed (by kernel_rfl) ?_ | (simp only [k8]; refine ⟨fun hb => ?_, fun hb => ?_⟩ <;> (try replace hb := Bool.eq_false_iff.2 hb) <;> (first | exact absurd hb (by decide) | replace hk8 := hb))) <;> (simp only [hk8, T.asArr, T.tg, tgL, dnT, indexAddrM, wk, wl, eq_self, isCall, callT, opM, S.ev, S.put, entryS, thawAL, thawA, RM.run, RM.bind, RM.ofOpt, allocs, Heap.ups, Heap.put, Heap.at, List.replicate, Nat.reduceAdd, Nat.reduceSub, ofConst, nilAs, if_false, if_true, binT, binTy, unT, guardT, pickT, quietK, stripT, openT, reduceIte, boxM, allocM, loadM, storeM, fieldAddrM, lenT, extractT, subM, setOb, T.get, T.setp, T.offs, T.nw, nwL, T.cel, T.isNd, T.size, sizeL, TyI.agg, Ty.agg, Ty.isFn, zeroT, Nat.reduceLT, Nat.reduceEqDiff, sumT, kill, Y3, Y4, Y27, Y87]; clear hk8; first | subst hy1 | (try simp only [thenS, blockS, if_true, if_false, Nat.reduceEqDiff, reduceIte])))
      | exact absurd trivial hb
      | exact absurd hb (by decide)
      | exact absurd hcc (by decide)
      | refine SW.seq ?_
      | refine SW.block ?_
      | (refine SW.cond rfl (fun hcc => ?_) (fun hcc => ?_))
      | (refine SW.exit ?_; simp only [thenS, blockS, if_true, if_false, Nat.reduceEqDiff, reduceIte])
      | (refine SW.skip ?_; simp only [thenS, blockS])
      | refine SW.ret (show RetQ _ _ _ _ _ _ _ from ⟨.inr rfl, [_], [1], [_], _, rfl, rfl, rfl, rfl, rfl, ?_⟩)
    simp only [tupOf, fixEs, idxOf_none (lackB v s.m) l (fun j hj => hp j hj (by omega))]
theorem anyUn_ok (l : List Int) (hl : Enc.lim 1048576 l) (v : List SlotT) (s : MS) (most : Int) (hv : VOk v) (hm : s.m.length = 32) (hr : ∀ r ∈ l, 0 ≤ r ∧ r ≤ 31)  : CallR Try.prog 76 [.sl .b (l.map Enc.b), .fn 77 [.fp (.nd [.sl .b (v.map Enc.b), .sl .b (s.m.map Enc.b), .sl .b (s.q.map Enc.b), .int .i64 most, .bool s.o])] []] [] (.bool (l.any (lackB v s.m))) := by
  refine CallR.of_body (n := 9) (rs := [.tmp 4]) hY.ok Try.func76 rfl (by decide) rfl rfl rfl rfl (fun F => ?_)
  repeat' first
    | ((have hk8 := Nat.add_zero); (first | refine SW.ops_seq hY fun y1 hy1 => ?_ | refine SW.ops hY ?_ | refine SW.draw_seq hY mixed (by kernel_rfl) fun y1 hy1 => ?_ | refine SW.draw hY mixed (by kernel_rfl) ?_ | refine vcall_to [] (idxUn_ok l hl v s most hv hm hr) rfl (by first | rfl | (simp [pass2, T.tg, tgL, upT, lendM, lendA, lendAL, elemsM, Heap.at, RM.bind, RM.run]; done) | (simp [pass2, T.tg, tgL, upT, lendM, lendA, lendAL, elemsM, Heap.at, RM.bind, RM.run]; rfl)) (by first | rfl | simp [resClo, T.clo, cloL, T.clP, clPL]) rfl ?_ | (simp only [k8]; refine ⟨fun hb => ?_, fun hb => ?_⟩ <;> (try replace hb := Bool.eq_false_iff.2 hb) <;> (first | exact absurd hb (by decide) | replace hk8 := hb))) <;> (simp only [hk8, T.asArr, T.tg, tgL, dnT, indexAddrM, wk, wl, eq_self, isCall, callT, opM, S.ev, S.put, entryS, thawAL, thawA, RM.run, RM.bind, RM.ofOpt, allocs, Heap.ups, Heap.put, Heap.at, List.replicate, Nat.reduceAdd, Nat.reduceSub, ofConst, nilAs, if_false, if_true, binT, binTy, unT, guardT, pickT, quietK, stripT, openT, reduceIte, boxM, allocM, loadM, storeM, fieldAddrM, lenT, extractT, subM, setOb, T.get, T.setp, T.offs, T.nw, nwL, T.cel, T.isNd, T.size, sizeL, TyI.agg, Ty.agg, Ty.isFn, zeroT, Nat.reduceLT, Nat.reduceEqDiff, sumT, kill, Y3, Y4, Y27, Y87]; clear hk8; first | subst hy1 | (try simp only [thenS, blockS, if_true, if_false, Nat.reduceEqDiff, reduceIte])))
    | exact absurd trivial hb
    | exact absurd hb (by decide)
    | exact absurd hcc (by decide)
    | refine SW.seq ?_
    | refine SW.block ?_
    | (refine SW.cond rfl (fun hcc => ?_) (fun hcc => ?_))
    | (refine SW.exit ?_; simp only [thenS, blockS, if_true, if_false, Nat.reduceEqDiff, reduceIte])
    | (refine SW.skip ?_; simp only [thenS, blockS])
    | refine SW.ret (show RetQ _ _ _ _ _ _ _ from ⟨.inr rfl, [_], [1], [_], _, rfl, rfl, rfl, rfl, rfl, ?_⟩)
  all_goals simp only [tupOf, fixEs, ge_iff_le, idx_any]
end Q1

namespace Q1
open Go Go.Vm Go.Proofs
set_option maxHeartbeats 4000000
set_option synthInstance.maxSize 2000
set_option synthInstance.maxHeartbeats 400000
set_option maxRecDepth 10000
set_option linter.unusedSimpArgs false
set_option linter.unusedVariables false

theorem norm_open (k : Nat) (v : List SlotT) (tm : List T) (m : List Bool) (q : List Int) (most : Int) (o : Bool) (n : Nat) : Norm ⟨tm, [[.var (.nd [.sl (.r k) (tgL (cst k) (v.map Enc.b)), .ow 1 ((m).map Enc.o), .ow 1 ((q).map Enc.o), .int .i64 most, .bool o]), .gone, .gone]] ++ List.replicate n []⟩ ⟨tm, [[.var (.nd [.sl (.r k) (tgL (cst k) (v.map Enc.b)), .ref 1 0 0 (m).length, .ref 1 1 0 (q).length, .int .i64 most, .bool o]), .gone, .gone], [.arr 1 ((m).map Enc.o) false, .arr 1 ((q).map Enc.o) false]]⟩ := by
  refine Norm.trans (Norm.trim n) ?_
  have h := Norm.expelVar (tm := tm) (H := [[.var (.nd [.sl (.r k) (tgL (cst k) (v.map Enc.b)), .ow 1 ((m).map Enc.o), .ow 1 ((q).map Enc.o), .int .i64 most, .bool o]), .gone, .gone]]) 0 0 rfl
  simp only [thawA, thawAL, Heap.put, List.getElem?_cons_zero, List.set_cons_zero, List.length_cons, List.length_nil, List.nil_append, List.cons_append, List.append_nil, Nat.zero_add, Nat.reduceAdd, List.length_map] at h
  exact h
theorem norm_first (k : Nat) (v : List SlotT) (tm : List T) (m : List Bool) (q : List Int) (most : Int) (o : Bool) : Norm ⟨tm, [[.var (.nd [.sl (.r k) (tgL (cst k) (v.map Enc.b)), .ref 0 1 0 m.length, .ref 0 2 0 q.length, .int .i64 most, .bool o]), .arr 1 (m.map Enc.o) false, .arr 1 (q.map Enc.o) false]]⟩ ⟨tm, [[.var (.nd [.sl (.r k) (tgL (cst k) (v.map Enc.b)), .ref 1 0 0 (m).length, .ref 1 1 0 (q).length, .int .i64 most, .bool o]), .gone, .gone], [.arr 1 ((m).map Enc.o) false, .arr 1 ((q).map Enc.o) false]]⟩ := by
  refine Norm.trans ?_ (norm_open k v tm m q most o 0)
  have h := Norm.soakVar (tm := tm) (H := [[.var (.nd [.sl (.r k) (tgL (cst k) (v.map Enc.b)), .ref 0 1 0 m.length, .ref 0 2 0 q.length, .int .i64 most, .bool o]), .arr 1 (m.map Enc.o) false, .arr 1 (q.map Enc.o) false]]) 0 0 rfl
  simp only [soakS, soakL, Heap.at, Heap.put, List.getElem?_cons_zero, List.getElem?_cons_succ, List.set_cons_zero, List.set_cons_succ, List.length_map, and_self, if_true] at h
  exact h

theorem drain_ok (k : Nat) (v : List SlotT) (hv : VOk v) (hvl : Enc.lim 1048576 v) (s : MS) (most : Int) (hm : most ≤ 40) (hG : Good most s) : CallR Try.prog 74 [.io (.nd [.sl (.r k) (tgL (cst k) (v.map Enc.b)), .ow 1 ((s.m).map Enc.o), .ow 1 ((s.q).map Enc.o), .int .i64 most, .bool s.o])] [.nd [.sl (.r k) (tgL (cst k) (v.map Enc.b)), .ow 1 (((drn v most s).m).map Enc.o), .ow 1 (((drn v most s).q).map Enc.o), .int .i64 most, .bool (drn v most s).o]] (.tup []) := by
  refine CallR.of_body (n := 64) (rs := []) hY.ok Try.func74 rfl (by decide) rfl rfl rfl rfl (fun F => ?_)
  have hD := drn_ok hv hm hG
  have h0 : entryS 64 [.io (.nd [.sl (.r k) (tgL (cst k) (v.map Enc.b)), .ow 1 ((s.m).map Enc.o), .ow 1 ((s.q).map Enc.o), .int .i64 most, .bool s.o])] = ⟨.ptr 0 0 [] 0 :: List.replicate 63 .undef, [[.var (.nd [.sl (.r k) (tgL (cst k) (v.map Enc.b)), .ref 0 1 0 s.m.length, .ref 0 2 0 s.q.length, .int .i64 most, .bool s.o]), .arr 1 (s.m.map Enc.o) false, .arr 1 (s.q.map Enc.o) false]]⟩ := by simp [entryS, thawAL, thawA, T.asArr]
  rw [h0]
  refine SW.norm (norm_first k v _ s.m s.q most s.o) ?_
  refine SW.block ?_
  refine SW.loop (fun x : MS => ⟨[.ptr 0 0 [] 0, .undef, .undef, .undef, .undef, .undef, .undef, .undef, .undef, .undef, .undef, .undef, .undef, .undef, .undef, .undef, .undef, .undef, .undef, .undef, .undef, .undef, .undef, .undef, .undef, .undef, .undef, .undef, .undef, .undef, .undef, .undef, .undef, .undef, .undef, .undef, .undef, .undef, .undef, .undef, .undef, .undef, .undef, .undef, .undef, .undef, .undef, .undef, .undef, .undef, .undef, .undef, .undef, .undef, .undef, .undef, .undef, .undef, .undef, .undef, .undef, .undef, .undef, .undef], [[.var (.nd [.sl (.r k) (tgL (cst k) (v.map Enc.b)), .ref 1 0 0 (x.m).length, .ref 1 1 0 (x.q).length, .int .i64 most, .bool x.o]), .gone, .gone], [.arr 1 ((x.m).map Enc.o) false, .arr 1 ((x.q).map Enc.o) false]]⟩)
    (fun n x => n ≤ 200 ∧ Good most x ∧ drainF v most n x = drn v most s) (n := 200) (x := s) (Norm.to 0 rfl (by simp [weakL, List.replicate])) ⟨Nat.le_refl _, hG, rfl⟩ ?_
  rintro n x ⟨hn, hx, hdr⟩
  simp only
  repeat' first
    | (refine SW.ops_seq hY fun y1 hy1 => ?_; simp only [T.asArr, T.tg, tgL, dnT, indexAddrM, wk, wl, eq_self, isCall, callT, opM, S.ev, S.put, entryS, thawAL, thawA, RM.run, RM.bind, RM.ofOpt, allocs, Heap.ups, Heap.put, Heap.at, List.replicate, Nat.reduceAdd, Nat.reduceSub, ofConst, nilAs, if_false, if_true, binT, binTy, unT, guardT, pickT, quietK, stripT, openT, reduceIte, boxM, allocM, loadM, storeM, fieldAddrM, lenT, extractT, subM, setOb, T.get, T.setp, T.offs, T.nw, nwL, T.cel, T.isNd, T.size, sizeL, TyI.agg, Ty.agg, Ty.isFn, zeroT, Nat.reduceLT, Nat.reduceEqDiff, sumT, kill, Y1, Y2, Y3, Y4, Y24, Y27, Y30, Y32, Y37, Y92, Y94]; subst hy1)
    | refine SW.seq ?_
  refine SW.cond rfl (fun hc => ?_) (fun hc => ?_)
  · have hqn : 0 < x.q.length := by simp at hc; omega
    obtain ⟨z, hz⟩ : ∃ z, x.q.getLast? = some z := by
      cases h : x.q.getLast? with
      | none => rw [List.getLast?_eq_none_iff] at h; rw [h] at hqn; simp at hqn
      | some z => exact ⟨z, rfl⟩
    obtain ⟨n, rfl⟩ : ∃ m, n = m + 1 := by
      cases n with
      | zero => exfalso; have h := hD.2.1; rw [← hdr] at h; simp only [drainF] at h; rw [h] at hqn; simp at hqn
      | succ m => exact ⟨m, rfl⟩
    obtain ⟨hp1, hp2, hp3⟩ := hx.pop hz
    have hql := hx.ql
    have hdl : x.q.dropLast.length = x.q.length - 1 := List.length_dropLast ..
    have hw : IntKind.i64.wrap ((x.q.length : Int) - 1) = ((x.q.length - 1 : Nat) : Int) := by rw [wrap64 _ (by omega) (by omega)]; omega
    have hltI : ((x.q.length - 1 : Nat) : Int) < (x.q.length : Int) := by omega
    have hleI : ((x.q.length - 1 : Nat) : Int) ≤ (x.q.length : Int) := by omega
    have hgz : (x.q.map (Enc.o : Int → T))[x.q.length - 1]? = some (.int .i64 z) := by rw [List.getElem?_map, ← List.getLast?_eq_getElem?, hz]; rfl
    have hz0 : 0 ≤ z := hp2.1
    have hzl : z.toNat < v.length := by rw [hv.len]; omega
    have hgv : (tgL (cst k) (v.map Enc.b))[z.toNat]? = some (.nd [.bool v[z.toNat].1, .nd [.int .i64 v[z.toNat].2.1.1, .sl (.r k) (v[z.toNat].2.1.2.1.map Enc.b), .sl (.r k) (v[z.toNat].2.1.2.2.1.map Enc.b)]]) := by
      rw [get_t (cst k) v z.toNat hzl, show (Enc.b v[z.toNat] : T) = .nd [.bool v[z.toNat].1, .nd [.int .i64 v[z.toNat].2.1.1, .sl .b (v[z.toNat].2.1.2.1.map Enc.b), .sl .b (v[z.toNat].2.1.2.2.1.map Enc.b)]] from rfl]
      simp only [T.tg, tgL, tgL_int, cst]
    have hrf : refsA v z.toNat = v[z.toNat].2.1.2.2.1 := by unfold refsA; rw [List.getElem?_eq_getElem hzl]
    have hrr := hv.rf z.toNat
    have hrl := hv.rl z.toNat
    have hdr' : drainF v most n (seeA v most ⟨x.m, x.q.dropLast, x.o⟩ (refsA v z.toNat)) = drn v most s := by rw [← hdr]; simp only [drainF, hz]
    rw [hrf] at hrr hrl hdr'
    generalize hRR : v[z.toNat].2.1.2.2.1 = refs at *
    repeat' first
      | ((have hk8 := Nat.add_zero); (first | refine SW.ops_seq hY fun y1 hy1 => ?_ | refine SW.ops hY ?_ | refine SW.draw_seq hY mixed (by kernel_rfl) fun y1 hy1 => ?_ | refine SW.draw hY mixed (by kernel_rfl) ?_) <;> (simp only [hk8, hw, hltI, hleI, hgz, hz0, hgv, sliceM, loF, hiF, Int.le_refl, Nat.sub_zero, Int.toNat_zero, Int.toNat_one, Int.le_refl, Int.zero_le_ofNat, Nat.zero_add, Int.toNat_natCast, T.asArr, T.tg, tgL, dnT, indexAddrM, wk, wl, eq_self, isCall, callT, opM, S.ev, S.put, entryS, thawAL, thawA, RM.run, RM.bind, RM.ofOpt, allocs, Heap.ups, Heap.put, Heap.at, List.replicate, Nat.reduceAdd, Nat.reduceSub, ofConst, nilAs, if_false, if_true, binT, binTy, unT, guardT, pickT, quietK, stripT, openT, reduceIte, boxM, allocM, loadM, storeM, fieldAddrM, lenT, extractT, subM, setOb, T.get, T.setp, T.offs, T.nw, nwL, T.cel, T.isNd, T.size, sizeL, TyI.agg, Ty.agg, Ty.isFn, zeroT, Nat.reduceLT, Nat.reduceEqDiff, sumT, kill, Y1, Y2, Y3, Y4, Y24, Y27, Y30, Y32, Y37, Y92, Y94]; clear hk8; first | subst hy1 | (try simp only [thenS, blockS, if_true, if_false, Nat.reduceEqDiff, reduceIte])))
      | exact absurd trivial hb
      | exact absurd hb (by decide)
      | exact absurd hcc (by decide)
      | refine SW.seq ?_
      | refine SW.block ?_
      | (refine SW.exit ?_; simp only [thenS, blockS, if_true, if_false, Nat.reduceEqDiff, reduceIte])
      | (refine SW.skip ?_; simp only [thenS, blockS])
    refine SW.loop (fun x2 : MS × Nat => ⟨[.ptr 0 0 [] 0, .undef, .undef, .undef, .undef, .undef, .undef, .undef, .undef, .undef, .undef, .undef, .undef, .undef, .undef, .undef, .undef, .undef, .undef, .undef, .undef, .undef, .undef, .undef, .undef, .undef, .undef, .undef, .undef, .undef, .undef, .undef, .undef, .undef, .undef, .undef, .undef, .undef, .undef, .undef, .undef, .undef, .undef, .undef, .undef, .sl (.r k) (refs.map Enc.b), .int .i64 refs.length, .int .i64 x2.2, .undef, .undef, .undef, .undef, .undef, .undef, .undef, .undef, .undef, .undef, .undef, .undef, .undef, .undef, .undef, .undef], [[.var (.nd [.sl (.r k) (tgL (cst k) (v.map Enc.b)), .ref 1 0 0 (x2.1.m).length, .ref 1 1 0 (x2.1.q).length, .int .i64 most, .bool x2.1.o]), .gone, .gone], [.arr 1 ((x2.1.m).map Enc.o) false, .arr 1 ((x2.1.q).map Enc.o) false]]⟩)
      (fun N x2 => N = refs.length - x2.2 ∧ x2.2 ≤ refs.length ∧ Good most x2.1 ∧ x2.1 = seeA v most ⟨x.m, x.q.dropLast, x.o⟩ (refs.take x2.2)) (n := refs.length) (x := (⟨x.m, x.q.dropLast, x.o⟩, 0)) ?_ ⟨rfl, Nat.zero_le _, hp1, rfl⟩ ?_
    · refine Norm.trans (Norm.trunc 1 1 (x.q.length - 1) rfl) ?_
      have htk : (x.q.map (Enc.o : Int → T)).take (x.q.length - 1) = x.q.dropLast.map Enc.o := by rw [← List.map_take, List.dropLast_eq_take]
      simp only [Heap.put, List.getElem?_cons_zero, List.getElem?_cons_succ, List.set_cons_zero, List.set_cons_succ, htk, hdl]
      exact Norm.to 0 rfl (by simp [weakL])
    · rintro N ⟨y, i⟩ ⟨hN, hi, hy, hyy⟩
      simp only at hN hi hy hyy ⊢
      repeat' first
        | (refine SW.ops_seq hY fun y1 hy1 => ?_; simp only [T.asArr, T.tg, tgL, dnT, indexAddrM, wk, wl, eq_self, isCall, callT, opM, S.ev, S.put, entryS, thawAL, thawA, RM.run, RM.bind, RM.ofOpt, allocs, Heap.ups, Heap.put, Heap.at, List.replicate, Nat.reduceAdd, Nat.reduceSub, ofConst, nilAs, if_false, if_true, binT, binTy, unT, guardT, pickT, quietK, stripT, openT, reduceIte, boxM, allocM, loadM, storeM, fieldAddrM, lenT, extractT, subM, setOb, T.get, T.setp, T.offs, T.nw, nwL, T.cel, T.isNd, T.size, sizeL, TyI.agg, Ty.agg, Ty.isFn, zeroT, Nat.reduceLT, Nat.reduceEqDiff, sumT, kill, Y1, Y2, Y3, Y4, Y24, Y27, Y30, Y32, Y37, Y92, Y94]; subst hy1)
        | refine SW.seq ?_
      refine SW.cond rfl (fun hc2 => ?_) (fun hc2 => ?_)
      · have hlt : i < refs.length := by simp at hc2; omega
        have hgr : (refs.map Enc.b)[i]? = some (T.int .i64 refs[i]) := map_get Enc.b refs i hlt
        have hr := hrr refs[i] (List.getElem_mem hlt)
        have hr0 : 0 ≤ refs[i] := hr.1
        have hrm : refs[i] < (y.m.length : Int) := by rw [hy.ml]; omega
        have hU := unmarked_ok v y most refs[i] hv hy.ml hr
        have hstep : seeA v most ⟨x.m, x.q.dropLast, x.o⟩ (refs.take (i + 1)) = see1 v most y refs[i] := by
          rw [hyy, List.take_add_one, List.getElem?_eq_getElem hlt]; unfold seeA; rw [List.foldl_append]; rfl
        have hwi : IntKind.i64.wrap ((i : Int) + 1) = ((i + 1 : Nat) : Int) := by rw [wrap64 _ (by omega) (by omega)]; omega
        cases hl : lackB v y.m refs[i] with
        | false =>
          rw [hl] at hU
          repeat' first
            | ((have hk8 := Nat.add_zero); (first | refine SW.ops_seq hY fun y1 hy1 => ?_ | refine SW.ops hY ?_ | refine SW.draw_seq hY mixed (by kernel_rfl) fun y1 hy1 => ?_ | refine SW.draw hY mixed (by kernel_rfl) ?_ | refine vcall_to [] (hU) (by first | rfl | (simp [-List.map_set, -List.map_append, pass1, modeOf, giveS, giveSL, fixEs, Heap.at, Heap.put, T.cel, cloL, cloAL, T.cloA]; first | rfl | exact ⟨rfl, rfl, rfl⟩)) (by first | rfl | (simp [-List.map_set, -List.map_append, pass2, T.tg, tgL, upT, lendM, lendA, lendAL, elemsM, Heap.at, marks_len, subM, T.get, T.offs, RM.bind, RM.run]; done) | (simp [-List.map_set, -List.map_append, pass2, T.tg, tgL, upT, lendM, lendA, lendAL, elemsM, Heap.at, marks_len, subM, T.get, T.offs, RM.bind, RM.run]; rfl)) (by first | rfl | simp [resClo, T.clo, cloL, T.clP, clPL]) (by first | rfl | (simp [-List.map_set, -List.map_append, fillB, T.cloO, T.clo, cloL, T.asArr, T.tg, tgL, dnT, obOf, Heap.at, Heap.put]; try rfl)) ?_) <;> (simp only [hk8, hgr, hr0, hrm, hwi, Int.toNat_zero, Int.toNat_one, Int.le_refl, Int.zero_le_ofNat, Nat.zero_add, Int.toNat_natCast, T.asArr, T.tg, tgL, dnT, indexAddrM, wk, wl, eq_self, isCall, callT, opM, S.ev, S.put, entryS, thawAL, thawA, RM.run, RM.bind, RM.ofOpt, allocs, Heap.ups, Heap.put, Heap.at, List.replicate, Nat.reduceAdd, Nat.reduceSub, ofConst, nilAs, if_false, if_true, binT, binTy, unT, guardT, pickT, quietK, stripT, openT, reduceIte, boxM, allocM, loadM, storeM, fieldAddrM, lenT, extractT, subM, setOb, T.get, T.setp, T.offs, T.nw, nwL, T.cel, T.isNd, T.size, sizeL, TyI.agg, Ty.agg, Ty.isFn, zeroT, Nat.reduceLT, Nat.reduceEqDiff, sumT, kill, Y1, Y2, Y3, Y4, Y24, Y27, Y30, Y32, Y37, Y92, Y94]; clear hk8; first | subst hy1 | (try simp only [thenS, blockS, if_true, if_false, Nat.reduceEqDiff, reduceIte])))
            | exact absurd trivial hb
            | exact absurd hb (by decide)
            | exact absurd hcc (by decide)
            | refine SW.seq ?_
            | refine SW.block ?_
            | (refine SW.cond rfl (fun hcc => ?_) (fun hcc => ?_))
            | (refine SW.exit ?_; simp only [thenS, blockS, if_true, if_false, Nat.reduceEqDiff, reduceIte])
            | (refine SW.skip ?_; simp only [thenS, blockS])
          refine ⟨N - 1, (y, i + 1), by omega, ⟨by simp only; omega, by simp only; omega, hy, ?_⟩, ?_⟩
          · simp only; rw [hstep]; unfold see1; simp [hl]
          · exact Norm.re [0, 1] (by decide) rfl (by simp only [eq_self, heapFits, rowFits, obFits, List.getElem?_cons_zero, List.getElem?_cons_succ, renL_o, renL_b, true_and, and_true, and_self, renL_t, renL_cons, renL_nil, T.ren]) (by simp [tmFits, T.ren])
        | true =>
          rw [hl] at hU
          have hgm : (y.m.map (Enc.o : Bool → T))[refs[i].toNat]? = some (.bool y.m[refs[i].toNat]) := map_get Enc.o y.m _ (by rw [hy.ml]; omega)
          have hsm : (y.m.map (Enc.o : Bool → T)).set refs[i].toNat (.bool true) = (y.m.set refs[i].toNat true).map Enc.o := set_o y.m _ true
          have hml : (y.m.set refs[i].toNat true).length = y.m.length := List.length_set ..
          have hqy := hy.ql
          have hP := put_ok (k + 1) v ⟨y.m.set refs[i].toNat true, y.q, y.o⟩ most refs[i] (by simp only; omega)
          simp only at hP
          have hsee : see1 v most y refs[i] = put1 most ⟨y.m.set refs[i].toNat true, y.q, y.o⟩ refs[i] := by unfold see1; rw [if_pos hl]
          generalize put1 most ⟨y.m.set refs[i].toNat true, y.q, y.o⟩ refs[i] = y' at *
          repeat' first
            | ((have hk8 := Nat.add_zero); (first | refine SW.ops_seq hY fun y1 hy1 => ?_ | refine SW.ops hY ?_ | refine SW.draw_seq hY mixed (by kernel_rfl) fun y1 hy1 => ?_ | refine SW.draw hY mixed (by kernel_rfl) ?_ | refine vcall_to [] (hU) (by first | rfl | (simp [-List.map_set, -List.map_append, pass1, modeOf, giveS, giveSL, fixEs, Heap.at, Heap.put, T.cel, cloL, cloAL, T.cloA]; first | rfl | exact ⟨rfl, rfl, rfl⟩)) (by first | rfl | (simp [-List.map_set, -List.map_append, pass2, T.tg, tgL, upT, lendM, lendA, lendAL, elemsM, Heap.at, marks_len, subM, T.get, T.offs, RM.bind, RM.run]; done) | (simp [-List.map_set, -List.map_append, pass2, T.tg, tgL, upT, lendM, lendA, lendAL, elemsM, Heap.at, marks_len, subM, T.get, T.offs, RM.bind, RM.run]; rfl)) (by first | rfl | simp [resClo, T.clo, cloL, T.clP, clPL]) (by first | rfl | (simp [-List.map_set, -List.map_append, fillB, T.cloO, T.clo, cloL, T.asArr, T.tg, tgL, dnT, obOf, Heap.at, Heap.put]; try rfl)) ?_ | refine vcall_to [.io] (hP) (by first | rfl | (simp [-List.map_set, -List.map_append, pass1, modeOf, giveS, giveSL, fixEs, Heap.at, Heap.put, T.cel, cloL, cloAL, T.cloA]; first | rfl | exact ⟨rfl, rfl, rfl⟩)) (by first | rfl | (simp [-List.map_set, -List.map_append, pass2, T.tg, tgL, upT, lendM, lendA, lendAL, elemsM, Heap.at, marks_len, subM, T.get, T.offs, RM.bind, RM.run]; done) | (simp [-List.map_set, -List.map_append, pass2, T.tg, tgL, upT, lendM, lendA, lendAL, elemsM, Heap.at, marks_len, subM, T.get, T.offs, RM.bind, RM.run]; rfl)) (by first | rfl | simp [resClo, T.clo, cloL, T.clP, clPL]) (by first | rfl | (simp [-List.map_set, -List.map_append, fillB, T.cloO, T.clo, cloL, T.asArr, T.tg, tgL, dnT, obOf, Heap.at, Heap.put]; try rfl)) ?_) <;> (simp only [hk8, hgr, hr0, hrm, hwi, hgm, hsm, tgL_up0, tgL_up, tgL_dn, tgL_dn0, Int.toNat_zero, Int.toNat_one, Int.le_refl, Int.zero_le_ofNat, Nat.zero_add, Int.toNat_natCast, T.asArr, T.tg, tgL, dnT, indexAddrM, wk, wl, eq_self, isCall, callT, opM, S.ev, S.put, entryS, thawAL, thawA, RM.run, RM.bind, RM.ofOpt, allocs, Heap.ups, Heap.put, Heap.at, List.replicate, Nat.reduceAdd, Nat.reduceSub, ofConst, nilAs, if_false, if_true, binT, binTy, unT, guardT, pickT, quietK, stripT, openT, reduceIte, boxM, allocM, loadM, storeM, fieldAddrM, lenT, extractT, subM, setOb, T.get, T.setp, T.offs, T.nw, nwL, T.cel, T.isNd, T.size, sizeL, TyI.agg, Ty.agg, Ty.isFn, zeroT, Nat.reduceLT, Nat.reduceEqDiff, sumT, kill, Y1, Y2, Y3, Y4, Y24, Y27, Y30, Y32, Y37, Y92, Y94]; clear hk8; first | subst hy1 | (try simp only [thenS, blockS, if_true, if_false, Nat.reduceEqDiff, reduceIte])))
            | exact absurd trivial hb
            | exact absurd hb (by decide)
            | exact absurd hcc (by decide)
            | refine SW.seq ?_
            | refine SW.block ?_
            | (refine SW.cond rfl (fun hcc => ?_) (fun hcc => ?_))
            | (refine SW.exit ?_; simp only [thenS, blockS, if_true, if_false, Nat.reduceEqDiff, reduceIte])
            | (refine SW.skip ?_; simp only [thenS, blockS])
          refine ⟨N - 1, (y', i + 1), by omega, ⟨by simp only; omega, by simp only; omega, by rw [← hsee]; exact hy.see1 hr, by simp only; rw [hstep, hsee]⟩, ?_⟩
          exact Norm.trans (Norm.re [0] (by decide) rfl (by simp [heapFits, rowFits, obFits, T.ren, renL]) (by simp [tmFits, T.ren])) (norm_open k v _ y'.m y'.q most y'.o 0)
      · have hge : i = refs.length := by
          have : ¬ i < refs.length := by simp at hc2; omega
          omega
        subst hge
        rw [List.take_length] at hyy
        repeat' first
          | ((have hk8 := Nat.add_zero); (first | refine SW.ops_seq hY fun y1 hy1 => ?_ | refine SW.ops hY ?_ | refine SW.draw_seq hY mixed (by kernel_rfl) fun y1 hy1 => ?_ | refine SW.draw hY mixed (by kernel_rfl) ?_ | (simp only [k8]; refine ⟨fun hb => ?_, fun hb => ?_⟩ <;> (try replace hb := Bool.eq_false_iff.2 hb) <;> (first | exact absurd hb (by decide) | replace hk8 := hb))) <;> (simp only [hk8, T.asArr, T.tg, tgL, dnT, indexAddrM, wk, wl, eq_self, isCall, callT, opM, S.ev, S.put, entryS, thawAL, thawA, RM.run, RM.bind, RM.ofOpt, allocs, Heap.ups, Heap.put, Heap.at, List.replicate, Nat.reduceAdd, Nat.reduceSub, ofConst, nilAs, if_false, if_true, binT, binTy, unT, guardT, pickT, quietK, stripT, openT, reduceIte, boxM, allocM, loadM, storeM, fieldAddrM, lenT, extractT, subM, setOb, T.get, T.setp, T.offs, T.nw, nwL, T.cel, T.isNd, T.size, sizeL, TyI.agg, Ty.agg, Ty.isFn, zeroT, Nat.reduceLT, Nat.reduceEqDiff, sumT, kill, Y1, Y2, Y3, Y4, Y24, Y27, Y30, Y32, Y37, Y92, Y94]; clear hk8; first | subst hy1 | (try simp only [thenS, blockS, if_true, if_false, Nat.reduceEqDiff, reduceIte])))
          | exact absurd trivial hb
          | exact absurd hb (by decide)
          | exact absurd hcc (by decide)
          | refine SW.seq ?_
          | refine SW.block ?_
          | (refine SW.cond rfl (fun hcc => ?_) (fun hcc => ?_))
          | (refine SW.exit ?_; simp only [thenS, blockS, if_true, if_false, Nat.reduceEqDiff, reduceIte])
          | (refine SW.skip ?_; simp only [thenS, blockS])
        exact ⟨n, y, by omega, ⟨by omega, hy, by rw [hyy]; exact hdr'⟩, Norm.re [0, 1] (by decide) rfl (by simp only [eq_self, heapFits, rowFits, obFits, List.getElem?_cons_zero, List.getElem?_cons_succ, renL_o, renL_b, true_and, and_true, and_self, renL_t, renL_cons, renL_nil, T.ren]) (by simp [tmFits, T.ren])⟩
  · have hq0 : x.q = [] := by simp at hc; exact hc
    have hxd : x = drn v most s := by rw [← hdr]; cases n <;> simp [drainF, hq0]
    rw [← hxd]
    repeat' first
      | ((have hk8 := Nat.add_zero); (first | refine SW.ops_seq hY fun y1 hy1 => ?_ | refine SW.ops hY ?_ | refine SW.draw_seq hY mixed (by kernel_rfl) fun y1 hy1 => ?_ | refine SW.draw hY mixed (by kernel_rfl) ?_ | (simp only [k8]; refine ⟨fun hb => ?_, fun hb => ?_⟩ <;> (try replace hb := Bool.eq_false_iff.2 hb) <;> (first | exact absurd hb (by decide) | replace hk8 := hb))) <;> (simp only [hk8, T.asArr, T.tg, tgL, dnT, indexAddrM, wk, wl, eq_self, isCall, callT, opM, S.ev, S.put, entryS, thawAL, thawA, RM.run, RM.bind, RM.ofOpt, allocs, Heap.ups, Heap.put, Heap.at, List.replicate, Nat.reduceAdd, Nat.reduceSub, ofConst, nilAs, if_false, if_true, binT, binTy, unT, guardT, pickT, quietK, stripT, openT, reduceIte, boxM, allocM, loadM, storeM, fieldAddrM, lenT, extractT, subM, setOb, T.get, T.setp, T.offs, T.nw, nwL, T.cel, T.isNd, T.size, sizeL, TyI.agg, Ty.agg, Ty.isFn, zeroT, Nat.reduceLT, Nat.reduceEqDiff, sumT, kill, Y1, Y2, Y3, Y4, Y24, Y27, Y30, Y32, Y37, Y92, Y94]; clear hk8; first | subst hy1 | (try simp only [thenS, blockS, if_true, if_false, Nat.reduceEqDiff, reduceIte])))
      | exact absurd trivial hb
      | exact absurd hb (by decide)
      | exact absurd hcc (by decide)
      | refine SW.seq ?_
      | refine SW.block ?_
      | (refine SW.cond rfl (fun hcc => ?_) (fun hcc => ?_))
      | (refine SW.exit ?_; simp only [thenS, blockS, if_true, if_false, Nat.reduceEqDiff, reduceIte])
      | (refine SW.skip ?_; simp only [thenS, blockS])
    refine (show RetQ _ _ _ _ _ _ _ from ⟨.inl rfl, [], [], [], ?_, ⟨rfl, ?_, rfl, rfl, ?_, rfl⟩⟩)
    rotate_left
    · (simp [-List.map_set, -List.map_append, pass1, modeOf, giveS, giveSL, Heap.at, Heap.put, fixEs, ioAt, ioKs, ioM, ioT, thawA, thawAL, T.asArr, T.cel, T.clo, cloL, T.cloA, cloAL]; rfl)
    · simp [-List.map_set, -List.map_append, cloOL, T.cloO, T.asArr, T.clo, cloL]
end Q1

namespace Q1
open Go Go.Vm Go.Proofs
set_option maxHeartbeats 4000000
set_option synthInstance.maxSize 2000
set_option synthInstance.maxHeartbeats 400000
set_option maxRecDepth 10000
set_option linter.unusedSimpArgs false
set_option linter.unusedVariables false

theorem cloneB_ok (l : List Bool) (hl : l.length ≤ 1048576) : CallR Try.prog 75 [.sl .b (l.map Enc.b)] [] (.ow 1 (l.map Enc.o)) := by
  refine CallR.of_body (n := 8) (rs := [.tmp 2]) hY.ok Try.func75 rfl (by decide) rfl rfl rfl rfl (fun F => ?_)
  have hap := @append_run Y 2 37 37 1 0 0 0 4 1 1 _ .b [] (l.map Enc.b) [[], [.arr 1 [] false], []] Y37 Y37 Y4 rfl (by decide) rfl (by simp) (by simp; omega) (nwL_b l) (fun z hz => by have := List.mem_of_mem_take hz; obtain ⟨x, _, rfl⟩ := List.mem_map.1 this; rfl)
  have hbo : l.map (Enc.b : Bool → T) = l.map Enc.o := rfl
  simp only [List.drop_nil, List.take_nil, List.nil_append, List.length_map, Nat.zero_add, kill] at hap
  refine SW.ops_seq hY fun y1 hy1 => ?_
  simp only [build0 (t := 37) Y37 Y4 rfl (by decide), hap, T.asArr, T.tg, tgL, dnT, indexAddrM, wk, wl, eq_self, isCall, callT, opM, S.ev, S.put, entryS, thawAL, thawA, RM.run, RM.bind, RM.ofOpt, allocs, Heap.ups, Heap.put, Heap.at, List.replicate, Nat.reduceAdd, Nat.reduceSub, ofConst, nilAs, if_false, if_true, binT, binTy, unT, guardT, pickT, quietK, stripT, openT, reduceIte, boxM, allocM, loadM, storeM, fieldAddrM, lenT, extractT, subM, setOb, T.get, T.setp, T.offs, T.nw, nwL, T.cel, T.isNd, T.size, sizeL, TyI.agg, Ty.agg, Ty.isFn, zeroT, Nat.reduceLT, Nat.reduceEqDiff, sumT, kill, Y4, Y37]
  subst hy1
  refine SW.seq ?_
  refine SW.seq ?_
  refine SW.nilq hY rfl (by rw [Y37]) (by rw [Y37]; decide) (by simp) fun b hb => ?_
  simp only [thenS, List.set_cons_succ, List.set_cons_zero]
  cases b with
  | true =>
    have hl0 : l = [] := by cases l with | nil => rfl | cons x m => exact absurd (hb (by simp)) (by decide)
    subst hl0
    repeat' first
      | ((have hk8 := Nat.add_zero); (first | refine SW.ops_seq hY fun y1 hy1 => ?_ | refine SW.ops hY ?_ | refine SW.draw_seq hY mixed (by kernel_rfl) fun y1 hy1 => ?_ | refine SW.draw hY mixed (by kernel_rfl) ?_ | (simp only [k8]; refine ⟨fun hb => ?_, fun hb => ?_⟩ <;> (try replace hb := Bool.eq_false_iff.2 hb) <;> (first | exact absurd hb (by decide) | replace hk8 := hb))) <;> (simp only [hk8, build0 (t := 37) Y37 Y4 rfl (by decide), hap, T.asArr, T.tg, tgL, dnT, indexAddrM, wk, wl, eq_self, isCall, callT, opM, S.ev, S.put, entryS, thawAL, thawA, RM.run, RM.bind, RM.ofOpt, allocs, Heap.ups, Heap.put, Heap.at, List.replicate, Nat.reduceAdd, Nat.reduceSub, ofConst, nilAs, if_false, if_true, binT, binTy, unT, guardT, pickT, quietK, stripT, openT, reduceIte, boxM, allocM, loadM, storeM, fieldAddrM, lenT, extractT, subM, setOb, T.get, T.setp, T.offs, T.nw, nwL, T.cel, T.isNd, T.size, sizeL, TyI.agg, Ty.agg, Ty.isFn, zeroT, Nat.reduceLT, Nat.reduceEqDiff, sumT, kill, Y4, Y37]; clear hk8; first | subst hy1 | (try simp only [thenS, blockS, if_true, if_false, Nat.reduceEqDiff, reduceIte])))
      | exact absurd trivial hb
      | exact absurd hb (by decide)
      | exact absurd hcc (by decide)
      | refine SW.seq ?_
      | refine SW.block ?_
      | (refine SW.cond rfl (fun hcc => ?_) (fun hcc => ?_))
      | (refine SW.exit ?_; simp only [thenS, blockS, if_true, if_false, Nat.reduceEqDiff, reduceIte])
      | (refine SW.skip ?_; simp only [thenS, blockS])
      | refine SW.ret (show RetQ _ _ _ _ _ _ _ from ⟨.inr rfl, [_], [1], [_], _, rfl, rfl, rfl, rfl, rfl, ?_⟩)
    all_goals simp [tupOf, fixEs]
  | false =>
    repeat' first
      | ((have hk8 := Nat.add_zero); (first | refine SW.ops_seq hY fun y1 hy1 => ?_ | refine SW.ops hY ?_ | refine SW.draw_seq hY mixed (by kernel_rfl) fun y1 hy1 => ?_ | refine SW.draw hY mixed (by kernel_rfl) ?_ | (simp only [k8]; refine ⟨fun hb => ?_, fun hb => ?_⟩ <;> (try replace hb := Bool.eq_false_iff.2 hb) <;> (first | exact absurd hb (by decide) | replace hk8 := hb))) <;> (simp only [hk8, build0 (t := 37) Y37 Y4 rfl (by decide), hap, T.asArr, T.tg, tgL, dnT, indexAddrM, wk, wl, eq_self, isCall, callT, opM, S.ev, S.put, entryS, thawAL, thawA, RM.run, RM.bind, RM.ofOpt, allocs, Heap.ups, Heap.put, Heap.at, List.replicate, Nat.reduceAdd, Nat.reduceSub, ofConst, nilAs, if_false, if_true, binT, binTy, unT, guardT, pickT, quietK, stripT, openT, reduceIte, boxM, allocM, loadM, storeM, fieldAddrM, lenT, extractT, subM, setOb, T.get, T.setp, T.offs, T.nw, nwL, T.cel, T.isNd, T.size, sizeL, TyI.agg, Ty.agg, Ty.isFn, zeroT, Nat.reduceLT, Nat.reduceEqDiff, sumT, kill, Y4, Y37]; clear hk8; first | subst hy1 | (try simp only [thenS, blockS, if_true, if_false, Nat.reduceEqDiff, reduceIte])))
      | exact absurd trivial hb
      | exact absurd hb (by decide)
      | exact absurd hcc (by decide)
      | refine SW.seq ?_
      | refine SW.block ?_
      | (refine SW.cond rfl (fun hcc => ?_) (fun hcc => ?_))
      | (refine SW.exit ?_; simp only [thenS, blockS, if_true, if_false, Nat.reduceEqDiff, reduceIte])
      | (refine SW.skip ?_; simp only [thenS, blockS])
    rw [hbo]
    refine SW.ret (show RetQ _ _ _ _ _ _ _ from ⟨.inr rfl, _, [1], [.ow 1 (l.map Enc.o)], ?_, ⟨rfl, ?_, rfl, ?_, rfl, rfl⟩⟩)
    rotate_left
    · first | rfl | (simp [-List.map_set, -List.map_append, pass1, modeOf, giveS, giveSL, Heap.at, Heap.put, fixEs, ioAt, ioKs, ioM, ioT, T.cel, T.clo, cloL, T.cloA, cloAL]; rfl)
    · first | rfl | simp [-List.map_set, -List.map_append, cloL, T.clo, T.clP, clPL]
end Q1

namespace Q1
open Go Go.Vm Go.Proofs
set_option maxHeartbeats 4000000
set_option synthInstance.maxSize 2000
set_option synthInstance.maxHeartbeats 400000
set_option maxRecDepth 10000
set_option linter.unusedSimpArgs false
set_option linter.unusedVariables false

theorem openO (v : List SlotT) (tm : List T) (s : MS) (most : Int) : Norm ⟨tm, [[], [.var (.nd [.sl .b (v.map Enc.b), .ow 1 ((s.m).map Enc.o), .ow 1 ((s.q).map Enc.o), .int .i64 most, .bool s.o])]]⟩ ⟨tm, [[], [.var (.nd [.sl .b (v.map Enc.b), .ref 2 0 0 (s.m).length, .ref 2 1 0 (s.q).length, .int .i64 most, .bool s.o])], [.arr 1 ((s.m).map Enc.o) false, .arr 1 ((s.q).map Enc.o) false]]⟩ := by
  have h := Norm.expelVar (tm := tm) (H := [[], [.var (.nd [.sl .b (v.map Enc.b), .ow 1 ((s.m).map Enc.o), .ow 1 ((s.q).map Enc.o), .int .i64 most, .bool s.o])]]) 1 0 rfl
  simp only [thawA, thawAL, Heap.put, List.getElem?_cons_zero, List.getElem?_cons_succ, List.set_cons_zero, List.set_cons_succ, List.length_cons, List.length_nil, List.nil_append, List.cons_append, List.append_nil, Nat.zero_add, Nat.reduceAdd, List.length_map] at h
  exact h
theorem openI (v : List SlotT) (tm : List T) (s : MS) (most : Int) (c : List Bool) : Norm ⟨tm, [[], [.var (.nd [.sl .b (v.map Enc.b), .ow 1 ((s.m).map Enc.o), .ow 1 ((s.q).map Enc.o), .int .i64 most, .bool s.o])], [.arr 1 (c.map Enc.o) false]]⟩ ⟨tm, [[], [.var (.nd [.sl .b (v.map Enc.b), .ref 3 0 0 (s.m).length, .ref 3 1 0 (s.q).length, .int .i64 most, .bool s.o])], [.arr 1 ((c).map Enc.o) false], [.arr 1 ((s.m).map Enc.o) false, .arr 1 ((s.q).map Enc.o) false]]⟩ := by
  have h := Norm.expelVar (tm := tm) (H := [[], [.var (.nd [.sl .b (v.map Enc.b), .ow 1 ((s.m).map Enc.o), .ow 1 ((s.q).map Enc.o), .int .i64 most, .bool s.o])], [.arr 1 (c.map Enc.o) false]]) 1 0 rfl
  simp only [thawA, thawAL, Heap.put, List.getElem?_cons_zero, List.getElem?_cons_succ, List.set_cons_zero, List.set_cons_succ, List.length_cons, List.length_nil, List.nil_append, List.cons_append, List.append_nil, Nat.zero_add, Nat.reduceAdd, List.length_map] at h
  exact h
def inB (most : Int) : Bool := decide (most ≥ 1) && decide (most ≤ 40)
def markRR (l : List SlotT) (a most : Int) : List Bool × Int := if (callB l a && inB most) = true then ((markR l a.toNat most).1, ((markR l a.toNat most).2 : Int)) else ([], 0)

theorem implMark_n (l : List SlotT) (hl : Enc.lim 1048576 l) (a most : Int) (hn : (callB l a && inB most) = false) : CallR Try.prog 22 [.sl .b (l.map Enc.b), .int .i64 a, .int .i64 most] [] (.tup [.ow 1 [], .int .i64 0]) := by
  refine CallR.of_body (n := 89) (rs := [.tmp 6, .tmp 7]) hY.ok Try.func22 rfl (by decide) rfl rfl rfl rfl (fun F => ?_)
  have hV := implViewOk_ok l hl
  have hO := oid_ok a
  have hI := in_ok most 1 40
  unfold callB inB at hn
  cases hv : viewB l with
  | false =>
    rw [hv] at hV
    repeat' first
      | ((have hk8 := Nat.add_zero); (first | refine SW.ops_seq hY fun y1 hy1 => ?_ | refine SW.ops hY ?_ | refine SW.draw_seq hY mixed (by kernel_rfl) fun y1 hy1 => ?_ | refine SW.draw hY mixed (by kernel_rfl) ?_ | refine vcall_to [] (hV) rfl (by first | rfl | (simp [pass2, T.tg, tgL, upT, lendM, lendA, lendAL, elemsM, Heap.at, RM.bind, RM.run]; done) | (simp [pass2, T.tg, tgL, upT, lendM, lendA, lendAL, elemsM, Heap.at, RM.bind, RM.run]; rfl)) (by first | rfl | simp [resClo, T.clo, cloL, T.clP, clPL]) rfl ?_ | (simp only [k8]; refine ⟨fun hb => ?_, fun hb => ?_⟩ <;> (try replace hb := Bool.eq_false_iff.2 hb) <;> (first | exact absurd hb (by decide) | replace hk8 := hb))) <;> (simp only [hk8, T.asArr, T.tg, tgL, dnT, indexAddrM, wk, wl, eq_self, isCall, callT, opM, S.ev, S.put, entryS, thawAL, thawA, RM.run, RM.bind, RM.ofOpt, allocs, Heap.ups, Heap.put, Heap.at, List.replicate, Nat.reduceAdd, Nat.reduceSub, ofConst, nilAs, if_false, if_true, binT, binTy, unT, guardT, pickT, quietK, stripT, openT, reduceIte, boxM, allocM, loadM, storeM, fieldAddrM, lenT, extractT, subM, setOb, T.get, T.setp, T.offs, T.nw, nwL, T.cel, T.isNd, T.size, sizeL, TyI.agg, Ty.agg, Ty.isFn, zeroT, Nat.reduceLT, Nat.reduceEqDiff, sumT, kill, Y1, Y2, Y3, Y4, Y24, Y27, Y30, Y32, Y37, Y87, Y92, Y94]; clear hk8; first | subst hy1 | (try simp only [thenS, blockS, if_true, if_false, Nat.reduceEqDiff, reduceIte])))
      | exact absurd trivial hb
      | exact absurd hb (by decide)
      | exact absurd hcc (by decide)
      | refine SW.seq ?_
      | refine SW.block ?_
      | (refine SW.cond rfl (fun hcc => ?_) (fun hcc => ?_))
      | (refine SW.exit ?_; simp only [thenS, blockS, if_true, if_false, Nat.reduceEqDiff, reduceIte])
      | (refine SW.skip ?_; simp only [thenS, blockS])
    refine SW.ret (show RetQ _ _ _ _ _ _ _ from ⟨.inr rfl, _, [1, 0], [.ow 1 ([]), .int .i64 (0)], ?_, ⟨rfl, ?_, rfl, ?_, rfl, rfl⟩⟩)
    rotate_left
    · first | rfl | (simp [-List.map_set, -List.map_append, pass1, modeOf, giveS, giveSL, Heap.at, Heap.put, fixEs, ioAt, ioKs, ioM, ioT, T.cel, T.clo, cloL, T.cloA, cloAL]; rfl)
    · first | rfl | simp [-List.map_set, -List.map_append, cloL, T.clo, T.clP, clPL]
  | true =>
    rw [hv] at hV hn
    cases ho : (decide (a ≥ 1) && decide (a ≤ 31)) with
    | false =>
      rw [ho] at hO
      repeat' first
        | ((have hk8 := Nat.add_zero); (first | refine SW.ops_seq hY fun y1 hy1 => ?_ | refine SW.ops hY ?_ | refine SW.draw_seq hY mixed (by kernel_rfl) fun y1 hy1 => ?_ | refine SW.draw hY mixed (by kernel_rfl) ?_ | refine vcall_to [] (hV) rfl (by first | rfl | (simp [pass2, T.tg, tgL, upT, lendM, lendA, lendAL, elemsM, Heap.at, RM.bind, RM.run]; done) | (simp [pass2, T.tg, tgL, upT, lendM, lendA, lendAL, elemsM, Heap.at, RM.bind, RM.run]; rfl)) (by first | rfl | simp [resClo, T.clo, cloL, T.clP, clPL]) rfl ?_ | refine vcall_to [] (hO) rfl (by first | rfl | (simp [pass2, T.tg, tgL, upT, lendM, lendA, lendAL, elemsM, Heap.at, RM.bind, RM.run]; done) | (simp [pass2, T.tg, tgL, upT, lendM, lendA, lendAL, elemsM, Heap.at, RM.bind, RM.run]; rfl)) (by first | rfl | simp [resClo, T.clo, cloL, T.clP, clPL]) rfl ?_ | (simp only [k8]; refine ⟨fun hb => ?_, fun hb => ?_⟩ <;> (try replace hb := Bool.eq_false_iff.2 hb) <;> (first | exact absurd hb (by decide) | replace hk8 := hb))) <;> (simp only [hk8, T.asArr, T.tg, tgL, dnT, indexAddrM, wk, wl, eq_self, isCall, callT, opM, S.ev, S.put, entryS, thawAL, thawA, RM.run, RM.bind, RM.ofOpt, allocs, Heap.ups, Heap.put, Heap.at, List.replicate, Nat.reduceAdd, Nat.reduceSub, ofConst, nilAs, if_false, if_true, binT, binTy, unT, guardT, pickT, quietK, stripT, openT, reduceIte, boxM, allocM, loadM, storeM, fieldAddrM, lenT, extractT, subM, setOb, T.get, T.setp, T.offs, T.nw, nwL, T.cel, T.isNd, T.size, sizeL, TyI.agg, Ty.agg, Ty.isFn, zeroT, Nat.reduceLT, Nat.reduceEqDiff, sumT, kill, Y1, Y2, Y3, Y4, Y24, Y27, Y30, Y32, Y37, Y87, Y92, Y94]; clear hk8; first | subst hy1 | (try simp only [thenS, blockS, if_true, if_false, Nat.reduceEqDiff, reduceIte])))
        | exact absurd trivial hb
        | exact absurd hb (by decide)
        | exact absurd hcc (by decide)
        | refine SW.seq ?_
        | refine SW.block ?_
        | (refine SW.cond rfl (fun hcc => ?_) (fun hcc => ?_))
        | (refine SW.exit ?_; simp only [thenS, blockS, if_true, if_false, Nat.reduceEqDiff, reduceIte])
        | (refine SW.skip ?_; simp only [thenS, blockS])
      refine SW.ret (show RetQ _ _ _ _ _ _ _ from ⟨.inr rfl, _, [1, 0], [.ow 1 ([]), .int .i64 (0)], ?_, ⟨rfl, ?_, rfl, ?_, rfl, rfl⟩⟩)
      rotate_left
      · first | rfl | (simp [-List.map_set, -List.map_append, pass1, modeOf, giveS, giveSL, Heap.at, Heap.put, fixEs, ioAt, ioKs, ioM, ioT, T.cel, T.clo, cloL, T.cloA, cloAL]; rfl)
      · first | rfl | simp [-List.map_set, -List.map_append, cloL, T.clo, T.clP, clPL]
    | true =>
      rw [ho] at hO hn
      rw [Bool.true_and, Bool.true_and] at hn
      rw [hn] at hI
      repeat' first
        | ((have hk8 := Nat.add_zero); (first | refine SW.ops_seq hY fun y1 hy1 => ?_ | refine SW.ops hY ?_ | refine SW.draw_seq hY mixed (by kernel_rfl) fun y1 hy1 => ?_ | refine SW.draw hY mixed (by kernel_rfl) ?_ | refine vcall_to [] (hV) rfl (by first | rfl | (simp [pass2, T.tg, tgL, upT, lendM, lendA, lendAL, elemsM, Heap.at, RM.bind, RM.run]; done) | (simp [pass2, T.tg, tgL, upT, lendM, lendA, lendAL, elemsM, Heap.at, RM.bind, RM.run]; rfl)) (by first | rfl | simp [resClo, T.clo, cloL, T.clP, clPL]) rfl ?_ | refine vcall_to [] (hO) rfl (by first | rfl | (simp [pass2, T.tg, tgL, upT, lendM, lendA, lendAL, elemsM, Heap.at, RM.bind, RM.run]; done) | (simp [pass2, T.tg, tgL, upT, lendM, lendA, lendAL, elemsM, Heap.at, RM.bind, RM.run]; rfl)) (by first | rfl | simp [resClo, T.clo, cloL, T.clP, clPL]) rfl ?_ | refine vcall_to [] (hI) rfl (by first | rfl | (simp [pass2, T.tg, tgL, upT, lendM, lendA, lendAL, elemsM, Heap.at, RM.bind, RM.run]; done) | (simp [pass2, T.tg, tgL, upT, lendM, lendA, lendAL, elemsM, Heap.at, RM.bind, RM.run]; rfl)) (by first | rfl | simp [resClo, T.clo, cloL, T.clP, clPL]) rfl ?_ | (simp only [k8]; refine ⟨fun hb => ?_, fun hb => ?_⟩ <;> (try replace hb := Bool.eq_false_iff.2 hb) <;> (first | exact absurd hb (by decide) | replace hk8 := hb))) <;> (simp only [hk8, T.asArr, T.tg, tgL, dnT, indexAddrM, wk, wl, eq_self, isCall, callT, opM, S.ev, S.put, entryS, thawAL, thawA, RM.run, RM.bind, RM.ofOpt, allocs, Heap.ups, Heap.put, Heap.at, List.replicate, Nat.reduceAdd, Nat.reduceSub, ofConst, nilAs, if_false, if_true, binT, binTy, unT, guardT, pickT, quietK, stripT, openT, reduceIte, boxM, allocM, loadM, storeM, fieldAddrM, lenT, extractT, subM, setOb, T.get, T.setp, T.offs, T.nw, nwL, T.cel, T.isNd, T.size, sizeL, TyI.agg, Ty.agg, Ty.isFn, zeroT, Nat.reduceLT, Nat.reduceEqDiff, sumT, kill, Y1, Y2, Y3, Y4, Y24, Y27, Y30, Y32, Y37, Y87, Y92, Y94]; clear hk8; first | subst hy1 | (try simp only [thenS, blockS, if_true, if_false, Nat.reduceEqDiff, reduceIte])))
        | exact absurd trivial hb
        | exact absurd hb (by decide)
        | exact absurd hcc (by decide)
        | refine SW.seq ?_
        | refine SW.block ?_
        | (refine SW.cond rfl (fun hcc => ?_) (fun hcc => ?_))
        | (refine SW.exit ?_; simp only [thenS, blockS, if_true, if_false, Nat.reduceEqDiff, reduceIte])
        | (refine SW.skip ?_; simp only [thenS, blockS])
      refine SW.ret (show RetQ _ _ _ _ _ _ _ from ⟨.inr rfl, _, [1, 0], [.ow 1 ([]), .int .i64 (0)], ?_, ⟨rfl, ?_, rfl, ?_, rfl, rfl⟩⟩)
      rotate_left
      · first | rfl | (simp [-List.map_set, -List.map_append, pass1, modeOf, giveS, giveSL, Heap.at, Heap.put, fixEs, ioAt, ioKs, ioM, ioT, T.cel, T.clo, cloL, T.cloA, cloAL]; rfl)
      · first | rfl | simp [-List.map_set, -List.map_append, cloL, T.clo, T.clP, clPL]
end Q1
