/- Shows what the parts of the program do that the claim reaches: a machine of values over the model, and the contracts of functions, for all arguments within the lengths that each theorem names. -/
import Derived.Test.YtalhmcbkmpggiaaVm4
import Derived.Test.YtalhmcbkmpggiaaVm2
set_option linter.all false

namespace Go.Vm
set_option linter.unusedSimpArgs false

theorem loud_lt {ops : Array Oper} {j : Nat} (h : loudAt ops j = true) : j < ops.size := by
  unfold loudAt at h
  split at h
  · rename_i o ho; exact (Array.getElem?_eq_some_iff.1 ho).1
  · cases h

section
variable {P : Program} {Y : TypeId → TyI} {ops : Array Oper} {M : List Nat} {st : Nat → S} {rv : Nat → T}

theorem same_of {p q : Nat} (h : same ops p q = true) : ∀ j, loudAt ops j = true → (j < p ↔ j < q) := fun j hl => by
  unfold same at h
  simp only [List.all_eq_true, List.mem_range, Bool.or_eq_true, Bool.not_eq_true', beq_iff_eq] at h
  rcases h j (loud_lt hl) with h1 | h1
  · rw [hl] at h1; cases h1
  · by_cases h2 : j < p <;> by_cases h3 : j < q <;> simp [h2, h3] at h1 ⊢

theorem reads_of {cs : List (Nat × Nat)} (h : readsOk ops M cs = true) {i p : Nat} {o : Oper} (ho : ops[i]? = some o) (hr : readK o.op = true) (hp : p ∈ cuts ops) (hm : may ops M i p = true) :
    same ops i p = true ∨ (i, p) ∈ cs := by
  unfold readsOk at h
  simp only [List.all_eq_true, List.mem_range] at h
  have hi := (Array.getElem?_eq_some_iff.1 ho).1
  have h1 := h i hi
  have hra : readAt ops i = true := by unfold readAt; simp only [ho, hr]
  simp only [hra, Bool.not_true, Bool.false_or, List.all_eq_true] at h1
  have h2 := h1 p hp
  simp only [hm, Bool.not_true, Bool.false_or, Bool.or_eq_true] at h2
  exact h2.imp id (fun h => by simpa using h)

theorem chk_same (ht : Trk P Y ops ops.toList st rv) {i p : Nat} {o : Oper} (ho : ops[i]? = some o) (hr : readK o.op = true) (hp : p ≤ ops.size) (hs : same ops i p = true) : GStep P Y ops (st i).tm o (st p).hp (st p).hp (rv i) := by
  have hi := (Array.getElem?_eq_some_iff.1 ho).1
  obtain ⟨h1, _⟩ := ht.step i o (by simpa using ho)
  have h2 := h1.read hr
  rw [h2] at h1
  rw [← ht.same (by omega) hp (same_of hs)]
  exact h1

theorem draw_ok (hY : TysW P Y) (hm : P.follows .mixedOrders = true) {F : Fr} {Q : Exit → S → Prop} {id : Nat} {s : S} {cs : List (Nat × Nat)} (hb : flowB ops M cs = true) (h0 : st 0 = s) (ht : Trk P Y ops ops.toList st rv)
    (hk : Q .normal (st ops.size)) (hc : ∀ i o p, ops[i]? = some o → readK o.op = true → p ≤ ops.size → (i, p) ∈ cs → GStep P Y ops (st i).tm o (st p).hp (st p).hp (rv i)) : SW P F Q (.region id ops true) s := fun c a bs hi =>
  wp_region_any hm (by
    subst h0
    unfold flowB at hb
    simp only [Bool.and_eq_true, List.all_eq_true, List.mem_range] at hb
    have hf : FB ops M := ⟨hb.1.1⟩
    have hle : c.Le { c with w := { c.w with drawn := c.w.drawn + 1 } } := ⟨fun _ h => h, fun _ h => h, fun _ _ => rfl, fun _ _ => rfl, fun _ _ _ h => h, fun _ _ h => h⟩
    have hi' : InvH F { c with w := { c.w with drawn := c.w.drawn + 1 } } (st 0).hp bs :=
      ⟨HR.mono hle (fun _ _ => rfl) hi.h.hp, hi.h.nd, hi.h.dz, hi.h.zz, hi.h.zl, hi.h.bl, hi.h.mu, hi.h.fs, hi.h.ff, hi.h.fb, hi.h.fz, hi.h.fZ, hi.h.kp.trans ⟨rfl, rfl⟩, hi.h.rr⟩
    have htm := RVL.mono hle _ hi.tm
    have hcnt : ∀ (k : Nat), k ≤ ops.size → cnt (Array.replicate ops.size false) k = k := by
      intro k
      induction k with
      | zero => intro _; rfl
      | succ k ih => intro hk; simp only [cnt]; rw [ih (by omega)]; simp [show k < ops.size by omega]
    have hz : ∀ k, (Array.replicate ops.size false).getD k false = false := fun k => by
      rw [Array.getD_eq_getD_getElem?, Array.getElem?_replicate]; split <;> rfl
    have hcut0 : 0 ∈ cuts ops := by simp [cuts]
    have hj0 : JJ F { c with w := { c.w with drawn := c.w.drawn + 1 } } ops M (st 0).tm rv (fun _ => false) a := ⟨hi.df, by have := RVL_len hi.tm; simpa using this, fun t => ?_, hi.pin⟩
    · refine flow_all hY ht hf hb.1.2 (fun i o p ho hr hpc hpn hmy => ?_) (K := Q .normal) (R := liftQ F Q) (fun s' c' a' bs' h1 h2 => ⟨s', c', bs', rfl, h1, h2⟩) hk ops.size (Array.replicate ops.size false)
        { c with w := { c.w with drawn := c.w.drawn + 1 } } a bs 0 (fun _ => false) (fun _ => []) (hcnt _ (Nat.le_refl _)) (by simp) (fun j hj => by rw [hz] at hj; cases hj)
        ⟨hj0, Nat.zero_le _, hcut0, fun j _ => by simp, hi', fun j h => (by cases h), fun k h => (by rw [hz] at h; cases h), fun k k' _ h => (by rw [hz] at h; cases h)⟩ (fun k h => (by rw [hz] at h; cases h))
      rcases reads_of hb.2 ho hr hpc hmy with h | h
      · exact chk_same ht ho hr hpn h
      · exact hc i o p ho hr hpn h
    · unfold valE
      split
      · have hv := RVL_getD t htm
        have e2 : a.tmps.toList.getD t undef = a.tmps.getD t undef := by simp [Array.getD_eq_getD_getElem?]
        rw [e2] at hv
        split
        · simp only [Bool.false_eq_true, if_false]
          split
          · trivial
          · exact hv
        · exact hv
      · trivial)

/-- A REGION THAT DRAWS ITS ORDER, walked as it is written: no reading operation can change places with one that changes the heap -/
theorem SW.draw (hY : TysW P Y) (hm : P.follows .mixedOrders = true) {F : Fr} {Q : Exit → S → Prop} {s : S} {id : Nat} (hb : flowB ops (msk ops) [] = true) (h : vopl P Y ops (Q .normal) ops.toList s) : SW P F Q (.region id ops true) s := by
  obtain ⟨st, rv, e, ht, hk⟩ := Trk.of _ _ h
  rw [Array.length_toList] at hk
  exact draw_ok hY hm hb e ht hk (fun i o p _ _ _ h => by cases h)

theorem SW.draw_seq (hY : TysW P Y) (hm : P.follows .mixedOrders = true) {F : Fr} {Q : Exit → S → Prop} {s : S} {id : Nat} {y : Code} (hb : flowB ops (msk ops) [] = true) (h : ∀ y', y' = y → vopl P Y ops (SW P F Q y') ops.toList s) :
    SW P F Q (.seq (.region id ops true) y) s := SW.seq (SW.draw hY hm hb (h y rfl))

/-! ### with reading operations that are looked at in other heaps too -/
def bnds : List Nat → Nat → List Nat
  | [], b => [b]
  | n :: ns, b => b :: bnds ns (b + n)
theorem bnds_add : ∀ (ns : List Nat) (b n : Nat), bnds ns (b + n) = (bnds ns b).map (· + n)
  | [], b, n => rfl
  | k :: ns, b, n => by
    simp only [bnds, List.map_cons]
    rw [show b + n + k = (b + k) + n by omega, bnds_add ns (b + k) n]

def vrec (P : Program) (Y : TypeId → TyI) (ops : Array Oper) (K : List Heap → S → Prop) : List Nat → List Heap → List Oper → S → Prop
  | [], hs, l, s => vopl P Y ops (K (hs ++ [s.hp])) l s
  | n :: ns, hs, l, s => vopl P Y ops (vrec P Y ops K ns (hs ++ [s.hp]) (l.drop n)) (l.take n) s

theorem Trk.recd {K : List Heap → S → Prop} : ∀ (ns : List Nat) (hs : List Heap) (l : List Oper) (s : S), ns.sum ≤ l.length → vrec P Y ops K ns hs l s →
    ∃ st rv, st 0 = s ∧ Trk P Y ops l st rv ∧ K (hs ++ (bnds ns 0).map fun b => (st b).hp) (st l.length)
  | [], hs, l, s, _, h => by
    obtain ⟨st, rv, e, ht, hk⟩ := Trk.of l s h
    exact ⟨st, rv, e, ht, by simp only [bnds, List.map_cons, List.map_nil, e]; exact hk⟩
  | n :: ns, hs, l, s, hn, h => by
    simp only [List.sum_cons] at hn
    obtain ⟨st1, rv1, e1, ht1, hk1⟩ := Trk.of _ s h
    have hl1 : (l.take n).length = n := by rw [List.length_take]; omega
    rw [hl1] at hk1
    obtain ⟨st2, rv2, e2, ht2, hk2⟩ := Trk.recd ns _ _ _ (by rw [List.length_drop]; omega) hk1
    have key : ∀ k, (if n + k < n then st1 (n + k) else st2 (n + k - n)) = st2 k := fun k => by
      rw [if_neg (by omega), Nat.add_sub_cancel_left]
    have hle : ∀ k, k ≤ n → (if k < n then st1 k else st2 (k - n)) = st1 k := fun k hk => by
      split
      · rfl
      · have : k = n := by omega
        subst this; rw [Nat.sub_self, e2]
    refine ⟨fun i => if i < n then st1 i else st2 (i - n), fun i => if i < n then rv1 i else rv2 (i - n), ?_, ⟨fun i o ho => ?_⟩, ?_⟩
    · show (if 0 < n then st1 0 else st2 (0 - n)) = s
      rw [hle 0 (Nat.zero_le _), e1]
    · show GStep P Y ops (if i < n then st1 i else st2 (i - n)).tm o (if i < n then st1 i else st2 (i - n)).hp (if i + 1 < n then st1 (i + 1) else st2 (i + 1 - n)).hp (if i < n then rv1 i else rv2 (i - n)) ∧
        (if i + 1 < n then st1 (i + 1) else st2 (i + 1 - n)).tm = ((⟨(if i < n then st1 i else st2 (i - n)).tm, []⟩ : S).put o.dst (if i < n then rv1 i else rv2 (i - n))).tm
      by_cases hin : i < n
      · have := ht1.step i o (by rw [List.getElem?_take_of_lt hin]; exact ho)
        rw [hle i (by omega), hle (i + 1) (by omega), if_pos hin]
        exact this
      · obtain ⟨k, rfl⟩ : ∃ k, i = n + k := ⟨i - n, by omega⟩
        have := ht2.step k o (by rw [List.getElem?_drop]; exact ho)
        have h4 := key (k + 1)
        rw [← Nat.add_assoc] at h4
        rw [key k, h4, if_neg hin, Nat.add_sub_cancel_left]
        exact this
    · have hlen : l.length = n + (l.drop n).length := by rw [List.length_drop]; omega
      simp only [bnds, List.map_cons, Nat.zero_add]
      have h3 : (bnds ns n).map (fun b => (if b < n then st1 b else st2 (b - n)).hp) = (bnds ns 0).map fun b => (st2 b).hp := by
        have := bnds_add ns 0 n
        rw [Nat.zero_add] at this
        rw [this, List.map_map]
        refine List.map_congr_left fun b _ => ?_
        simp only [Function.comp]
        rw [Nat.add_comm b n, key b]
      rw [h3, hle 0 (Nat.zero_le _), e1, hlen, key]
      simpa using hk2

structure Chk (A B : Prop) : Prop where
  a : A
  b : B

def rdq (Y : TypeId → TyI) (s : S) (H : Heap) : Option Oper → Prop
  | some o => match o.dst with
    | some d => d < s.tm.length ∧ (opM Y s.ev H.length o.type o.op).run H = some { v := s.tm.getD d .undef }
    | none => False
  | none => False
def rdqs (Y : TypeId → TyI) (ops : Array Oper) (s : S) (hs : List Heap) : List (Nat × Nat) → Prop
  | [] => True
  | x :: cs => rdq Y s (hs.getD x.2 []) ops[x.1]? ∧ rdqs Y ops s hs cs
theorem rdqs_mem {s : S} {hs : List Heap} : ∀ {cs : List (Nat × Nat)} {x : Nat × Nat}, rdqs Y ops s hs cs → x ∈ cs → rdq Y s (hs.getD x.2 []) ops[x.1]?
  | y :: cs, x, h, hx => by
    rcases List.mem_cons.1 hx with rfl | hx
    · exact h.1
    · exact rdqs_mem h.2 hx

def ckOk (ops : Array Oper) (M : List Nat) (x : Nat × Nat) : Bool := match ops[x.1]? with
  | some o => o.guard.isNone && decide (x.2 < (cuts ops).length) && (opT (opds o.op)).all fun t => match whoA ops t with | none => true | some k => (M.getD x.1 0).testBit k
  | none => false
def flow2B (ops : Array Oper) (M : List Nat) (ns : List Nat) (ck : List (Nat × Nat)) : Bool :=
  flowB ops M (ck.map fun x => (x.1, (cuts ops).getD x.2 0)) && (bnds ns 0 == cuts ops) && decide (ns.sum ≤ ops.size) && ck.all (ckOk ops M)

/-- 'ns': how many operations up to each that changes the heap, with it; 'ck': which reading operation is looked at again, and in which heap -/
theorem SW.draw2 (hY : TysW P Y) (hm : P.follows .mixedOrders = true) {F : Fr} {Q : Exit → S → Prop} {s : S} {id : Nat} (ns : List Nat) (ck : List (Nat × Nat)) (hb : flow2B ops (msk ops) ns ck = true)
    (h : vrec P Y ops (fun hs s' => Chk (rdqs Y ops s' hs ck) (Q .normal s')) ns [] ops.toList s) : SW P F Q (.region id ops true) s := by
  unfold flow2B at hb
  simp only [Bool.and_eq_true, decide_eq_true_eq, beq_iff_eq, List.all_eq_true] at hb
  obtain ⟨⟨⟨hb1, hb2⟩, hb3⟩, hb4⟩ := hb
  obtain ⟨st, rv, e, ht, hk⟩ := Trk.recd _ _ _ _ (by rw [Array.length_toList]; exact hb3) h
  rw [Array.length_toList, List.nil_append, hb2] at hk
  have hf : FB ops (msk ops) := ⟨by
    have := hb1; unfold flowB at this
    simp only [Bool.and_eq_true, List.all_eq_true, List.mem_range] at this
    exact this.1.1⟩
  refine draw_ok hY hm hb1 e ht hk.b fun i o p ho hr hp hmem => ?_
  obtain ⟨x, hx, hxe⟩ := List.mem_map.1 hmem
  simp only [Prod.mk.injEq] at hxe
  obtain ⟨rfl, rfl⟩ := hxe
  have h1 := rdqs_mem hk.a hx
  have h2 := hb4 x hx
  unfold ckOk at h2
  simp only [ho, Bool.and_eq_true, decide_eq_true_eq, List.all_eq_true, Option.isNone_iff_eq_none] at h2
  obtain ⟨⟨hg, hq⟩, hop⟩ := h2
  rw [ho] at h1
  unfold rdq at h1
  simp only at h1
  cases hd : o.dst with
  | none => simp [hd] at h1
  | some d =>
    simp only [hd] at h1
    obtain ⟨hdl, h1⟩ := h1
    have hi := (Array.getElem?_eq_some_iff.1 ho).1
    have hgl : List.getD (List.map (fun b => (st b).hp) (cuts ops)) x.2 [] = (st ((cuts ops).getD x.2 0)).hp := by
      rw [List.getD_eq_getElem?_getD, List.getElem?_map, List.getD_eq_getElem?_getD, List.getElem?_eq_getElem hq]; rfl
    rw [hgl] at h1
    obtain ⟨t1, t2⟩ := ht.tm hf ops.size (Nat.le_refl _)
    obtain ⟨t3, t4⟩ := ht.tm hf x.1 (by omega)
    have hval : (st ops.size).tm.getD d .undef = rv x.1 := by
      rw [t2 d]
      unfold valT
      rw [if_pos (by rw [← t1]; exact hdl)]
      simp only [hf.dst ho hd, hi, decide_true, if_true]
    rw [hval, ev_evT] at h1
    have hev : ∀ y ∈ opds o.op, evT (st ops.size).tm y = evT (st x.1).tm y := fun y hy => by
      cases y with
      | tmp t =>
        show (st ops.size).tm.getD t .undef = (st x.1).tm.getD t .undef
        rw [t2 t, t4 t]
        unfold valT
        have hw := hop t (by simp only [opT, List.mem_filterMap]; exact ⟨_, hy, rfl⟩)
        cases hwt : whoA ops t with
        | none => rfl
        | some k =>
          simp only [hwt] at hw
          have hki := hf.bit_lt x.1 hi k hw
          simp only [hki, show k < ops.size by omega, decide_true, if_true]
      | const v => rfl
      | func f => rfl
      | global g => rfl
    rw [opM_congr hev] at h1
    obtain ⟨ha, hc⟩ := read_al (Y := Y) hr
    unfold GStep
    simp only [hg]
    unfold LStep
    simp only [ha, hc, Bool.false_eq_true, if_false]
    exact ⟨_, h1, rfl, rfl⟩
end
end Go.Vm

namespace Go.Vm

/-! ### what is lent, within a variable that is handed over: one tag for all -/
def cst (k : Nat) : Tag → Tag := fun _ => .r k

theorem bind_pure_inv {α β : Type} {m : RM α} {f : α → RM β} {x : β} (h : m.bind f = .pure x) : ∃ a, m = .pure a ∧ f a = .pure x := by
  cases m with
  | pure a => exact ⟨a, rfl, h⟩
  | fail => cases h
  | get e j k => cases h

mutual
theorem tg_tg (σ τ : Tag → Tag) : ∀ t : T, (t.tg σ).tg τ = t.tg (fun g => τ (σ g))
  | .nd l => by simp only [T.tg, tgL_tgL σ τ l]
  | .sl g l => by simp only [T.tg, tgL_tgL σ τ l]
  | .ow es l => by simp only [T.tg, tgL_tgL σ τ l]
  | .tup l => by simp only [T.tg, tgL_tgL σ τ l]
  | .io t => by simp only [T.tg, tg_tg σ τ t]
  | .fp t => by simp only [T.tg, tg_tg σ τ t]
  | .int .. | .bool _ | .str _ | .nils _ | .ref .. | .vr .. | .ptr .. | .fn .. | .nilI | .nilP | .err | .any | .undef | .opt .. => rfl
theorem tgL_tgL (σ τ : Tag → Tag) : ∀ l : List T, tgL τ (tgL σ l) = tgL (fun g => τ (σ g)) l
  | [] => rfl
  | t :: l => by simp only [tgL, tg_tg σ τ t, tgL_tgL σ τ l]
end

mutual
theorem tg_lent (τ : Tag → Tag) {k : T → RM T} : ∀ t : T, lendA k t = .pure t → t.tg τ = t.tg (fun _ => τ .b)
  | .nd l, h => by
    simp only [lendA] at h
    obtain ⟨a, h1, h2⟩ := bind_pure_inv h
    simp only [RM.pure.injEq, T.nd.injEq] at h2; rw [h2] at h1
    simp only [T.tg, tgL_lent τ l h1]
  | .sl g l, h => by
    simp only [lendA] at h
    obtain ⟨a, h1, h2⟩ := bind_pure_inv h
    simp only [RM.pure.injEq, T.sl.injEq] at h2
    obtain ⟨hg, hl⟩ := h2
    rw [hl] at h1
    simp only [T.tg, tgL_lent τ l h1, ← hg]
  | .ow es l, h => by
    simp only [lendA] at h
    obtain ⟨a, h1, h2⟩ := bind_pure_inv h
    simp at h2
  | .fp t, h => by
    simp only [lendA] at h
    obtain ⟨a, h1, h2⟩ := bind_pure_inv h
    simp only [RM.pure.injEq, T.fp.injEq] at h2; rw [h2] at h1
    simp only [T.tg, tg_lent τ t h1]
  | .tup l, h => by simp [lendA] at h
  | .io t, h => by simp [lendA] at h
  | .int .., _ | .bool _, _ | .str _, _ | .nils _, _ | .ref .., _ | .vr .., _ | .ptr .., _ | .fn .., _ | .nilI, _ | .nilP, _ | .err, _ | .any, _ | .undef, _ | .opt .., _ => rfl
theorem tgL_lent (τ : Tag → Tag) {k : T → RM T} : ∀ l : List T, lendAL k l = .pure l → tgL τ l = tgL (fun _ => τ .b) l
  | [], _ => rfl
  | t :: l, h => by
    simp only [lendAL] at h
    obtain ⟨a, h1, h2⟩ := bind_pure_inv h
    obtain ⟨b, h3, h4⟩ := bind_pure_inv h2
    simp only [RM.pure.injEq, List.cons.injEq] at h4
    rw [h4.1] at h1; rw [h4.2] at h3
    simp only [tgL, tg_lent τ t h1, tgL_lent τ l h3]
end

mutual
theorem lend_tg (σ : Tag → Tag) {k : T → RM T} : ∀ t : T, lendA k t = .pure t → lendA k (t.tg σ) = .pure t
  | .nd l, h => by
    simp only [lendA] at h
    obtain ⟨a, h1, h2⟩ := bind_pure_inv h
    simp only [RM.pure.injEq, T.nd.injEq] at h2; rw [h2] at h1
    simp only [T.tg, lendA, lendL_tg σ l h1, RM.bind]
  | .sl g l, h => by
    simp only [lendA] at h
    obtain ⟨a, h1, h2⟩ := bind_pure_inv h
    simp only [RM.pure.injEq, T.sl.injEq] at h2
    obtain ⟨hg, hl⟩ := h2
    rw [hl] at h1
    simp only [T.tg, lendA, lendL_tg σ l h1, ← hg, RM.bind]
  | .ow es l, h => by
    simp only [lendA] at h
    obtain ⟨a, h1, h2⟩ := bind_pure_inv h
    simp at h2
  | .fp t, h => by
    simp only [lendA] at h
    obtain ⟨a, h1, h2⟩ := bind_pure_inv h
    simp only [RM.pure.injEq, T.fp.injEq] at h2; rw [h2] at h1
    simp only [T.tg, lendA, lend_tg σ t h1, RM.bind]
  | .tup l, h => by simp [lendA] at h
  | .io t, h => by simp [lendA] at h
  | .int .., h | .bool _, h | .str _, h | .nils _, h | .ref .., h | .vr .., h | .ptr .., h | .fn .., h | .nilI, h | .nilP, h | .err, h | .any, h | .undef, h | .opt .., h => h
theorem lendL_tg (σ : Tag → Tag) {k : T → RM T} : ∀ l : List T, lendAL k l = .pure l → lendAL k (tgL σ l) = .pure l
  | [], _ => rfl
  | t :: l, h => by
    simp only [lendAL] at h
    obtain ⟨a, h1, h2⟩ := bind_pure_inv h
    obtain ⟨b, h3, h4⟩ := bind_pure_inv h2
    simp only [RM.pure.injEq, List.cons.injEq] at h4
    rw [h4.1] at h1; rw [h4.2] at h3
    simp only [tgL, lendAL, lend_tg σ t h1, lendL_tg σ l h3, RM.bind]
end

mutual
theorem ren_tg (π : List Nat) (σ : Tag → Tag) : ∀ t : T, (t.tg σ).ren π = (t.ren π).tg σ
  | .nd l => by simp only [T.tg, T.ren, renL_tg π σ l]
  | .sl g l => by simp only [T.tg, T.ren, renL_tg π σ l]
  | .ow es l => by simp only [T.tg, T.ren, renL_tg π σ l]
  | .tup l => by simp only [T.tg, T.ren, renL_tg π σ l]
  | .io t => by simp only [T.tg, T.ren, ren_tg π σ t]
  | .fp t => by simp only [T.tg, T.ren, ren_tg π σ t]
  | .ref e j off len => by simp only [T.tg, T.ren]; first | rfl | (split <;> rfl)
  | .vr .. => by simp only [T.tg, T.ren]; first | rfl | (split <;> rfl)
  | .ptr .. => by simp only [T.tg, T.ren]; first | rfl | (split <;> rfl)
  | .int .. | .bool _ | .str _ | .nils _ | .fn .. | .nilI | .nilP | .err | .any | .undef | .opt .. => rfl
theorem renL_tg (π : List Nat) (σ : Tag → Tag) : ∀ l : List T, renL π (tgL σ l) = tgL σ (renL π l)
  | [] => rfl
  | t :: l => by simp only [tgL, renL, ren_tg π σ t, renL_tg π σ l]
end

mutual
theorem lend_cloA {k : T → RM T} : ∀ (t u : T), t.clo = true → lendA k t = .pure u → u.cloA = true
  | .nd l, u, hc, h => by
    simp only [lendA] at h
    obtain ⟨a, h1, h2⟩ := bind_pure_inv h
    simp only [RM.pure.injEq] at h2; subst h2
    exact lendL_cloA l a hc h1
  | .sl g l, u, hc, h => by
    simp only [lendA] at h
    obtain ⟨a, h1, h2⟩ := bind_pure_inv h
    simp only [RM.pure.injEq] at h2; subst h2
    simp only [T.clo, Bool.and_eq_true] at hc
    exact lendL_cloA l a hc.2 h1
  | .ow es l, u, hc, h => by
    simp only [lendA] at h
    obtain ⟨a, h1, h2⟩ := bind_pure_inv h
    simp only [RM.pure.injEq] at h2; subst h2
    exact lendL_cloA l a hc h1
  | .int .., u, _, h => by simp only [lendA, RM.pure.injEq] at h; subst h; rfl
  | .bool _, u, _, h => by simp only [lendA, RM.pure.injEq] at h; subst h; rfl
  | .str _, u, _, h => by simp only [lendA, RM.pure.injEq] at h; subst h; rfl
  | .nilI, u, _, h => by simp only [lendA, RM.pure.injEq] at h; subst h; rfl
  | .nilP, u, _, h => by simp only [lendA, RM.pure.injEq] at h; subst h; rfl
  | .err, u, _, h => by simp only [lendA, RM.pure.injEq] at h; subst h; rfl
  | .any, u, _, h => by simp only [lendA, RM.pure.injEq] at h; subst h; rfl
  | .nils _, u, _, h => by simp only [lendA, RM.pure.injEq] at h; subst h; rfl
  | .fp _, _, hc, _ | .tup _, _, hc, _ | .io _, _, hc, _ | .ref .., _, hc, _ | .vr .., _, hc, _ | .ptr .., _, hc, _ | .fn .., _, hc, _ | .undef, _, hc, _ | .opt .., _, hc, _ => by simp [T.clo] at hc
theorem lendL_cloA {k : T → RM T} : ∀ (l u : List T), cloL l = true → lendAL k l = .pure u → cloAL u = true
  | [], u, _, h => by simp only [lendAL, RM.pure.injEq] at h; subst h; rfl
  | t :: l, u, hc, h => by
    simp only [lendAL] at h
    obtain ⟨a, h1, h2⟩ := bind_pure_inv h
    obtain ⟨b, h3, h4⟩ := bind_pure_inv h2
    simp only [RM.pure.injEq] at h4; subst h4
    simp only [cloL, Bool.and_eq_true] at hc
    simp only [cloAL, lend_cloA t a hc.1 h1, lendL_cloA l b hc.2 h3, Bool.and_self]
end

mutual
theorem clo_cst (k : Nat) : ∀ t : T, t.cloA = true → (t.tg (cst k)).clo = true
  | .nd l, h => cloL_cst k l h
  | .sl g l, h => by
    simp only [T.tg, T.clo, Bool.and_eq_true]
    exact ⟨rfl, cloL_cst k l h⟩
  | .ow es l, h => cloL_cst k l h
  | .int .., _ | .bool _, _ | .str _, _ | .nilI, _ | .nilP, _ | .err, _ | .any, _ | .nils _, _ => rfl
  | .fp _, h | .tup _, h | .io _, h | .ref .., h | .vr .., h | .ptr .., h | .fn .., h | .undef, h | .opt .., h => by simp [T.cloA] at h
theorem cloL_cst (k : Nat) : ∀ l : List T, cloAL l = true → cloL (tgL (cst k) l) = true
  | [], _ => rfl
  | t :: l, h => by
    simp only [cloAL, Bool.and_eq_true] at h
    simp only [tgL, cloL, clo_cst k t h.1, cloL_cst k l h.2, Bool.and_self]
end

section
variable {α : Type} [Enc α]
@[simp] theorem tgL_up0 (l : List α) : tgL upT (l.map Enc.b) = tgL (cst 0) (l.map Enc.b) := tgL_lent upT _ (lendAL_b (fun _ => .fail) l)
@[simp] theorem tgL_up (k : Nat) (l : List T) : tgL upT (tgL (cst k) l) = tgL (cst (k + 1)) l := tgL_tgL _ _ l
@[simp] theorem tgL_dn (k : Nat) (l : List T) : tgL dnT (tgL (cst (k + 1)) l) = tgL (cst k) l := tgL_tgL _ _ l
@[simp] theorem tgL_dn0 (l : List α) : tgL dnT (tgL (cst 0) (l.map Enc.b)) = l.map Enc.b := by
  rw [tgL_tgL]
  have h : ∀ m : List α, tgL (fun g : Tag => dnT (cst 0 g)) (m.map Enc.b) = m.map Enc.b := fun m => by
    have h1 := tgL_lent id _ (lendAL_b (fun _ => .fail) m)
    rw [tgL_id] at h1
    exact h1.symm
  exact h l
@[simp] theorem tgL_dnb (l : List α) : tgL dnT (l.map Enc.b) = l.map Enc.b := by
  have h1 := tgL_lent id _ (lendAL_b (fun _ => .fail) l)
  rw [tgL_id] at h1
  have h2 := tgL_lent dnT _ (lendAL_b (fun _ => .fail) l)
  rw [h2]; exact h1.symm
@[simp] theorem lendAL_t (σ : Tag → Tag) (k : T → RM T) (l : List α) : lendAL k (tgL σ (l.map Enc.b)) = .pure (l.map Enc.b) := lendL_tg σ _ (lendAL_b k l)
@[simp] theorem renL_t (π : List Nat) (σ : Tag → Tag) (l : List α) : renL π (tgL σ (l.map Enc.b)) = tgL σ (l.map Enc.b) := by rw [renL_tg, renL_b]
@[simp] theorem cloAL_b (l : List α) : cloAL (l.map Enc.b) = true := lendL_cloA _ _ (cloL_o l) (lendAL_o (fun _ => .fail) l)
@[simp] theorem cloAL_t (σ : Tag → Tag) (l : List α) : cloAL (tgL σ (l.map Enc.b)) = true := tgL_cloA _ (cloAL_b l)
@[simp] theorem cloL_t (k : Nat) (l : List α) : cloL (tgL (cst k) (l.map Enc.b)) = true := cloL_cst k _ (cloAL_b l)
theorem tgL_get (σ : Tag → Tag) : ∀ (l : List T) (i : Nat), (tgL σ l)[i]? = (l[i]?).map (T.tg σ)
  | [], i => by simp [tgL]
  | t :: l, 0 => by simp [tgL]
  | t :: l, i + 1 => by simp only [tgL, List.getElem?_cons_succ]; exact tgL_get σ l i
theorem get_t (σ : Tag → Tag) (l : List α) (i : Nat) (h : i < l.length) : (tgL σ (l.map Enc.b))[i]? = some ((Enc.b l[i]).tg σ) := by
  rw [tgL_get, List.getElem?_map, List.getElem?_eq_getElem h]; rfl
theorem tgL_int (σ : Tag → Tag) (l : List Int) : tgL σ (l.map Enc.b) = l.map Enc.b := by rw [b_int]; exact tgL_o σ l
theorem tgL_bool (σ : Tag → Tag) (l : List Bool) : tgL σ (l.map Enc.b) = l.map Enc.b := by rw [b_bool]; exact tgL_o σ l
@[simp] theorem len_t (σ : Tag → Tag) (l : List α) : (tgL σ (l.map (Enc.b : α → T))).length = l.length := by rw [tgL_len]; simp
theorem append_runP {Y : TypeId → TyI} {own t u e j off n e2 j2 el es by' : Nat} {k : Ty} {f : List T} {l : List α} {x : α} {H : Heap} (h1 : Y t = ⟨.sl el, 1, 24⟩) (hu : Y u = ⟨.sl el, 1, 24⟩) (h2 : Y el = ⟨k, es, by'⟩) (h3 : k.isFn = false) (h4 : 0 < es ∧ 0 < by' ∧ by' ≤ 2 ^ 16)
    (hH : H.at e j = some (.arr es f false)) (hH2 : H.at e2 j2 = some (.arr es [Enc.o x] false)) (hp : (f.drop off).take n = l.map Enc.o) (hn : off + n ≤ f.length) (hl : n + 1 ≤ 2 ^ 30) (hnw : (Enc.o x).nw = true) (hz : (Enc.o x).size = es) :
    (appendM Y own t u (.ref e j off n) (.ref e2 j2 0 1)).run H = some { v := .ref own 0 0 (n + 1), ups := [(e, j, .gone)], news := [.arr es ((l ++ [x]).map Enc.o) false] } := by
  rw [append_run1 h1 hu h2 h3 h4 hH hH2 hn hl hnw hz, hp]; simp
end
end Go.Vm

namespace Go.Vm

/-- a variable opens: its slices become objects of a new entry -/
theorem Norm.expelVar {tm : List T} {H : Heap} (e j : Nat) {t : T} (ha : H.at e j = some (.var t)) :
    Norm ⟨tm, H⟩ ⟨tm, H.put e j (.var (thawA H.length t 0).1) ++ [(thawA H.length t 0).2]⟩ := fun F c a bs hi => by
  have hext := hi.h.ext
  obtain ⟨p, q, r, hb, ho, hinv⟩ := HR.drop hext (at_app ha [])
  obtain ⟨i, hmu, cs, bs', arr, hq, hrc, hh, hsz, hfree, hle0, h1, h2⟩ := ho
  obtain ⟨is, hl, hth⟩ := thaw_rc (own := H.length) t (j := 0) hrc
  have hown : (Heap.put (H ++ [[]]) e j .gone)[H.length]? = some [] := by
    rw [put_app ha]
    rw [List.getElem?_append_right (by rw [put_len]; exact Nat.le_refl _), put_len]; simp
  have hnd := hi.h.nd
  rw [hb, List.nodup_append, List.nodup_append] at hnd
  have hqn := hnd.2.1.1
  rw [hq, List.nodup_cons] at hqn
  have hqout : ∀ x ∈ q, x ∉ p ++ r := fun x hx hx' => by
    rcases List.mem_append.1 hx' with h' | h'
    · exact hnd.2.2 x h' x (by simp [hx]) rfl
    · exact hnd.2.1.2.2 x hx x h' rfl
  have hqb : ∀ x ∈ q, x ∈ bs := fun x hx => by rw [hb]; simp [hx]
  have hin : ∀ x ∈ bs', x ∈ q := fun x hx => by rw [hq]; simp [hx]
  have hle := Le_row (is := is) hinv hown
  obtain ⟨g1, g2⟩ := hth _ hle (fun _ _ => rfl) (fun k i hk => by simp [Cx.rowAt, hk])
  obtain ⟨bs1, hinv1, hm1⟩ := hinv.row hown (q := bs') (is := is) (obs := (thawA H.length t 0).2) (fun x hx => ⟨hqout x (hin x hx), hext.dz x (hqb x (hin x hx)), hext.bl x (hqb x (hin x hx)), hext.fb x (hqb x (hin x hx))⟩)
    hqn.2 hl g2
  have hat : Heap.at ((Heap.put (H ++ [[]]) e j .gone).set H.length (thawA H.length t 0).2) e j = some .gone := by
    have h1 := at_put (x := .gone) ha
    rw [put_app ha, List.set_append_right _ _ (by rw [put_len]; exact Nat.le_refl _), put_len, Nat.sub_self]
    exact at_app h1 _
  have hmu' : (c.rowAt H.length is).μ e j = some i := by
    have : e ≠ H.length := fun he => by
      subst he
      unfold Heap.at at ha
      rw [List.getElem?_eq_none (Nat.le_refl _)] at ha; cases ha
    simp [Cx.rowAt, this, hmu]
  obtain ⟨bs2, hfin⟩ := InvH.fillOb (q := [i.blk]) (ob := .var (thawA H.length t 0).1) hinv1 hat
    ⟨i, hmu', cs, [], arr, rfl, g1, hh, hsz, hfree, hle0, h1, h2⟩
    (fun x hx => by
      simp only [List.mem_singleton] at hx; subst hx
      have hxq : i.blk ∈ q := by rw [hq]; simp
      refine ⟨fun hb1 => ?_, hext.dz _ (hqb _ hxq), hext.bl _ (hqb _ hxq), hext.fb _ (hqb _ hxq)⟩
      rcases hm1 _ hb1 with h' | h'
      · exact hqout _ hxq h'
      · exact hqn.1 h') (by simp)
  have hheap : Heap.put ((Heap.put (H ++ [[]]) e j .gone).set H.length (thawA H.length t 0).2) e j (.var (thawA H.length t 0).1) = H.put e j (.var (thawA H.length t 0).1) ++ [(thawA H.length t 0).2] := by
    rw [put_app ha, List.set_append_right _ _ (by rw [put_len]; exact Nat.le_refl _), put_len, Nat.sub_self]
    simp only [List.set_cons_zero]
    rw [put_app (at_put (x := .gone) ha), put_put]
  rw [hheap] at hfin
  refine ⟨c.rowAt H.length is, bs2, rfl, hfin, RVL.mono hle _ hi.tm, hi.df, fun j i hj => hle.mu _ _ _ (hi.pin j i hj)⟩
end Go.Vm

namespace Go.Vm
/-! ### marks of any plain element -/
section
variable {α : Type} [Enc α]
def marksG (f : Int → α) (n : Nat) (k : Int) : List α := (List.range n).map fun j : Nat => f (k + (j : Int))
def mixG (f : Int → α) (l : List α) (k : Int) (i : Nat) : List α := marksG f i k ++ l.drop i
variable (f : Int → α)
omit [Enc α] in
theorem marksG_len (n : Nat) (k : Int) : (marksG f n k).length = n := by simp [marksG]
omit [Enc α] in
theorem marksG_get (n : Nat) (k : Int) (i : Nat) (h : i < n) : (marksG f n k)[i]'(by rw [marksG_len]; exact h) = f (k + i) := by simp [marksG]
omit [Enc α] in
theorem mixG_zero (l : List α) (k : Int) : mixG f l k 0 = l := by simp [mixG, marksG]
omit [Enc α] in
theorem mixG_all (l : List α) (k : Int) : mixG f l k l.length = marksG f l.length k := by simp [mixG]
omit [Enc α] in
theorem mixG_len (l : List α) (k : Int) (i : Nat) (h : i ≤ l.length) : (mixG f l k i).length = l.length := by simp [mixG, marksG]; omega
theorem mixG_get (l : List α) (k : Int) (i : Nat) (h : i < l.length) : ((mixG f l k i).map Enc.o)[i]? = some (Enc.o l[i] : T) := by
  have : (mixG f l k i)[i]? = some l[i] := by
    unfold mixG
    rw [List.getElem?_append_right (by rw [marksG_len]; exact Nat.le_refl _), marksG_len, Nat.sub_self, List.getElem?_drop, Nat.add_zero, List.getElem?_eq_getElem h]
  rw [List.getElem?_map, this]; rfl
theorem mixG_set (l : List α) (k : Int) (i : Nat) (h : i < l.length) : ((mixG f l k i).map Enc.o).set i (Enc.o (f (k + i)) : T) = (mixG f l k (i + 1)).map Enc.o := by
  rw [← List.map_set]
  congr 1
  unfold mixG
  rw [List.set_append_right _ _ (by rw [marksG_len]; exact Nat.le_refl _), marksG_len, Nat.sub_self, List.drop_eq_getElem_cons h, List.set_cons_zero]
  have : marksG f (i + 1) k = marksG f i k ++ [f (k + i)] := by simp [marksG, List.range_succ]
  rw [this]; simp
omit [Enc α] in
@[simp] theorem take_marksG {β : Type} (g : α → β) (n : Nat) (k : Int) : ((marksG f n k).map g).take n = (marksG f n k).map g := by
  rw [List.take_of_length_le]; simp [marksG_len]
end
def mB (k : Int) : Bool := k.tmod 3 == 0
end Go.Vm

namespace Go.Vm
set_option linter.defProp false
def wk := And.intro @k0 (And.intro @k1 (And.intro @k2 (And.intro @k3 (And.intro @k4 (And.intro @k5 (And.intro @k6 (And.intro @k7 (And.intro @k9 (And.intro @k10 (And.intro @k11 (And.intro @vopl_nil (And.intro @grown_t (And.intro @grown_f (And.intro @after_f (And.intro @after_t (@after_u))))))))))))))))
def wl := And.intro @List.length_cons.{0} (And.intro @List.length_nil.{0} (And.intro @List.append_nil.{0} (And.intro @List.nil_append.{0} (And.intro @List.cons_append.{0} (And.intro @Bool.false_eq_true (And.intro @List.set_cons_succ.{0} (And.intro @List.set_cons_zero.{0} (And.intro @List.getD_cons_zero.{0} (And.intro @List.getD_cons_succ.{0} (And.intro @Option.map_some.{0,0} (And.intro @Option.map_none.{0,0} (And.intro @List.getElem?_toArray.{0} (And.intro @List.getElem?_cons_succ.{0} (And.intro @List.getElem?_cons_zero.{0} (And.intro @Option.bind_some.{0,0} (And.intro @Bool.not_or_self (And.intro @true_and (And.intro @and_true (And.intro @and_self (And.intro @beq_true (And.intro @Bool.not_not (And.intro @List.map_cons.{0,0} (And.intro @List.map_nil.{0,0} (And.intro @List.take_succ_cons.{0} (And.intro @List.take_zero.{0} (And.intro @Nat.add_zero (And.intro @Nat.zero_add (And.intro @Bool.and_self (And.intro @Bool.and_true (And.intro @Bool.true_and (And.intro @Nat.lt_add_one (And.intro @Nat.zero_lt_one (And.intro @List.toList_toArray.{0} (And.intro @tgL_o (And.intro @Bool.not_false (And.intro @Bool.not_true (And.intro @Bool.or_true (And.intro @Bool.true_or (And.intro @Bool.or_false (And.intro @Bool.false_or (And.intro @beq_self_eq_true.{0} (And.intro @beq_false (And.intro @Bool.or_not_self (And.intro @Int.natCast_nonneg (And.intro @Int.toNat_natCast (@List.length_map.{0,0}))))))))))))))))))))))))))))))))))))))))))))))
end Go.Vm

namespace Go.Vm
/-! ### bytes -/
instance : Enc UInt8 where
  b x := .int .u8 (x.toNat : Int)
  o x := .int .u8 (x.toNat : Int)
  es := 1
  lim _ _ := True
  flat := true
  sz _ x := x
  tyOk Y n t := match n with | 0 => false | _ + 1 => match (Y t).k with | .int .u8 => true | _ => false
  lendB _ _ := rfl
  lendO _ _ := rfl
  cloO _ := rfl
  renB _ _ := rfl
  renO _ _ := rfl
  tgO _ _ := rfl
  szB _ := rfl
  szO _ := rfl
  celB _ := rfl
  nwB _ := rfl
  ndO _ := rfl
  dec Y n t u h ht := by
    cases n with
    | zero => simp at h
    | succ n =>
      simp only at h
      split at h
      · rename_i hk
        obtain ⟨v, rfl, hw⟩ := typed_int ht hk
        simp [Lit.wf, IntKind.min, IntKind.max, IntKind.bits, IntKind.signed] at hw
        refine ⟨UInt8.ofNat v.toNat, ?_, trivial⟩
        simp; omega
      · cases h
  flatLim _ _ _ := trivial
  flatSz _ _ _ := rfl
  szLe _ _ _ := Int.le_refl _
  szNeg _ _ h := h
  szLim _ _ _ _ := trivial
  limUp _ _ _ _ _ := trivial

def byt (n : Int) : UInt8 := UInt8.ofNat (n % 256).toNat
theorem byt_nat (n : Int) : ((byt n).toNat : Int) = n % 256 := by
  have h0 := Int.emod_nonneg n (b := 256) (by decide)
  have h1 := Int.emod_lt_of_pos n (b := 256) (by decide)
  unfold byt; simp; omega
theorem u8_wrap (n : Int) : IntKind.u8.wrap n = ((byt n).toNat : Int) := by
  rw [byt_nat]; simp [IntKind.wrap, IntKind.bits, IntKind.signed]
theorem b_byte : (Enc.b : UInt8 → T) = Enc.o := rfl
theorem o_byte (n : UInt8) : Enc.o n = T.int .u8 (n.toNat : Int) := rfl
@[simp] theorem tgL_byte (σ : Tag → Tag) (l : List UInt8) : tgL σ (l.map Enc.b) = l.map Enc.b := by rw [b_byte]; exact tgL_o σ l
@[simp] theorem cloL_byte (l : List UInt8) : cloL (l.map Enc.b) = true := cloL_o l
theorem byte_i64 (x : UInt8) : IntKind.i64.wrap (x.toNat : Int) = (x.toNat : Int) := by
  have := x.toNat_lt
  exact wrap64 _ (by omega) (by omega)
theorem byt_of (x : UInt8) : byt (x.toNat : Int) = x := by
  apply UInt8.toNat_inj.1
  have h := byt_nat (x.toNat : Int)
  have := x.toNat_lt
  omega
end Go.Vm

namespace Go.Vm
/-- an array that was given moves to an entry of its own -/
def mvR (j n : Nat) : T → T
  | .ref e j' off len => if e = 0 ∧ j' = j then .ref n 0 off len else .ref e j' off len
  | t => t
theorem Norm.mv {tm : List T} {H : Heap} (j : Nat) {es : Nat} {l : List T} (ha : H.at 0 j = some (.arr es l false)) :
    Norm ⟨tm, H⟩ ⟨tm.map (mvR j H.length), H.put 0 j .gone ++ [[.arr es l false]]⟩ := fun F c a bs hi => by
  have hext := hi.h.ext
  obtain ⟨p, q, r, hb, ho, hinv⟩ := HR.drop hext (at_app ha [])
  obtain ⟨i, hmu, harr⟩ := ho
  have hpos : 0 < H.length := by
    cases H with
    | nil => simp [Heap.at] at ha
    | cons => simp
  have hown : (Heap.put (H ++ [[]]) 0 j .gone)[H.length]? = some [] := by
    rw [put_app ha]
    rw [List.getElem?_append_right (by rw [put_len]; exact Nat.le_refl _), put_len]; simp
  have hnd := hext.nd
  rw [hb, List.nodup_append, List.nodup_append] at hnd
  have hqout : ∀ x ∈ q, x ∉ p ++ r := fun x hx hx' => by
    rcases List.mem_append.1 hx' with h' | h'
    · exact hnd.2.2 x h' x (by simp [hx]) rfl
    · exact hnd.2.1.2.2 x hx x h' rfl
  have hqb : ∀ x ∈ q, x ∈ bs := fun x hx => by rw [hb]; simp [hx]
  have hle := Le_row (is := [i]) hinv hown
  have hmu' : (c.rowAt H.length [i]).μ H.length 0 = some i := by simp [Cx.rowAt]
  obtain ⟨bs1, hinv1, _⟩ := hinv.row hown (q := q) (is := [i]) (obs := [.arr es l false]) (fun x hx => ⟨hqout x hx, hext.dz x (hqb x hx), hext.bl x (hqb x hx), hext.fb x (hqb x hx)⟩)
    hnd.2.1.1 rfl ⟨q, [], by simp, ⟨i, hmu', harr.mono hle (fun _ _ => rfl)⟩, rfl⟩
  have hheap : (Heap.put (H ++ [[]]) 0 j .gone).set H.length [.arr es l false] = H.put 0 j .gone ++ [[.arr es l false]] := by
    rw [put_app ha, List.set_append_right _ _ (by rw [put_len]; exact Nat.le_refl _), put_len, Nat.sub_self]; rfl
  rw [hheap] at hinv1
  refine ⟨c.rowAt H.length [i], bs1, rfl, hinv1, ?_, hi.df, fun j i hj => hle.mu _ _ _ (hi.pin j i hj)⟩
  have key : ∀ (tm : List T) (vs : List Value), RVL c tm vs → RVL (c.rowAt H.length [i]) (tm.map (mvR j H.length)) vs := by
    intro tm
    induction tm with
    | nil => intro vs h; exact h
    | cons t tm ih =>
      rintro vs ⟨v, vs', rfl, h1, h2⟩
      refine ⟨v, vs', rfl, ?_, ih _ h2⟩
      have h1' := RV.mono hle t h1
      cases t with
      | ref e j' off len =>
        simp only [mvR]
        split
        · rename_i he
          obtain ⟨rfl, rfl⟩ := he
          obtain ⟨A, k, i', e1, e2, e3, e4⟩ := h1
          rw [hmu] at e3; cases e3
          exact ⟨A, k, i, e1, e2, hmu', e4⟩
        · exact h1'
      | _ => exact h1'
  exact key _ _ hi.tm

/-- a nil slice is an empty array of its own -/
theorem Norm.nil {tm : List T} {H : Heap} (t : Nat) {es : Nat} (ht : tm[t]? = some (.nils es)) :
    Norm ⟨tm, H⟩ ⟨tm.set t (.ref H.length 0 0 0), H ++ [[.arr es [] false]]⟩ := fun F c a bs hi => by
  let i : Info := { blk := 0, off := 0, es := es, cap := 0, arr0 := #[], ty := 0, fr := (0, 0) }
  have hext := hi.h.ext
  have hown : (H ++ [[]] : Heap)[H.length]? = some [] := by simp
  have hle := Le_row (is := [i]) hext hown
  have hmu' : (c.rowAt H.length [i]).μ H.length 0 = some i := by simp [Cx.rowAt]
  obtain ⟨bs1, hinv1, _⟩ := hext.row hown (q := []) (is := [i]) (obs := [.arr es [] false]) (fun x hx => by cases hx)
    List.nodup_nil rfl ⟨[], [], rfl, ⟨i, hmu', rfl, .inl rfl, Nat.le_refl _, .inl ⟨rfl, rfl⟩⟩, rfl⟩
  have hheap : (H ++ [[]] : Heap).set H.length [.arr es [] false] = H ++ [[.arr es [] false]] := by
    rw [List.set_append_right _ _ (Nat.le_refl _), Nat.sub_self]; rfl
  rw [hheap] at hinv1
  refine ⟨c.rowAt H.length [i], bs1, rfl, hinv1, ?_, hi.df, fun j i hj => hle.mu _ _ _ (hi.pin j i hj)⟩
  have h1 := RVL.mono hle _ hi.tm
  obtain ⟨v, hv, hr⟩ := RVL_get h1 ht
  obtain ⟨A, rfl⟩ := hr
  have h2 := RVL_set t h1 (t := .ref H.length 0 0 0) (v := .slice A 0 0) ⟨A, 0, i, rfl, Nat.le_refl _, hmu', rfl, .inl rfl⟩
  have e : a.tmps.toList.set t (.slice A 0 0) = a.tmps.toList := by
    obtain ⟨hlt, he⟩ := List.getElem?_eq_some_iff.1 hv
    rw [← he, List.set_getElem_self]
  rw [e] at h2
  exact h2

/-! ### what is no longer known -/
mutual
def fgt : T → T → Prop
  | .nd l, u => u = .nd l ∨ ∃ m, u = .nd m ∧ fgtL l m
  | .ref e j off len, u => u = .ref e j off len ∨ u = .any
  | .nils es, u => u = .nils es ∨ u = .any ∨ u = .ow es []
  | .sl g l, u => u = .sl g l ∨ u = .any
  | t, u => u = t
def fgtL : List T → List T → Prop
  | [], m => m = []
  | t :: l, m => ∃ u m', m = u :: m' ∧ fgt t u ∧ fgtL l m'
end
mutual
theorem fgt_rc {c : Cx} : ∀ (t : T) {u : T} {cs : List Value} {bs : List Nat}, fgt t u → RC c t cs bs → RC c u cs bs
  | .nd l, u, cs, bs, h, r => by
    rcases h with rfl | ⟨m, rfl, h⟩
    · exact r
    · simp only [RC] at r ⊢; exact fgtL_rc l h r
  | .ref e j off len, u, cs, bs, h, r => by
    rcases h with rfl | rfl
    · exact r
    · obtain ⟨e, A, k, i, rfl, _⟩ := r; exact ⟨e, _, rfl, rfl⟩
  | .nils es, u, cs, bs, h, r => by
    rcases h with rfl | rfl | rfl
    · exact r
    · obtain ⟨e, A, rfl⟩ := r; exact ⟨e, _, rfl, rfl⟩
    · obtain ⟨e, A, rfl⟩ := r; exact ⟨A, 0, rfl, .inl ⟨rfl, rfl, e⟩⟩
  | .sl g l, u, cs, bs, h, r => by
    rcases h with rfl | rfl
    · exact r
    · obtain ⟨e, A, k, rfl, _⟩ := r; exact ⟨e, _, rfl, rfl⟩
  | .int .., u, _, _, h, r | .bool _, u, _, _, h, r | .str _, u, _, _, h, r | .nilI, u, _, _, h, r | .nilP, u, _, _, h, r | .err, u, _, _, h, r | .any, u, _, _, h, r | .ow .., u, _, _, h, r | .vr .., u, _, _, h, r
  | .ptr .., u, _, _, h, r | .fp _, u, _, _, h, r | .io _, u, _, _, h, r | .fn .., u, _, _, h, r | .tup _, u, _, _, h, r | .undef, u, _, _, h, r | .opt .., u, _, _, h, r => by simp only [fgt] at h; subst h; exact r
theorem fgtL_rc {c : Cx} : ∀ (l : List T) {m : List T} {cs : List Value} {bs : List Nat}, fgtL l m → RCL c l cs bs → RCL c m cs bs
  | [], m, cs, bs, h, r => by simp only [fgtL] at h; subst h; exact r
  | t :: l, m, cs, bs, h, r => by
    obtain ⟨u, m', rfl, h1, h2⟩ := h
    obtain ⟨c1, c2, b1, b2, e1, e2, r1, r2⟩ := r
    exact ⟨c1, c2, b1, b2, e1, e2, fgt_rc t h1 r1, fgtL_rc l h2 r2⟩
end
theorem Norm.forget {tm : List T} {H : Heap} (e j : Nat) {t u : T} (ha : H.at e j = some (.var t)) (hf : fgt t u) : Norm ⟨tm, H⟩ ⟨tm, H.put e j (.var u)⟩ := fun F c a bs hi => by
  obtain ⟨p, q, r, hb, ho, hinv⟩ := HR.drop hi.h ha
  have hgone : (H.put e j .gone).at e j = some .gone := at_put (x := .gone) ha
  obtain ⟨i, hmu, cs, bs', arr, hq, hrc, hrest⟩ := ho
  have hnd := hi.h.nd
  rw [hb, List.nodup_append, List.nodup_append] at hnd
  obtain ⟨bs2, hfin⟩ := soak_back (q' := q) (ob := .var u) hi.h hb (.refl hinv) hgone ⟨i, hmu, cs, bs', arr, hq, fgt_rc t hf hrc, hrest⟩ (fun x hx => .inl hx) hnd.2.1.1
  rw [put_put] at hfin
  exact ⟨c, bs2, rfl, hfin, hi.tm, hi.df, hi.pin⟩
theorem takeB {α : Type} [Enc α] (l : List α) (n : Nat) : ∀ z ∈ (l.map (Enc.b : α → T)).take n, z.size = Enc.es α := fun z hz => by
  obtain ⟨x, _, rfl⟩ := List.mem_map.1 (List.mem_of_mem_take hz)
  exact Enc.szB x
/-- what is lent and holds nothing of its own is copied -/
theorem append_runB {α : Type} [Enc α] {Y : TypeId → TyI} {own t u e j off n el es by' : Nat} {k : Ty} {g : Tag} {f : List T} {l m : List α} {H : Heap} (h1 : Y t = ⟨.sl el, 1, 24⟩) (hu : Y u = ⟨.sl el, 1, 24⟩) (h2 : Y el = ⟨k, es, by'⟩) (h3 : k.isFn = false) (h4 : 0 < es ∧ 0 < by' ∧ by' ≤ 2 ^ 16)
    (hH : H.at e j = some (.arr es f false)) (hp : (f.drop off).take n = l.map Enc.o) (hn : off + n ≤ f.length) (hl : n + m.length ≤ 2 ^ 30) (hz : Enc.es α = es) (hbo : (Enc.b : α → T) = Enc.o) :
    (appendM Y own t u (.ref e j off n) (.sl g (m.map Enc.b))).run H = some { v := .ref own 0 0 (n + m.length), ups := [(e, j, .gone)], news := [.arr es ((l ++ m).map Enc.o) false] } := by
  have h := append_run (g := g) (ys := m.map Enc.b) (own := own) h1 hu h2 h3 h4 hH hn (by rw [List.length_map]; exact hl) (nwL_b m) (by rw [← hz]; exact takeB m 1)
  rw [h, hp, List.length_map, hbo, List.map_append]
theorem SW.draw2_seq {P : Program} {Y : TypeId → TyI} {ops : Array Oper} (hY : TysW P Y) (hm : P.follows .mixedOrders = true) {F : Fr} {Q : Exit → S → Prop} {s : S} {id : Nat} {y : Code} (ns : List Nat) (ck : List (Nat × Nat)) (hb : flow2B ops (msk ops) ns ck = true)
    (h : ∀ y', y' = y → vrec P Y ops (fun hs s' => Chk (rdqs Y ops s' hs ck) (SW P F Q y' s')) ns [] ops.toList s) : SW P F Q (.seq (.region id ops true) y) s := SW.seq (SW.draw2 hY hm ns ck hb (h y rfl))
end Go.Vm

namespace Go.Vm
set_option linter.defProp false
set_option maxRecDepth 10000
end Go.Vm
namespace Go.Vm
theorem vcall_x {P : Program} {f : FuncId} {ts : List T} {dst : Option Tmp} {K : S → Prop} {s : S} (ms : List Mode) {args outs : List T} {res : T} {as : List (Bool × T)} {backs : List Back} {H1 H2 : Heap}
    (hc : CallR P f args outs res)
    (h1 : pass1 ms ts (s.hp ++ [[]]) = some (as, backs, H1) := by (first | rfl | (simp [-List.map_set, -List.map_append, pass1, ioN, ioNL, hasIoL, T.hasIo, modeOf, giveS, giveSL, fixEs, Heap.at, Heap.put, T.cel, cloL, cloAL, T.cloA]; first | rfl | exact ⟨rfl, rfl, rfl⟩)))
    (h2 : (pass2 as).run H1 = some args := by (first | rfl | (simp [-List.map_set, -List.map_append, pass2, T.tg, tgL, upT, lendM, lendA, lendAL, elemsM, Heap.at, marks_len, marksG_len, subM, T.get, T.offs, RM.bind, RM.run]; done) | (simp [-List.map_set, -List.map_append, pass2, T.tg, tgL, upT, lendM, lendA, lendAL, elemsM, Heap.at, marks_len, marksG_len, subM, T.get, T.offs, RM.bind, RM.run]; rfl)))
    (hr : resClo res = true := by (first | rfl | simp [-List.map_set, -List.map_append, resClo, T.clo, cloL, T.clP, clPL]))
    (h3 : fillB backs outs H1 = some H2 := by (first | rfl | (simp [-List.map_set, -List.map_append, fillB, T.cloO, T.clo, cloL, T.asArr, T.tg, tgL, dnT, obOf, Heap.at, Heap.put]; try rfl)))
    (hK : K ({ s with hp := H2.set s.hp.length (thawA s.hp.length (res.tg dnT) 0).2 }.put dst (thawA s.hp.length (res.tg dnT) 0).1)) : vcallF P f ts dst K s :=
  vcall_to ms hc h1 h2 hr h3 hK
theorem RetQ.x {Y : TypeId → TyI} {rs : List ResultVar} {args outs : List T} {res : T} {s : S} (es : List Nat) (us : List T) {ts : List T} {H1 : Heap}
    (rn : (retM Y s rs).run s.hp = some ts := by rfl)
    (gv : pass1 (es.map modeOf ++ (ioKs args).map ioM) (ts ++ List.zipWith (ioT s.hp) (ioAt args 0) (ioKs args)) s.hp =
      some (us.map (fun u => (false, u)) ++ outs.map (fun u => (false, .io u)), (ioAt args 0).map (fun j => ⟨0, j⟩), H1) := by (first | rfl | (simp [-List.map_set, -List.map_append, pass1, modeOf, giveS, giveSL, Heap.at, Heap.put, fixEs, ioAt, ioAtT, ioKs, ioKT, ioM, ioT, thawA, thawAL, T.asArr, T.cel, T.clo, cloL, T.cloA, cloAL]; try rfl)))
    (le : us.length = ts.length := by rfl)
    (cu : clPL us = true := by (first | rfl | simp [-List.map_set, -List.map_append, cloL, T.clo, T.clP, clPL]))
    (co : cloOL outs = true := by (first | rfl | simp [-List.map_set, -List.map_append, cloOL, T.cloO, T.asArr, T.clo, cloL]))
    (re : res = tupOf us := by rfl) : RetQ Y rs args outs res .ret s := ⟨.inr rfl, ts, es, us, H1, rn, gv, le, cu, co, re⟩
end Go.Vm

namespace Go.Vm
/-! ### a tag that may be any but 'borrowed': 0 is shared for good, k + 1 is region k -/
def gOf : Nat → Tag
  | 0 => .s
  | k + 1 => .r k
def upk : Nat → Nat
  | 0 => 0
  | k + 1 => k + 2
theorem upT_g : ∀ k, upT (gOf k) = gOf (upk k)
  | 0 => rfl
  | _ + 1 => rfl
theorem dnT_g : ∀ k, dnT (gOf (upk k)) = gOf k
  | 0 => rfl
  | _ + 1 => rfl
theorem nb_g : ∀ k, (gOf k != .b) = true
  | 0 => rfl
  | _ + 1 => rfl
theorem upT_b : upT .b = .r 0 := rfl
theorem upT_s : upT .s = .s := rfl
theorem upT_r (k : Nat) : upT (.r k) = .r (k + 1) := rfl
theorem dnT_b : dnT .b = .b := rfl
theorem dnT_s : dnT .s = .s := rfl
theorem dnT_0 : dnT (.r 0) = .b := rfl
theorem dnT_r (k : Nat) : dnT (.r (k + 1)) = .r k := rfl
end Go.Vm

namespace Go.Vm

/-! ### freezing: what is one's own becomes shared for good -/
mutual
def frz : T → T
  | .nd l => .nd (frzL l)
  | .ow _ l => .sl .s (frzL l)
  | t => t
def frzL : List T → List T
  | [] => []
  | t :: l => frz t :: frzL l
end
theorem frzL_len : ∀ l : List T, (frzL l).length = l.length
  | [] => rfl
  | t :: l => by simp [frzL, frzL_len l]
theorem frzL_map : ∀ l : List T, frzL l = l.map frz
  | [] => rfl
  | t :: l => by simp [frzL, frzL_map l]
def Cx.frz (c : Cx) (q : List Nat) : Cx := { c with Z := fun b => c.Z b ∨ b ∈ q, Zs := fun b => c.Zs b ∨ b ∈ q }
theorem Le_frz (c : Cx) (q : List Nat) : c.Le (c.frz q) := ⟨fun _ h => .inl h, fun _ h => .inl h, fun _ _ => rfl, fun _ _ => rfl, fun _ _ _ h => h, fun _ _ h => h⟩
mutual
theorem frz_rc {c : Cx} {q : List Nat} : ∀ (t : T) {cs : List Value} {bs : List Nat}, RC c t cs bs → (∀ b ∈ bs, b ∈ q) → RC (c.frz q) (frz t) cs []
  | .nd l, cs, bs, r, hq => by simp only [RC, frz] at r ⊢; exact frzL_rc l r hq
  | .ow es l, cs, bs, r, hq => by
    obtain ⟨A, k, rfl, r⟩ := r
    refine ⟨rfl, A, k, by rw [frzL_len], ?_⟩
    rcases r with ⟨h1, h2, h3⟩ | ⟨a, rows, bs', h1, h2, h3, h4, h5, h6⟩
    · subst h2; exact ⟨Nat.zero_le _, .inl rfl⟩
    · refine ⟨by rw [frzL_len]; exact h5, .inr ⟨a, es, rows, h1, h2.1, h2.2.1, frzR_rc l h3 (fun b hb => hq b (by rw [h6]; simp [hb])), h4, .inr (hq _ (by rw [h6]; simp))⟩⟩
  | .int .., _, _, r, _ => ⟨r.1, rfl⟩
  | .bool _, _, _, r, _ => ⟨r.1, rfl⟩
  | .str _, _, _, r, _ => ⟨r.1, rfl⟩
  | .nilI, _, _, r, _ => ⟨r.1, rfl⟩
  | .nilP, _, _, r, _ => ⟨r.1, rfl⟩
  | .sl g l, cs, bs, r, _ => by have := RC.mono (Le_frz c q) (.sl g l) (bs := bs) (fun _ _ => rfl) r; exact ⟨rfl, this.2⟩
  | .nils es, cs, bs, r, _ => ⟨rfl, r.2⟩
  | .ref e j off len, cs, bs, r, _ => ⟨rfl, r.2⟩
  | .vr e j p o es off len, cs, bs, r, _ => ⟨rfl, r.2⟩
  | .ptr e j p o, cs, bs, r, _ => ⟨rfl, r.2⟩
  | .fp t, cs, bs, r, _ => by have := RC.mono (Le_frz c q) (.fp t) (bs := bs) (fun _ _ => rfl) r; exact ⟨rfl, this.2⟩
  | .fn f a b, cs, bs, r, _ => by have := RC.mono (Le_frz c q) (.fn f a b) (bs := bs) (fun _ _ => rfl) r; exact ⟨rfl, this.2⟩
  | .err, cs, bs, r, _ => ⟨rfl, r.2⟩
  | .any, cs, bs, r, _ => ⟨rfl, r.2⟩
  | .tup _, _, _, r, _ => by simp [RC] at r
  | .io _, _, _, r, _ => by simp [RC] at r
  | .undef, _, _, r, _ => by simp [RC] at r
  | .opt .., _, _, r, _ => by simp [RC] at r
theorem frzL_rc {c : Cx} {q : List Nat} : ∀ (l : List T) {cs : List Value} {bs : List Nat}, RCL c l cs bs → (∀ b ∈ bs, b ∈ q) → RCL (c.frz q) (frzL l) cs []
  | [], _, _, r, _ => ⟨r.1, rfl⟩
  | t :: l, _, _, r, hq => by
    obtain ⟨c1, c2, b1, b2, rfl, rfl, h1, h2⟩ := r
    exact ⟨c1, c2, [], [], rfl, rfl, frz_rc t h1 (fun b hb => hq b (by simp [hb])), frzL_rc l h2 (fun b hb => hq b (by simp [hb]))⟩
theorem frzR_rc {c : Cx} {q : List Nat} {es : Nat} : ∀ (l : List T) {cs : List Value} {bs : List Nat}, RRows c es l cs bs → (∀ b ∈ bs, b ∈ q) → RRows (c.frz q) es (frzL l) cs []
  | [], _, _, r, _ => ⟨r.1, rfl⟩
  | t :: l, _, _, r, hq => by
    obtain ⟨c1, c2, b1, b2, rfl, rfl, h0, h1, h2⟩ := r
    exact ⟨c1, c2, [], [], rfl, rfl, h0, frz_rc t h1 (fun b hb => hq b (by simp [hb])), frzR_rc l h2 (fun b hb => hq b (by simp [hb]))⟩
end
theorem InvH.frz {F : Fr} {c : Cx} {H : Heap} {bs p q r : List Nat} {e j : Nat} (h : InvH F c H bs) (hb : bs = p ++ (q ++ r)) (h' : InvH F c (H.put e j .gone) (p ++ r)) :
    InvH F (c.frz q) (H.put e j .gone) (p ++ r) := by
  have hnd := h.nd
  rw [hb, List.nodup_append, List.nodup_append] at hnd
  have hin : ∀ b ∈ q, b ∈ bs := fun b hq => by rw [hb]; simp [hq]
  refine ⟨h'.hp.mono (Le_frz c q) (fun _ _ => rfl), h'.nd, ?_, ?_, ?_, h'.bl, h'.mu, h'.fs, h'.ff, h'.fb, ?_, ?_, h'.kp, h'.rr⟩
  · rintro b hm (hz | hz)
    · exact h'.dz b hm hz
    · rcases List.mem_append.1 hm with hm | hm
      · exact hnd.2.2 b hm b (by simp [hz]) rfl
      · exact hnd.2.1.2.2 b hz b hm rfl
  · rintro b (hz | hz)
    · exact .inl (h.zz b hz)
    · exact .inr hz
  · rintro b (hz | hz)
    · exact h.zl b hz
    · exact h.bl b (hin b hz)
  · rintro b (hz | hz)
    · exact h.fz b hz
    · exact .inr (h.fb b (hin b hz))
  · rintro b (hz | hz)
    · rcases h.fZ b hz with h1 | h1
      · exact .inl h1
      · exact .inr (.inl h1)
    · exact .inr (.inr hz)
/-- an array of one's own is no longer written: the temp 'k' that refers to it holds a shared slice -/
theorem Norm.frz {tm : List T} {H : Heap} (k e j : Nat) {off len es : Nat} {l : List T} (ht : tm[k]? = some (.ref e j off len)) (ha : H.at e j = some (.arr es l false)) (hn : off + len ≤ l.length) :
    Norm ⟨tm, H⟩ ⟨tm.set k (.sl .s (frzL ((l.drop off).take len))), H.put e j .gone⟩ := fun F c a bs hi => by
  obtain ⟨p, q, r, hb, ho, hinv⟩ := HR.drop hi.h ha
  have hnew := hi.h.frz hb hinv
  refine ⟨c.frz q, p ++ r, rfl, hnew, ?_, hi.df, hi.pin⟩
  have h1 := RVL.mono (Le_frz c q) _ hi.tm
  obtain ⟨v, hv, hr⟩ := RVL_get hi.tm ht
  obtain ⟨A, kk, i, rfl, hk1, hmu, hk2, hA⟩ := hr
  obtain ⟨i', hmu', e1, e2, e3, ho⟩ := ho
  have : i' = i := by rw [hmu] at hmu'; exact (Option.some.inj hmu').symm
  subst this
  have hlen : (frzL ((l.drop off).take len)).length = len := by rw [frzL_len, List.length_take, List.length_drop]; omega
  have h2 := RVL_set k h1 (t := .sl .s (Go.Vm.frzL ((l.drop off).take len))) (v := .slice A len kk) (by
    refine ⟨A, kk, by rw [hlen], by rw [hlen]; exact hk1, ?_⟩
    rcases ho with ⟨h0, hq⟩ | ⟨rows, bs', hq, hrows, hcell, hoa⟩
    · exact .inl (List.length_eq_zero_iff.1 (by rw [hlen]; omega))
    · rcases hA with h0 | hA
      · exact .inl (List.length_eq_zero_iff.1 (by rw [hlen]; omega))
      · obtain ⟨x, y, z, p', q', r', rfl, hbs, hx, _, hy, _⟩ := RRows_window off len hrows (by omega)
        refine .inr ⟨_, es, y, hA, rfl, hoa.2.1, frzR_rc _ hy (fun b hb => by rw [hq, hbs]; simp [hb]), ?_, .inr (by rw [hq]; simp)⟩
        have := CellsAt.part (b := i'.blk) (o := i'.off) hcell
        rw [hx] at this; rw [e1]; exact this)
  have e : a.tmps.toList.set k (.slice A len kk) = a.tmps.toList := by
    obtain ⟨hlt, he⟩ := List.getElem?_eq_some_iff.1 hv
    rw [← he, List.set_getElem_self]
  rw [e] at h2
  exact h2
end Go.Vm

namespace Go.Vm
set_option linter.defProp false
/-! ### a walk, kept once: what it is to use stands under these names in the context of a proof -/
theorem fx : ∀ n : Nat, n + 0 = n := Nat.add_zero
theorem fy : ∀ n : Nat, n + 0 = n := Nat.add_zero
theorem fz : ∀ n : Nat, n + 0 = n := Nat.add_zero
theorem tw {A : Prop} (a : A) (_t : True) : A := a
def wo := And.intro @st_int (And.intro @st_bool (And.intro @st_str (And.intro @st_nd (And.intro @st_sl (And.intro @st_nils (And.intro @st_ref (And.intro @st_vr (And.intro @st_ptr (And.intro @st_fp (And.intro @st_fn (And.intro @st_nilI (And.intro @st_nilP (And.intro @st_err (And.intro @st_any (And.intro @st_tup (And.intro @st_undef (And.intro @st_ow (And.intro @st_io (And.intro @st_opt (And.intro @mkOpt_t (And.intro @guardC_mk (And.intro @guardC_b (And.intro @guardC_f (And.intro @pick_bb (And.intro @pick_l (And.intro @pick_r (And.intro @ite_and (And.intro @ite_or (And.intro @tt1 (And.intro @tt2 (And.intro @tt3 (And.intro @tt4 (And.intro @tt5 (And.intro @stm_int (And.intro @stm_bool (And.intro @stm_str (And.intro @stm_nd (And.intro @stm_sl (And.intro @stm_nils (And.intro @stm_ref (And.intro @stm_vr (And.intro @stm_ptr (And.intro @stm_fp (And.intro @stm_fn (And.intro @stm_nilI (And.intro @stm_nilP (And.intro @stm_err (And.intro @stm_any (And.intro @stm_tup (And.intro @stm_undef (And.intro @stm_ow (And.intro @stm_io (And.intro @pick_fu (And.intro @pick_tu (And.intro @mkOpt_f (And.intro @pick_ul (@pick_ur)))))))))))))))))))))))))))))))))))))))))))))))))))))))))
/-- what a leaf of a walk knows -/
structure Wh (A B : Prop) : Prop where
  h : A → B
theorem hC1 : True := trivial
theorem hC2 : True := trivial
theorem hC3 : True := trivial
theorem hC4 : True := trivial
theorem hC5 : True := trivial
theorem hC6 : True := trivial
theorem hC7 : True := trivial
theorem hC8 : True := trivial
theorem hC9 : True := trivial
theorem hC10 : True := trivial
theorem hC11 : True := trivial
theorem hC12 : True := trivial
theorem hC13 : True := trivial
theorem hC14 : True := trivial
theorem hG1 : True := trivial
theorem hG2 : True := trivial
theorem hG3 : True := trivial
theorem hD1 : True := trivial
theorem hD2 : True := trivial
theorem hD3 : True := trivial
theorem hR : True := trivial
/-- a contract, with the modes in which a call passes its arguments -/
structure CtX (ms : List Mode) (P : Program) (f : FuncId) (args outs : List T) (res : T) : Prop where
  h : CallR P f args outs res
/-- which reading operations of a region that draws are looked at again -/
structure DrX (id : Nat) (ns : List Nat) (ck : List (Nat × Nat)) : Prop where
/-- what is returned -/
structure RtX (es : List Nat) (us : List T) : Prop where
theorem cx (ms : List Mode) {P : Program} {f : FuncId} {args outs : List T} {res : T} (h : CallR P f args outs res) : CtX ms P f args outs res := ⟨h⟩
theorem dx (id : Nat) (ns : List Nat) (ck : List (Nat × Nat)) : DrX id ns ck := ⟨⟩
theorem rx (es : List Nat) (us : List T) : RtX es us := ⟨⟩
theorem vcall_c {P : Program} {f : FuncId} {ts : List T} {dst : Option Tmp} {K : S → Prop} {s : S} {ms : List Mode} {args outs : List T} {res : T} {as : List (Bool × T)} {backs : List Back} {H1 H2 : Heap}
    (h : CtX ms P f args outs res) (h1 : pass1 ms ts (s.hp ++ [[]]) = some (as, backs, H1) := by (first | rfl | (simp [-List.map_set, -List.map_append, pass1, ioN, ioNL, hasIoL, T.hasIo, modeOf, giveS, giveSL, fixEs, Heap.at, Heap.put, T.cel, cloL, cloAL, T.cloA]; first | rfl | exact ⟨rfl, rfl, rfl⟩)))
    (h2 : (pass2 as).run H1 = some args := by (first | (simp only [pass2, lendM, lendA, lendAL, lendKL, lendAL_b, lendAL_o, lendAL_t, lendKL_b, lendKL_o, elemsM, Heap.at, List.getElem?_cons_zero, List.getElem?_cons_succ, List.cons_append, List.nil_append, T.tg, tgL, tgL_o, tgL_up0, tgL_up, tgL_byte, upT_g, upT_b, upT_s, upT_r, subM, T.get, T.offs, RM.bind, RM.run, List.map_cons, List.map_nil]; (try with_reducible rfl); done) | (simp [-List.map_set, -List.map_append, pass2, T.tg, tgL, upT_g, upT_b, upT_s, upT_r, lendM, lendA, lendAL, elemsM, Heap.at, marks_len, marksG_len, subM, T.get, T.offs, RM.bind, RM.run]; done) | (simp [-List.map_set, -List.map_append, pass2, T.tg, tgL, upT_g, upT_b, upT_s, upT_r, lendM, lendA, lendAL, elemsM, Heap.at, marks_len, marksG_len, subM, T.get, T.offs, RM.bind, RM.run]; rfl)))
    (h3 : resClo res = true := by (first | rfl | simp [-List.map_set, -List.map_append, resClo, T.clo, cloL, T.clP, clPL, nb_g]))
    (h4 : fillB backs outs H1 = some H2 := by (first | rfl | (simp [-List.map_set, -List.map_append, fillB, T.cloO, T.clo, cloL, T.asArr, T.tg, tgL, nb_g, dnT_g, dnT_b, dnT_s, dnT_0, dnT_r, obOf, Heap.at, Heap.put]; try rfl)))
    (hK : K ({ s with hp := H2.set s.hp.length (thawA s.hp.length (res.tg dnT) 0).2 }.put dst (thawA s.hp.length (res.tg dnT) 0).1)) : vcallF P f ts dst K s := vcall_to ms h.h h1 h2 h3 h4 hK
theorem RetQ.r {Y : TypeId → TyI} {rs : List ResultVar} {args outs : List T} {res : T} {s : S} {es : List Nat} {us : List T} (_h : RtX es us) {ts : List T} {H1 : Heap}
    (rn : (retM Y s rs).run s.hp = some ts := by rfl)
    (gv : pass1 (es.map modeOf ++ (ioKs args).map ioM) (ts ++ List.zipWith (ioT s.hp) (ioAt args 0) (ioKs args)) s.hp =
      some (us.map (fun u => (false, u)) ++ outs.map (fun u => (false, .io u)), (ioAt args 0).map (fun j => ⟨0, j⟩), H1) := by (first | rfl | (simp [-List.map_set, -List.map_append, pass1, modeOf, giveS, giveSL, Heap.at, Heap.put, fixEs, ioAt, ioAtT, ioKs, ioKT, ioM, ioT, thawA, thawAL, T.asArr, T.cel, T.clo, cloL, T.cloA, cloAL]; try rfl)))
    (le : us.length = ts.length := by rfl)
    (cu : clPL us = true := by (first | rfl | simp [-List.map_set, -List.map_append, cloL, T.clo, T.clP, clPL, nb_g]))
    (co : cloOL outs = true := by (first | rfl | simp [-List.map_set, -List.map_append, cloOL, T.cloO, T.asArr, T.clo, cloL, nb_g]))
    (re : res = tupOf us := by rfl) : RetQ Y rs args outs res .ret s := ⟨.inr rfl, ts, es, us, H1, rn, gv, le, cu, co, re⟩
theorem RetQ.y {Y : TypeId → TyI} {rs : List ResultVar} {args outs : List T} {res : T} {s : S} (es : List Nat) (us : List T) {ts : List T} {H1 : Heap}
    (rn : (retM Y s rs).run s.hp = some ts := by rfl)
    (gv : pass1 (es.map modeOf ++ (ioKs args).map ioM) (ts ++ List.zipWith (ioT s.hp) (ioAt args 0) (ioKs args)) s.hp =
      some (us.map (fun u => (false, u)) ++ outs.map (fun u => (false, .io u)), (ioAt args 0).map (fun j => ⟨0, j⟩), H1) := by (first | (simp [-List.map_set, -List.map_append, pass1, modeOf, giveS, giveSL, Heap.at, Heap.put, fixEs, ioAt, ioAtT, ioKs, ioKT, ioM, ioT, thawA, thawAL, T.asArr, T.cel, T.clo, cloL, T.cloA, cloAL]; done) | (simp [-List.map_set, -List.map_append, pass1, modeOf, giveS, giveSL, Heap.at, Heap.put, fixEs, ioAt, ioAtT, ioKs, ioKT, ioM, ioT, thawA, thawAL, T.asArr, T.cel, T.clo, cloL, T.cloA, cloAL]; rfl) | rfl))
    (le : us.length = ts.length := by rfl)
    (cu : clPL us = true := by (first | rfl | simp [-List.map_set, -List.map_append, cloL, T.clo, T.clP, clPL, nb_g]))
    (co : cloOL outs = true := by (first | rfl | simp [-List.map_set, -List.map_append, cloOL, T.cloO, T.asArr, T.clo, cloL, nb_g]))
    (re : res = tupOf us := by rfl) : RetQ Y rs args outs res .ret s := ⟨.inr rfl, ts, es, us, H1, rn, gv, le, cu, co, re⟩
/-! guarded calls that only look -/
def vpureF (P : Program) (f : FuncId) (ts : List T) (d : Option Tmp) (g : Bool) (K : S → Prop) (s : S) : Prop :=
  ∃ args res, leafT res = true ∧ (g = true → (pass2 (ts.map fun t => (true, t))).run (s.hp ++ [[]]) = some args ∧ CallR P f args [] res) ∧ K (({ s with hp := s.hp ++ [[]] } : S).put d (mkOpt g res))
def kPureQ (P : Program) (Y : TypeId → TyI) (ops : Array Oper) (K : S → Prop) (l : List Oper) (s : S) (d : Option Tmp) (g : Bool) : Option (FuncId × List T) → Prop
  | some x => vpureF P x.1 x.2 d g (vopl P Y ops K l) s
  | none => False
section
variable {P : Program} {Y : TypeId → TyI} {ops : Array Oper} {K : S → Prop} {l : List Oper} {s : S} {d : Option Tmp} {ty : TypeId} {pos : String} {aft : Array Edge}
theorem k8p {b : Bool} {G : Option (Nat × Bool)} {x : Operand} {as : Array Operand} {ats : Array TypeId} (h : kPureQ P Y ops K l s d b (callT (fun x => stripT b (s.ev x)) (.call { callee := .value x, args := as, argTypes := ats }))) :
    kGuard P Y ops K l s ⟨d, .call { callee := .value x, args := as, argTypes := ats }, ty, pos, aft, G⟩ false (some b) := by
  rw [k8]
  refine .inr ?_
  unfold vpure
  unfold kPureQ at h
  simp only
  split at h
  · rename_i y hy; rw [hy]; exact h
  · exact h.elim
theorem k13 {g : Bool} {f : FuncId} {ts : List T} : kPureQ P Y ops K l s d g (some (f, ts)) = vpureF P f ts d g (vopl P Y ops K l) s := rfl
theorem vpure_c {f : FuncId} {ts : List T} {g : Bool} {K : S → Prop} {ms : List Mode} {args : List T} {res : T} (h : CtX ms P f args [] res)
    (h1 : leafT res = true := by rfl)
    (h2 : g = true → (pass2 (ts.map fun t => (true, t))).run (s.hp ++ [[]]) = some args := by (intro _; first | (simp only [pass2, lendM, lendA, lendAL, lendKL, lendAL_b, lendAL_o, lendAL_t, lendKL_b, lendKL_o, elemsM, Heap.at, List.getElem?_cons_zero, List.getElem?_cons_succ, List.cons_append, List.nil_append, T.tg, tgL, tgL_o, tgL_up0, tgL_up, tgL_byte, upT_g, upT_b, upT_s, upT_r, subM, T.get, T.offs, RM.bind, RM.run, List.map_cons, List.map_nil]; (try with_reducible rfl); done) | (simp [-List.map_set, -List.map_append, pass2, T.tg, tgL, upT_g, upT_b, upT_s, upT_r, lendM, lendA, lendAL, elemsM, Heap.at, marks_len, marksG_len, subM, T.get, T.offs, RM.bind, RM.run]; done) | (simp [-List.map_set, -List.map_append, pass2, T.tg, tgL, upT_g, upT_b, upT_s, upT_r, lendM, lendA, lendAL, elemsM, Heap.at, marks_len, marksG_len, subM, T.get, T.offs, RM.bind, RM.run]; rfl)))
    (hK : K (({ s with hp := s.hp ++ [[]] } : S).put d (mkOpt g res))) : vpureF P f ts d g K s := ⟨args, res, h1, fun hg => ⟨h2 hg, h.h⟩, hK⟩
end
section
variable {P : Program} {Y : TypeId → TyI} {ops : Array Oper}
theorem SW.draw2x {id : Nat} {ns : List Nat} {ck : List (Nat × Nat)} (_h : DrX id ns ck) (hY : TysW P Y) (hm : P.follows .mixedOrders = true) {F : Fr} {Q : Exit → S → Prop} {s : S} (hb : flow2B ops (msk ops) ns ck = true)
    (h : vrec P Y ops (fun hs s' => Chk (rdqs Y ops s' hs ck) (Q .normal s')) ns [] ops.toList s) : SW P F Q (.region id ops true) s := SW.draw2 hY hm ns ck hb h
end
/-! an array of plain elements that is one's own is appended -/
theorem append_runR {α : Type} [Enc α] {Y : TypeId → TyI} {own t u e j off n e2 j2 el es by' : Nat} {k : Ty} {f : List T} {l m : List α} {H : Heap} (h1 : Y t = ⟨.sl el, 1, 24⟩) (hu : Y u = ⟨.sl el, 1, 24⟩) (h2 : Y el = ⟨k, es, by'⟩) (h3 : k.isFn = false) (h4 : 0 < es ∧ 0 < by' ∧ by' ≤ 2 ^ 16)
    (hH : H.at e j = some (.arr es f false)) (hH2 : H.at e2 j2 = some (.arr es (m.map Enc.o) false)) (hp : (f.drop off).take n = l.map Enc.o) (hn : off + n ≤ f.length) (hl : n + m.length ≤ 2 ^ 30) (hz : Enc.es α = es) (hbo : (Enc.b : α → T) = Enc.o) :
    (appendM Y own t u (.ref e j off n) (.ref e2 j2 0 m.length)).run H = some { v := .ref own 0 0 (n + m.length), ups := [(e, j, .gone)], news := [.arr es ((l ++ m).map Enc.o) false] } := by
  have hlen : (l.map (Enc.o : α → T)).length = n := by rw [← hp, List.length_take, List.length_drop]; omega
  simp only [appendM, h1, h2, hu, mayGrow, srcM, elemsM, RM.bind, RM.run, hH]
  rw [if_pos ⟨hn, trivial⟩]
  simp only [RM.bind, RM.run, hH2]
  rw [if_pos (by simp)]
  simp only [List.drop_zero, take_map_len, RM.bind, hp]
  rw [if_pos ⟨h4.1, h3, h4.2.1, h4.2.2, by rw [hlen]; simpa using hl, by rw [← hbo]; exact nwL_b m, by rw [← hbo, ← hz]; exact takeB m 1⟩]
  simp only [RM.run, kill, List.length_map, List.map_append]
  rw [List.length_map] at hlen
  rw [hlen]
end Go.Vm
