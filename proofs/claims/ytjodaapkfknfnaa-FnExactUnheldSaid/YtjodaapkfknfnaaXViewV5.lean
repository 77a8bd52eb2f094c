/- Shows what the parts of the program do that the claim reaches: a machine of values over the model, and the contracts of functions, for all arguments within the lengths that each theorem names. -/
import Derived.Test.YtjodaapkfknfnaaXViewV4
import Derived.Test.YtjodaapkfknfnaaXViewV2
import Derived.Test.YtjodaapkfknfnaaXViewV3
import Derived.LoopN
set_option linter.all false

namespace Go.Vm
set_option linter.unusedSimpArgs false

def valT (ops : Array Oper) (tm : List T) (rv : Nat → T) (L : Nat → Bool) (t : Tmp) : T :=
  if t < tm.length then (match whoA ops t with | some k => if L k = true then rv k else tm.getD t .undef | none => tm.getD t .undef) else .undef

theorem who_dst {ops : Array Oper} {t : Tmp} {k : Nat} {o : Oper} (h : whoA ops t = some k) (ho : ops[k]? = some o) : o.dst = some t := by
  have := who_some h
  rw [ho] at this
  simpa using this
theorem who_lt {ops : Array Oper} {t : Tmp} {k : Nat} (h : whoA ops t = some k) : k < ops.size := by
  have := List.mem_of_find?_eq_some h
  simpa using this

section
variable {P : Program} {Y : TypeId → TyI} {ops : Array Oper} {M : List Nat} {st : Nat → S} {rv : Nat → T}

theorem Trk.tm (ht : Trk P Y ops ops.toList st rv) (hf : FB ops M) : ∀ i, i ≤ ops.size → (st i).tm.length = (st 0).tm.length ∧ ∀ t, (st i).tm.getD t .undef = valT ops (st 0).tm rv (fun k => decide (k < i)) t
  | 0, _ => ⟨rfl, fun t => by
    unfold valT
    split
    · split
      · simp
      · rfl
    · rename_i h; simp [h]⟩
  | i + 1, hi => by
    obtain ⟨h1, h2⟩ := ht.tm hf i (by omega)
    have ho : ops[i]? = some ops[i] := Array.getElem?_eq_getElem (by omega)
    obtain ⟨_, hs⟩ := ht.step i ops[i] (by simp)
    rw [hs]
    cases hd : (ops[i]).dst with
    | none =>
      refine ⟨h1, fun t => ?_⟩
      show (st i).tm.getD t .undef = _
      rw [h2 t]
      unfold valT
      split
      · split
        · rename_i k hk
          have hki : k ≠ i := fun e => by subst e; have := who_dst hk ho; rw [hd] at this; cases this
          have : decide (k < i + 1) = decide (k < i) := by by_cases h : k < i <;> simp [h] <;> omega
          simp only [this]
        · rfl
      · rfl
    | some d =>
      refine ⟨by show ((st i).tm.set d (rv i)).length = _; simp [h1], fun t => ?_⟩
      show ((st i).tm.set d (rv i)).getD t .undef = _
      by_cases htd : t = d
      · subst htd
        unfold valT
        split
        · rename_i hlt
          simp only [hf.dst ho hd, Nat.lt_succ_self, decide_true, if_true]
          have hl' : t < (st i).tm.length := by rw [h1]; exact hlt
          rw [List.getD_eq_getElem?_getD, List.getElem?_set_self hl']; rfl
        · rename_i hlt
          have hl' : ((st i).tm.set t (rv i)).length ≤ t := by rw [List.length_set, h1]; exact Nat.le_of_not_lt hlt
          rw [List.getD_eq_getElem?_getD, List.getElem?_eq_none hl']; rfl
      · rw [List.getD_eq_getElem?_getD, List.getElem?_set_ne (Ne.symm htd), ← List.getD_eq_getElem?_getD, h2 t]
        unfold valT
        split
        · split
          · rename_i k hk
            have hki : k ≠ i := fun e => by subst e; have := who_dst hk ho; rw [hd] at this; exact htd (by simpa using this.symm)
            have : decide (k < i + 1) = decide (k < i) := by by_cases h : k < i <;> simp [h] <;> omega
            simp only [this]
          · rfl
        · rfl

theorem Trk.still (ht : Trk P Y ops ops.toList st rv) {p : Nat} : ∀ n, p + n ≤ ops.size → (∀ j, p ≤ j → j < p + n → loudAt ops j = false) → (st (p + n)).hp = (st p).hp
  | 0, _, _ => rfl
  | n + 1, hn, h => by
    have ih := ht.still n (by omega) (fun j h1 h2 => h j h1 (by omega))
    have hi : p + n < ops.size := by omega
    obtain ⟨hs, _⟩ := ht.step (p + n) ops[p + n] (by simp)
    have hl := h (p + n) (by omega) (by omega)
    have ho : ops[p + n]? = some ops[p + n] := Array.getElem?_eq_getElem (by omega)
    unfold loudAt at hl
    simp only [ho, loudK, Bool.not_eq_false', Bool.or_eq_true] at hl
    show (st (p + n + 1)).hp = _
    rcases hl with hl | hl
    · rw [(hs.free hl).1, ih]
    · rw [hs.read hl, ih]

theorem Trk.same (ht : Trk P Y ops ops.toList st rv) {p q : Nat} (hp : p ≤ ops.size) (hq : q ≤ ops.size) (h : ∀ j, loudAt ops j = true → (j < p ↔ j < q)) : (st p).hp = (st q).hp := by
  rcases Nat.le_total p q with hpq | hpq
  · have := ht.still (p := p) (q - p) (by omega) (fun j h1 h2 => by
      cases hl : loudAt ops j with
      | false => rfl
      | true => have := (h j hl).2 (by omega); omega)
    rw [Nat.add_sub_cancel' hpq] at this
    exact this.symm
  · have := ht.still (p := q) (p - q) (by omega) (fun j h1 h2 => by
      cases hl : loudAt ops j with
      | false => rfl
      | true => have := (h j hl).1 (by omega); omega)
    rw [Nat.add_sub_cancel' hpq] at this
    exact this

/-- what an operation writes that has come early is not looked at -/
def valE (ops : Array Oper) (M : List Nat) (tm : List T) (rv : Nat → T) (L : Nat → Bool) (t : Tmp) : T :=
  if t < tm.length then (match whoA ops t with | some k => if L k = true then rv k else if early ops M k = true then .undef else tm.getD t .undef | none => tm.getD t .undef) else .undef

structure JJ (F : Fr) (c : Cx) (ops : Array Oper) (M : List Nat) (tm : List T) (rv : Nat → T) (L : Nat → Bool) (a : Act) : Prop where
  df : a.defers = []
  sz : a.tmps.size = tm.length
  vl : ∀ t, RV c (valE ops M tm rv L t) (a.tmps.getD t undef)
  pin : ∀ j i, F.pin j = some i → c.μ 0 j = some i

theorem JJ.rvl {F : Fr} {c : Cx} {tm : List T} {L : Nat → Bool} {a : Act} (h : JJ F c ops M tm rv L a) : RVL c ((List.range tm.length).map (valE ops M tm rv L)) a.tmps.toList := by
  refine RVL_of (by simp [h.sz]) fun t => ?_
  by_cases htt : t < tm.length
  · have := h.vl t
    have e : ((List.range tm.length).map (valE ops M tm rv L)).getD t .undef = valE ops M tm rv L t := by simp [htt]
    rw [e]
    have e2 : a.tmps.toList.getD t undef = a.tmps.getD t undef := by simp [Array.getD_eq_getD_getElem?]
    rw [e2]; exact this
  · have e : ((List.range tm.length).map (valE ops M tm rv L)).getD t .undef = .undef := by simp [htt]
    rw [e]; trivial

theorem getD_val {tm : List T} {L : Nat → Bool} (t : Nat) : ((List.range tm.length).map (valE ops M tm rv L)).getD t .undef = valE ops M tm rv L t := by
  by_cases htt : t < tm.length
  · simp [htt]
  · simp [htt, valE]

/-! ### what came early -/
def Fr.at (F : Fr) (c : Cx) (bs : List Nat) : Fr := { w := c.w, own := (· ∈ bs), Z := c.Z, Zs := c.Zs, pin := F.pin, R := F.R }

theorem Inv.at {F : Fr} {c : Cx} {s : S} {a : Act} {bs : List Nat} (h : Inv F c s a bs) : Inv (F.at c bs) c s a bs :=
  ⟨⟨h.h.hp, h.h.nd, h.h.dz, h.h.zz, h.h.zl, h.h.bl, h.h.mu, Nat.le_refl _, fun _ _ _ => rfl, fun b hb => .inl hb, fun b hb => .inl hb, fun b hb => .inl hb, Keep.refl _, h.h.rr⟩, h.tm, h.df, h.pin⟩

theorem InvH.back {F : Fr} {c c' : Cx} {H H' : Heap} {bs bs' : List Nat} (h : InvH F c H bs) (hle : c.Le c') (h' : InvH (F.at c bs) c' H' bs') : InvH F c' H' bs' where
  hp := h'.hp
  nd := h'.nd
  dz := h'.dz
  zz := h'.zz
  zl := h'.zl
  bl := h'.bl
  mu := h'.mu
  fs := Nat.le_trans h.fs h'.fs
  ff b hb ho := by
    have hn : b ∉ bs := fun hb' => by
      rcases h.fb b hb' with h1 | h1
      · exact ho h1
      · omega
    have h2 : b < c.w.heap.size := Nat.lt_of_lt_of_le hb h.fs
    exact (h'.ff b h2 hn).trans (h.ff b hb ho)
  fb b hb := by
    rcases h'.fb b hb with h1 | h1
    · exact h.fb b h1
    · exact .inr (Nat.le_trans h.fs h1)
  fz b hb := by
    rcases h'.fz b hb with h1 | h1 | h1
    · exact h.fz b h1
    · exact .inr (h.fb b h1)
    · exact .inr (.inr (Nat.le_trans h.fs h1))
  fZ b hb := by
    rcases h'.fZ b hb with h1 | h1
    · exact (h.fZ b h1).imp id (hle.zs b)
    · exact .inr h1
  kp := h.kp.trans h'.kp
  rr := h'.rr

/-- an object, its place known -/
def ObI (c : Cx) (i : Info) : Ob → List Nat → Prop
  | .var t, bs => HVar c i t bs
  | .arr es l false, bs => HArr c i es l bs
  | _, _ => False
theorem ObI.mono {c c' : Cx} (h : c.Le c') {i : Info} {ob : Ob} {bs : List Nat} (hb : ∀ b ∈ bs, c'.w.heap[b]? = c.w.heap[b]?) (r : ObI c i ob bs) : ObI c' i ob bs := by
  unfold ObI at *
  split at r
  · exact HVar.mono h hb r
  · exact HArr.mono h hb r
  · exact r.elim
theorem ObI.at {c : Cx} {i : Info} {ob : Ob} {bs : List Nat} {e j : Nat} (hm : c.μ e j = some i) (r : ObI c i ob bs) : HOb c e j ob bs := by
  unfold ObI at r
  split at r
  · exact ⟨i, hm, r⟩
  · exact ⟨i, hm, r⟩
  · exact r.elim

def PdOk (F : Fr) (c : Cx) (bs : List Nat) (a : Act) (ops : Array Oper) (M : List Nat) (st : Nat → S) (rv : Nat → T) (k : Nat) (q : List Nat) : Prop :=
  ∃ o d i ob, ops[k]? = some o ∧ floatK o.op = true ∧ o.dst = some d ∧ whoA ops d = some k ∧ early ops M k = true ∧ (st (k + 1)).hp = (st k).hp ++ [[ob]] ∧ ObI c i ob q ∧
    (∀ c' : Cx, c'.μ (st k).hp.length 0 = some i → d < (st 0).tm.length → RV c' (rv k) (a.tmps.getD d undef)) ∧ q.Nodup ∧ ∀ y ∈ q, y ∉ bs ∧ ¬ c.Z y ∧ y < c.w.heap.size ∧ (F.own y ∨ F.w.heap.size ≤ y)

theorem PdOk.mono {F : Fr} {c c' : Cx} {bs bs' : List Nat} {a a' : Act} {k : Nat} {q : List Nat} (h : PdOk F c bs a ops M st rv k q) (hle : c.Le c') (hq : ∀ y ∈ q, c'.w.heap[y]? = c.w.heap[y]?)
    (hb : ∀ y ∈ q, y ∉ bs' ∧ ¬ c'.Z y ∧ y < c'.w.heap.size) (hd : ∀ d, whoA ops d = some k → a'.tmps.getD d undef = a.tmps.getD d undef) : PdOk F c' bs' a' ops M st rv k q := by
  obtain ⟨o, d, i, ob, h1, h2, h3, h4, h5, h6, h7, h8, h9, h10⟩ := h
  refine ⟨o, d, i, ob, h1, h2, h3, h4, h5, h6, h7.mono hle hq, ?_, h9, fun y hy => ⟨(hb y hy).1, (hb y hy).2.1, (hb y hy).2.2, (h10 y hy).2.2.2⟩⟩
  rw [hd d h4]; exact h8

theorem float_loud {ops : Array Oper} {k : Nat} {o : Oper} (ho : ops[k]? = some o) (h : floatK o.op = true) : loudAt ops k = true := by
  unfold loudAt loudK
  simp only [ho]
  cases hx : o.op <;> simp [hx, floatK] at h <;> rfl

structure J3 (F : Fr) (c : Cx) (ops : Array Oper) (M : List Nat) (st : Nat → S) (rv : Nat → T) (l : Array Bool) (L : Nat → Bool) (a : Act) (p : Nat) (bs : List Nat) (Q : Nat → List Nat) : Prop where
  jj : JJ F c ops M (st 0).tm rv L a
  pn : p ≤ ops.size
  pc : p ∈ cuts ops
  lp : ∀ j, loudAt ops j = true → (L j = true ↔ j < p)
  inv : InvH F c (st p).hp bs
  sub : ∀ j, L j = true → l.getD j false = true
  pd : ∀ k, l.getD k false = true → L k = false → PdOk F c bs a ops M st rv k (Q k)
  dj : ∀ k k', k ≠ k' → l.getD k false = true → L k = false → l.getD k' false = true → L k' = false → ∀ y ∈ Q k, y ∉ Q k'

def Settled (ops : Array Oper) (l : Array Bool) (L : Nat → Bool) : Prop := ∀ k, l.getD k false = true → L k = false → ∃ j, j < k ∧ loudAt ops j = true ∧ L j = false

theorem same_at (ht : Trk P Y ops ops.toList st rv) {L : Nat → Bool} {p k : Nat} (hp : p ≤ ops.size) (hk : k ≤ ops.size) (hlp : ∀ j, loudAt ops j = true → (L j = true ↔ j < p)) (hall : ∀ j, j < k → loudAt ops j = true → L j = true)
    (hkl : loudAt ops k = true → L k = false) : (st p).hp = (st k).hp ∨ loudAt ops k = false := by
  cases hl : loudAt ops k with
  | false => exact .inr rfl
  | true =>
    refine .inl (ht.same hp hk fun j hj => ⟨fun h => ?_, fun h => (hlp j hj).1 (hall j h hj)⟩)
    have hjl := (hlp j hj).2 h
    rcases Nat.lt_trichotomy j k with h1 | h1 | h1
    · exact h1
    · subst h1; rw [hkl hl] at hjl; cases hjl
    · have := (hlp k hl).2 (by omega)
      rw [hkl hl] at this; cases this

/-- one that came early is taken in -/
theorem J3.adopt (ht : Trk P Y ops ops.toList st rv) {F : Fr} {c : Cx} {l : Array Bool} {L : Nat → Bool} {a : Act} {p : Nat} {bs : List Nat} {Q : Nat → List Nat} (h : J3 F c ops M st rv l L a p bs Q) {k : Nat}
    (hk : l.getD k false = true) (hL : L k = false) (hall : ∀ j, j < k → loudAt ops j = true → L j = true) :
    ∃ c' bs' , c'.w = c.w ∧ J3 F c' ops M st rv l (fun j => if j = k then true else L j) a (k + 1) bs' Q := by
  obtain ⟨o, d, i, ob, ho, hf, hd, hw, _, hst, hob, hrv, hnd, hq⟩ := h.pd k hk hL
  have hkn : k < ops.size := (Array.getElem?_eq_some_iff.1 ho).1
  have hlk := float_loud ho hf
  have hhp : (st p).hp = (st k).hp := by
    rcases same_at ht h.pn (by omega) h.lp hall (fun _ => hL) with h1 | h1
    · exact h1
    · rw [hlk] at h1; cases h1
  have hext := h.inv.ext
  rw [hhp] at hext
  obtain ⟨bs', hinv, hsub⟩ := InvH.row (is := [i]) (obs := [ob]) (q := Q k) hext (own_ext _) hq hnd rfl ⟨Q k, [], by simp, (hob.mono (Le_row hext (own_ext _)) (fun _ _ => rfl)).at (by simp [Cx.rowAt]), rfl⟩
  have hle := Le_row (is := [i]) hext (own_ext _)
  have e1 : ((st k).hp ++ [[]]).set (st k).hp.length [ob] = (st (k + 1)).hp := by rw [hst]; simp
  rw [e1] at hinv
  refine ⟨c.rowAt (st k).hp.length [i], bs', rfl, ⟨⟨h.jj.df, h.jj.sz, fun t => ?_, fun j i e => hle.mu _ _ _ (h.jj.pin j i e)⟩, by omega, ?_, fun j hj => ?_, hinv, fun j hj => ?_, fun j h1 h2 => ?_, fun j j' h1 h2 h3 h4 h5 => ?_⟩⟩
  · have hv := RV.mono hle _ (h.jj.vl t)
    unfold valE at hv ⊢
    split
    · rename_i hlt
      rw [if_pos hlt] at hv
      split
      · rename_i k' hk'
        simp only [hk'] at hv
        by_cases he : k' = k
        · subst he
          have hdt : t = d := by have := who_dst hk' ho; rw [hd] at this; simpa using this.symm
          subst hdt
          simp only [if_true]
          exact hrv _ (by simp [Cx.rowAt]) hlt
        · simp only [he, if_false]; exact hv
      · rename_i hk'; simp only [hk'] at hv; exact hv
    · trivial
  · unfold cuts
    exact List.mem_cons_of_mem _ (List.mem_map.2 ⟨k, List.mem_filter.2 ⟨List.mem_range.2 hkn, hlk⟩, rfl⟩)
  · by_cases he : j = k
    · subst he; simp
    · simp only [he, if_false]
      constructor
      · intro h1
        rcases Nat.lt_trichotomy j k with h2 | h2 | h2
        · omega
        · exact absurd h2 he
        · have h3 := (h.lp j hj).1 h1
          have := (h.lp k hlk).2 (by omega)
          rw [hL] at this; cases this
      · intro h1; exact hall j (by omega) hj
  · by_cases he : j = k
    · subst he; exact hk
    · simp only [he, if_false] at hj; exact h.sub j hj
  · by_cases he : j = k
    · subst he; simp at h2
    · simp only [he, if_false] at h2
      have hp := h.pd j h1 h2
      have hqj : ∀ y ∈ Q j, y ∉ bs ∧ ¬ c.Z y ∧ y < c.w.heap.size := by
        obtain ⟨_, _, _, _, _, _, _, _, _, _, _, _, _, hx⟩ := hp
        exact fun y hy => ⟨(hx y hy).1, (hx y hy).2.1, (hx y hy).2.2.1⟩
      refine hp.mono hle (fun _ _ => rfl) (fun y hy => ⟨fun hb => ?_, (hqj y hy).2.1, (hqj y hy).2.2⟩) (fun _ _ => rfl)
      rcases hsub y hb with h3 | h3
      · exact (hqj y hy).1 h3
      · exact h.dj k j (Ne.symm he) hk hL h1 h2 y h3 hy
  · by_cases he : j = k
    · subst he; simp at h3
    · by_cases he' : j' = k
      · subst he'; simp at h5
      · simp only [he, he', if_false] at h3 h5
        exact h.dj j j' h1 h2 h3 h4 h5

def pcnt (ops : Array Oper) (l : Array Bool) (L : Nat → Bool) : Nat := ((List.range ops.size).filter fun k => l.getD k false && !L k).length

theorem filter_less {p q : Nat → Bool} : ∀ {l : List Nat}, (∀ x, q x = true → p x = true) → ∀ k ∈ l, p k = true → q k = false → (l.filter q).length < (l.filter p).length
  | x :: l, h, k, hk, h1, h2 => by
    have hle : ∀ m : List Nat, (m.filter q).length ≤ (m.filter p).length := fun m => by
      induction m with
      | nil => simp
      | cons y m ih =>
        simp only [List.filter_cons]
        cases hq : q y with
        | true => simp [h y hq, ih]
        | false => cases hp : p y <;> simp [hp, ih]; omega
    simp only [List.filter_cons]
    rcases List.mem_cons.1 hk with rfl | hk
    · simp only [h1, h2, if_true, if_false, Bool.false_eq_true, List.length_cons]
      have := hle l; omega
    · have ih := filter_less (l := l) h k hk h1 h2
      cases hq : q x with
      | true => simp only [h x hq, if_true, List.length_cons]; omega
      | false => cases hp : p x <;> simp <;> omega

theorem J3.settle (ht : Trk P Y ops ops.toList st rv) {F : Fr} {l : Array Bool} {a : Act} {Q : Nat → List Nat} : ∀ (n : Nat) {c : Cx} {L : Nat → Bool} {p : Nat} {bs : List Nat}, pcnt ops l L ≤ n → J3 F c ops M st rv l L a p bs Q →
    ∃ c' L' p' bs', c'.w = c.w ∧ J3 F c' ops M st rv l L' a p' bs' Q ∧ Settled ops l L' ∧ ∀ j, L j = true → L' j = true := by
  intro n
  induction n with
  | zero =>
    intro c L p bs hn h
    refine ⟨c, L, p, bs, rfl, h, fun k h1 h2 => ?_, fun _ h => h⟩
    exfalso
    obtain ⟨o, _, _, _, ho, _⟩ := h.pd k h1 h2
    have : k ∈ (List.range ops.size).filter fun k => l.getD k false && !L k := List.mem_filter.2 ⟨List.mem_range.2 (Array.getElem?_eq_some_iff.1 ho).1, by rw [h1, h2]; rfl⟩
    unfold pcnt at hn
    rw [List.length_eq_zero_iff.1 (Nat.le_zero.1 hn)] at this
    cases this
  | succ n ih =>
    intro c L p bs hn h
    by_cases hs : Settled ops l L
    · exact ⟨c, L, p, bs, rfl, h, hs, fun _ h => h⟩
    · unfold Settled at hs
      simp only [Classical.not_forall, not_exists, not_and] at hs
      obtain ⟨k, h1, h2, h3⟩ := hs
      have hall : ∀ j, j < k → loudAt ops j = true → L j = true := fun j hj hl => by
        have := h3 j hj hl
        simpa using this
      obtain ⟨c', bs', e, h'⟩ := h.adopt ht h1 h2 hall
      have hlt : pcnt ops l (fun j => if j = k then true else L j) < pcnt ops l L := by
        obtain ⟨o, _, _, _, ho, _⟩ := h.pd k h1 h2
        unfold pcnt
        refine filter_less (fun x hx => ?_) k (List.mem_range.2 (Array.getElem?_eq_some_iff.1 ho).1) (by rw [h1, h2]; rfl) (by simp)
        by_cases he : x = k
        · subst he; simp at hx
        · simpa [he] using hx
      obtain ⟨c2, L2, p2, b2, e2, h4, h5, h6⟩ := ih (by omega) h'
      refine ⟨c2, L2, p2, b2, e2.trans e, h4, h5, fun j hj => h6 j ?_⟩
      by_cases he : j = k
      · simp [he]
      · simp [he, hj]

theorem Settled.all {l : Array Bool} {L : Nat → Bool} (h : Settled ops l L) : ∀ (k : Nat), l.getD k false = true → (∀ j, j < k → loudAt ops j = true → l.getD j false = true) → L k = true := by
  intro k
  induction k using Nat.strongRecOn with
  | _ k ih =>
    intro hk hj
    cases hL : L k with
    | true => rfl
    | false =>
      obtain ⟨j, h1, h2, h3⟩ := h k hk hL
      have := ih j h1 (hj j h1 h2) (fun j' h4 h5 => hj j' (by omega) h5)
      rw [h3] at this; cases this

theorem early_of {ops : Array Oper} {M : List Nat} {k j : Nat} {o : Oper} (ho : ops[k]? = some o) (hf : floatK o.op = true) (hj : j < k) (hl : loudAt ops j = true) (hb : (M.getD k 0).testBit j = false) : early ops M k = true := by
  unfold early floatAt
  simp only [ho, hf, Bool.true_and, List.any_eq_true, List.mem_range, Bool.and_eq_true, Bool.not_eq_true']
  exact ⟨j, hj, hl, hb⟩

theorem floats_of (h : floatsOk ops M = true) {k i : Nat} (hk : early ops M k = true) (hkn : k < ops.size) (hin : i < ops.size) (hb : (M.getD i 0).testBit k = true) : ∀ j, j < k → loudAt ops j = true → (M.getD i 0).testBit j = true := by
  unfold floatsOk at h
  simp only [List.all_eq_true, List.mem_range] at h
  have h1 := h k hkn
  simp only [hk, Bool.not_true, Bool.false_or, List.all_eq_true, List.mem_range] at h1
  have h2 := h1 i hin
  simp only [hb, Bool.not_true, Bool.false_or, List.all_eq_true, List.mem_range] at h2
  intro j hj hl
  have := h2 j hj
  simpa [hl] using this


/-! ### an operation that only makes something new, come early -/
/-- the world with one block more -/
theorem InvH.more {F : Fr} {c : Cx} {H : Heap} {bs : List Nat} (h : InvH F c H bs) {w' : World} (hs : w'.heap.size = c.w.heap.size + 1) (hw : ∀ k, k < c.w.heap.size → w'.heap[k]? = c.w.heap[k]?) (hkp : Keep c.w w') :
    c.Le { c with w := w' } ∧ InvH F { c with w := w' } H bs := by
  have hle : c.Le { c with w := w' } := ⟨fun _ h => h, fun _ h => h, fun b hb => hw b (h.zl b hb), fun b hb => hw b (h.zl b (h.zz b hb)), fun _ _ _ h => h, fun _ _ h => h⟩
  refine ⟨hle, HR.mono hle (fun b hb => hw b (h.bl b hb)) h.hp, h.nd, h.dz, h.zz, fun b hb => ?_, fun b hb => ?_, h.mu, ?_, fun b hb ho => ?_, h.fb, h.fz, h.fZ, h.kp.trans hkp, h.rr⟩
  · have := h.zl b hb; show b < w'.heap.size; omega
  · have := h.bl b hb; show b < w'.heap.size; omega
  · have := h.fs; show _ ≤ w'.heap.size; omega
  · have h1 := h.fs
    show w'.heap[b]? = _
    rw [hw b (by omega)]; exact h.ff b hb ho

def EarlyOk (F : Fr) (c : Cx) (H : Heap) (bs : List Nat) (own : Nat) (v : T) (ob : Ob) (r : Result Value) : Prop :=
  ∃ x w' i, r = .ok x w' ∧ c.Le { c with w := w' } ∧ InvH F { c with w := w' } H bs ∧ w'.heap.size = c.w.heap.size + 1 ∧ (∀ k, k < c.w.heap.size → w'.heap[k]? = c.w.heap[k]?) ∧
    ObI { c with w := w' } i ob [c.w.heap.size] ∧ ∀ c' : Cx, c'.μ own 0 = some i → RV c' v x

theorem earlyVar {P : Program} {F : Fr} {c : Cx} {H : Heap} {bs : List Nat} {own : Nat} {elem : TypeId} {t : T} {cells : Array Value} (h : InvH F c H bs)
    (hr : ∀ c' : Cx, RC c' t cells.toList []) :
    EarlyOk F c H bs own (.ptr own 0 [] 0) (.var t) ((do pure (.pointer (some (← newRow elem cells))) : Sem Value).run P c.w) := by
  simp only [Sem.run_bind, run_newRow, Result.andThen, Sem.run_pure]
  let i : Info := { blk := c.w.heap.size, off := 0, es := 0, cap := 0, arr0 := cells, ty := elem, fr := (0, 0) }
  have hold : ∀ k, k < c.w.heap.size → (c.w.alloc (.cells cells elem)).heap[k]? = c.w.heap[k]? := fun k hk => alloc_old k hk
  have hnew : (c.w.alloc (.cells cells elem)).heap[c.w.heap.size]? = some (.cells cells elem (0, 0)) := heap_alloc_new _ _
  have hsz : (c.w.alloc (.cells cells elem)).heap.size = c.w.heap.size + 1 := by simp
  obtain ⟨hle, hinv⟩ := h.more hsz hold (.alloc _ _ _)
  refine ⟨_, _, i, rfl, hle, hinv, hsz, hold, ⟨cells.toList, [], cells, rfl, hr _, hnew, rfl, ?_, by simp [i], ?_, ?_⟩, fun c' hc' => ⟨i, hc', rfl⟩⟩
  · exact ⟨Nat.le_refl _, fun k _ hk => by simp only [i] at hk; omega⟩
  · intro j v hv; simpa [i] using hv
  · intro j hj; rfl

theorem earlyArr {P : Program} {F : Fr} {c : Cx} {H : Heap} {bs : List Nat} {own es n : Nat} {elem : TypeId} {l : List T} {cells : Array Value} (h : InvH F c H bs)
    (hes : 0 < es) (hn : l.length = n) (hr : RRows c es l cells.toList []) :
    EarlyOk F c H bs own (.ref own 0 0 n) (.arr es l false) ((do pure (.slice (some (← newRow elem cells)) n n) : Sem Value).run P c.w) := by
  simp only [Sem.run_bind, run_newRow, Result.andThen, Sem.run_pure]
  let i : Info := { blk := c.w.heap.size, off := 0, es := es, cap := n, arr0 := cells, ty := elem, fr := (0, 0) }
  have hold : ∀ k, k < c.w.heap.size → (c.w.alloc (.cells cells elem)).heap[k]? = c.w.heap[k]? := fun k hk => alloc_old k hk
  have hnew : (c.w.alloc (.cells cells elem)).heap[c.w.heap.size]? = some (.cells cells elem (0, 0)) := heap_alloc_new _ _
  have hsz : (c.w.alloc (.cells cells elem)).heap.size = c.w.heap.size + 1 := by simp
  obtain ⟨hle, hinv⟩ := h.more hsz hold (.alloc _ _ _)
  have hlen : cells.size = n * es := by have := RRows_len _ hr; simpa [hn] using this
  refine ⟨_, _, i, rfl, hle, hinv, hsz, hold, ⟨rfl, .inr hes, by simp [i, hn], .inr ⟨cells.toList, [], rfl, hr.mono hle _ _ (by simp), ?_, ?_⟩⟩, fun c' hc' => ⟨_, n, i, rfl, Nat.le_refl _, hc', by simp [i], .inr (by simp [i])⟩⟩
  · exact ⟨cells, elem, (0, 0), hnew, fun j v hv => by simpa [i, Info.addr] using hv⟩
  · exact ⟨rfl, hes, cells, elem, (0, 0), hnew, by simp [i, Info.addr, hlen], ⟨Nat.le_refl _, fun k _ hk => by simp only at hk; omega⟩⟩

section
variable (hY : TysW P Y)
include hY
theorem early_ok {F : Fr} {c : Cx} {H H0 : Heap} {bs : List Nat} {own : Nat} {o : Oper} {ρ : Operand → T} {ν : Operand → Value} {out : Out} (h : InvH F c H bs) (hρ : ∀ x, RV c (ρ x) (ν x)) (hf : floatK o.op = true)
    (hm : (opM Y ρ own o.type o.op).run H0 = some out) : ∃ ob r, out.ups = [] ∧ out.news = [ob] ∧ EarlyOk F c H bs own out.v ob r ∧ (execOp ν o).run P c.w = r.andThen fun x w => .ok (.value x) w := by
  obtain ⟨dst, op, type, pos, after, guard⟩ := o
  cases op <;> simp only [floatK, Bool.false_eq_true] at hf
  case alloc t =>
    simp only [opM, allocM] at hm
    split at hm
    case isFalse => simp [RM.run] at hm
    rename_i hc
    simp [RM.run] at hm; subst hm
    obtain ⟨z, hz, hr, _⟩ := zero_rc hY.ok hc.1 hc.2
    refine ⟨_, _, rfl, rfl, earlyVar (P := P) (elem := t) h (fun c' => hr c'), ?_⟩
    have : (Instr.alloc t true (.tuple #[])).run P c.w = ((do pure (.pointer (some (← newRow t z.cells))) : Sem Value).run P c.w) := by
      simp only [Instr.alloc, Sem.run_bind, hz, Result.andThen_ok, newVar]
    rw [← this]
    simp only [execOp, Sem.run_bind]
    rfl
  case buildSlice t len ps =>
    simp only [opM] at hm
    have hp : RVP c (ps.toList.map fun x => (x.1, ρ x.2)) (ps.map fun (i, x) => (i, ν x)).toList := by have := RVP_map hρ ps.toList; simpa using this
    generalize hvs : (ps.map fun (i, x) => (i, ν x)) = vs at hp
    have hkb : (Y t).k ≠ .bad := by
      intro hb; unfold buildSliceM at hm; simp [hb, RM.run] at hm
    have ht := hY.pos rfl hkb
    obtain ⟨d, hd, htm, _⟩ := (hY.ok t ht).run_under c.w
    unfold buildSliceM at hm
    split at hm
    case h_2 => simp [RM.run] at hm
    rename_i e hk
    split at hm
    case isFalse => simp [RM.run] at hm
    rename_i hc
    obtain ⟨hce, hlen, hf⟩ := hc
    cases hs : setAll (plAr (Y e).cells) (List.replicate len (zeroT Y 9 e)) (ps.toList.map fun x => (x.1, ρ x.2)) with
    | none => simp [hs, RM.run] at hm
    | some l =>
      simp [hs, RM.run] at hm; subst hm
      rw [hk] at htm
      simp only [TyM] at htm; subst htm
      obtain ⟨z, hz, hr, hzs⟩ := zero_rc hY.ok hce hf
      have hrows := range_rows (hr c) hzs hce len
      obtain ⟨hrl, hsz⟩ := RRows_cells hrows
      obtain ⟨cells', ee, hrl'⟩ := fill_ok (ps.toList.map fun x => (x.1, ρ x.2)) vs.toList _ l _ hp hrl hs
      obtain ⟨hsz', hll⟩ := setAll_sizes hs hsz
      have hrows' := RCL_rows hrl' hsz'
      have hpl : (fun i => some (i * (Y e).cells, (Y e).cells)) = plAr (Y e).cells := rfl
      have key : (Instr.buildSlice t len vs).run P c.w = ((do pure (.slice (some (← newRow e cells')) len len) : Sem Value).run P c.w) := by
        simp only [Instr.buildSlice, Sem.run_bind, hd, Result.andThen_ok, (hY.ok e hce).run_size]
        rw [if_neg (by omega)]
        by_cases hn0 : len * (Y e).cells = 0
        · have he : Array.range 0 = #[] := rfl
          simp only [hn0, he, List.map_toArray, List.map_nil] at ee
          simp only [hn0, if_true, Sem.run_bind, Sem.run_pure, Result.andThen_ok, he, List.map_toArray, List.map_nil, hpl, ee]
        · simp only [hn0, if_false, Sem.run_bind, hz, Result.andThen_ok, Sem.run_pure, hpl, ee]
      refine ⟨_, _, rfl, rfl, earlyArr (P := P) (elem := e) h hce (by simpa using hll) hrows', ?_⟩
      rw [← key, ← hvs]
      simp only [execOp, Sem.run_bind]
      rfl
end

theorem early_float {ops : Array Oper} {M : List Nat} {k : Nat} (h : early ops M k = true) : floatAt ops k = true := by
  unfold early at h
  simp only [Bool.and_eq_true] at h
  exact h.1

theorem flow_all (hY : TysW P Y) (ht : Trk P Y ops ops.toList st rv) (hf : FB ops M) (hfo : floatsOk ops M = true)
    (hchk : ∀ i o p, ops[i]? = some o → readK o.op = true → p ∈ cuts ops → p ≤ ops.size → may ops M i p = true → GStep P Y ops (st i).tm o (st p).hp (st p).hp (rv i))
    {F : Fr} {K : S → Prop} {R : Exit → Act → World → Prop} (hK : ∀ s' c' a' bs', Inv F c' s' a' bs' → K s' → R .normal a' c'.w) (hk : K (st ops.size)) :
    ∀ (m : Nat) (l : Array Bool) (c : Cx) (a : Act) (bs : List Nat) (p : Nat) (L : Nat → Bool) (Q : Nat → List Nat), cnt l ops.size = m → l.size = ops.size → Closed ops l → J3 F c ops M st rv l L a p bs Q → Settled ops l L →
      wpAny P .any ops R m l a c.w := by
  intro m
  induction m with
  | zero =>
    intro l c a bs p L Q hm hsz hcl h3 hset
    have hall := cnt_zero hm
    have hin : ∀ k, k < ops.size → l.getD k false = true := fun k hk => by
      have := hall k hk
      simp [hsz, hk] at this ⊢; exact this
    have hLin : ∀ k, k < ops.size → L k = true := fun k hk => hset.all k (hin k hk) (fun j hj _ => hin j (by omega))
    have hnone : Region.ready .any ops l = [] := by
      cases hr : Region.ready .any ops l with
      | nil => rfl
      | cons i r =>
        have hi' : i ∈ Region.ready .any ops l := by rw [hr]; simp
        obtain ⟨h1, o, ho, _⟩ := mem_ready.1 hi'
        have := hall i (Array.getElem?_eq_some_iff.1 ho).1
        rw [h1] at this; cases this
    refine ⟨hnone, hK (st ops.size) c a bs ⟨?_, ?_, h3.jj.df, h3.jj.pin⟩ hk⟩
    · rw [← ht.same h3.pn (Nat.le_refl _) fun j hl => ?_]
      · exact h3.inv
      · have hjn : j < ops.size := by
          unfold loudAt at hl
          split at hl
          · rename_i o ho; exact (Array.getElem?_eq_some_iff.1 ho).1
          · cases hl
        exact ⟨fun _ => hjn, fun _ => (h3.lp j hl).1 (hLin j hjn)⟩
    · obtain ⟨e1, e2⟩ := ht.tm hf ops.size (Nat.le_refl _)
      have hr := h3.jj.rvl
      refine RVL_of (by rw [e1]; simp [h3.jj.sz]) fun t => ?_
      rw [e2 t]
      have h3 := h3.jj.vl t
      have e3 : a.tmps.toList.getD t undef = a.tmps.getD t undef := by simp [Array.getD_eq_getD_getElem?]
      rw [e3]
      unfold valE at h3
      unfold valT
      split
      · rename_i hlt
        rw [if_pos hlt] at h3
        split
        · rename_i k hk
          simp only [hk, hLin k (who_lt hk), if_true] at h3
          simp only [who_lt hk, decide_true, if_true]
          exact h3
        · rename_i hk; simp only [hk] at h3; exact h3
      · trivial
  | succ m ih =>
    intro l c a bs p L Q hm hsz hcl h3 hsett
    have hlt : ∀ k, l.getD k true = true → k < l.size → l.getD k false = true := fun k h hk => by simp [hk] at h ⊢; exact h
    obtain ⟨k0, hk0, hk1, hk2⟩ := cnt_pos (l := l) (n := ops.size) (by omega)
    have hfirst : k0 ∈ Region.ready .any ops l := by
      have ho : ops[k0]? = some ops[k0] := Array.getElem?_eq_getElem hk0
      refine mem_ready.2 ⟨hk1, _, ho, fun e he hb => ?_⟩
      have hk := (hf.ed hk0).1 e.on (by simp only [edgesOf, ho, List.mem_map, List.mem_filter]; exact ⟨e, ⟨by simpa using he, hb⟩, rfl⟩)
      exact hlt _ (hk2 _ hk) (by omega)
    refine ⟨fun h0 => (by rw [h0] at hfirst; cases hfirst), fun i hi' => ?_⟩
    obtain ⟨hil, o, ho, hall⟩ := mem_ready.1 hi'
    have hE := edges_of ho hall
    have hin : i < ops.size := (Array.getElem?_eq_some_iff.1 ho).1
    have his : i < l.size := by omega
    have hilf : l.getD i false = false := by simp [his] at hil ⊢; exact hil
    have hiL : L i = false := by
      cases hx : L i with
      | false => rfl
      | true => have := h3.sub i hx; rw [hilf] at this; cases this
    have hanc := hf.bit_in hcl i hin hE
    have hancL : ∀ k, (M.getD i 0).testBit k = true → L k = true := fun k hb => by
      cases hx : L k with
      | true => rfl
      | false =>
        obtain ⟨_, _, _, _, _, _, _, _, hea, _⟩ := h3.pd k (hanc k hb) hx
        have h2 := floats_of hfo hea (by have := hf.bit_lt i hin k hb; omega) hin hb
        have := hsett.all k (hanc k hb) (fun j hj hl => hanc j (h2 j hj hl))
        rw [hx] at this; cases this
    obtain ⟨hgs, _⟩ := ht.step i o (by simpa using ho)
    obtain ⟨hti1, hti2⟩ := ht.tm hf i (by omega)
    have hto : ∀ t k, whoA ops t = some k → ((M.getD i 0).testBit k = true ∨ ((M.getD k 0).testBit i = true ∧ early ops M k = false)) → valT ops (st 0).tm rv (fun k => decide (k < i)) t = valE ops M (st 0).tm rv L t := fun t k hk hb => by
      unfold valT valE
      simp only [hk]
      rcases hb with hb | hb
      · simp only [hf.bit_lt i hin k hb, hancL k hb, decide_true, if_true]
      · obtain ⟨hb, hne⟩ := hb
        have hik := hf.bit_lt k (who_lt hk) i hb
        have hlk : L k = false := by
          cases hx : L k with
          | false => rfl
          | true =>
            have hlk := h3.sub k hx
            have := hf.bit_in hcl k (who_lt hk) (hcl k hlk) i hb
            rw [hilf] at this; cases this
        have : ¬ k < i := by omega
        simp only [hlk, hne, this, decide_false, Bool.false_eq_true, if_false]
    have hev : ∀ x ∈ opds o.op, evT (st i).tm x = evT ((List.range (st 0).tm.length).map (valE ops M (st 0).tm rv L)) x := fun x hx => by
      cases x with
      | tmp t =>
        show (st i).tm.getD t .undef = List.getD _ t .undef
        rw [hti2 t, getD_val]
        cases hw : whoA ops t with
        | none => unfold valT valE; simp only [hw]
        | some k => exact hto t k hw (hf.opd ho hx hw)
      | const v => rfl
      | func f => rfl
      | global g => rfl
    have hgd : ∀ g w, o.guard = some (g, w) → guardT ops (st i).tm g = guardT ops ((List.range (st 0).tm.length).map (valE ops M (st 0).tm rv L)) g := fun g w hg => by
      obtain ⟨h1, d, h2, h3⟩ := hf.gd ho hg
      unfold guardT
      simp only [h2]
      rw [hti2 d, getD_val]
      exact hto d g h3 (.inl h1)
    have hset : ∀ k, k ≠ i → (l.setIfInBounds i true).getD k false = l.getD k false := fun k hk => getD_set_ne false (Ne.symm hk)
    have hseti : (l.setIfInBounds i true).getD i false = true := by simp [his]
    have hcnt' : cnt (l.setIfInBounds i true) ops.size = m := by
      have := cnt_set hil ops.size
      rw [if_pos hin] at this; omega
    have hcl' : Closed ops (l.setIfInBounds i true) := by
      intro j hj' k hk
      by_cases hji : j = i
      · subst hji; exact getD_set_true (hE k hk)
      · rw [getD_set_ne false (Ne.symm hji)] at hj'
        exact getD_set_true (hcl j hj' k hk)
    have hinv : Inv F c ⟨(List.range (st 0).tm.length).map (valE ops M (st 0).tm rv L), (st p).hp⟩ a bs := ⟨h3.inv, h3.jj.rvl, h3.jj.df, h3.jj.pin⟩
    have hpq : ∀ k, l.getD k false = true → L k = false → ∀ y ∈ Q k, y ∉ bs ∧ ¬ c.Z y ∧ y < c.w.heap.size ∧ (F.own y ∨ F.w.heap.size ≤ y) := fun k h1 h2 => by
      obtain ⟨_, _, _, _, _, _, _, _, _, _, _, _, _, hx⟩ := h3.pd k h1 h2
      exact hx
    -- does it come early?
    by_cases hearly : loudAt ops i = true ∧ ∃ j, j < i ∧ loudAt ops j = true ∧ L j = false
    · obtain ⟨hli, j0, hj0, hlj0, hLj0⟩ := hearly
      have hb0 : (M.getD i 0).testBit j0 = false := by
        cases hx : (M.getD i 0).testBit j0 with
        | false => rfl
        | true => rw [hancL j0 hx] at hLj0; cases hLj0
      have hfi : floatK o.op = true := by
        cases hx : floatK o.op with
        | true => rfl
        | false =>
          have := hf.ld hli hlj0 hj0 (by unfold floatAt; simp only [ho, hx])
          rw [hb0] at this; cases this
      have hlk : loudK o.op = true := by unfold loudAt at hli; simpa only [ho] using hli
      obtain ⟨hgn, d, hd⟩ := hf.fl ho hfi hlk hlj0 hj0 hb0
      have hwd := hf.dst ho hd
      unfold GStep at hgs
      simp only [hgn] at hgs
      unfold LStep at hgs
      have hnc : isCall o.op = false ∧ allocs Y o.op = true := by
        cases hop : o.op <;> simp [hop, floatK] at hfi <;> exact ⟨rfl, rfl⟩
      simp only [hnc, Bool.false_eq_true, if_false] at hgs
      obtain ⟨out, hout, hst, hrv⟩ := hgs
      rw [opM_congr hev] at hout
      obtain ⟨ob, r, hu, hn, ⟨x, w', ii, rfl, hle, hinv', hws, hold, hob, hval⟩, hex⟩ := early_ok hY (P := P) h3.inv (fun x => ev_evT ⟨_, (st p).hp⟩ ▸ ev_ok hinv x) hfi hout
      unfold wpOp
      simp only [ho, Region.wanted, hgn, if_true]
      refine .inl ?_
      unfold Oper.wp
      rw [hex]
      show wpAny P .any ops R m (l.setIfInBounds i true) (a.put o.dst x) w'
      have hput : ∀ t, t ≠ d → (a.put o.dst x).tmps.getD t undef = a.tmps.getD t undef := fun t htd => by
        rw [hd]; simp [Act.put, Array.getElem?_setIfInBounds_ne (Ne.symm htd)]
      refine ih (l.setIfInBounds i true) { c with w := w' } (a.put o.dst x) bs p L (fun k => if k = i then [c.w.heap.size] else Q k) hcnt' (by simp [hsz]) hcl' ⟨⟨by rw [put_df]; exact h3.jj.df, by rw [hd]; simp [Act.put, h3.jj.sz], fun t => ?_, h3.jj.pin⟩, h3.pn, h3.pc, h3.lp, hinv', fun j hj => ?_, fun k h1 h2 => ?_, fun k k' h1 h2 h4 h5 h6 => ?_⟩ ?_
      · have hv := RV.mono hle _ (h3.jj.vl t)
        by_cases htd : t = d
        · subst htd
          unfold valE
          split
          · simp only [hwd, hiL, early_of ho hfi hj0 hlj0 hb0, Bool.false_eq_true, if_false, if_true]; trivial
          · trivial
        · rw [hput t htd]; exact hv
      · by_cases he : j = i
        · subst he; exact hseti
        · rw [hset j he]; exact h3.sub j hj
      · by_cases he : k = i
        · subst he
          simp only [if_true]
          have hlen : (grownH (st k).hp true) = (st k).hp ++ [[]] := rfl
          refine ⟨o, d, ii, ob, ho, hfi, hd, hwd, early_of ho hfi hj0 hlj0 hb0, ?_, hob, fun c' hc' hdl => ?_, by simp, fun y hy => ?_⟩
          · rw [hst, hlen]; simp [Heap.after, hu, hn, Heap.ups]
          · rw [hrv]
            have : (a.put o.dst x).tmps.getD d undef = x := by rw [hd]; simp [Act.put, h3.jj.sz, hdl]
            rw [this]; exact hval c' hc'
          · simp only [List.mem_singleton] at hy
            subst hy
            refine ⟨fun hb => ?_, fun hz => ?_, ?_, .inr h3.inv.fs⟩
            · exact Nat.lt_irrefl _ (h3.inv.bl _ hb)
            · exact Nat.lt_irrefl _ (h3.inv.zl _ hz)
            · show _ < w'.heap.size; rw [hws]; exact Nat.lt_succ_self _
        · rw [hset k he] at h1
          simp only [he, if_false]
          refine (h3.pd k h1 h2).mono hle (fun y hy => hold y (hpq k h1 h2 y hy).2.2.1) (fun y hy => ⟨(hpq k h1 h2 y hy).1, (hpq k h1 h2 y hy).2.1, ?_⟩) (fun d' hd' => hput d' fun e => ?_)
          · have := (hpq k h1 h2 y hy).2.2.1; show y < w'.heap.size; omega
          · subst e; rw [hwd] at hd'; exact he (by simpa using hd'.symm)
      · by_cases he : k = i
        · subst he
          have he' : k' ≠ k := Ne.symm h1
          rw [hset k' he'] at h5
          simp only [if_true, he', if_false, List.mem_singleton]
          rintro y rfl hy
          have := (hpq k' h5 h6 _ hy).2.2.1; omega
        · rw [hset k he] at h2
          by_cases he' : k' = i
          · subst he'
            simp only [he, if_true, if_false, List.mem_singleton]
            rintro y hy rfl
            have := (hpq k h2 h4 _ hy).2.2.1; omega
          · rw [hset k' he'] at h5
            simp only [he, he', if_false]
            exact h3.dj k k' h1 h2 h4 h5 h6
      · intro k h1 h2
        by_cases he : k = i
        · subst he; exact ⟨j0, hj0, hlj0, hLj0⟩
        · rw [hset k he] at h1; exact hsett k h1 h2
    · -- the step, where it stands
      have hordered : loudAt ops i = true → ∀ j, j < i → loudAt ops j = true → L j = true := fun hli j hj hl => by
        cases hx : L j with
        | true => rfl
        | false => exact absurd ⟨hli, j, hj, hl, hx⟩ hearly
      have ⟨H', hstep, p', hp1, hp2, hp3, hp4⟩ : ∃ H', GStep P Y ops ((List.range (st 0).tm.length).map (valE ops M (st 0).tm rv L)) o (st p).hp H' (rv i) ∧
          ∃ p', p' ≤ ops.size ∧ p' ∈ cuts ops ∧ (∀ j, loudAt ops j = true → ((if j = i then true else L j) = true ↔ j < p')) ∧ (st p').hp = H' := by
        cases hld : loudK o.op with
        | true =>
          have hli : loudAt ops i = true := by unfold loudAt; simp only [ho, hld]
          have hhp : (st p).hp = (st i).hp := by
            rcases same_at ht h3.pn (by omega) h3.lp (hordered hli) (fun _ => hiL) with h1 | h1
            · exact h1
            · rw [hli] at h1; cases h1
          refine ⟨(st (i + 1)).hp, by rw [hhp]; exact hgs.congr hev hgd, i + 1, by omega, ?_, fun j hl => ?_, rfl⟩
          · unfold cuts
            exact List.mem_cons_of_mem _ (List.mem_map.2 ⟨i, List.mem_filter.2 ⟨List.mem_range.2 hin, hli⟩, rfl⟩)
          · by_cases hji : j = i
            · subst hji; simp
            · simp only [hji, if_false]
              constructor
              · intro h1
                have h2 := (h3.lp j hl).1 h1
                rcases Nat.lt_trichotomy j i with h4 | h4 | h4
                · omega
                · exact absurd h4 hji
                · have := (h3.lp i hli).2 (by omega)
                  rw [hiL] at this; cases this
              · intro h1; exact hordered hli j (by omega) hl
        | false =>
          have hnl : loudAt ops i = false := by unfold loudAt; simp only [ho, hld]
          refine ⟨(st p).hp, ?_, p, h3.pn, h3.pc, fun j hl => ?_, rfl⟩
          · simp only [loudK, Bool.not_eq_false', Bool.or_eq_true] at hld
            rcases hld with hld | hld
            · exact ((hgs.congr hev hgd).free hld).2 _
            · refine (hchk i o p ho hld h3.pc h3.pn ?_).congr hev hgd
              unfold may
              simp only [List.all_eq_true, List.mem_range, Bool.or_eq_true, Bool.and_eq_true, Bool.not_eq_true', decide_eq_true_eq]
              intro j hjn
              cases hl : loudAt ops j with
              | false => exact .inl rfl
              | true =>
                refine .inr ⟨?_, ?_⟩
                · cases hb : (M.getD i 0).testBit j with
                  | false => exact .inl rfl
                  | true => exact .inr ((h3.lp j hl).1 (hancL j hb))
                · cases hb : (M.getD j 0).testBit i with
                  | false => exact .inl rfl
                  | true =>
                    refine .inr ?_
                    rcases Nat.lt_or_ge j p with h1 | h1
                    · have hjl := h3.sub j ((h3.lp j hl).2 h1)
                      have := hf.bit_in hcl j hjn (hcl j hjl) i hb
                      rw [hilf] at this; cases this
                    · exact h1
          · have : j ≠ i := fun e => by subst e; rw [hnl] at hl; cases hl
            simp only [this, if_false]; exact h3.lp j hl
      refine vgop_soundL hY (K := fun s' => s' = (⟨(List.range (st 0).tm.length).map (valE ops M (st 0).tm rv L), H'⟩ : S).put o.dst (rv i)) hinv.at ho (fun s' c' v bs' hle h1 h2 => ?_) (hstep.to rfl)
      subst h2
      have hkeep : ∀ y, y < c.w.heap.size → y ∉ bs → ¬ c.Z y → c'.w.heap[y]? = c.w.heap[y]? ∧ y ∉ bs' ∧ ¬ c'.Z y ∧ y < c'.w.heap.size := fun y hy hb hz => by
        refine ⟨h1.h.ff y hy hb, fun hb' => ?_, fun hz' => ?_, Nat.lt_of_lt_of_le hy h1.h.fs⟩
        · rcases h1.h.fb y hb' with h4 | h4
          · exact hb h4
          · have h4 : c.w.heap.size ≤ y := h4
            omega
        · rcases h1.h.fZ y hz' with h4 | h4
          · exact hz h4
          · rcases h1.h.fz y h4 with h5 | h5 | h5
            · exact hz (h3.inv.zz y h5)
            · exact hb h5
            · have h5 : c.w.heap.size ≤ y := h5
              omega
      have hput : ∀ t, whoA ops t ≠ some i → (a.put o.dst v).tmps.getD t undef = a.tmps.getD t undef := fun t hw => by
        cases hd : o.dst with
        | none => rfl
        | some d =>
          have htd : t ≠ d := fun e => by subst e; exact hw (hf.dst ho hd)
          simp [Act.put, Array.getElem?_setIfInBounds_ne (Ne.symm htd)]
      have h3' : J3 F c' ops M st rv (l.setIfInBounds i true) (fun j => if j = i then true else L j) (a.put o.dst v) p' bs' Q := by
        refine ⟨⟨h1.df, ?_, fun t => ?_, h1.pin⟩, hp1, hp2, hp3, ?_, fun j hj => ?_, fun k h4 h5 => ?_, fun k k' h4 h5 h6 h7 h8 => ?_⟩
        · have := RVL_len h1.tm
          rw [put_tm] at this
          cases hd : o.dst <;> simp [hd, S.put] at this <;> first | exact this | exact this.symm
        · have hv := RVL_getD t h1.tm
          have e2 : (a.put o.dst v).tmps.toList.getD t undef = (a.put o.dst v).tmps.getD t undef := by simp [Array.getD_eq_getD_getElem?]
          rw [e2] at hv
          rw [put_tm] at hv
          cases hd : o.dst with
          | none =>
            rw [hd] at hv
            have hv' : RV c' (List.getD ((List.range (st 0).tm.length).map (valE ops M (st 0).tm rv L)) t .undef) ((a.put none v).tmps.getD t undef) := hv
            rw [getD_val] at hv'
            unfold valE at hv' ⊢
            split
            · rename_i hlt'
              rw [if_pos hlt'] at hv'
              split
              · rename_i k hk
                have hki : k ≠ i := fun e => by subst e; have := who_dst hk ho; rw [hd] at this; cases this
                simp only [hk] at hv'
                simp only [hki, if_false]; exact hv'
              · rename_i hk; simp only [hk] at hv'; exact hv'
            · trivial
          | some d =>
            rw [hd] at hv
            have hv' : RV c' (List.getD (((List.range (st 0).tm.length).map (valE ops M (st 0).tm rv L)).set d (rv i)) t .undef) ((a.put (some d) v).tmps.getD t undef) := hv
            by_cases htd : t = d
            · subst htd
              unfold valE
              split
              · rename_i hlt'
                simp only [hf.dst ho hd, if_true]
                rw [List.getD_eq_getElem?_getD, List.getElem?_set_self (by simpa using hlt')] at hv'
                exact hv'
              · trivial
            · rw [List.getD_eq_getElem?_getD, List.getElem?_set_ne (Ne.symm htd), ← List.getD_eq_getElem?_getD, getD_val] at hv'
              unfold valE at hv' ⊢
              split
              · rename_i hlt'
                rw [if_pos hlt'] at hv'
                split
                · rename_i k hk
                  have hki : k ≠ i := fun e => by subst e; have := who_dst hk ho; rw [hd] at this; exact htd (by simpa using this.symm)
                  simp only [hk] at hv'
                  simp only [hki, if_false]; exact hv'
                · rename_i hk; simp only [hk] at hv'; exact hv'
              · trivial
        · rw [hp4]
          have := h1.h
          rw [put_hp'] at this
          exact h3.inv.back hle this
        · by_cases he : j = i
          · subst he; exact hseti
          · simp only [he, if_false] at hj; rw [hset j he]; exact h3.sub j hj
        · by_cases he : k = i
          · subst he; simp at h5
          · simp only [he, if_false] at h5
            rw [hset k he] at h4
            have hq := hpq k h4 h5
            refine (h3.pd k h4 h5).mono hle (fun y hy => (hkeep y (hq y hy).2.2.1 (hq y hy).1 (hq y hy).2.1).1) (fun y hy => (hkeep y (hq y hy).2.2.1 (hq y hy).1 (hq y hy).2.1).2) (fun d hd => hput d fun e => ?_)
            rw [hd] at e; exact he (by simpa using e)
        · by_cases he : k = i
          · subst he; simp at h6
          · by_cases he' : k' = i
            · subst he'; simp at h8
            · simp only [he, he', if_false] at h6 h8
              rw [hset k he] at h5
              rw [hset k' he'] at h7
              exact h3.dj k k' h4 h5 h6 h7 h8
      obtain ⟨c2, L2, p2, b2, e2, h5, h6, _⟩ := J3.settle ht (pcnt ops (l.setIfInBounds i true) (fun j => if j = i then true else L j)) (Nat.le_refl _) h3'
      rw [← e2]
      exact ih (l.setIfInBounds i true) c2 (a.put o.dst v) b2 p2 L2 Q hcnt' (by simp [hsz]) hcl' h5 h6
end
end Go.Vm

namespace Go.Vm
set_option linter.unusedSimpArgs false

theorem loud_lt {ops : Array Oper} {j : Nat} (h : loudAt ops j = true) : j < ops.size := by
  unfold loudAt at h
  split at h
  · rename_i o ho; exact (Array.getElem?_eq_some_iff.1 ho).1
  · cases h

section
variable {P : Program} {Y : TypeId → TyI} {ops : Array Oper} {M : List Nat} {st : Nat → S} {rv : Nat → T}

theorem same_of {p q : Nat} (h : same ops p q = true) : ∀ j, loudAt ops j = true → (j < p ↔ j < q) := fun j hl => by
  unfold same at h
  simp only [List.all_eq_true, List.mem_range, Bool.or_eq_true, Bool.not_eq_true', beq_iff_eq] at h
  rcases h j (loud_lt hl) with h1 | h1
  · rw [hl] at h1; cases h1
  · by_cases h2 : j < p <;> by_cases h3 : j < q <;> simp [h2, h3] at h1 ⊢

theorem reads_of {cs : List (Nat × Nat)} (h : readsOk ops M cs = true) {i p : Nat} {o : Oper} (ho : ops[i]? = some o) (hr : readK o.op = true) (hp : p ∈ cuts ops) (hm : may ops M i p = true) :
    same ops i p = true ∨ (i, p) ∈ cs := by
  unfold readsOk at h
  simp only [List.all_eq_true, List.mem_range] at h
  have hi := (Array.getElem?_eq_some_iff.1 ho).1
  have h1 := h i hi
  have hra : readAt ops i = true := by unfold readAt; simp only [ho, hr]
  simp only [hra, Bool.not_true, Bool.false_or, List.all_eq_true] at h1
  have h2 := h1 p hp
  simp only [hm, Bool.not_true, Bool.false_or, Bool.or_eq_true] at h2
  exact h2.imp id (fun h => by simpa using h)

theorem chk_same (ht : Trk P Y ops ops.toList st rv) {i p : Nat} {o : Oper} (ho : ops[i]? = some o) (hr : readK o.op = true) (hp : p ≤ ops.size) (hs : same ops i p = true) : GStep P Y ops (st i).tm o (st p).hp (st p).hp (rv i) := by
  have hi := (Array.getElem?_eq_some_iff.1 ho).1
  obtain ⟨h1, _⟩ := ht.step i o (by simpa using ho)
  have h2 := h1.read hr
  rw [h2] at h1
  rw [← ht.same (by omega) hp (same_of hs)]
  exact h1

theorem draw_ok (hY : TysW P Y) (hm : P.follows .mixedOrders = true) {F : Fr} {Q : Exit → S → Prop} {id : Nat} {s : S} {cs : List (Nat × Nat)} (hb : flowB ops M cs = true) (h0 : st 0 = s) (ht : Trk P Y ops ops.toList st rv)
    (hk : Q .normal (st ops.size)) (hc : ∀ i o p, ops[i]? = some o → readK o.op = true → p ≤ ops.size → (i, p) ∈ cs → GStep P Y ops (st i).tm o (st p).hp (st p).hp (rv i)) : SW P F Q (.region id ops true) s := fun c a bs hi =>
  wp_region_any hm (by
    subst h0
    unfold flowB at hb
    simp only [Bool.and_eq_true, List.all_eq_true, List.mem_range] at hb
    have hf : FB ops M := ⟨hb.1.1⟩
    have hle : c.Le { c with w := { c.w with drawn := c.w.drawn + 1 } } := ⟨fun _ h => h, fun _ h => h, fun _ _ => rfl, fun _ _ => rfl, fun _ _ _ h => h, fun _ _ h => h⟩
    have hi' : InvH F { c with w := { c.w with drawn := c.w.drawn + 1 } } (st 0).hp bs :=
      ⟨HR.mono hle (fun _ _ => rfl) hi.h.hp, hi.h.nd, hi.h.dz, hi.h.zz, hi.h.zl, hi.h.bl, hi.h.mu, hi.h.fs, hi.h.ff, hi.h.fb, hi.h.fz, hi.h.fZ, hi.h.kp.trans ⟨rfl, rfl⟩, hi.h.rr⟩
    have htm := RVL.mono hle _ hi.tm
    have hcnt : ∀ (k : Nat), k ≤ ops.size → cnt (Array.replicate ops.size false) k = k := by
      intro k
      induction k with
      | zero => intro _; rfl
      | succ k ih => intro hk; simp only [cnt]; rw [ih (by omega)]; simp [show k < ops.size by omega]
    have hz : ∀ k, (Array.replicate ops.size false).getD k false = false := fun k => by
      rw [Array.getD_eq_getD_getElem?, Array.getElem?_replicate]; split <;> rfl
    have hcut0 : 0 ∈ cuts ops := by simp [cuts]
    have hj0 : JJ F { c with w := { c.w with drawn := c.w.drawn + 1 } } ops M (st 0).tm rv (fun _ => false) a := ⟨hi.df, by have := RVL_len hi.tm; simpa using this, fun t => ?_, hi.pin⟩
    · refine flow_all hY ht hf hb.1.2 (fun i o p ho hr hpc hpn hmy => ?_) (K := Q .normal) (R := liftQ F Q) (fun s' c' a' bs' h1 h2 => ⟨s', c', bs', rfl, h1, h2⟩) hk ops.size (Array.replicate ops.size false)
        { c with w := { c.w with drawn := c.w.drawn + 1 } } a bs 0 (fun _ => false) (fun _ => []) (hcnt _ (Nat.le_refl _)) (by simp) (fun j hj => by rw [hz] at hj; cases hj)
        ⟨hj0, Nat.zero_le _, hcut0, fun j _ => by simp, hi', fun j h => (by cases h), fun k h => (by rw [hz] at h; cases h), fun k k' _ h => (by rw [hz] at h; cases h)⟩ (fun k h => (by rw [hz] at h; cases h))
      rcases reads_of hb.2 ho hr hpc hmy with h | h
      · exact chk_same ht ho hr hpn h
      · exact hc i o p ho hr hpn h
    · unfold valE
      split
      · have hv := RVL_getD t htm
        have e2 : a.tmps.toList.getD t undef = a.tmps.getD t undef := by simp [Array.getD_eq_getD_getElem?]
        rw [e2] at hv
        split
        · simp only [Bool.false_eq_true, if_false]
          split
          · trivial
          · exact hv
        · exact hv
      · trivial)

/-- A REGION THAT DRAWS ITS ORDER, walked as it is written: no reading operation can change places with one that changes the heap -/
theorem SW.draw (hY : TysW P Y) (hm : P.follows .mixedOrders = true) {F : Fr} {Q : Exit → S → Prop} {s : S} {id : Nat} (hb : flowB ops (msk ops) [] = true) (h : vopl P Y ops (Q .normal) ops.toList s) : SW P F Q (.region id ops true) s := by
  obtain ⟨st, rv, e, ht, hk⟩ := Trk.of _ _ h
  rw [Array.length_toList] at hk
  exact draw_ok hY hm hb e ht hk (fun i o p _ _ _ h => by cases h)

theorem SW.draw_seq (hY : TysW P Y) (hm : P.follows .mixedOrders = true) {F : Fr} {Q : Exit → S → Prop} {s : S} {id : Nat} {y : Code} (hb : flowB ops (msk ops) [] = true) (h : ∀ y', y' = y → vopl P Y ops (SW P F Q y') ops.toList s) :
    SW P F Q (.seq (.region id ops true) y) s := SW.seq (SW.draw hY hm hb (h y rfl))

/-! ### with reading operations that are looked at in other heaps too -/
def bnds : List Nat → Nat → List Nat
  | [], b => [b]
  | n :: ns, b => b :: bnds ns (b + n)
theorem bnds_add : ∀ (ns : List Nat) (b n : Nat), bnds ns (b + n) = (bnds ns b).map (· + n)
  | [], b, n => rfl
  | k :: ns, b, n => by
    simp only [bnds, List.map_cons]
    rw [show b + n + k = (b + k) + n by omega, bnds_add ns (b + k) n]

def vrec (P : Program) (Y : TypeId → TyI) (ops : Array Oper) (K : List Heap → S → Prop) : List Nat → List Heap → List Oper → S → Prop
  | [], hs, l, s => vopl P Y ops (K (hs ++ [s.hp])) l s
  | n :: ns, hs, l, s => vopl P Y ops (vrec P Y ops K ns (hs ++ [s.hp]) (l.drop n)) (l.take n) s

theorem Trk.recd {K : List Heap → S → Prop} : ∀ (ns : List Nat) (hs : List Heap) (l : List Oper) (s : S), ns.sum ≤ l.length → vrec P Y ops K ns hs l s →
    ∃ st rv, st 0 = s ∧ Trk P Y ops l st rv ∧ K (hs ++ (bnds ns 0).map fun b => (st b).hp) (st l.length)
  | [], hs, l, s, _, h => by
    obtain ⟨st, rv, e, ht, hk⟩ := Trk.of l s h
    exact ⟨st, rv, e, ht, by simp only [bnds, List.map_cons, List.map_nil, e]; exact hk⟩
  | n :: ns, hs, l, s, hn, h => by
    simp only [List.sum_cons] at hn
    obtain ⟨st1, rv1, e1, ht1, hk1⟩ := Trk.of _ s h
    have hl1 : (l.take n).length = n := by rw [List.length_take]; omega
    rw [hl1] at hk1
    obtain ⟨st2, rv2, e2, ht2, hk2⟩ := Trk.recd ns _ _ _ (by rw [List.length_drop]; omega) hk1
    have key : ∀ k, (if n + k < n then st1 (n + k) else st2 (n + k - n)) = st2 k := fun k => by
      rw [if_neg (by omega), Nat.add_sub_cancel_left]
    have hle : ∀ k, k ≤ n → (if k < n then st1 k else st2 (k - n)) = st1 k := fun k hk => by
      split
      · rfl
      · have : k = n := by omega
        subst this; rw [Nat.sub_self, e2]
    refine ⟨fun i => if i < n then st1 i else st2 (i - n), fun i => if i < n then rv1 i else rv2 (i - n), ?_, ⟨fun i o ho => ?_⟩, ?_⟩
    · show (if 0 < n then st1 0 else st2 (0 - n)) = s
      rw [hle 0 (Nat.zero_le _), e1]
    · show GStep P Y ops (if i < n then st1 i else st2 (i - n)).tm o (if i < n then st1 i else st2 (i - n)).hp (if i + 1 < n then st1 (i + 1) else st2 (i + 1 - n)).hp (if i < n then rv1 i else rv2 (i - n)) ∧
        (if i + 1 < n then st1 (i + 1) else st2 (i + 1 - n)).tm = ((⟨(if i < n then st1 i else st2 (i - n)).tm, []⟩ : S).put o.dst (if i < n then rv1 i else rv2 (i - n))).tm
      by_cases hin : i < n
      · have := ht1.step i o (by rw [List.getElem?_take_of_lt hin]; exact ho)
        rw [hle i (by omega), hle (i + 1) (by omega), if_pos hin]
        exact this
      · obtain ⟨k, rfl⟩ : ∃ k, i = n + k := ⟨i - n, by omega⟩
        have := ht2.step k o (by rw [List.getElem?_drop]; exact ho)
        have h4 := key (k + 1)
        rw [← Nat.add_assoc] at h4
        rw [key k, h4, if_neg hin, Nat.add_sub_cancel_left]
        exact this
    · have hlen : l.length = n + (l.drop n).length := by rw [List.length_drop]; omega
      simp only [bnds, List.map_cons, Nat.zero_add]
      have h3 : (bnds ns n).map (fun b => (if b < n then st1 b else st2 (b - n)).hp) = (bnds ns 0).map fun b => (st2 b).hp := by
        have := bnds_add ns 0 n
        rw [Nat.zero_add] at this
        rw [this, List.map_map]
        refine List.map_congr_left fun b _ => ?_
        simp only [Function.comp]
        rw [Nat.add_comm b n, key b]
      rw [h3, hle 0 (Nat.zero_le _), e1, hlen, key]
      simpa using hk2

structure Chk (A B : Prop) : Prop where
  a : A
  b : B

def rdq (Y : TypeId → TyI) (s : S) (H : Heap) : Option Oper → Prop
  | some o => match o.dst with
    | some d => d < s.tm.length ∧ (opM Y s.ev H.length o.type o.op).run H = some { v := s.tm.getD d .undef }
    | none => False
  | none => False
def rdqs (Y : TypeId → TyI) (ops : Array Oper) (s : S) (hs : List Heap) : List (Nat × Nat) → Prop
  | [] => True
  | x :: cs => rdq Y s (hs.getD x.2 []) ops[x.1]? ∧ rdqs Y ops s hs cs
theorem rdqs_mem {s : S} {hs : List Heap} : ∀ {cs : List (Nat × Nat)} {x : Nat × Nat}, rdqs Y ops s hs cs → x ∈ cs → rdq Y s (hs.getD x.2 []) ops[x.1]?
  | y :: cs, x, h, hx => by
    rcases List.mem_cons.1 hx with rfl | hx
    · exact h.1
    · exact rdqs_mem h.2 hx

def ckOk (ops : Array Oper) (M : List Nat) (x : Nat × Nat) : Bool := match ops[x.1]? with
  | some o => o.guard.isNone && decide (x.2 < (cuts ops).length) && (opT (opds o.op)).all fun t => match whoA ops t with | none => true | some k => (M.getD x.1 0).testBit k
  | none => false
def flow2B (ops : Array Oper) (M : List Nat) (ns : List Nat) (ck : List (Nat × Nat)) : Bool :=
  flowB ops M (ck.map fun x => (x.1, (cuts ops).getD x.2 0)) && (bnds ns 0 == cuts ops) && decide (ns.sum ≤ ops.size) && ck.all (ckOk ops M)

/-- 'ns': how many operations up to each that changes the heap, with it; 'ck': which reading operation is looked at again, and in which heap -/
theorem SW.draw2 (hY : TysW P Y) (hm : P.follows .mixedOrders = true) {F : Fr} {Q : Exit → S → Prop} {s : S} {id : Nat} (ns : List Nat) (ck : List (Nat × Nat)) (hb : flow2B ops (msk ops) ns ck = true)
    (h : vrec P Y ops (fun hs s' => Chk (rdqs Y ops s' hs ck) (Q .normal s')) ns [] ops.toList s) : SW P F Q (.region id ops true) s := by
  unfold flow2B at hb
  simp only [Bool.and_eq_true, decide_eq_true_eq, beq_iff_eq, List.all_eq_true] at hb
  obtain ⟨⟨⟨hb1, hb2⟩, hb3⟩, hb4⟩ := hb
  obtain ⟨st, rv, e, ht, hk⟩ := Trk.recd _ _ _ _ (by rw [Array.length_toList]; exact hb3) h
  rw [Array.length_toList, List.nil_append, hb2] at hk
  have hf : FB ops (msk ops) := ⟨by
    have := hb1; unfold flowB at this
    simp only [Bool.and_eq_true, List.all_eq_true, List.mem_range] at this
    exact this.1.1⟩
  refine draw_ok hY hm hb1 e ht hk.b fun i o p ho hr hp hmem => ?_
  obtain ⟨x, hx, hxe⟩ := List.mem_map.1 hmem
  simp only [Prod.mk.injEq] at hxe
  obtain ⟨rfl, rfl⟩ := hxe
  have h1 := rdqs_mem hk.a hx
  have h2 := hb4 x hx
  unfold ckOk at h2
  simp only [ho, Bool.and_eq_true, decide_eq_true_eq, List.all_eq_true, Option.isNone_iff_eq_none] at h2
  obtain ⟨⟨hg, hq⟩, hop⟩ := h2
  rw [ho] at h1
  unfold rdq at h1
  simp only at h1
  cases hd : o.dst with
  | none => simp [hd] at h1
  | some d =>
    simp only [hd] at h1
    obtain ⟨hdl, h1⟩ := h1
    have hi := (Array.getElem?_eq_some_iff.1 ho).1
    have hgl : List.getD (List.map (fun b => (st b).hp) (cuts ops)) x.2 [] = (st ((cuts ops).getD x.2 0)).hp := by
      rw [List.getD_eq_getElem?_getD, List.getElem?_map, List.getD_eq_getElem?_getD, List.getElem?_eq_getElem hq]; rfl
    rw [hgl] at h1
    obtain ⟨t1, t2⟩ := ht.tm hf ops.size (Nat.le_refl _)
    obtain ⟨t3, t4⟩ := ht.tm hf x.1 (by omega)
    have hval : (st ops.size).tm.getD d .undef = rv x.1 := by
      rw [t2 d]
      unfold valT
      rw [if_pos (by rw [← t1]; exact hdl)]
      simp only [hf.dst ho hd, hi, decide_true, if_true]
    rw [hval, ev_evT] at h1
    have hev : ∀ y ∈ opds o.op, evT (st ops.size).tm y = evT (st x.1).tm y := fun y hy => by
      cases y with
      | tmp t =>
        show (st ops.size).tm.getD t .undef = (st x.1).tm.getD t .undef
        rw [t2 t, t4 t]
        unfold valT
        have hw := hop t (by simp only [opT, List.mem_filterMap]; exact ⟨_, hy, rfl⟩)
        cases hwt : whoA ops t with
        | none => rfl
        | some k =>
          simp only [hwt] at hw
          have hki := hf.bit_lt x.1 hi k hw
          simp only [hki, show k < ops.size by omega, decide_true, if_true]
      | const v => rfl
      | func f => rfl
      | global g => rfl
    rw [opM_congr hev] at h1
    obtain ⟨ha, hc⟩ := read_al (Y := Y) hr
    unfold GStep
    simp only [hg]
    unfold LStep
    simp only [ha, hc, Bool.false_eq_true, if_false]
    exact ⟨_, h1, rfl, rfl⟩
end
end Go.Vm

namespace Go.Vm

/-! ### what is lent, within a variable that is handed over: one tag for all -/
def cst (k : Nat) : Tag → Tag := fun _ => .r k

theorem bind_pure_inv {α β : Type} {m : RM α} {f : α → RM β} {x : β} (h : m.bind f = .pure x) : ∃ a, m = .pure a ∧ f a = .pure x := by
  cases m with
  | pure a => exact ⟨a, rfl, h⟩
  | fail => cases h
  | get e j k => cases h

mutual
theorem tg_tg (σ τ : Tag → Tag) : ∀ t : T, (t.tg σ).tg τ = t.tg (fun g => τ (σ g))
  | .nd l => by simp only [T.tg, tgL_tgL σ τ l]
  | .sl g l => by simp only [T.tg, tgL_tgL σ τ l]
  | .ow es l => by simp only [T.tg, tgL_tgL σ τ l]
  | .tup l => by simp only [T.tg, tgL_tgL σ τ l]
  | .io t => by simp only [T.tg, tg_tg σ τ t]
  | .fp t => by simp only [T.tg, tg_tg σ τ t]
  | .int .. | .bool _ | .str _ | .nils _ | .ref .. | .vr .. | .ptr .. | .fn .. | .nilI | .nilP | .err | .any | .undef | .opt .. => rfl
theorem tgL_tgL (σ τ : Tag → Tag) : ∀ l : List T, tgL τ (tgL σ l) = tgL (fun g => τ (σ g)) l
  | [] => rfl
  | t :: l => by simp only [tgL, tg_tg σ τ t, tgL_tgL σ τ l]
end

mutual
theorem tg_lent (τ : Tag → Tag) {k : T → RM T} : ∀ t : T, lendA k t = .pure t → t.tg τ = t.tg (fun _ => τ .b)
  | .nd l, h => by
    simp only [lendA] at h
    obtain ⟨a, h1, h2⟩ := bind_pure_inv h
    simp only [RM.pure.injEq, T.nd.injEq] at h2; rw [h2] at h1
    simp only [T.tg, tgL_lent τ l h1]
  | .sl g l, h => by
    simp only [lendA] at h
    obtain ⟨a, h1, h2⟩ := bind_pure_inv h
    simp only [RM.pure.injEq, T.sl.injEq] at h2
    obtain ⟨hg, hl⟩ := h2
    rw [hl] at h1
    simp only [T.tg, tgL_lent τ l h1, ← hg]
  | .ow es l, h => by
    simp only [lendA] at h
    obtain ⟨a, h1, h2⟩ := bind_pure_inv h
    simp at h2
  | .fp t, h => by
    simp only [lendA] at h
    obtain ⟨a, h1, h2⟩ := bind_pure_inv h
    simp only [RM.pure.injEq, T.fp.injEq] at h2; rw [h2] at h1
    simp only [T.tg, tg_lent τ t h1]
  | .tup l, h => by simp [lendA] at h
  | .io t, h => by simp [lendA] at h
  | .int .., _ | .bool _, _ | .str _, _ | .nils _, _ | .ref .., _ | .vr .., _ | .ptr .., _ | .fn .., _ | .nilI, _ | .nilP, _ | .err, _ | .any, _ | .undef, _ | .opt .., _ => rfl
theorem tgL_lent (τ : Tag → Tag) {k : T → RM T} : ∀ l : List T, lendAL k l = .pure l → tgL τ l = tgL (fun _ => τ .b) l
  | [], _ => rfl
  | t :: l, h => by
    simp only [lendAL] at h
    obtain ⟨a, h1, h2⟩ := bind_pure_inv h
    obtain ⟨b, h3, h4⟩ := bind_pure_inv h2
    simp only [RM.pure.injEq, List.cons.injEq] at h4
    rw [h4.1] at h1; rw [h4.2] at h3
    simp only [tgL, tg_lent τ t h1, tgL_lent τ l h3]
end

mutual
theorem lend_tg (σ : Tag → Tag) {k : T → RM T} : ∀ t : T, lendA k t = .pure t → lendA k (t.tg σ) = .pure t
  | .nd l, h => by
    simp only [lendA] at h
    obtain ⟨a, h1, h2⟩ := bind_pure_inv h
    simp only [RM.pure.injEq, T.nd.injEq] at h2; rw [h2] at h1
    simp only [T.tg, lendA, lendL_tg σ l h1, RM.bind]
  | .sl g l, h => by
    simp only [lendA] at h
    obtain ⟨a, h1, h2⟩ := bind_pure_inv h
    simp only [RM.pure.injEq, T.sl.injEq] at h2
    obtain ⟨hg, hl⟩ := h2
    rw [hl] at h1
    simp only [T.tg, lendA, lendL_tg σ l h1, ← hg, RM.bind]
  | .ow es l, h => by
    simp only [lendA] at h
    obtain ⟨a, h1, h2⟩ := bind_pure_inv h
    simp at h2
  | .fp t, h => by
    simp only [lendA] at h
    obtain ⟨a, h1, h2⟩ := bind_pure_inv h
    simp only [RM.pure.injEq, T.fp.injEq] at h2; rw [h2] at h1
    simp only [T.tg, lendA, lend_tg σ t h1, RM.bind]
  | .tup l, h => by simp [lendA] at h
  | .io t, h => by simp [lendA] at h
  | .int .., h | .bool _, h | .str _, h | .nils _, h | .ref .., h | .vr .., h | .ptr .., h | .fn .., h | .nilI, h | .nilP, h | .err, h | .any, h | .undef, h | .opt .., h => h
theorem lendL_tg (σ : Tag → Tag) {k : T → RM T} : ∀ l : List T, lendAL k l = .pure l → lendAL k (tgL σ l) = .pure l
  | [], _ => rfl
  | t :: l, h => by
    simp only [lendAL] at h
    obtain ⟨a, h1, h2⟩ := bind_pure_inv h
    obtain ⟨b, h3, h4⟩ := bind_pure_inv h2
    simp only [RM.pure.injEq, List.cons.injEq] at h4
    rw [h4.1] at h1; rw [h4.2] at h3
    simp only [tgL, lendAL, lend_tg σ t h1, lendL_tg σ l h3, RM.bind]
end

mutual
theorem ren_tg (π : List Nat) (σ : Tag → Tag) : ∀ t : T, (t.tg σ).ren π = (t.ren π).tg σ
  | .nd l => by simp only [T.tg, T.ren, renL_tg π σ l]
  | .sl g l => by simp only [T.tg, T.ren, renL_tg π σ l]
  | .ow es l => by simp only [T.tg, T.ren, renL_tg π σ l]
  | .tup l => by simp only [T.tg, T.ren, renL_tg π σ l]
  | .io t => by simp only [T.tg, T.ren, ren_tg π σ t]
  | .fp t => by simp only [T.tg, T.ren, ren_tg π σ t]
  | .ref e j off len => by simp only [T.tg, T.ren]; first | rfl | (split <;> rfl)
  | .vr .. => by simp only [T.tg, T.ren]; first | rfl | (split <;> rfl)
  | .ptr .. => by simp only [T.tg, T.ren]; first | rfl | (split <;> rfl)
  | .int .. | .bool _ | .str _ | .nils _ | .fn .. | .nilI | .nilP | .err | .any | .undef | .opt .. => rfl
theorem renL_tg (π : List Nat) (σ : Tag → Tag) : ∀ l : List T, renL π (tgL σ l) = tgL σ (renL π l)
  | [] => rfl
  | t :: l => by simp only [tgL, renL, ren_tg π σ t, renL_tg π σ l]
end

mutual
theorem lend_cloA {k : T → RM T} : ∀ (t u : T), t.clo = true → lendA k t = .pure u → u.cloA = true
  | .nd l, u, hc, h => by
    simp only [lendA] at h
    obtain ⟨a, h1, h2⟩ := bind_pure_inv h
    simp only [RM.pure.injEq] at h2; subst h2
    exact lendL_cloA l a hc h1
  | .sl g l, u, hc, h => by
    simp only [lendA] at h
    obtain ⟨a, h1, h2⟩ := bind_pure_inv h
    simp only [RM.pure.injEq] at h2; subst h2
    simp only [T.clo, Bool.and_eq_true] at hc
    exact lendL_cloA l a hc.2 h1
  | .ow es l, u, hc, h => by
    simp only [lendA] at h
    obtain ⟨a, h1, h2⟩ := bind_pure_inv h
    simp only [RM.pure.injEq] at h2; subst h2
    exact lendL_cloA l a hc h1
  | .int .., u, _, h => by simp only [lendA, RM.pure.injEq] at h; subst h; rfl
  | .bool _, u, _, h => by simp only [lendA, RM.pure.injEq] at h; subst h; rfl
  | .str _, u, _, h => by simp only [lendA, RM.pure.injEq] at h; subst h; rfl
  | .nilI, u, _, h => by simp only [lendA, RM.pure.injEq] at h; subst h; rfl
  | .nilP, u, _, h => by simp only [lendA, RM.pure.injEq] at h; subst h; rfl
  | .err, u, _, h => by simp only [lendA, RM.pure.injEq] at h; subst h; rfl
  | .any, u, _, h => by simp only [lendA, RM.pure.injEq] at h; subst h; rfl
  | .nils _, u, _, h => by simp only [lendA, RM.pure.injEq] at h; subst h; rfl
  | .fp _, _, hc, _ | .tup _, _, hc, _ | .io _, _, hc, _ | .ref .., _, hc, _ | .vr .., _, hc, _ | .ptr .., _, hc, _ | .fn .., _, hc, _ | .undef, _, hc, _ | .opt .., _, hc, _ => by simp [T.clo] at hc
theorem lendL_cloA {k : T → RM T} : ∀ (l u : List T), cloL l = true → lendAL k l = .pure u → cloAL u = true
  | [], u, _, h => by simp only [lendAL, RM.pure.injEq] at h; subst h; rfl
  | t :: l, u, hc, h => by
    simp only [lendAL] at h
    obtain ⟨a, h1, h2⟩ := bind_pure_inv h
    obtain ⟨b, h3, h4⟩ := bind_pure_inv h2
    simp only [RM.pure.injEq] at h4; subst h4
    simp only [cloL, Bool.and_eq_true] at hc
    simp only [cloAL, lend_cloA t a hc.1 h1, lendL_cloA l b hc.2 h3, Bool.and_self]
end

mutual
theorem clo_cst (k : Nat) : ∀ t : T, t.cloA = true → (t.tg (cst k)).clo = true
  | .nd l, h => cloL_cst k l h
  | .sl g l, h => by
    simp only [T.tg, T.clo, Bool.and_eq_true]
    exact ⟨rfl, cloL_cst k l h⟩
  | .ow es l, h => cloL_cst k l h
  | .int .., _ | .bool _, _ | .str _, _ | .nilI, _ | .nilP, _ | .err, _ | .any, _ | .nils _, _ => rfl
  | .fp _, h | .tup _, h | .io _, h | .ref .., h | .vr .., h | .ptr .., h | .fn .., h | .undef, h | .opt .., h => by simp [T.cloA] at h
theorem cloL_cst (k : Nat) : ∀ l : List T, cloAL l = true → cloL (tgL (cst k) l) = true
  | [], _ => rfl
  | t :: l, h => by
    simp only [cloAL, Bool.and_eq_true] at h
    simp only [tgL, cloL, clo_cst k t h.1, cloL_cst k l h.2, Bool.and_self]
end

section
variable {α : Type} [Enc α]
@[simp] theorem tgL_up0 (l : List α) : tgL upT (l.map Enc.b) = tgL (cst 0) (l.map Enc.b) := tgL_lent upT _ (lendAL_b (fun _ => .fail) l)
@[simp] theorem tgL_up (k : Nat) (l : List T) : tgL upT (tgL (cst k) l) = tgL (cst (k + 1)) l := tgL_tgL _ _ l
@[simp] theorem tgL_dn (k : Nat) (l : List T) : tgL dnT (tgL (cst (k + 1)) l) = tgL (cst k) l := tgL_tgL _ _ l
@[simp] theorem tgL_dn0 (l : List α) : tgL dnT (tgL (cst 0) (l.map Enc.b)) = l.map Enc.b := by
  rw [tgL_tgL]
  have h : ∀ m : List α, tgL (fun g : Tag => dnT (cst 0 g)) (m.map Enc.b) = m.map Enc.b := fun m => by
    have h1 := tgL_lent id _ (lendAL_b (fun _ => .fail) m)
    rw [tgL_id] at h1
    exact h1.symm
  exact h l
@[simp] theorem tgL_dnb (l : List α) : tgL dnT (l.map Enc.b) = l.map Enc.b := by
  have h1 := tgL_lent id _ (lendAL_b (fun _ => .fail) l)
  rw [tgL_id] at h1
  have h2 := tgL_lent dnT _ (lendAL_b (fun _ => .fail) l)
  rw [h2]; exact h1.symm
@[simp] theorem lendAL_t (σ : Tag → Tag) (k : T → RM T) (l : List α) : lendAL k (tgL σ (l.map Enc.b)) = .pure (l.map Enc.b) := lendL_tg σ _ (lendAL_b k l)
@[simp] theorem renL_t (π : List Nat) (σ : Tag → Tag) (l : List α) : renL π (tgL σ (l.map Enc.b)) = tgL σ (l.map Enc.b) := by rw [renL_tg, renL_b]
@[simp] theorem cloAL_b (l : List α) : cloAL (l.map Enc.b) = true := lendL_cloA _ _ (cloL_o l) (lendAL_o (fun _ => .fail) l)
@[simp] theorem cloAL_t (σ : Tag → Tag) (l : List α) : cloAL (tgL σ (l.map Enc.b)) = true := tgL_cloA _ (cloAL_b l)
@[simp] theorem cloL_t (k : Nat) (l : List α) : cloL (tgL (cst k) (l.map Enc.b)) = true := cloL_cst k _ (cloAL_b l)
theorem tgL_get (σ : Tag → Tag) : ∀ (l : List T) (i : Nat), (tgL σ l)[i]? = (l[i]?).map (T.tg σ)
  | [], i => by simp [tgL]
  | t :: l, 0 => by simp [tgL]
  | t :: l, i + 1 => by simp only [tgL, List.getElem?_cons_succ]; exact tgL_get σ l i
theorem get_t (σ : Tag → Tag) (l : List α) (i : Nat) (h : i < l.length) : (tgL σ (l.map Enc.b))[i]? = some ((Enc.b l[i]).tg σ) := by
  rw [tgL_get, List.getElem?_map, List.getElem?_eq_getElem h]; rfl
theorem tgL_int (σ : Tag → Tag) (l : List Int) : tgL σ (l.map Enc.b) = l.map Enc.b := by rw [b_int]; exact tgL_o σ l
theorem tgL_bool (σ : Tag → Tag) (l : List Bool) : tgL σ (l.map Enc.b) = l.map Enc.b := by rw [b_bool]; exact tgL_o σ l
@[simp] theorem len_t (σ : Tag → Tag) (l : List α) : (tgL σ (l.map (Enc.b : α → T))).length = l.length := by rw [tgL_len]; simp
theorem append_runP {Y : TypeId → TyI} {own t u e j off n e2 j2 el es by' : Nat} {k : Ty} {f : List T} {l : List α} {x : α} {H : Heap} (h1 : Y t = ⟨.sl el, 1, 24⟩) (hu : Y u = ⟨.sl el, 1, 24⟩) (h2 : Y el = ⟨k, es, by'⟩) (h3 : k.isFn = false) (h4 : 0 < es ∧ 0 < by' ∧ by' ≤ 2 ^ 16)
    (hH : H.at e j = some (.arr es f false)) (hH2 : H.at e2 j2 = some (.arr es [Enc.o x] false)) (hp : (f.drop off).take n = l.map Enc.o) (hn : off + n ≤ f.length) (hl : n + 1 ≤ 2 ^ 30) (hnw : (Enc.o x).nw = true) (hz : (Enc.o x).size = es) :
    (appendM Y own t u (.ref e j off n) (.ref e2 j2 0 1)).run H = some { v := .ref own 0 0 (n + 1), ups := [(e, j, .gone)], news := [.arr es ((l ++ [x]).map Enc.o) false] } := by
  rw [append_run1 h1 hu h2 h3 h4 hH hH2 hn hl hnw hz, hp]; simp
end
end Go.Vm

namespace Go.Vm

/-- a variable opens: its slices become objects of a new entry -/
theorem Norm.expelVar {tm : List T} {H : Heap} (e j : Nat) {t : T} (ha : H.at e j = some (.var t)) :
    Norm ⟨tm, H⟩ ⟨tm, H.put e j (.var (thawA H.length t 0).1) ++ [(thawA H.length t 0).2]⟩ := fun F c a bs hi => by
  have hext := hi.h.ext
  obtain ⟨p, q, r, hb, ho, hinv⟩ := HR.drop hext (at_app ha [])
  obtain ⟨i, hmu, cs, bs', arr, hq, hrc, hh, hsz, hfree, hle0, h1, h2⟩ := ho
  obtain ⟨is, hl, hth⟩ := thaw_rc (own := H.length) t (j := 0) hrc
  have hown : (Heap.put (H ++ [[]]) e j .gone)[H.length]? = some [] := by
    rw [put_app ha]
    rw [List.getElem?_append_right (by rw [put_len]; exact Nat.le_refl _), put_len]; simp
  have hnd := hi.h.nd
  rw [hb, List.nodup_append, List.nodup_append] at hnd
  have hqn := hnd.2.1.1
  rw [hq, List.nodup_cons] at hqn
  have hqout : ∀ x ∈ q, x ∉ p ++ r := fun x hx hx' => by
    rcases List.mem_append.1 hx' with h' | h'
    · exact hnd.2.2 x h' x (by simp [hx]) rfl
    · exact hnd.2.1.2.2 x hx x h' rfl
  have hqb : ∀ x ∈ q, x ∈ bs := fun x hx => by rw [hb]; simp [hx]
  have hin : ∀ x ∈ bs', x ∈ q := fun x hx => by rw [hq]; simp [hx]
  have hle := Le_row (is := is) hinv hown
  obtain ⟨g1, g2⟩ := hth _ hle (fun _ _ => rfl) (fun k i hk => by simp [Cx.rowAt, hk])
  obtain ⟨bs1, hinv1, hm1⟩ := hinv.row hown (q := bs') (is := is) (obs := (thawA H.length t 0).2) (fun x hx => ⟨hqout x (hin x hx), hext.dz x (hqb x (hin x hx)), hext.bl x (hqb x (hin x hx)), hext.fb x (hqb x (hin x hx))⟩)
    hqn.2 hl g2
  have hat : Heap.at ((Heap.put (H ++ [[]]) e j .gone).set H.length (thawA H.length t 0).2) e j = some .gone := by
    have h1 := at_put (x := .gone) ha
    rw [put_app ha, List.set_append_right _ _ (by rw [put_len]; exact Nat.le_refl _), put_len, Nat.sub_self]
    exact at_app h1 _
  have hmu' : (c.rowAt H.length is).μ e j = some i := by
    have : e ≠ H.length := fun he => by
      subst he
      unfold Heap.at at ha
      rw [List.getElem?_eq_none (Nat.le_refl _)] at ha; cases ha
    simp [Cx.rowAt, this, hmu]
  obtain ⟨bs2, hfin⟩ := InvH.fillOb (q := [i.blk]) (ob := .var (thawA H.length t 0).1) hinv1 hat
    ⟨i, hmu', cs, [], arr, rfl, g1, hh, hsz, hfree, hle0, h1, h2⟩
    (fun x hx => by
      simp only [List.mem_singleton] at hx; subst hx
      have hxq : i.blk ∈ q := by rw [hq]; simp
      refine ⟨fun hb1 => ?_, hext.dz _ (hqb _ hxq), hext.bl _ (hqb _ hxq), hext.fb _ (hqb _ hxq)⟩
      rcases hm1 _ hb1 with h' | h'
      · exact hqout _ hxq h'
      · exact hqn.1 h') (by simp)
  have hheap : Heap.put ((Heap.put (H ++ [[]]) e j .gone).set H.length (thawA H.length t 0).2) e j (.var (thawA H.length t 0).1) = H.put e j (.var (thawA H.length t 0).1) ++ [(thawA H.length t 0).2] := by
    rw [put_app ha, List.set_append_right _ _ (by rw [put_len]; exact Nat.le_refl _), put_len, Nat.sub_self]
    simp only [List.set_cons_zero]
    rw [put_app (at_put (x := .gone) ha), put_put]
  rw [hheap] at hfin
  refine ⟨c.rowAt H.length is, bs2, rfl, hfin, RVL.mono hle _ hi.tm, hi.df, fun j i hj => hle.mu _ _ _ (hi.pin j i hj)⟩
end Go.Vm

namespace Go.Vm
/-! ### marks of any plain element -/
section
variable {α : Type} [Enc α]
def marksG (f : Int → α) (n : Nat) (k : Int) : List α := (List.range n).map fun j : Nat => f (k + (j : Int))
def mixG (f : Int → α) (l : List α) (k : Int) (i : Nat) : List α := marksG f i k ++ l.drop i
variable (f : Int → α)
omit [Enc α] in
theorem marksG_len (n : Nat) (k : Int) : (marksG f n k).length = n := by simp [marksG]
omit [Enc α] in
theorem marksG_get (n : Nat) (k : Int) (i : Nat) (h : i < n) : (marksG f n k)[i]'(by rw [marksG_len]; exact h) = f (k + i) := by simp [marksG]
omit [Enc α] in
theorem mixG_zero (l : List α) (k : Int) : mixG f l k 0 = l := by simp [mixG, marksG]
omit [Enc α] in
theorem mixG_all (l : List α) (k : Int) : mixG f l k l.length = marksG f l.length k := by simp [mixG]
omit [Enc α] in
theorem mixG_len (l : List α) (k : Int) (i : Nat) (h : i ≤ l.length) : (mixG f l k i).length = l.length := by simp [mixG, marksG]; omega
theorem mixG_get (l : List α) (k : Int) (i : Nat) (h : i < l.length) : ((mixG f l k i).map Enc.o)[i]? = some (Enc.o l[i] : T) := by
  have : (mixG f l k i)[i]? = some l[i] := by
    unfold mixG
    rw [List.getElem?_append_right (by rw [marksG_len]; exact Nat.le_refl _), marksG_len, Nat.sub_self, List.getElem?_drop, Nat.add_zero, List.getElem?_eq_getElem h]
  rw [List.getElem?_map, this]; rfl
theorem mixG_set (l : List α) (k : Int) (i : Nat) (h : i < l.length) : ((mixG f l k i).map Enc.o).set i (Enc.o (f (k + i)) : T) = (mixG f l k (i + 1)).map Enc.o := by
  rw [← List.map_set]
  congr 1
  unfold mixG
  rw [List.set_append_right _ _ (by rw [marksG_len]; exact Nat.le_refl _), marksG_len, Nat.sub_self, List.drop_eq_getElem_cons h, List.set_cons_zero]
  have : marksG f (i + 1) k = marksG f i k ++ [f (k + i)] := by simp [marksG, List.range_succ]
  rw [this]; simp
omit [Enc α] in
@[simp] theorem take_marksG {β : Type} (g : α → β) (n : Nat) (k : Int) : ((marksG f n k).map g).take n = (marksG f n k).map g := by
  rw [List.take_of_length_le]; simp [marksG_len]
end
def mB (k : Int) : Bool := k.tmod 3 == 0
end Go.Vm

namespace Go.Vm
set_option linter.defProp false
def wk := And.intro @k0 (And.intro @k1 (And.intro @k2 (And.intro @k3 (And.intro @k4 (And.intro @k5 (And.intro @k6 (And.intro @k7 (And.intro @k9 (And.intro @k10 (And.intro @k11 (And.intro @vopl_nil (And.intro @grown_t (And.intro @grown_f (And.intro @after_f (And.intro @after_t (@after_u))))))))))))))))
def wl := And.intro @List.length_cons.{0} (And.intro @List.length_nil.{0} (And.intro @List.append_nil.{0} (And.intro @List.nil_append.{0} (And.intro @List.cons_append.{0} (And.intro @Bool.false_eq_true (And.intro @List.set_cons_succ.{0} (And.intro @List.set_cons_zero.{0} (And.intro @List.getD_cons_zero.{0} (And.intro @List.getD_cons_succ.{0} (And.intro @Option.map_some.{0,0} (And.intro @Option.map_none.{0,0} (And.intro @List.getElem?_toArray.{0} (And.intro @List.getElem?_cons_succ.{0} (And.intro @List.getElem?_cons_zero.{0} (And.intro @Option.bind_some.{0,0} (And.intro @Bool.not_or_self (And.intro @true_and (And.intro @and_true (And.intro @and_self (And.intro @beq_true (And.intro @Bool.not_not (And.intro @List.map_cons.{0,0} (And.intro @List.map_nil.{0,0} (And.intro @List.take_succ_cons.{0} (And.intro @List.take_zero.{0} (And.intro @Nat.add_zero (And.intro @Nat.zero_add (And.intro @Bool.and_self (And.intro @Bool.and_true (And.intro @Bool.true_and (And.intro @Nat.lt_add_one (And.intro @Nat.zero_lt_one (And.intro @List.toList_toArray.{0} (And.intro @tgL_o (And.intro @Bool.not_false (And.intro @Bool.not_true (And.intro @Bool.or_true (And.intro @Bool.true_or (And.intro @Bool.or_false (And.intro @Bool.false_or (And.intro @beq_self_eq_true.{0} (And.intro @beq_false (And.intro @Bool.or_not_self (And.intro @Int.natCast_nonneg (And.intro @Int.toNat_natCast (@List.length_map.{0,0}))))))))))))))))))))))))))))))))))))))))))))))
end Go.Vm

namespace Go.Vm
/-! ### bytes -/
instance : Enc UInt8 where
  b x := .int .u8 (x.toNat : Int)
  o x := .int .u8 (x.toNat : Int)
  es := 1
  lim _ _ := True
  flat := true
  sz _ x := x
  tyOk Y n t := match n with | 0 => false | _ + 1 => match (Y t).k with | .int .u8 => true | _ => false
  lendB _ _ := rfl
  lendO _ _ := rfl
  cloO _ := rfl
  renB _ _ := rfl
  renO _ _ := rfl
  tgO _ _ := rfl
  szB _ := rfl
  szO _ := rfl
  celB _ := rfl
  nwB _ := rfl
  ndO _ := rfl
  dec Y n t u h ht := by
    cases n with
    | zero => simp at h
    | succ n =>
      simp only at h
      split at h
      · rename_i hk
        obtain ⟨v, rfl, hw⟩ := typed_int ht hk
        simp [Lit.wf, IntKind.min, IntKind.max, IntKind.bits, IntKind.signed] at hw
        refine ⟨UInt8.ofNat v.toNat, ?_, trivial⟩
        simp; omega
      · cases h
  flatLim _ _ _ := trivial
  flatSz _ _ _ := rfl
  szLe _ _ _ := Int.le_refl _
  szNeg _ _ h := h
  szLim _ _ _ _ := trivial
  limUp _ _ _ _ _ := trivial

def byt (n : Int) : UInt8 := UInt8.ofNat (n % 256).toNat
theorem byt_nat (n : Int) : ((byt n).toNat : Int) = n % 256 := by
  have h0 := Int.emod_nonneg n (b := 256) (by decide)
  have h1 := Int.emod_lt_of_pos n (b := 256) (by decide)
  unfold byt; simp; omega
theorem u8_wrap (n : Int) : IntKind.u8.wrap n = ((byt n).toNat : Int) := by
  rw [byt_nat]; simp [IntKind.wrap, IntKind.bits, IntKind.signed]
theorem b_byte : (Enc.b : UInt8 → T) = Enc.o := rfl
theorem o_byte (n : UInt8) : Enc.o n = T.int .u8 (n.toNat : Int) := rfl
@[simp] theorem tgL_byte (σ : Tag → Tag) (l : List UInt8) : tgL σ (l.map Enc.b) = l.map Enc.b := by rw [b_byte]; exact tgL_o σ l
@[simp] theorem cloL_byte (l : List UInt8) : cloL (l.map Enc.b) = true := cloL_o l
theorem byte_i64 (x : UInt8) : IntKind.i64.wrap (x.toNat : Int) = (x.toNat : Int) := by
  have := x.toNat_lt
  exact wrap64 _ (by omega) (by omega)
theorem byt_of (x : UInt8) : byt (x.toNat : Int) = x := by
  apply UInt8.toNat_inj.1
  have h := byt_nat (x.toNat : Int)
  have := x.toNat_lt
  omega
end Go.Vm

namespace Go.Vm
/-- an array that was given moves to an entry of its own -/
def mvR (j n : Nat) : T → T
  | .ref e j' off len => if e = 0 ∧ j' = j then .ref n 0 off len else .ref e j' off len
  | t => t
theorem Norm.mv {tm : List T} {H : Heap} (j : Nat) {es : Nat} {l : List T} (ha : H.at 0 j = some (.arr es l false)) :
    Norm ⟨tm, H⟩ ⟨tm.map (mvR j H.length), H.put 0 j .gone ++ [[.arr es l false]]⟩ := fun F c a bs hi => by
  have hext := hi.h.ext
  obtain ⟨p, q, r, hb, ho, hinv⟩ := HR.drop hext (at_app ha [])
  obtain ⟨i, hmu, harr⟩ := ho
  have hpos : 0 < H.length := by
    cases H with
    | nil => simp [Heap.at] at ha
    | cons => simp
  have hown : (Heap.put (H ++ [[]]) 0 j .gone)[H.length]? = some [] := by
    rw [put_app ha]
    rw [List.getElem?_append_right (by rw [put_len]; exact Nat.le_refl _), put_len]; simp
  have hnd := hext.nd
  rw [hb, List.nodup_append, List.nodup_append] at hnd
  have hqout : ∀ x ∈ q, x ∉ p ++ r := fun x hx hx' => by
    rcases List.mem_append.1 hx' with h' | h'
    · exact hnd.2.2 x h' x (by simp [hx]) rfl
    · exact hnd.2.1.2.2 x hx x h' rfl
  have hqb : ∀ x ∈ q, x ∈ bs := fun x hx => by rw [hb]; simp [hx]
  have hle := Le_row (is := [i]) hinv hown
  have hmu' : (c.rowAt H.length [i]).μ H.length 0 = some i := by simp [Cx.rowAt]
  obtain ⟨bs1, hinv1, _⟩ := hinv.row hown (q := q) (is := [i]) (obs := [.arr es l false]) (fun x hx => ⟨hqout x hx, hext.dz x (hqb x hx), hext.bl x (hqb x hx), hext.fb x (hqb x hx)⟩)
    hnd.2.1.1 rfl ⟨q, [], by simp, ⟨i, hmu', harr.mono hle (fun _ _ => rfl)⟩, rfl⟩
  have hheap : (Heap.put (H ++ [[]]) 0 j .gone).set H.length [.arr es l false] = H.put 0 j .gone ++ [[.arr es l false]] := by
    rw [put_app ha, List.set_append_right _ _ (by rw [put_len]; exact Nat.le_refl _), put_len, Nat.sub_self]; rfl
  rw [hheap] at hinv1
  refine ⟨c.rowAt H.length [i], bs1, rfl, hinv1, ?_, hi.df, fun j i hj => hle.mu _ _ _ (hi.pin j i hj)⟩
  have key : ∀ (tm : List T) (vs : List Value), RVL c tm vs → RVL (c.rowAt H.length [i]) (tm.map (mvR j H.length)) vs := by
    intro tm
    induction tm with
    | nil => intro vs h; exact h
    | cons t tm ih =>
      rintro vs ⟨v, vs', rfl, h1, h2⟩
      refine ⟨v, vs', rfl, ?_, ih _ h2⟩
      have h1' := RV.mono hle t h1
      cases t with
      | ref e j' off len =>
        simp only [mvR]
        split
        · rename_i he
          obtain ⟨rfl, rfl⟩ := he
          obtain ⟨A, k, i', e1, e2, e3, e4⟩ := h1
          rw [hmu] at e3; cases e3
          exact ⟨A, k, i, e1, e2, hmu', e4⟩
        · exact h1'
      | _ => exact h1'
  exact key _ _ hi.tm

/-- a nil slice is an empty array of its own -/
theorem Norm.nil {tm : List T} {H : Heap} (t : Nat) {es : Nat} (ht : tm[t]? = some (.nils es)) :
    Norm ⟨tm, H⟩ ⟨tm.set t (.ref H.length 0 0 0), H ++ [[.arr es [] false]]⟩ := fun F c a bs hi => by
  let i : Info := { blk := 0, off := 0, es := es, cap := 0, arr0 := #[], ty := 0, fr := (0, 0) }
  have hext := hi.h.ext
  have hown : (H ++ [[]] : Heap)[H.length]? = some [] := by simp
  have hle := Le_row (is := [i]) hext hown
  have hmu' : (c.rowAt H.length [i]).μ H.length 0 = some i := by simp [Cx.rowAt]
  obtain ⟨bs1, hinv1, _⟩ := hext.row hown (q := []) (is := [i]) (obs := [.arr es [] false]) (fun x hx => by cases hx)
    List.nodup_nil rfl ⟨[], [], rfl, ⟨i, hmu', rfl, .inl rfl, Nat.le_refl _, .inl ⟨rfl, rfl⟩⟩, rfl⟩
  have hheap : (H ++ [[]] : Heap).set H.length [.arr es [] false] = H ++ [[.arr es [] false]] := by
    rw [List.set_append_right _ _ (Nat.le_refl _), Nat.sub_self]; rfl
  rw [hheap] at hinv1
  refine ⟨c.rowAt H.length [i], bs1, rfl, hinv1, ?_, hi.df, fun j i hj => hle.mu _ _ _ (hi.pin j i hj)⟩
  have h1 := RVL.mono hle _ hi.tm
  obtain ⟨v, hv, hr⟩ := RVL_get h1 ht
  obtain ⟨A, rfl⟩ := hr
  have h2 := RVL_set t h1 (t := .ref H.length 0 0 0) (v := .slice A 0 0) ⟨A, 0, i, rfl, Nat.le_refl _, hmu', rfl, .inl rfl⟩
  have e : a.tmps.toList.set t (.slice A 0 0) = a.tmps.toList := by
    obtain ⟨hlt, he⟩ := List.getElem?_eq_some_iff.1 hv
    rw [← he, List.set_getElem_self]
  rw [e] at h2
  exact h2

/-! ### what is no longer known -/
mutual
def fgt : T → T → Prop
  | .nd l, u => u = .nd l ∨ ∃ m, u = .nd m ∧ fgtL l m
  | .ref e j off len, u => u = .ref e j off len ∨ u = .any
  | .nils es, u => u = .nils es ∨ u = .any ∨ u = .ow es []
  | .sl g l, u => u = .sl g l ∨ u = .any
  | t, u => u = t
def fgtL : List T → List T → Prop
  | [], m => m = []
  | t :: l, m => ∃ u m', m = u :: m' ∧ fgt t u ∧ fgtL l m'
end
mutual
theorem fgt_rc {c : Cx} : ∀ (t : T) {u : T} {cs : List Value} {bs : List Nat}, fgt t u → RC c t cs bs → RC c u cs bs
  | .nd l, u, cs, bs, h, r => by
    rcases h with rfl | ⟨m, rfl, h⟩
    · exact r
    · simp only [RC] at r ⊢; exact fgtL_rc l h r
  | .ref e j off len, u, cs, bs, h, r => by
    rcases h with rfl | rfl
    · exact r
    · obtain ⟨e, A, k, i, rfl, _⟩ := r; exact ⟨e, _, rfl, rfl⟩
  | .nils es, u, cs, bs, h, r => by
    rcases h with rfl | rfl | rfl
    · exact r
    · obtain ⟨e, A, rfl⟩ := r; exact ⟨e, _, rfl, rfl⟩
    · obtain ⟨e, A, rfl⟩ := r; exact ⟨A, 0, rfl, .inl ⟨rfl, rfl, e⟩⟩
  | .sl g l, u, cs, bs, h, r => by
    rcases h with rfl | rfl
    · exact r
    · obtain ⟨e, A, k, rfl, _⟩ := r; exact ⟨e, _, rfl, rfl⟩
  | .int .., u, _, _, h, r | .bool _, u, _, _, h, r | .str _, u, _, _, h, r | .nilI, u, _, _, h, r | .nilP, u, _, _, h, r | .err, u, _, _, h, r | .any, u, _, _, h, r | .ow .., u, _, _, h, r | .vr .., u, _, _, h, r
  | .ptr .., u, _, _, h, r | .fp _, u, _, _, h, r | .io _, u, _, _, h, r | .fn .., u, _, _, h, r | .tup _, u, _, _, h, r | .undef, u, _, _, h, r | .opt .., u, _, _, h, r => by simp only [fgt] at h; subst h; exact r
theorem fgtL_rc {c : Cx} : ∀ (l : List T) {m : List T} {cs : List Value} {bs : List Nat}, fgtL l m → RCL c l cs bs → RCL c m cs bs
  | [], m, cs, bs, h, r => by simp only [fgtL] at h; subst h; exact r
  | t :: l, m, cs, bs, h, r => by
    obtain ⟨u, m', rfl, h1, h2⟩ := h
    obtain ⟨c1, c2, b1, b2, e1, e2, r1, r2⟩ := r
    exact ⟨c1, c2, b1, b2, e1, e2, fgt_rc t h1 r1, fgtL_rc l h2 r2⟩
end
theorem Norm.forget {tm : List T} {H : Heap} (e j : Nat) {t u : T} (ha : H.at e j = some (.var t)) (hf : fgt t u) : Norm ⟨tm, H⟩ ⟨tm, H.put e j (.var u)⟩ := fun F c a bs hi => by
  obtain ⟨p, q, r, hb, ho, hinv⟩ := HR.drop hi.h ha
  have hgone : (H.put e j .gone).at e j = some .gone := at_put (x := .gone) ha
  obtain ⟨i, hmu, cs, bs', arr, hq, hrc, hrest⟩ := ho
  have hnd := hi.h.nd
  rw [hb, List.nodup_append, List.nodup_append] at hnd
  obtain ⟨bs2, hfin⟩ := soak_back (q' := q) (ob := .var u) hi.h hb (.refl hinv) hgone ⟨i, hmu, cs, bs', arr, hq, fgt_rc t hf hrc, hrest⟩ (fun x hx => .inl hx) hnd.2.1.1
  rw [put_put] at hfin
  exact ⟨c, bs2, rfl, hfin, hi.tm, hi.df, hi.pin⟩
theorem takeB {α : Type} [Enc α] (l : List α) (n : Nat) : ∀ z ∈ (l.map (Enc.b : α → T)).take n, z.size = Enc.es α := fun z hz => by
  obtain ⟨x, _, rfl⟩ := List.mem_map.1 (List.mem_of_mem_take hz)
  exact Enc.szB x
/-- what is lent and holds nothing of its own is copied -/
theorem append_runB {α : Type} [Enc α] {Y : TypeId → TyI} {own t u e j off n el es by' : Nat} {k : Ty} {g : Tag} {f : List T} {l m : List α} {H : Heap} (h1 : Y t = ⟨.sl el, 1, 24⟩) (hu : Y u = ⟨.sl el, 1, 24⟩) (h2 : Y el = ⟨k, es, by'⟩) (h3 : k.isFn = false) (h4 : 0 < es ∧ 0 < by' ∧ by' ≤ 2 ^ 16)
    (hH : H.at e j = some (.arr es f false)) (hp : (f.drop off).take n = l.map Enc.o) (hn : off + n ≤ f.length) (hl : n + m.length ≤ 2 ^ 30) (hz : Enc.es α = es) (hbo : (Enc.b : α → T) = Enc.o) :
    (appendM Y own t u (.ref e j off n) (.sl g (m.map Enc.b))).run H = some { v := .ref own 0 0 (n + m.length), ups := [(e, j, .gone)], news := [.arr es ((l ++ m).map Enc.o) false] } := by
  have h := append_run (g := g) (ys := m.map Enc.b) (own := own) h1 hu h2 h3 h4 hH hn (by rw [List.length_map]; exact hl) (nwL_b m) (by rw [← hz]; exact takeB m 1)
  rw [h, hp, List.length_map, hbo, List.map_append]
theorem SW.draw2_seq {P : Program} {Y : TypeId → TyI} {ops : Array Oper} (hY : TysW P Y) (hm : P.follows .mixedOrders = true) {F : Fr} {Q : Exit → S → Prop} {s : S} {id : Nat} {y : Code} (ns : List Nat) (ck : List (Nat × Nat)) (hb : flow2B ops (msk ops) ns ck = true)
    (h : ∀ y', y' = y → vrec P Y ops (fun hs s' => Chk (rdqs Y ops s' hs ck) (SW P F Q y' s')) ns [] ops.toList s) : SW P F Q (.seq (.region id ops true) y) s := SW.seq (SW.draw2 hY hm ns ck hb (h y rfl))
end Go.Vm

namespace Go.Vm
set_option linter.defProp false
set_option maxRecDepth 10000
end Go.Vm
namespace Go.Vm
theorem vcall_x {P : Program} {f : FuncId} {ts : List T} {dst : Option Tmp} {K : S → Prop} {s : S} (ms : List Mode) {args outs : List T} {res : T} {as : List (Bool × T)} {backs : List Back} {H1 H2 : Heap}
    (hc : CallR P f args outs res)
    (h1 : pass1 ms ts (s.hp ++ [[]]) = some (as, backs, H1) := by (first | rfl | (simp [-List.map_set, -List.map_append, pass1, ioN, ioNL, hasIoL, T.hasIo, modeOf, giveS, giveSL, fixEs, Heap.at, Heap.put, T.cel, cloL, cloAL, T.cloA]; first | rfl | exact ⟨rfl, rfl, rfl⟩)))
    (h2 : (pass2 as).run H1 = some args := by (first | rfl | (simp [-List.map_set, -List.map_append, pass2, T.tg, tgL, upT, lendM, lendA, lendAL, elemsM, Heap.at, marks_len, marksG_len, subM, T.get, T.offs, RM.bind, RM.run]; done) | (simp [-List.map_set, -List.map_append, pass2, T.tg, tgL, upT, lendM, lendA, lendAL, elemsM, Heap.at, marks_len, marksG_len, subM, T.get, T.offs, RM.bind, RM.run]; rfl)))
    (hr : resClo res = true := by (first | rfl | simp [-List.map_set, -List.map_append, resClo, T.clo, cloL, T.clP, clPL]))
    (h3 : fillB backs outs H1 = some H2 := by (first | rfl | (simp [-List.map_set, -List.map_append, fillB, T.cloO, T.clo, cloL, T.asArr, T.tg, tgL, dnT, obOf, Heap.at, Heap.put]; try rfl)))
    (hK : K ({ s with hp := H2.set s.hp.length (thawA s.hp.length (res.tg dnT) 0).2 }.put dst (thawA s.hp.length (res.tg dnT) 0).1)) : vcallF P f ts dst K s :=
  vcall_to ms hc h1 h2 hr h3 hK
theorem RetQ.x {Y : TypeId → TyI} {rs : List ResultVar} {args outs : List T} {res : T} {s : S} (es : List Nat) (us : List T) {ts : List T} {H1 : Heap}
    (rn : (retM Y s rs).run s.hp = some ts := by rfl)
    (gv : pass1 (es.map modeOf ++ (ioKs args).map ioM) (ts ++ List.zipWith (ioT s.hp) (ioAt args 0) (ioKs args)) s.hp =
      some (us.map (fun u => (false, u)) ++ outs.map (fun u => (false, .io u)), (ioAt args 0).map (fun j => ⟨0, j⟩), H1) := by (first | rfl | (simp [-List.map_set, -List.map_append, pass1, modeOf, giveS, giveSL, Heap.at, Heap.put, fixEs, ioAt, ioAtT, ioKs, ioKT, ioM, ioT, thawA, thawAL, T.asArr, T.cel, T.clo, cloL, T.cloA, cloAL]; try rfl)))
    (le : us.length = ts.length := by rfl)
    (cu : clPL us = true := by (first | rfl | simp [-List.map_set, -List.map_append, cloL, T.clo, T.clP, clPL]))
    (co : cloOL outs = true := by (first | rfl | simp [-List.map_set, -List.map_append, cloOL, T.cloO, T.asArr, T.clo, cloL]))
    (re : res = tupOf us := by rfl) : RetQ Y rs args outs res .ret s := ⟨.inr rfl, ts, es, us, H1, rn, gv, le, cu, co, re⟩
end Go.Vm

namespace Go.Vm
/-! ### a tag that may be any but 'borrowed': 0 is shared for good, k + 1 is region k -/
def gOf : Nat → Tag
  | 0 => .s
  | k + 1 => .r k
def upk : Nat → Nat
  | 0 => 0
  | k + 1 => k + 2
theorem upT_g : ∀ k, upT (gOf k) = gOf (upk k)
  | 0 => rfl
  | _ + 1 => rfl
theorem dnT_g : ∀ k, dnT (gOf (upk k)) = gOf k
  | 0 => rfl
  | _ + 1 => rfl
theorem nb_g : ∀ k, (gOf k != .b) = true
  | 0 => rfl
  | _ + 1 => rfl
theorem upT_b : upT .b = .r 0 := rfl
theorem upT_s : upT .s = .s := rfl
theorem upT_r (k : Nat) : upT (.r k) = .r (k + 1) := rfl
theorem dnT_b : dnT .b = .b := rfl
theorem dnT_s : dnT .s = .s := rfl
theorem dnT_0 : dnT (.r 0) = .b := rfl
theorem dnT_r (k : Nat) : dnT (.r (k + 1)) = .r k := rfl
end Go.Vm

namespace Go.Vm

/-! ### freezing: what is one's own becomes shared for good -/
mutual
def frz : T → T
  | .nd l => .nd (frzL l)
  | .ow _ l => .sl .s (frzL l)
  | t => t
def frzL : List T → List T
  | [] => []
  | t :: l => frz t :: frzL l
end
theorem frzL_len : ∀ l : List T, (frzL l).length = l.length
  | [] => rfl
  | t :: l => by simp [frzL, frzL_len l]
theorem frzL_map : ∀ l : List T, frzL l = l.map frz
  | [] => rfl
  | t :: l => by simp [frzL, frzL_map l]
def Cx.frz (c : Cx) (q : List Nat) : Cx := { c with Z := fun b => c.Z b ∨ b ∈ q, Zs := fun b => c.Zs b ∨ b ∈ q }
theorem Le_frz (c : Cx) (q : List Nat) : c.Le (c.frz q) := ⟨fun _ h => .inl h, fun _ h => .inl h, fun _ _ => rfl, fun _ _ => rfl, fun _ _ _ h => h, fun _ _ h => h⟩
mutual
theorem frz_rc {c : Cx} {q : List Nat} : ∀ (t : T) {cs : List Value} {bs : List Nat}, RC c t cs bs → (∀ b ∈ bs, b ∈ q) → RC (c.frz q) (frz t) cs []
  | .nd l, cs, bs, r, hq => by simp only [RC, frz] at r ⊢; exact frzL_rc l r hq
  | .ow es l, cs, bs, r, hq => by
    obtain ⟨A, k, rfl, r⟩ := r
    refine ⟨rfl, A, k, by rw [frzL_len], ?_⟩
    rcases r with ⟨h1, h2, h3⟩ | ⟨a, rows, bs', h1, h2, h3, h4, h5, h6⟩
    · subst h2; exact ⟨Nat.zero_le _, .inl rfl⟩
    · refine ⟨by rw [frzL_len]; exact h5, .inr ⟨a, es, rows, h1, h2.1, h2.2.1, frzR_rc l h3 (fun b hb => hq b (by rw [h6]; simp [hb])), h4, .inr (hq _ (by rw [h6]; simp))⟩⟩
  | .int .., _, _, r, _ => ⟨r.1, rfl⟩
  | .bool _, _, _, r, _ => ⟨r.1, rfl⟩
  | .str _, _, _, r, _ => ⟨r.1, rfl⟩
  | .nilI, _, _, r, _ => ⟨r.1, rfl⟩
  | .nilP, _, _, r, _ => ⟨r.1, rfl⟩
  | .sl g l, cs, bs, r, _ => by have := RC.mono (Le_frz c q) (.sl g l) (bs := bs) (fun _ _ => rfl) r; exact ⟨rfl, this.2⟩
  | .nils es, cs, bs, r, _ => ⟨rfl, r.2⟩
  | .ref e j off len, cs, bs, r, _ => ⟨rfl, r.2⟩
  | .vr e j p o es off len, cs, bs, r, _ => ⟨rfl, r.2⟩
  | .ptr e j p o, cs, bs, r, _ => ⟨rfl, r.2⟩
  | .fp t, cs, bs, r, _ => by have := RC.mono (Le_frz c q) (.fp t) (bs := bs) (fun _ _ => rfl) r; exact ⟨rfl, this.2⟩
  | .fn f a b, cs, bs, r, _ => by have := RC.mono (Le_frz c q) (.fn f a b) (bs := bs) (fun _ _ => rfl) r; exact ⟨rfl, this.2⟩
  | .err, cs, bs, r, _ => ⟨rfl, r.2⟩
  | .any, cs, bs, r, _ => ⟨rfl, r.2⟩
  | .tup _, _, _, r, _ => by simp [RC] at r
  | .io _, _, _, r, _ => by simp [RC] at r
  | .undef, _, _, r, _ => by simp [RC] at r
  | .opt .., _, _, r, _ => by simp [RC] at r
theorem frzL_rc {c : Cx} {q : List Nat} : ∀ (l : List T) {cs : List Value} {bs : List Nat}, RCL c l cs bs → (∀ b ∈ bs, b ∈ q) → RCL (c.frz q) (frzL l) cs []
  | [], _, _, r, _ => ⟨r.1, rfl⟩
  | t :: l, _, _, r, hq => by
    obtain ⟨c1, c2, b1, b2, rfl, rfl, h1, h2⟩ := r
    exact ⟨c1, c2, [], [], rfl, rfl, frz_rc t h1 (fun b hb => hq b (by simp [hb])), frzL_rc l h2 (fun b hb => hq b (by simp [hb]))⟩
theorem frzR_rc {c : Cx} {q : List Nat} {es : Nat} : ∀ (l : List T) {cs : List Value} {bs : List Nat}, RRows c es l cs bs → (∀ b ∈ bs, b ∈ q) → RRows (c.frz q) es (frzL l) cs []
  | [], _, _, r, _ => ⟨r.1, rfl⟩
  | t :: l, _, _, r, hq => by
    obtain ⟨c1, c2, b1, b2, rfl, rfl, h0, h1, h2⟩ := r
    exact ⟨c1, c2, [], [], rfl, rfl, h0, frz_rc t h1 (fun b hb => hq b (by simp [hb])), frzR_rc l h2 (fun b hb => hq b (by simp [hb]))⟩
end
theorem InvH.frz {F : Fr} {c : Cx} {H : Heap} {bs p q r : List Nat} {e j : Nat} (h : InvH F c H bs) (hb : bs = p ++ (q ++ r)) (h' : InvH F c (H.put e j .gone) (p ++ r)) :
    InvH F (c.frz q) (H.put e j .gone) (p ++ r) := by
  have hnd := h.nd
  rw [hb, List.nodup_append, List.nodup_append] at hnd
  have hin : ∀ b ∈ q, b ∈ bs := fun b hq => by rw [hb]; simp [hq]
  refine ⟨h'.hp.mono (Le_frz c q) (fun _ _ => rfl), h'.nd, ?_, ?_, ?_, h'.bl, h'.mu, h'.fs, h'.ff, h'.fb, ?_, ?_, h'.kp, h'.rr⟩
  · rintro b hm (hz | hz)
    · exact h'.dz b hm hz
    · rcases List.mem_append.1 hm with hm | hm
      · exact hnd.2.2 b hm b (by simp [hz]) rfl
      · exact hnd.2.1.2.2 b hz b hm rfl
  · rintro b (hz | hz)
    · exact .inl (h.zz b hz)
    · exact .inr hz
  · rintro b (hz | hz)
    · exact h.zl b hz
    · exact h.bl b (hin b hz)
  · rintro b (hz | hz)
    · exact h.fz b hz
    · exact .inr (h.fb b (hin b hz))
  · rintro b (hz | hz)
    · rcases h.fZ b hz with h1 | h1
      · exact .inl h1
      · exact .inr (.inl h1)
    · exact .inr (.inr hz)
/-- an array of one's own is no longer written: the temp 'k' that refers to it holds a shared slice -/
theorem Norm.frz {tm : List T} {H : Heap} (k e j : Nat) {off len es : Nat} {l : List T} (ht : tm[k]? = some (.ref e j off len)) (ha : H.at e j = some (.arr es l false)) (hn : off + len ≤ l.length) :
    Norm ⟨tm, H⟩ ⟨tm.set k (.sl .s (frzL ((l.drop off).take len))), H.put e j .gone⟩ := fun F c a bs hi => by
  obtain ⟨p, q, r, hb, ho, hinv⟩ := HR.drop hi.h ha
  have hnew := hi.h.frz hb hinv
  refine ⟨c.frz q, p ++ r, rfl, hnew, ?_, hi.df, hi.pin⟩
  have h1 := RVL.mono (Le_frz c q) _ hi.tm
  obtain ⟨v, hv, hr⟩ := RVL_get hi.tm ht
  obtain ⟨A, kk, i, rfl, hk1, hmu, hk2, hA⟩ := hr
  obtain ⟨i', hmu', e1, e2, e3, ho⟩ := ho
  have : i' = i := by rw [hmu] at hmu'; exact (Option.some.inj hmu').symm
  subst this
  have hlen : (frzL ((l.drop off).take len)).length = len := by rw [frzL_len, List.length_take, List.length_drop]; omega
  have h2 := RVL_set k h1 (t := .sl .s (Go.Vm.frzL ((l.drop off).take len))) (v := .slice A len kk) (by
    refine ⟨A, kk, by rw [hlen], by rw [hlen]; exact hk1, ?_⟩
    rcases ho with ⟨h0, hq⟩ | ⟨rows, bs', hq, hrows, hcell, hoa⟩
    · exact .inl (List.length_eq_zero_iff.1 (by rw [hlen]; omega))
    · rcases hA with h0 | hA
      · exact .inl (List.length_eq_zero_iff.1 (by rw [hlen]; omega))
      · obtain ⟨x, y, z, p', q', r', rfl, hbs, hx, _, hy, _⟩ := RRows_window off len hrows (by omega)
        refine .inr ⟨_, es, y, hA, rfl, hoa.2.1, frzR_rc _ hy (fun b hb => by rw [hq, hbs]; simp [hb]), ?_, .inr (by rw [hq]; simp)⟩
        have := CellsAt.part (b := i'.blk) (o := i'.off) hcell
        rw [hx] at this; rw [e1]; exact this)
  have e : a.tmps.toList.set k (.slice A len kk) = a.tmps.toList := by
    obtain ⟨hlt, he⟩ := List.getElem?_eq_some_iff.1 hv
    rw [← he, List.set_getElem_self]
  rw [e] at h2
  exact h2
end Go.Vm

namespace Go.Vm
/-! ### a loop of few rounds, unrolled -/
def SWl (P : Program) (F : Fr) (Q : Exit → S → Prop) (k : Code) : Nat → S → Prop
  | 0, _ => False
  | n + 1, s => SW P F (thenS (SWl P F Q k n) Q) k s
theorem SWl.s {P : Program} {F : Fr} {Q : Exit → S → Prop} {k : Code} {n : Nat} {s : S} (h : SW P F (thenS (SWl P F Q k n) Q) k s) : SWl P F Q k (n + 1) s := h
theorem SWl.r {P : Program} {F : Fr} {Q : Exit → S → Prop} {k : Code} : ∀ (n : Nat) {s : S} {c : Cx} {a : Act} {bs : List Nat}, SWl P F Q k n s → Inv F c s a bs → Code.rounds P k (liftQ F Q) n a c.w
  | 0, _, _, _, _, h, _ => h.elim
  | n + 1, s, c, a, bs, h, hi => by
    rw [rounds_succ]
    refine wp_mono (h c a bs hi) fun e a w ⟨s, c, bs, e1, h1, h2⟩ => ?_
    subst e1
    cases e with
    | normal => exact SWl.r n h2 h1
    | _ => exact ⟨s, c, bs, rfl, h1, h2⟩
theorem SW.loopN {P : Program} {F : Fr} {Q : Exit → S → Prop} {k : Code} {s : S} (n : Nat) (h : SWl P F Q k n s) : SW P F Q (.loop k) s := fun c a bs hi => wp_loop_rounds n (SWl.r n h hi)
theorem wz0 : IntKind.i64.wrap 0 = 0 := rfl
theorem wz1 : IntKind.i64.wrap 1 = 1 := rfl
theorem wz2 : IntKind.i64.wrap 2 = 2 := rfl
theorem wz3 : IntKind.i64.wrap 3 = 3 := rfl
theorem wz4 : IntKind.i64.wrap 4 = 4 := rfl
theorem wz5 : IntKind.i64.wrap 5 = 5 := rfl
theorem wz6 : IntKind.i64.wrap 6 = 6 := rfl
theorem wz7 : IntKind.i64.wrap 7 = 7 := rfl
theorem wz8 : IntKind.i64.wrap 8 = 8 := rfl
theorem wa : IntKind.i64.wrap (0 + 1) = 1 ∧ IntKind.i64.wrap (1 + 1) = 2 ∧ IntKind.i64.wrap (2 + 1) = 3 ∧ IntKind.i64.wrap (3 + 1) = 4 ∧ IntKind.i64.wrap (4 + 1) = 5 ∧ IntKind.i64.wrap (5 + 1) = 6 ∧ IntKind.i64.wrap (6 + 1) = 7 ∧ IntKind.i64.wrap (7 + 1) = 8 ∧ IntKind.i64.wrap (8 + 1) = 9 := ⟨rfl, rfl, rfl, rfl, rfl, rfl, rfl, rfl, rfl⟩
theorem tn : Int.toNat 2 = 2 ∧ Int.toNat 3 = 3 ∧ Int.toNat 4 = 4 ∧ Int.toNat 5 = 5 ∧ Int.toNat 6 = 6 ∧ Int.toNat 7 = 7 ∧ Int.toNat 8 = 8 ∧ Int.toNat 9 = 9 := ⟨rfl, rfl, rfl, rfl, rfl, rfl, rfl, rfl⟩
theorem nc4 : ((4 : Nat) : Int) = 4 := rfl
theorem nc8 : ((8 : Nat) : Int) = 8 := rfl
end Go.Vm

namespace Go.Vm
set_option linter.defProp false
/-! ### a walk, kept once: what it is to use stands under these names in the context of a proof -/
theorem fx : ∀ n : Nat, n + 0 = n := Nat.add_zero
theorem fy : ∀ n : Nat, n + 0 = n := Nat.add_zero
theorem fz : ∀ n : Nat, n + 0 = n := Nat.add_zero
theorem tw {A : Prop} (a : A) (_t : True) : A := a
def wo := And.intro @st_int (And.intro @st_bool (And.intro @st_str (And.intro @st_nd (And.intro @st_sl (And.intro @st_nils (And.intro @st_ref (And.intro @st_vr (And.intro @st_ptr (And.intro @st_fp (And.intro @st_fn (And.intro @st_nilI (And.intro @st_nilP (And.intro @st_err (And.intro @st_any (And.intro @st_tup (And.intro @st_undef (And.intro @st_ow (And.intro @st_io (And.intro @st_opt (And.intro @mkOpt_t (And.intro @guardC_mk (And.intro @guardC_b (And.intro @guardC_f (And.intro @pick_bb (And.intro @pick_l (And.intro @pick_r (And.intro @ite_and (And.intro @ite_or (And.intro @tt1 (And.intro @tt2 (And.intro @tt3 (And.intro @tt4 (And.intro @tt5 (And.intro @stm_int (And.intro @stm_bool (And.intro @stm_str (And.intro @stm_nd (And.intro @stm_sl (And.intro @stm_nils (And.intro @stm_ref (And.intro @stm_vr (And.intro @stm_ptr (And.intro @stm_fp (And.intro @stm_fn (And.intro @stm_nilI (And.intro @stm_nilP (And.intro @stm_err (And.intro @stm_any (And.intro @stm_tup (And.intro @stm_undef (And.intro @stm_ow (And.intro @stm_io (And.intro @pick_fu (And.intro @pick_tu (And.intro @mkOpt_f (And.intro @pick_ul (@pick_ur)))))))))))))))))))))))))))))))))))))))))))))))))))))))))
/-- what a leaf of a walk knows -/
structure Wh (A B : Prop) : Prop where
  h : A → B
theorem hC1 : True := trivial
theorem hC2 : True := trivial
theorem hC3 : True := trivial
theorem hC4 : True := trivial
theorem hC5 : True := trivial
theorem hC6 : True := trivial
theorem hC7 : True := trivial
theorem hC8 : True := trivial
theorem hC9 : True := trivial
theorem hC10 : True := trivial
theorem hC11 : True := trivial
theorem hC12 : True := trivial
theorem hC13 : True := trivial
theorem hC14 : True := trivial
theorem hG1 : True := trivial
theorem hG2 : True := trivial
theorem hG3 : True := trivial
theorem hD1 : True := trivial
theorem hD2 : True := trivial
theorem hD3 : True := trivial
theorem hR : True := trivial
/-- a contract, with the modes in which a call passes its arguments -/
structure CtX (ms : List Mode) (P : Program) (f : FuncId) (args outs : List T) (res : T) : Prop where
  h : CallR P f args outs res
/-- which reading operations of a region that draws are looked at again -/
structure DrX (id : Nat) (ns : List Nat) (ck : List (Nat × Nat)) : Prop where
/-- what is returned -/
structure RtX (es : List Nat) (us : List T) : Prop where
theorem cx (ms : List Mode) {P : Program} {f : FuncId} {args outs : List T} {res : T} (h : CallR P f args outs res) : CtX ms P f args outs res := ⟨h⟩
theorem dx (id : Nat) (ns : List Nat) (ck : List (Nat × Nat)) : DrX id ns ck := ⟨⟩
theorem rx (es : List Nat) (us : List T) : RtX es us := ⟨⟩
theorem vcall_c {P : Program} {f : FuncId} {ts : List T} {dst : Option Tmp} {K : S → Prop} {s : S} {ms : List Mode} {args outs : List T} {res : T} {as : List (Bool × T)} {backs : List Back} {H1 H2 : Heap}
    (h : CtX ms P f args outs res) (h1 : pass1 ms ts (s.hp ++ [[]]) = some (as, backs, H1) := by (first | rfl | (simp [-List.map_set, -List.map_append, pass1, ioN, ioNL, hasIoL, T.hasIo, modeOf, giveS, giveSL, fixEs, Heap.at, Heap.put, T.cel, cloL, cloAL, T.cloA]; first | rfl | exact ⟨rfl, rfl, rfl⟩)))
    (h2 : (pass2 as).run H1 = some args := by (first | (simp only [pass2, lendM, lendA, lendAL, lendKL, lendAL_b, lendAL_o, lendAL_t, lendKL_b, lendKL_o, elemsM, Heap.at, List.getElem?_cons_zero, List.getElem?_cons_succ, List.cons_append, List.nil_append, T.tg, tgL, tgL_o, tgL_up0, tgL_up, tgL_byte, upT_g, upT_b, upT_s, upT_r, subM, T.get, T.offs, RM.bind, RM.run, List.map_cons, List.map_nil]; (try with_reducible rfl); done) | (simp [-List.map_set, -List.map_append, pass2, T.tg, tgL, upT_g, upT_b, upT_s, upT_r, lendM, lendA, lendAL, lendKL, elemsM, Heap.at, sizeL, T.size, marks_len, marksG_len, subM, T.get, T.offs, RM.bind, RM.run]; done) | (simp [-List.map_set, -List.map_append, pass2, T.tg, tgL, upT_g, upT_b, upT_s, upT_r, lendM, lendA, lendAL, lendKL, elemsM, Heap.at, sizeL, T.size, marks_len, marksG_len, subM, T.get, T.offs, RM.bind, RM.run]; rfl)))
    (h3 : resClo res = true := by (first | rfl | simp [-List.map_set, -List.map_append, resClo, T.clo, cloL, T.clP, clPL, nb_g]))
    (h4 : fillB backs outs H1 = some H2 := by (first | rfl | (simp [-List.map_set, -List.map_append, fillB, T.cloO, T.clo, cloL, T.asArr, T.tg, tgL, nb_g, dnT_g, dnT_b, dnT_s, dnT_0, dnT_r, obOf, Heap.at, Heap.put]; try rfl)))
    (hK : K ({ s with hp := H2.set s.hp.length (thawA s.hp.length (res.tg dnT) 0).2 }.put dst (thawA s.hp.length (res.tg dnT) 0).1)) : vcallF P f ts dst K s := vcall_to ms h.h h1 h2 h3 h4 hK
theorem RetQ.r {Y : TypeId → TyI} {rs : List ResultVar} {args outs : List T} {res : T} {s : S} {es : List Nat} {us : List T} (_h : RtX es us) {ts : List T} {H1 : Heap}
    (rn : (retM Y s rs).run s.hp = some ts := by rfl)
    (gv : pass1 (es.map modeOf ++ (ioKs args).map ioM) (ts ++ List.zipWith (ioT s.hp) (ioAt args 0) (ioKs args)) s.hp =
      some (us.map (fun u => (false, u)) ++ outs.map (fun u => (false, .io u)), (ioAt args 0).map (fun j => ⟨0, j⟩), H1) := by (first | rfl | (simp [-List.map_set, -List.map_append, pass1, modeOf, giveS, giveSL, Heap.at, Heap.put, fixEs, ioAt, ioAtT, ioKs, ioKT, ioM, ioT, thawA, thawAL, T.asArr, T.cel, T.clo, cloL, T.cloA, cloAL]; try rfl)))
    (le : us.length = ts.length := by rfl)
    (cu : clPL us = true := by (first | rfl | simp [-List.map_set, -List.map_append, cloL, T.clo, T.clP, clPL, nb_g]))
    (co : cloOL outs = true := by (first | rfl | simp [-List.map_set, -List.map_append, cloOL, T.cloO, T.asArr, T.clo, cloL, nb_g]))
    (re : res = tupOf us := by rfl) : RetQ Y rs args outs res .ret s := ⟨.inr rfl, ts, es, us, H1, rn, gv, le, cu, co, re⟩
theorem RetQ.y {Y : TypeId → TyI} {rs : List ResultVar} {args outs : List T} {res : T} {s : S} (es : List Nat) (us : List T) {ts : List T} {H1 : Heap}
    (rn : (retM Y s rs).run s.hp = some ts := by rfl)
    (gv : pass1 (es.map modeOf ++ (ioKs args).map ioM) (ts ++ List.zipWith (ioT s.hp) (ioAt args 0) (ioKs args)) s.hp =
      some (us.map (fun u => (false, u)) ++ outs.map (fun u => (false, .io u)), (ioAt args 0).map (fun j => ⟨0, j⟩), H1) := by (first | (simp [-List.map_set, -List.map_append, pass1, modeOf, giveS, giveSL, Heap.at, Heap.put, fixEs, ioAt, ioAtT, ioKs, ioKT, ioM, ioT, thawA, thawAL, T.asArr, T.cel, T.clo, cloL, T.cloA, cloAL]; done) | (simp [-List.map_set, -List.map_append, pass1, modeOf, giveS, giveSL, Heap.at, Heap.put, fixEs, ioAt, ioAtT, ioKs, ioKT, ioM, ioT, thawA, thawAL, T.asArr, T.cel, T.clo, cloL, T.cloA, cloAL]; rfl) | rfl))
    (le : us.length = ts.length := by rfl)
    (cu : clPL us = true := by (first | rfl | simp [-List.map_set, -List.map_append, cloL, T.clo, T.clP, clPL, nb_g]))
    (co : cloOL outs = true := by (first | rfl | simp [-List.map_set, -List.map_append, cloOL, T.cloO, T.asArr, T.clo, cloL, nb_g]))
    (re : res = tupOf us := by rfl) : RetQ Y rs args outs res .ret s := ⟨.inr rfl, ts, es, us, H1, rn, gv, le, cu, co, re⟩
/-! guarded calls that only look -/
def vpureF (P : Program) (f : FuncId) (ts : List T) (d : Option Tmp) (g : Bool) (K : S → Prop) (s : S) : Prop :=
  ∃ args res, leafT res = true ∧ (g = true → (pass2 (ts.map fun t => (true, t))).run (s.hp ++ [[]]) = some args ∧ CallR P f args [] res) ∧ K (({ s with hp := s.hp ++ [[]] } : S).put d (mkOpt g res))
def kPureQ (P : Program) (Y : TypeId → TyI) (ops : Array Oper) (K : S → Prop) (l : List Oper) (s : S) (d : Option Tmp) (g : Bool) : Option (FuncId × List T) → Prop
  | some x => vpureF P x.1 x.2 d g (vopl P Y ops K l) s
  | none => False
section
variable {P : Program} {Y : TypeId → TyI} {ops : Array Oper} {K : S → Prop} {l : List Oper} {s : S} {d : Option Tmp} {ty : TypeId} {pos : String} {aft : Array Edge}
theorem k8p {b : Bool} {G : Option (Nat × Bool)} {x : Operand} {as : Array Operand} {ats : Array TypeId} (h : kPureQ P Y ops K l s d b (callT (fun x => stripT b (s.ev x)) (.call { callee := .value x, args := as, argTypes := ats }))) :
    kGuard P Y ops K l s ⟨d, .call { callee := .value x, args := as, argTypes := ats }, ty, pos, aft, G⟩ false (some b) := by
  rw [k8]
  refine .inr ?_
  unfold vpure
  unfold kPureQ at h
  simp only
  split at h
  · rename_i y hy; rw [hy]; exact h
  · exact h.elim
theorem k13 {g : Bool} {f : FuncId} {ts : List T} : kPureQ P Y ops K l s d g (some (f, ts)) = vpureF P f ts d g (vopl P Y ops K l) s := rfl
theorem vpure_c {f : FuncId} {ts : List T} {g : Bool} {K : S → Prop} {ms : List Mode} {args : List T} {res : T} (h : CtX ms P f args [] res)
    (h1 : leafT res = true := by rfl)
    (h2 : g = true → (pass2 (ts.map fun t => (true, t))).run (s.hp ++ [[]]) = some args := by (intro _; first | (simp only [pass2, lendM, lendA, lendAL, lendKL, lendAL_b, lendAL_o, lendAL_t, lendKL_b, lendKL_o, elemsM, Heap.at, List.getElem?_cons_zero, List.getElem?_cons_succ, List.cons_append, List.nil_append, T.tg, tgL, tgL_o, tgL_up0, tgL_up, tgL_byte, upT_g, upT_b, upT_s, upT_r, subM, T.get, T.offs, RM.bind, RM.run, List.map_cons, List.map_nil]; (try with_reducible rfl); done) | (simp [-List.map_set, -List.map_append, pass2, T.tg, tgL, upT_g, upT_b, upT_s, upT_r, lendM, lendA, lendAL, lendKL, elemsM, Heap.at, sizeL, T.size, marks_len, marksG_len, subM, T.get, T.offs, RM.bind, RM.run]; done) | (simp [-List.map_set, -List.map_append, pass2, T.tg, tgL, upT_g, upT_b, upT_s, upT_r, lendM, lendA, lendAL, lendKL, elemsM, Heap.at, sizeL, T.size, marks_len, marksG_len, subM, T.get, T.offs, RM.bind, RM.run]; rfl)))
    (hK : K (({ s with hp := s.hp ++ [[]] } : S).put d (mkOpt g res))) : vpureF P f ts d g K s := ⟨args, res, h1, fun hg => ⟨h2 hg, h.h⟩, hK⟩
end
section
variable {P : Program} {Y : TypeId → TyI} {ops : Array Oper}
theorem SW.draw2x {id : Nat} {ns : List Nat} {ck : List (Nat × Nat)} (_h : DrX id ns ck) (hY : TysW P Y) (hm : P.follows .mixedOrders = true) {F : Fr} {Q : Exit → S → Prop} {s : S} (hb : flow2B ops (msk ops) ns ck = true)
    (h : vrec P Y ops (fun hs s' => Chk (rdqs Y ops s' hs ck) (Q .normal s')) ns [] ops.toList s) : SW P F Q (.region id ops true) s := SW.draw2 hY hm ns ck hb h
end
/-! an array of plain elements that is one's own is appended -/
theorem append_runR {α : Type} [Enc α] {Y : TypeId → TyI} {own t u e j off n e2 j2 el es by' : Nat} {k : Ty} {f : List T} {l m : List α} {H : Heap} (h1 : Y t = ⟨.sl el, 1, 24⟩) (hu : Y u = ⟨.sl el, 1, 24⟩) (h2 : Y el = ⟨k, es, by'⟩) (h3 : k.isFn = false) (h4 : 0 < es ∧ 0 < by' ∧ by' ≤ 2 ^ 16)
    (hH : H.at e j = some (.arr es f false)) (hH2 : H.at e2 j2 = some (.arr es (m.map Enc.o) false)) (hp : (f.drop off).take n = l.map Enc.o) (hn : off + n ≤ f.length) (hl : n + m.length ≤ 2 ^ 30) (hz : Enc.es α = es) (hbo : (Enc.b : α → T) = Enc.o) :
    (appendM Y own t u (.ref e j off n) (.ref e2 j2 0 m.length)).run H = some { v := .ref own 0 0 (n + m.length), ups := [(e, j, .gone)], news := [.arr es ((l ++ m).map Enc.o) false] } := by
  have hlen : (l.map (Enc.o : α → T)).length = n := by rw [← hp, List.length_take, List.length_drop]; omega
  simp only [appendM, h1, h2, hu, mayGrow, srcM, elemsM, RM.bind, RM.run, hH]
  rw [if_pos ⟨hn, trivial⟩]
  simp only [RM.bind, RM.run, hH2]
  rw [if_pos (by simp)]
  simp only [List.drop_zero, take_map_len, RM.bind, hp]
  rw [if_pos ⟨h4.1, h3, h4.2.1, h4.2.2, by rw [hlen]; simpa using hl, by rw [← hbo]; exact nwL_b m, by rw [← hbo, ← hz]; exact takeB m 1⟩]
  simp only [RM.run, kill, List.length_map, List.map_append]
  rw [List.length_map] at hlen
  rw [hlen]
end Go.Vm

namespace Go.Vm

/-! ### arrays of a fixed length, as lists: an element may be reached by an index that is not known -/
structure Arr (n : Nat) (α : Type) where
  l : List α
  h : l.length = n
section
variable {α : Type} [Enc α]
theorem sizeL_b : ∀ l : List α, sizeL (l.map Enc.b) = l.length * Enc.es α
  | [] => by simp [sizeL]
  | x :: l => by simp only [List.map_cons, sizeL, Enc.szB, sizeL_b l, List.length_cons, Nat.succ_mul]; omega
theorem sizeL_o : ∀ l : List α, sizeL (l.map Enc.o) = l.length * Enc.es α
  | [] => by simp [sizeL]
  | x :: l => by simp only [List.map_cons, sizeL, Enc.szO, sizeL_o l, List.length_cons, Nat.succ_mul]; omega
theorem nwLb : ∀ l : List α, nwL (l.map Enc.b) = true
  | [] => rfl
  | x :: l => by simp [nwL, nwLb l]
theorem szFold_neg : ∀ (l : List α) (x : Int), x < 0 → szFold l x < 0
  | [], x, h => h
  | a :: l, x, h => by
    unfold szFold
    rw [if_pos (Enc.szNeg a x h)]; decide
instance (n : Nat) : Enc (Arr n α) where
  b a := .nd (a.l.map Enc.b)
  o a := .nd (a.l.map Enc.o)
  es := n * Enc.es α
  lim N a := ∀ x ∈ a.l, Enc.lim N x
  flat := Enc.flat α
  sz a x := if Enc.flat α then x else szFold a.l x
  tyOk Y k t := match k with | 0 => false | k + 1 => match (Y t).k with | .ar m e => m == n && Enc.tyOk α Y k e | _ => false
  lendB k a := by simp [lendA, RM.bind]
  lendO k a := by simp [lendA, RM.bind]
  cloO a := by simp [T.clo]
  renB π a := by simp [T.ren]
  renO π a := by simp [T.ren]
  tgO τ a := by simp [T.tg]
  szB a := by simp [T.size, sizeL_b, a.h]
  szO a := by simp [T.size, sizeL_o, a.h]
  celB _ := rfl
  nwB a := by simp [T.nw, nwLb]
  ndO _ := rfl
  dec Y k t u h ht := by
    cases k with
    | zero => simp at h
    | succ k =>
      simp only at h
      split at h
      · rename_i m e hk
        simp only [Bool.and_eq_true, beq_iff_eq] at h
        obtain ⟨h1, h2⟩ := h
        unfold Typed at ht
        rw [hk] at ht
        obtain ⟨l, rfl, hl, he⟩ := ht
        have : ∃ l' : List α, l = l'.map Enc.b ∧ ∀ a ∈ l', Enc.lim maxLen a := by
          clear hl
          induction l with
          | nil => exact ⟨[], rfl, by simp⟩
          | cons x l ih =>
            obtain ⟨a, rfl, ha⟩ := Enc.dec Y k e x h2 (he x (by simp))
            obtain ⟨l', rfl, hl'⟩ := ih fun y hy => he y (by simp [hy])
            exact ⟨a :: l', rfl, by simpa using ⟨ha, hl'⟩⟩
        obtain ⟨l', rfl, hl'⟩ := this
        exact ⟨⟨l', by rw [List.length_map] at hl; omega⟩, rfl, hl'⟩
      · cases h
  flatLim h n a := fun x _ => Enc.flatLim h n x
  flatSz h a x := by simp [h]
  szLe a x h := by
    split
    · exact Int.le_refl _
    · exact szFold_le a.l x h
  szNeg a x h := by
    split
    · exact h
    · exact szFold_neg a.l x h
  szLim a x h hx := by
    split at h
    · rename_i hf; exact fun y _ => Enc.flatLim hf _ y
    · by_cases h0 : 0 ≤ x
      · exact szFold_lim a.l x h h0 hx
      · have := szFold_neg a.l x (by omega); omega
  limUp N m a hN h := fun x hx => Enc.limUp N m x hN (h x hx)
theorem arr_get {n : Nat} (a : Arr n α) (i : Nat) (h : i < n) : (a.l.map (Enc.b : α → T))[i]? = some (Enc.b (a.l[i]'(by rw [a.h]; exact h))) := map_get Enc.b a.l i (by rw [a.h]; exact h)
end
/-! what is lent hands nothing over -/
theorem bind_pure {α β : Type} {m : RM α} {f : α → RM β} {v : β} (h : m.bind f = .pure v) : ∃ u, m = .pure u ∧ f u = .pure v := by
  cases m with
  | pure a => exact ⟨a, rfl, h⟩
  | fail => cases h
  | get e j k => cases h
structure Lnt (t : T) : Prop where
  th : ∀ e j, thawA e t j = (t, [])
  sz : ioSz t = []
  at_ : ∀ j, ioAtT t j = []
  ks : ioKT t = []
structure LntL (l : List T) : Prop where
  th : ∀ e j, thawAL e l j = (l, [])
  sz : ioSizes l = []
  at_ : ∀ j, ioAt l j = []
  ks : ioKs l = []
mutual
theorem lnt {k : T → RM T} : ∀ (t : T), lendA k t = .pure t → Lnt t
  | .int .., _ => ⟨fun _ _ => rfl, rfl, fun _ => rfl, rfl⟩
  | .bool _, _ => ⟨fun _ _ => rfl, rfl, fun _ => rfl, rfl⟩
  | .str _, _ => ⟨fun _ _ => rfl, rfl, fun _ => rfl, rfl⟩
  | .nilI, _ => ⟨fun _ _ => rfl, rfl, fun _ => rfl, rfl⟩
  | .nilP, _ => ⟨fun _ _ => rfl, rfl, fun _ => rfl, rfl⟩
  | .err, _ => ⟨fun _ _ => rfl, rfl, fun _ => rfl, rfl⟩
  | .any, _ => ⟨fun _ _ => rfl, rfl, fun _ => rfl, rfl⟩
  | .nils _, h => by simp only [lendA] at h; cases h
  | .sl .., _ => ⟨fun _ _ => rfl, rfl, fun _ => rfl, rfl⟩
  | .ow es l, h => by
    obtain ⟨u, _, h2⟩ := bind_pure (by simpa only [lendA] using h); cases h2
  | .nd l, h => by
    obtain ⟨u, h1, h2⟩ := bind_pure (by simpa only [lendA] using h)
    cases h2
    obtain ⟨a, b, c, d⟩ := lntL l h1
    exact ⟨fun e j => by simp only [thawA, a], b, c, d⟩
  | .fp t, h => by
    obtain ⟨u, h1, h2⟩ := bind_pure (by simpa only [lendA] using h)
    refine ⟨fun e j => ?_, rfl, fun _ => rfl, rfl⟩
    cases t <;> first | rfl | (simp only [lendA] at h1; cases h1)
  | .fn .., _ => ⟨fun _ _ => rfl, rfl, fun _ => rfl, rfl⟩
  | .ref e j o n, h => by
    obtain ⟨u, _, h2⟩ := bind_pure (by simpa only [lendA] using h)
    obtain ⟨v, _, h3⟩ := bind_pure h2
    cases h3
  | .vr .., _ => ⟨fun _ _ => rfl, rfl, fun _ => rfl, rfl⟩
  | .ptr .., _ => ⟨fun _ _ => rfl, rfl, fun _ => rfl, rfl⟩
  | .io _, h => by simp only [lendA] at h; cases h
  | .tup _, h => by simp only [lendA] at h; cases h
  | .undef, h => by simp only [lendA] at h; cases h
  | .opt .., h => by simp only [lendA] at h; cases h
theorem lntL {k : T → RM T} : ∀ (l : List T), lendAL k l = .pure l → LntL l
  | [], _ => ⟨fun _ _ => rfl, rfl, fun _ => rfl, rfl⟩
  | t :: l, h => by
    obtain ⟨u, h1, h2⟩ := bind_pure (by simpa only [lendAL] using h)
    obtain ⟨w, h3, h4⟩ := bind_pure h2
    cases h4
    obtain ⟨a, b, c, d⟩ := lnt t h1
    obtain ⟨a', b', c', d'⟩ := lntL l h3
    exact ⟨fun e j => by simp only [thawAL, a, a', List.append_nil], by simp only [ioSizes, b, b', List.append_nil], fun j => by simp only [ioAt, c, c', List.append_nil], by simp only [ioKs, d, d', List.append_nil]⟩
end
section
variable {α : Type} [Enc α]
theorem lntb (l : List α) : LntL (l.map (Enc.b : α → T)) := lntL (k := fun _ => .fail) _ (lendAL_b _ l)
@[simp] theorem thawAL_b (l : List α) (e j : Nat) : thawAL e (l.map (Enc.b : α → T)) j = (l.map Enc.b, []) := (lntb l).th e j
@[simp] theorem ioSizes_b (l : List α) : ioSizes (l.map (Enc.b : α → T)) = [] := (lntb l).sz
@[simp] theorem ioAt_b (l : List α) (j : Nat) : ioAt (l.map (Enc.b : α → T)) j = [] := (lntb l).at_ j
@[simp] theorem ioKs_b (l : List α) : ioKs (l.map (Enc.b : α → T)) = [] := (lntb l).ks
end
theorem Arr.ext {n : Nat} {α : Type} : ∀ {a b : Arr n α}, a.l = b.l → a = b
  | ⟨_, _⟩, ⟨_, _⟩, h => by cases h; rfl
instance {n : Nat} {α : Type} [DecidableEq α] : DecidableEq (Arr n α) := fun a b => if h : a.l = b.l then .isTrue (Arr.ext h) else .isFalse fun e => h (by rw [e])
end Go.Vm

namespace Go.Vm

/-! ### a part of a variable, by a path: it opens by itself, and soaks up what it refers to by itself -/
def T.subAt : T → List Nat → Option T
  | t, [] => some t
  | .nd l, i :: p => match l[i]? with | some x => x.subAt p | none => none
  | _, _ :: _ => none
def T.setAt : T → List Nat → T → T
  | _, [], u => u
  | .nd l, i :: p, u => match l[i]? with | some x => .nd (l.set i (x.setAt p u)) | none => .nd l
  | t, _ :: _, _ => t
theorem RCL_open {c : Cx} : ∀ {l : List T} {cs : List Value} {bs : List Nat} {i : Nat} {t : T}, RCL c l cs bs → l[i]? = some t →
    ∃ ct b1 b2 b3, bs = b1 ++ (b2 ++ b3) ∧ RC c t ct b2 ∧ ∀ (c' : Cx) (u : T) (b2' : List Nat), c.Le c' → (∀ b : Nat, c'.w.heap[b]? = c.w.heap[b]?) → RC c' u ct b2' → RCL c' (l.set i u) cs (b1 ++ (b2' ++ b3))
  | [], _, _, _, _, _, h => by simp at h
  | x :: l, _, _, 0, t, ⟨c1, c2, b1, b2, rfl, rfl, h1, h2⟩, h => by
    simp at h; subst h
    exact ⟨c1, [], b1, b2, rfl, h1, fun c' u b2' hle hag hu => ⟨c1, c2, b2', b2, rfl, by simp, hu, h2.mono hle l (fun b _ => hag b)⟩⟩
  | x :: l, _, _, i + 1, t, ⟨c1, c2, b1, b2, rfl, rfl, h1, h2⟩, h => by
    obtain ⟨ct, d1, d2, d3, rfl, hr, hs⟩ := RCL_open h2 (by simpa using h)
    exact ⟨ct, b1 ++ d1, d2, d3, by simp, hr, fun c' u b2' hle hag hu => ⟨c1, c2, b1, d1 ++ (b2' ++ d3), rfl, by simp, h1.mono hle x (fun b _ => hag b), hs c' u b2' hle hag hu⟩⟩
theorem RC_open {c : Cx} : ∀ (p : List Nat) {t u : T} {cs : List Value} {bs : List Nat}, t.subAt p = some u → RC c t cs bs →
    ∃ cu b1 b2 b3, bs = b1 ++ (b2 ++ b3) ∧ RC c u cu b2 ∧ ∀ (c' : Cx) (w : T) (b2' : List Nat), c.Le c' → (∀ b : Nat, c'.w.heap[b]? = c.w.heap[b]?) → RC c' w cu b2' → RC c' (t.setAt p w) cs (b1 ++ (b2' ++ b3))
  | [], t, u, cs, bs, h, r => by
    have e : t = u := by unfold T.subAt at h; exact Option.some.inj h
    subst e
    refine ⟨cs, [], bs, [], by simp, r, fun c' w b2' _ _ hw => ?_⟩
    rw [T.setAt]; simpa using hw
  | i :: p, t, u, cs, bs, h, r => by
    cases t with
    | nd l =>
      rw [T.subAt] at h
      cases hx : l[i]? with
      | none => rw [hx] at h; cases h
      | some x =>
        rw [hx] at h
        obtain ⟨cx, b1, b2, b3, rfl, hr, hs⟩ := RCL_open (by simpa only [RC] using r) hx
        obtain ⟨cu, d1, d2, d3, rfl, hr2, hs2⟩ := RC_open p h hr
        refine ⟨cu, b1 ++ d1, d2, d3 ++ b3, by simp, hr2, fun c' w b2' hle hag hw => ?_⟩
        have := hs c' _ _ hle hag (hs2 c' w b2' hle hag hw)
        rw [T.setAt, hx]
        simp only [RC]
        simpa using this
    | _ => simp [T.subAt] at h
theorem Norm.expelAt {tm : List T} {H : Heap} (e j : Nat) (pth : List Nat) {s t : T} (ha : H.at e j = some (.var s)) (hk : s.subAt pth = some t) :
    Norm ⟨tm, H⟩ ⟨tm, H.put e j (.var (s.setAt pth (thawA H.length t 0).1)) ++ [(thawA H.length t 0).2]⟩ := fun F c a bs hi => by
  have hext := hi.h.ext
  obtain ⟨p, q, r, hb, ho, hinv⟩ := HR.drop hext (at_app ha [])
  obtain ⟨i, hmu, cs, bs', arr, hq, hrows, hh, hsz, hfree, hle0, h1, h2⟩ := ho
  obtain ⟨ct, b1, b2, b3, hbs, hrc, hset⟩ := RC_open pth hk hrows
  obtain ⟨is, hl, hth⟩ := thaw_rc (own := H.length) t (j := 0) hrc
  have hown : (Heap.put (H ++ [[]]) e j .gone)[H.length]? = some [] := by
    rw [put_app ha]
    rw [List.getElem?_append_right (by rw [put_len]; exact Nat.le_refl _), put_len]; simp
  have hnd := hi.h.nd
  rw [hb, List.nodup_append, List.nodup_append] at hnd
  have hqn := hnd.2.1.1
  rw [hq, List.nodup_cons] at hqn
  have hbn := hqn.2
  rw [hbs, List.nodup_append, List.nodup_append] at hbn
  have hin : ∀ x, x ∈ b1 ∨ x ∈ b2 ∨ x ∈ b3 → x ∈ q := fun x hx => by rw [hq, hbs]; simp [hx]
  have hqout : ∀ x ∈ q, x ∉ p ++ r := fun x hx hx' => by
    rcases List.mem_append.1 hx' with h' | h'
    · exact hnd.2.2 x h' x (by simp [hx]) rfl
    · exact hnd.2.1.2.2 x hx x h' rfl
  have hqb : ∀ x ∈ q, x ∈ bs := fun x hx => by rw [hb]; simp [hx]
  have hle := Le_row (is := is) hinv hown
  obtain ⟨g1, g2⟩ := hth _ hle (fun _ _ => rfl) (fun k i hk => by simp [Cx.rowAt, hk])
  obtain ⟨bs1, hinv1, hm1⟩ := hinv.row hown (q := b2) (is := is) (obs := (thawA H.length t 0).2) (fun x hx => ⟨hqout x (hin x (.inr (.inl hx))), hext.dz x (hqb x (hin x (.inr (.inl hx)))), hext.bl x (hqb x (hin x (.inr (.inl hx)))), hext.fb x (hqb x (hin x (.inr (.inl hx))))⟩)
    hbn.2.1.1 hl g2
  have hat : Heap.at ((Heap.put (H ++ [[]]) e j .gone).set H.length (thawA H.length t 0).2) e j = some .gone := by
    have h1 := at_put (x := .gone) ha
    rw [put_app ha, List.set_append_right _ _ (by rw [put_len]; exact Nat.le_refl _), put_len, Nat.sub_self]
    exact at_app h1 _
  have hmu' : (c.rowAt H.length is).μ e j = some i := by
    have : e ≠ H.length := fun he => by
      subst he
      unfold Heap.at at ha
      rw [List.getElem?_eq_none (Nat.le_refl _)] at ha; cases ha
    simp [Cx.rowAt, this, hmu]
  obtain ⟨bs2, hfin⟩ := InvH.fillOb (q := i.blk :: (b1 ++ ([] ++ b3))) (ob := .var (s.setAt pth (thawA H.length t 0).1)) hinv1 hat
    ⟨i, hmu', cs, _, arr, rfl, hset _ _ _ hle (fun _ => rfl) g1, hh, hsz, hfree, hle0, h1, h2⟩
    (fun x hx => by
      have hxq : x ∈ q := by
        simp only [List.nil_append, List.mem_cons, List.mem_append] at hx
        rcases hx with rfl | hx | hx
        · rw [hq]; simp
        · exact hin x (.inl hx)
        · exact hin x (.inr (.inr hx))
      refine ⟨fun hb1 => ?_, hext.dz x (hqb x hxq), hext.bl x (hqb x hxq), hext.fb x (hqb x hxq)⟩
      rcases hm1 x hb1 with h' | h'
      · exact hqout x hxq h'
      · simp only [List.nil_append, List.mem_cons, List.mem_append] at hx
        rcases hx with rfl | hx | hx
        · exact hqn.1 (by rw [hbs]; simp [h'])
        · exact hbn.2.2 x hx x (by simp [h']) rfl
        · exact hbn.2.1.2.2 x h' x hx rfl) (by
      refine List.nodup_cons.2 ⟨fun hx => hqn.1 ?_, ?_⟩
      · simp only [List.nil_append, List.mem_append] at hx
        rw [hbs]; rcases hx with hx | hx <;> simp [hx]
      · simp only [List.nil_append]
        rw [List.nodup_append]
        exact ⟨hbn.1, hbn.2.1.2.1, fun a ha b hb => hbn.2.2 a ha b (by simp [hb])⟩)
  have hheap : Heap.put ((Heap.put (H ++ [[]]) e j .gone).set H.length (thawA H.length t 0).2) e j (.var (s.setAt pth (thawA H.length t 0).1)) = H.put e j (.var (s.setAt pth (thawA H.length t 0).1)) ++ [(thawA H.length t 0).2] := by
    rw [put_app ha, List.set_append_right _ _ (by rw [put_len]; exact Nat.le_refl _), put_len, Nat.sub_self]
    simp only [List.set_cons_zero]
    rw [put_app (at_put (x := .gone) ha), put_put]
  rw [hheap] at hfin
  refine ⟨c.rowAt H.length is, bs2, rfl, hfin, RVL.mono hle _ hi.tm, hi.df, fun j i hj => hle.mu _ _ _ (hi.pin j i hj)⟩
theorem Norm.soakAt {tm : List T} {H : Heap} (e j : Nat) (pth : List Nat) {s t : T} (ha : H.at e j = some (.var s)) (hk : s.subAt pth = some t) :
    Norm ⟨tm, H⟩ ⟨tm, (soakS t (H.put e j .gone)).2.put e j (.var (s.setAt pth (soakS t (H.put e j .gone)).1))⟩ := fun F c a bs hi => by
  obtain ⟨p, q, r, hb, ho, hinv⟩ := HR.drop hi.h ha
  obtain ⟨i, hmu, cs, bs', arr, hq, hrows, hh, hsz, hfree, hle0, h1, h2⟩ := ho
  obtain ⟨ct, b1, b2, b3, hbs, hrc, hset⟩ := RC_open pth hk hrows
  obtain ⟨bu, bs1, hg, bx, hr, hm, hn⟩ := soak_rc t hinv hrc
  have hgone := soak_gone (e := e) (j := j) t (at_put (x := .gone) ha)
  have hnd := hi.h.nd
  rw [hb, List.nodup_append, List.nodup_append] at hnd
  have hqn := hnd.2.1.1
  rw [hq, List.nodup_cons] at hqn
  have hnotin : ∀ x ∈ q, x ∉ p ++ r := fun x hx hx' => by
    rcases List.mem_append.1 hx' with h' | h'
    · exact hnd.2.2 x h' x (by simp [hx]) rfl
    · exact hnd.2.1.2.2 x hx x h' rfl
  have hbn := hqn.2
  rw [hbs, List.nodup_append, List.nodup_append] at hbn
  have hin : ∀ x, x ∈ b1 ∨ x ∈ b2 ∨ x ∈ b3 → x ∈ q := fun x hx => by rw [hq, hbs]; simp [hx]
  have hbxn := hn hbn.2.1.1 fun x hx => hnotin x (hin x (.inr (.inl hx)))
  have hblk0 : i.blk ∉ bx := fun hx => by
    rcases (hm _).1 hx with h' | h'
    · exact hqn.1 (by rw [hbs]; simp [h'])
    · exact hnotin i.blk (by rw [hq]; simp) (hg.sub _ h').1
  have hbu : ∀ x, x ∈ b1 ∨ x ∈ b3 → x ∉ bx := fun x hx hx' => by
    rcases (hm _).1 hx' with h' | h'
    · rcases hx with hx | hx
      · exact hbn.2.2 x hx x (by simp [h']) rfl
      · exact hbn.2.1.2.2 x h' x hx rfl
    · exact hnotin x (hin x (hx.imp id .inr)) (hg.sub _ h').1
  obtain ⟨bs2, hfin⟩ := soak_back (q' := i.blk :: (b1 ++ (bx ++ b3))) (ob := .var (s.setAt pth (soakS t (H.put e j .gone)).1)) hi.h hb hg hgone
    ⟨i, hmu, cs, _, arr, rfl, hset _ _ _ (.refl c) (fun _ => rfl) hr, hh, hsz, hfree, hle0, h1, h2⟩
    (fun x hx => by
      simp only [List.mem_cons, List.mem_append] at hx
      rcases hx with rfl | hx | hx | hx
      · left; rw [hq]; simp
      · exact .inl (hin x (.inl hx))
      · rcases (hm x).1 hx with h' | h'
        · exact .inl (hin x (.inr (.inl h')))
        · exact .inr h'
      · exact .inl (hin x (.inr (.inr hx)))) (by
      refine List.nodup_cons.2 ⟨fun hx => ?_, ?_⟩
      · simp only [List.mem_append] at hx
        rcases hx with hx | hx | hx
        · exact hqn.1 (by rw [hbs]; simp [hx])
        · exact hblk0 hx
        · exact hqn.1 (by rw [hbs]; simp [hx])
      · rw [List.nodup_append, List.nodup_append]
        refine ⟨hbn.1, ⟨hbxn, hbn.2.1.2.1, fun a ha b hb e => ?_⟩, fun a ha b hb e => ?_⟩
        · subst e; exact hbu a (.inr hb) ha
        · subst e
          rcases List.mem_append.1 hb with hb | hb
          · exact hbu a (.inl ha) hb
          · exact hbn.2.2 a ha a (by simp [hb]) rfl)
  exact ⟨c, bs2, rfl, hfin, hi.tm, hi.df, hi.pin⟩
end Go.Vm
