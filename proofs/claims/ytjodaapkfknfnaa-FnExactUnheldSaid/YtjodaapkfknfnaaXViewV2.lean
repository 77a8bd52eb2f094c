/- Shows what the parts of the program do that the claim reaches: a machine of values over the model, and the contracts of functions, for all arguments within the lengths that each theorem names. -/
import Derived.Test.YtjodaapkfknfnaaXViewV1
import Derived.Laws.BytesString
import Derived.Laws.BytesArg
set_option linter.all false

namespace Go.Vm

/-! ### an object goes; another one takes its blocks -/
theorem HR.drop {F : Fr} {c : Cx} {H : Heap} {bs : List Nat} {e j : Nat} {ob : Ob} (h : InvH F c H bs) (ha : H.at e j = some ob) :
    ∃ p q r, bs = p ++ (q ++ r) ∧ HOb c e j ob q ∧ InvH F c (H.put e j .gone) (p ++ r) := by
  obtain ⟨p, q, r, rfl, ho, hput⟩ := h.hp.at ha
  refine ⟨p, q, r, rfl, ho, ?_⟩
  have hsub : List.Sublist (p ++ r) (p ++ (q ++ r)) := List.Sublist.append (List.Sublist.refl _) (by simp)
  have hlt : ∃ l, H[e]? = some l ∧ j < l.length := by
    unfold Heap.at at ha
    cases hl : H[e]? with
    | none => simp [hl] at ha
    | some l => simp only [hl] at ha; exact ⟨l, rfl, (List.getElem?_eq_some_iff.1 ha).1⟩
  obtain ⟨l, hl, hj⟩ := hlt
  constructor
  · have := hput c .gone [] (.refl c) (fun _ _ => rfl) (fun _ _ => rfl) rfl
    simpa using this
  · exact h.nd.sublist hsub
  · exact fun b hb => h.dz b (hsub.subset hb)
  · exact h.zz
  · exact h.zl
  · exact fun b hb => h.bl b (hsub.subset hb)
  · intro e' j' i hi
    obtain ⟨ob', ho'⟩ := h.mu e' j' i hi
    unfold Heap.at Heap.put at *
    simp only [hl]
    by_cases he : e = e'
    · subst he
      simp only [hl] at ho'
      simp only [List.getElem?_set_self (List.getElem?_eq_some_iff.1 hl).1]
      by_cases hjj : j = j'
      · subst hjj; exact ⟨.gone, List.getElem?_set_self hj⟩
      · exact ⟨ob', by rw [List.getElem?_set_ne hjj]; exact ho'⟩
    · simp only [List.getElem?_set_ne he]; exact ⟨ob', ho'⟩
  · exact h.fs
  · exact h.ff
  · exact fun b hb => h.fb b (hsub.subset hb)
  · exact h.fz
  · exact h.fZ
  · exact h.kp
  · exact h.rr

theorem Le_newQ {F : Fr} {c : Cx} {H : Heap} {bs q : List Nat} {w' : World} {own : Nat} {i : Info} (h : InvH F c H bs) (hown : H[own]? = some [])
    (hq : ∀ x ∈ q, ¬ c.Z x) (hw : ∀ k, k < c.w.heap.size → k ∉ q → w'.heap[k]? = c.w.heap[k]?) : c.Le (c.newAt w' own i) where
  z _ h := h
  zs _ h := h
  hz k hk := hw k (h.zl k hk) (fun hx => hq k hx hk)
  hs k hk := hw k (h.zl k (h.zz k hk)) (fun hx => hq k hx (h.zz k hk))
  mu e j x hx := by
    simp only [Cx.newAt]
    split
    · rename_i he
      obtain ⟨rfl, rfl⟩ := he
      obtain ⟨ob, ho⟩ := h.mu _ _ _ hx
      simp [Heap.at, hown] at ho
    · exact hx
  r _ _ h := h

theorem InvH.newQ {F : Fr} {c : Cx} {H : Heap} {bs q : List Nat} {w' : World} {own : Nat} {i : Info} {ob : Ob} (h : InvH F c H bs) (hown : H[own]? = some [])
    (hq : ∀ x ∈ q, x ∉ bs ∧ ¬ c.Z x ∧ x < w'.heap.size ∧ (F.own x ∨ F.w.heap.size ≤ x)) (hnq : q.Nodup)
    (hs : c.w.heap.size ≤ w'.heap.size) (hw : ∀ k, k < c.w.heap.size → k ∉ q → w'.heap[k]? = c.w.heap[k]?)
    (hkp : Keep c.w w') (ho : HOb (c.newAt w' own i) own 0 ob q) : ∃ bs', InvH F (c.newAt w' own i) (H.set own [ob]) bs' := by
  have hle := Le_newQ (i := i) h hown (fun x hx => (hq x hx).2.1) hw
  obtain ⟨p, q0, r, rfl, hr0, hset⟩ := HR.row h.hp hown
  simp only [HRow] at hr0; subst hr0
  have hlt : own < H.length := (List.getElem?_eq_some_iff.1 hown).1
  have hold : ∀ x ∈ p ++ ([] ++ r), x < c.w.heap.size ∧ x ∉ q := fun x hx => ⟨h.bl x hx, fun hq' => (hq x hq').1 hx⟩
  refine ⟨p ++ (q ++ r), ?_⟩
  constructor
  · have := hset (c.newAt w' own i) [ob] q hle (fun b hb => hw b (hold b (by simp [hb])).1 (hold b (by simp [hb])).2) (fun b hb => hw b (hold b (by simp [hb])).1 (hold b (by simp [hb])).2)
      ⟨q, [], by simp, by simpa using ho, rfl⟩
    simpa using this
  · have hn := h.nd
    simp only [List.nil_append] at hn
    rw [List.nodup_append] at hn
    rw [List.nodup_append, List.nodup_append]
    refine ⟨hn.1, ⟨hnq, hn.2.1, fun a ha b hb e => ?_⟩, fun a ha b hb e => ?_⟩
    · subst e; exact (hold a (by simp [hb])).2 ha
    · rcases List.mem_append.1 hb with hb | hb
      · subst e; exact (hold a (by simp [ha])).2 hb
      · exact hn.2.2 a ha b hb e
  · intro b hb hz
    simp only [List.mem_append] at hb
    rcases hb with hb | hb | hb
    · exact h.dz b (by simp [hb]) hz
    · exact (hq b hb).2.1 hz
    · exact h.dz b (by simp [hb]) hz
  · exact h.zz
  · intro b hb; have := h.zl b hb; show b < w'.heap.size; omega
  · intro b hb
    show b < w'.heap.size
    simp only [List.mem_append] at hb
    rcases hb with hb | hb | hb
    · have := (hold b (by simp [hb])).1; omega
    · exact (hq b hb).2.2.1
    · have := (hold b (by simp [hb])).1; omega
  · intro e j x hx
    simp only [Cx.newAt] at hx
    split at hx
    · rename_i he
      obtain ⟨rfl, rfl⟩ := he
      exact ⟨ob, by simp [Heap.at, List.getElem?_set_self hlt]⟩
    · obtain ⟨ob', ho'⟩ := h.mu _ _ _ hx
      unfold Heap.at at *
      by_cases he : own = e
      · subst he; simp [hown] at ho'
      · rw [List.getElem?_set_ne he]; exact ⟨ob', ho'⟩
  · show F.w.heap.size ≤ w'.heap.size
    have := h.fs; omega
  · intro b hb hn
    show w'.heap[b]? = _
    have hbq : b ∉ q := fun hx => by
      rcases (hq b hx).2.2.2 with h' | h'
      · exact hn h'
      · omega
    rw [hw b (by have := h.fs; omega) hbq]
    exact h.ff b hb hn
  · intro b hb
    simp only [List.mem_append] at hb
    rcases hb with hb | hb | hb
    · exact h.fb b (by simp [hb])
    · exact (hq b hb).2.2.2
    · exact h.fb b (by simp [hb])
  · exact h.fz
  · exact h.fZ
  · exact h.kp.trans hkp
  · exact h.rr

theorem Free00 (n : Nat) : Free n (0, 0) := ⟨Nat.le_refl _, fun i _ hk => by simp only at hk; omega⟩

theorem growBy_le (n : Nat) : ∀ (r c : Nat), c ≤ 2 * n + 192 → c < n ∨ c ≤ 2 * n + 192 → Builtin.growBy n r c ≤ 2 * n + 192
  | 0, c, h, _ => h
  | r + 1, c, h, _ => by
    simp only [Builtin.growBy]
    split
    · exact h
    · exact growBy_le n r _ (by omega) (.inr (by omega))
theorem nextslicecap_le {n k : Nat} (h : k < n) : Builtin.nextslicecap n k ≤ 2 * n + 192 := by
  unfold Builtin.nextslicecap
  split
  · omega
  · split
    · omega
    · exact growBy_le n 4 k (by omega) (.inl h)

theorem nwL_mem : ∀ {l : List T}, nwL l = true → ∀ t ∈ l, t.nw = true
  | [], _, t, ht => by simp at ht
  | u :: l, h, t, ht => by
    simp only [nwL, Bool.and_eq_true] at h
    rcases List.mem_cons.1 ht with rfl | ht
    · exact h.1
    · exact nwL_mem h.2 t ht
theorem RRows_nw {c : Cx} {es : Nat} : ∀ {l : List T} {cs : List Value} {bs : List Nat}, nwL l = true → RRows c es l cs bs → bs = []
  | [], _, _, _, h => h.2
  | t :: l, _, _, hn, h => by
    simp only [nwL, Bool.and_eq_true] at hn
    obtain ⟨c1, c2, b1, b2, rfl, rfl, _, h1, h2⟩ := h
    rw [RC_nw t hn.1 h1, RRows_nw hn.2 h2]; rfl

theorem byteT_rows (c : Cx) : ∀ (l : List UInt8), RRows c 1 (l.map byteT) (l.map fun b => .int .u8 b.toNat) []
  | [] => ⟨rfl, rfl⟩
  | b :: l => ⟨[.int .u8 b.toNat], l.map fun b => .int .u8 b.toNat, [], [], rfl, rfl, rfl, ⟨rfl, rfl⟩, byteT_rows c l⟩

theorem run_firstCells {P : Program} {w : World} {a : Addr} {es n m : Nat} {cs : List Value} {k : Nat} (hc : CellsAt w a cs) (ha : a.spot = none) (hl : cs.length = n * es) :
    (Builtin.firstCells es n (.slice (some a) m k)).run P w = .ok cs.toArray w := by
  have := run_loadCells_list (P := P) w a cs (fun j v hj => hc.cell ha j v hj)
  rw [hl] at this
  exact this
end Go.Vm

namespace Go.Vm

/-- the source of an append -/
def SrcAt (w : World) (ys : List Value) (n es : Nat) (v : Value) : Prop :=
  (∃ A k, v = .slice A n k ∧ (n = 0 ∨ ∃ a, A = some a ∧ a.spot = none ∧ CellsAt w a ys)) ∨ (∃ s : ByteArray, v = .string s ∧ s.size = n ∧ es = 1 ∧ ys = s.data.toList.map fun b => .int .u8 b.toNat)

theorem SrcAt.len {P : Program} {w : World} {ys : List Value} {n es : Nat} {v : Value} (h : SrcAt w ys n es v) : (Builtin.lenOf v).run P w = .ok n w := by
  rcases h with ⟨A, k, rfl, _⟩ | ⟨s, rfl, rfl, _⟩ <;> rfl

theorem SrcAt.first {P : Program} {w : World} {ys : List Value} {n es : Nat} {v : Value} (h : SrcAt w ys n es v) (hl : ys.length = n * es) : (Builtin.firstCells es n v).run P w = .ok ys.toArray w := by
  rcases h with ⟨A, k, rfl, h⟩ | ⟨s, rfl, rfl, rfl, rfl⟩
  · rcases h with rfl | ⟨a, rfl, ha, hc⟩
    · have : ys = [] := List.length_eq_zero_iff.1 (by simpa using hl)
      subst this
      cases A with
      | none => rfl
      | some a => simp [Builtin.firstCells, loadCells, loadCellsFrom]
    · exact run_firstCells hc ha hl
  · have : s.extract 0 s.size = s := by simp
    simp only [Builtin.firstCells, this, Sem.run_pure]
    congr 1
    apply Array.ext'
    simp

section
variable {P : Program} {Y : TypeId → TyI} (hY : TysOk P Y)

include hY in
/-- append: in place -/
theorem run_append_in {w : World} {t u res : TypeId} {e : TypeId} {A : Option Addr} {len cap n : Nat} {ys : List Value} {v : Value} (ht : 0 < (Y t).cells) (hu : 0 < (Y u).cells) (he : 0 < (Y e).cells)
    (hk : (Y t).k = .sl e) (hku : (Y u).k = .str ∨ ∃ e', (Y u).k = .sl e') (hs : SrcAt w ys n (Y e).cells v) (hl : ys.length = n * (Y e).cells) (hfit : len + n ≤ cap)
    {r : Result Unit} (hr : match A with | some a => (storeCells (a.add (len * (Y e).cells)) ys).run P w = r | none => r = .ok () w) :
    (Builtin.append_ #[t, u] res #[.slice A len cap, v]).run P w = match r with | .ok _ w' => .ok (.slice A (len + n) cap) w' | .halt x w' => .halt x w' := by
  obtain ⟨d, hd, htm, _⟩ := (hY t ht).run_under w
  obtain ⟨du, hdu, htmu, _⟩ := (hY u hu).run_under w
  rw [hk] at htm; simp only [TyM] at htm; subst htm
  have hz : (du matches .int _) = false := by
    rcases hku with hku | ⟨e', hku⟩ <;> rw [hku] at htmu <;> simp only [TyM] at htmu <;> subst htmu <;> rfl
  simp only [Builtin.append_, List.getElem?_toArray, List.getElem?_cons_zero, List.getElem?_cons_succ, Sem.run_bind, hd, Result.andThen_ok, (hY e he).run_size, hdu, Sem.run_pure]
  rcases hku with hku | ⟨e', hku⟩ <;> rw [hku] at htmu <;> simp only [TyM] at htmu <;> subst htmu
  all_goals
    simp only [Bool.false_eq_true, if_false, Sem.run_bind, hs.len, Result.andThen_ok, if_pos hfit, Bool.not_false, if_true, hs.first hl]
    cases A with
    | none => subst hr; rfl
    | some a =>
      simp only at hr
      simp only [Sem.run_bind, hr]
      cases r <;> rfl

include hY in
/-- append: a new array -/
theorem run_append_new {w : World} {t u res : TypeId} {e : TypeId} {A : Option Addr} {len cap n : Nat} {xs ys : List Value} {v z : Value} (ht : 0 < (Y t).cells) (hu : 0 < (Y u).cells) (he : 0 < (Y e).cells)
    (hk : (Y t).k = .sl e) (hku : (Y u).k = .str ∨ ∃ e', (Y u).k = .sl e') (hs : SrcAt w ys n (Y e).cells v) (hl : ys.length = n * (Y e).cells) (hfit : cap < len + n)
    (hx : ∀ w' : World, w'.heap = w.heap → (Builtin.firstCells (Y e).cells len (.slice A len cap)).run P w' = .ok xs.toArray w') (hz : ∀ w, (zeroValue e).run P w = .ok z w)
    (hb : (2 * (len + n) + 192) * (Y e).bytes ≤ 2 ^ 48) (hn : len + n < 2 ^ 62) (hby : 0 < (Y e).bytes) : ∃ nc, len + n ≤ nc ∧
    (Builtin.append_ #[t, u] res #[.slice A len cap, v]).run P w =
      .ok (.slice (some ⟨w.heap.size, 0, none⟩) (len + n) nc) (w.drew.alloc (.cells (xs.toArray ++ ys.toArray ++ Builtin.zeroCells z.cells (nc - (len + n))) e)) := by
  obtain ⟨d, hd, htm, _⟩ := (hY t ht).run_under w
  obtain ⟨du, hdu, htmu, _⟩ := (hY u hu).run_under w
  rw [hk] at htm; simp only [TyM] at htm; subst htm
  obtain ⟨i, d', hi, _, hsz, hbytes, _⟩ := (hY e he).ex
  have hti : ∀ w, (typeInfo e).run P w = .ok i w := fun w => by simp [typeInfo, hi]
  have hnc : ¬ (Builtin.nextslicecap (len + n) cap * i.bytes > 2 ^ 48) := by
    have h1 := nextslicecap_le hfit
    have h2 : Builtin.nextslicecap (len + n) cap * i.bytes ≤ (2 * (len + n) + 192) * i.bytes := Nat.mul_le_mul_right _ h1
    rw [hbytes] at h2 ⊢; omega
  let q := Question.appendCap (len + n) cap e
  refine ⟨q.cut (w.tape w.drawn q), by simp only [q, Question.cut]; omega, ?_⟩
  have hmax : ¬ (((len + n : Nat) : Int) > IntKind.i64.max) := by
    have : IntKind.i64.max = 9223372036854775807 := by rfl
    rw [this]; omega
  have hs' : SrcAt w.drew ys n (Y e).cells v := by
    rcases hs with ⟨A, k, rfl, h⟩ | h
    · exact .inl ⟨A, k, rfl, h⟩
    · exact .inr h
  have hx' := hx w.drew rfl
  simp only [Builtin.append_, List.getElem?_toArray, List.getElem?_cons_zero, List.getElem?_cons_succ, Sem.run_bind, hd, Result.andThen_ok, (hY e he).run_size, hdu, Sem.run_pure]
  rcases hku with hku | ⟨e', hku⟩ <;> rw [hku] at htmu <;> simp only [TyM] at htmu <;> subst htmu
  all_goals
    simp only [Bool.false_eq_true, if_false, Sem.run_bind, hs.len, Result.andThen_ok, if_neg (Nat.not_le.2 hfit), Bool.not_false, if_true, hti]
    rw [if_neg (by intro h; exact hmax h.1)]
    simp only [Sem.run_bind, hti, Result.andThen_ok]
    rw [if_neg hnc]
    simp only [Sem.run_bind, run_choose, Question.forced, Bool.false_eq_true, if_false, Result.andThen_ok, hti, run_askRoom]
    have e1 : ({ w with drawn := w.drawn + 1 } : World) = w.drew := rfl
    simp only [e1, hx', hs'.first hl, Result.andThen_ok, hz, run_newRow]
    rfl
end

theorem src_ok {F : Fr} {c : Cx} {H : Heap} {bs : List Nat} {es : Nat} {k : Ty} {t : T} {v : Value} {ys : List T} (h : InvH F c H bs) (hv : RV c t v) (hm : (srcM es k t).run H = some ys)
    (hn : nwL ys = true) (hz : ∀ z ∈ ys.take 1, z.size = es) : ∃ rows, SrcAt c.w rows ys.length es v ∧ RRows c es ys rows [] ∧ (k = .str ∨ ∃ e', k = .sl e') := by
  unfold srcM at hm
  split at hm
  · rename_i s
    split at hm
    case isFalse => simp [RM.run] at hm
    rename_i h1
    simp [RM.run] at hm; subst hm
    simp only [RV] at hv; subst hv
    subst h1
    exact ⟨_, .inr ⟨s, rfl, by simp, rfl, rfl⟩, byteT_rows c _, .inl rfl⟩
  · rename_i e'
    obtain ⟨A, k, rfl, _, hr⟩ := elems_ok h hv hm
    rcases hr with rfl | ⟨a, es', rows, b, rfl, ha, hes, hrow, hc, _⟩
    · exact ⟨[], .inl ⟨A, k, rfl, .inl rfl⟩, ⟨rfl, rfl⟩, .inr ⟨e', rfl⟩⟩
    · have hb : b = [] := RRows_nw hn hrow
      subst hb
      cases ys with
      | nil => exact ⟨[], .inl ⟨_, k, rfl, .inl rfl⟩, ⟨rfl, rfl⟩, .inr ⟨e', rfl⟩⟩
      | cons u ys =>
        have he : es' = es := by
          obtain ⟨c1, c2, b1, b2, rfl, hbb, h1, h2, _⟩ := hrow
          rw [← h1, RC_len _ h2]; exact hz u (by simp)
        subst he
        exact ⟨rows, .inl ⟨_, k, rfl, .inr ⟨a, rfl, ha, hc⟩⟩, hrow, .inr ⟨e', rfl⟩⟩
  · simp [RM.run] at hm

/-- what grows: its elements in memory, and the state behind its object -/
theorem grow_ok {F : Fr} {c : Cx} {H : Heap} {bs : List Nat} {es own : Nat} {t : T} {v : Value} {xs : List T} (h : InvH F c H bs) (hv : RV c t v) (hes : 0 < es) (hown : H[own]? = some []) (hm : (mayGrow es t).run H = some xs) :
    ∃ A k bs1, v = .slice A xs.length k ∧ xs.length ≤ k ∧ InvH F c (H.ups (kill t)) bs1 ∧ (H.ups (kill t))[own]? = some [] ∧
      (k = 0 ∨ ∃ a rows q, A = some a ∧ OwnArr c.w a es k ∧ RRows c es xs rows q ∧ CellsAt c.w a rows ∧ (a.block :: q).Nodup ∧
        ∀ b ∈ a.block :: q, b ∉ bs1 ∧ ¬ c.Z b ∧ b < c.w.heap.size ∧ (F.own b ∨ F.w.heap.size ≤ b)) := by
  cases t with
  | nils =>
    simp [mayGrow, RM.run] at hm; subst hm
    obtain ⟨A, rfl⟩ := hv
    exact ⟨A, 0, bs, rfl, Nat.le_refl _, h, hown, .inl rfl⟩
  | ref e j off len =>
    simp only [mayGrow, RM.run] at hm
    cases ha : H.at e j with
    | none => simp [ha] at hm
    | some ob =>
      simp only [ha] at hm
      cases ob with
      | arr es' l fz =>
        cases fz with
        | true => simp [RM.run] at hm
        | false =>
          simp only at hm
          split at hm
          case isFalse => simp [RM.run] at hm
          rename_i hc
          obtain ⟨hfit, rfl⟩ := hc
          simp [RM.run] at hm
          have hlen : xs.length = len := by rw [← hm]; simp; omega
          obtain ⟨A, k, i, rfl, hlk, hi, hcap, hA⟩ := hv
          obtain ⟨p, q, r, rfl, ho, hinv⟩ := HR.drop h ha
          have hown' : (H.put e j .gone)[own]? = some [] := by
            unfold Heap.put
            have hne : e ≠ own := fun he => by
              subst he; simp [Heap.at, hown] at ha
            cases hl : H[e]? with
            | none => simpa using hown
            | some l => simp only [List.getElem?_set_ne hne]; exact hown
          refine ⟨A, k, p ++ r, by rw [hlen], by omega, hinv, hown', ?_⟩
          by_cases hk0 : k = 0
          · exact .inl hk0
          · right
            obtain ⟨i', hi', hies, _, hll, hr⟩ := ho
            rw [hi] at hi'; cases hi'
            rcases hr with ⟨h0, _⟩ | ⟨rows, bq, rfl, hrow, hcell, hoa⟩
            · omega
            · have hA : A = some ⟨i.blk, i.off + off * i.es, none⟩ := by
                rcases hA with h0 | hA
                · exact absurd h0 hk0
                · exact hA
              subst hA
              obtain ⟨x, y, z, b1, b2, b3, rfl, rfl, hx, _, hry, _⟩ := RRows_window off len hrow (by omega)
              rw [hm] at hry
              have hnd := h.nd
              have hmid := nodup_mid hnd
              refine ⟨_, y, b2, rfl, ?_, hry, ?_, ?_, ?_⟩
              · obtain ⟨_, hp, arr, ty, fr, hh, hsz, hf⟩ := hoa
                refine ⟨rfl, hp, arr, ty, fr, hh, ?_, hf⟩
                simp only [Info.addr] at hsz ⊢
                rw [hies]
                have : i.cap * es' = off * es' + k * es' := by rw [← hcap, Nat.add_mul]
                omega
              · have := CellsAt.part (b := i.blk) (o := i.off) hcell
                rw [hx] at this; rwa [hies]
              · refine hmid.sublist (List.Sublist.cons_cons _ ?_)
                exact List.Sublist.trans (by simp) (List.sublist_append_right _ _)
              · intro b hb
                have hbm : b ∈ i.blk :: (b1 ++ (b2 ++ b3)) := by
                  rcases List.mem_cons.1 hb with rfl | hb
                  · simp
                  · simp [hb]
                have hbs : b ∈ p ++ (i.blk :: (b1 ++ (b2 ++ b3)) ++ r) := by
                  simp only [List.mem_append]; exact .inr (.inl hbm)
                refine ⟨fun hx => ?_, h.dz b hbs, h.bl b hbs, h.fb b hbs⟩
                rw [List.nodup_append, List.nodup_append] at hnd
                rcases List.mem_append.1 hx with hx | hx
                · exact hnd.2.2 b hx b (List.mem_append.2 (.inl hbm)) rfl
                · exact hnd.2.1.2.2 b hbm b hx rfl
      | var _ => simp [RM.run] at hm
      | gone => simp [RM.run] at hm
  | _ => simp [mayGrow, RM.run] at hm
end Go.Vm

namespace Go.Vm

theorem CellsAt.app {w : World} {a : Addr} {arr : Array Value} {ty : TypeId} {fr : Nat × Nat} {x y : List Value} (hh : w.heap[a.block]? = some (.cells arr ty fr))
    (h1 : ∀ i v, x[i]? = some v → arr[a.off + i]? = some v) (h2 : ∀ i v, y[i]? = some v → arr[a.off + x.length + i]? = some v) : CellsAt w a (x ++ y) := by
  refine ⟨arr, ty, fr, hh, fun i v hv => ?_⟩
  rcases Nat.lt_or_ge i x.length with h | h
  · rw [List.getElem?_append_left h] at hv; exact h1 i v hv
  · rw [List.getElem?_append_right h] at hv
    have := h2 (i - x.length) v hv
    rwa [show a.off + x.length + (i - x.length) = a.off + i by omega] at this

section
variable {P : Program} {Y : TypeId → TyI} (hY : TysOk P Y)

include hY in
theorem append_ok {F : Fr} {c : Cx} {H : Heap} {bs : List Nat} {own : Nat} {t u res : TypeId} {x y : T} {v z : Value} {out : Out} (h : InvH F c H bs) (hv : RV c x v) (hz : RV c y z)
    (hown : H[own]? = some []) (ht : 0 < (Y t).cells) (hu : 0 < (Y u).cells) (hm : (appendM Y own t u x y).run H = some out) :
    Done F c ((H.ups out.ups).set own out.news) out.v ((Builtin.append_ #[t, u] res #[v, z]).run P c.w) := by
  unfold appendM at hm
  split at hm
  case h_2 => simp [RM.run] at hm
  rename_i e hk
  simp only [RM.run_bind] at hm
  cases hx : (mayGrow (Y e).cells x).run H with
  | none => simp [hx] at hm
  | some xs =>
    simp only [hx] at hm
    cases hy : (srcM (Y e).cells (Y u).k y).run H with
    | none => simp [hy] at hm
    | some ys =>
      simp only [hy] at hm
      split at hm
      case isFalse => simp [RM.run] at hm
      rename_i hc
      obtain ⟨he, hf, hby0, hby, hbig, hnw, hsz⟩ := hc
      simp [RM.run] at hm; subst hm
      obtain ⟨rowsy, hsrc, hrowy, hku⟩ := src_ok h hz hy hnw hsz
      obtain ⟨A, k, bs1, rfl, hlk, hinv, hown1, hcase⟩ := grow_ok h hv he hown hx
      have hly := RRows_len _ hrowy
      obtain ⟨zv, hzv, hzr, hzs⟩ := zero_rc hY he hf
      simp only
      by_cases hfit : xs.length + ys.length ≤ k
      · -- in place
        rcases hcase with rfl | ⟨a, rows, q, rfl, hoa, hrow, hcell, hnd, hq⟩
        · have hx0 : xs = [] := List.length_eq_zero_iff.1 (by omega)
          have hy0 : ys = [] := List.length_eq_zero_iff.1 (by omega)
          subst hx0; subst hy0
          have hrowy0 : rowsy = [] := List.length_eq_zero_iff.1 (by simpa using hly)
          subst hrowy0
          have hrun := run_append_in (res := res) (w := c.w) (A := A) (len := 0) (cap := 0) (n := 0) hY ht hu he hk hku (by simpa using hsrc) (by simp) (by omega) (r := .ok () c.w) (by cases A <;> rfl)
          simp only [List.length_nil] at hrun ⊢
          rw [hrun]
          let i : Info := { blk := 0, off := 0, es := (Y e).cells, cap := 0, arr0 := #[], ty := 0, fr := (0, 0) }
          obtain ⟨bs', hi⟩ := InvH.newQ (i := i) (q := []) (w' := c.w) (ob := .arr (Y e).cells [] false) hinv hown1 (by simp) (by simp) (Nat.le_refl _) (fun _ _ _ => rfl) (.refl _)
            ⟨i, by simp [Cx.newAt], rfl, .inr he, by simp [i], .inl ⟨rfl, rfl⟩⟩
          exact ⟨_, c.newAt c.w own i, bs', rfl, Le_newQ (q := []) hinv hown1 (by simp) (fun _ _ _ => rfl), by simpa using hi, ⟨A, 0, i, rfl, Nat.le_refl _, by simp [Cx.newAt], by simp [i], .inl rfl⟩⟩
        · obtain ⟨hsp, hp, arr, ty, fr, hh, hcap, hfree⟩ := hoa
          obtain ⟨ab, ao, as⟩ := a
          simp only at hsp; subst hsp
          simp only at hh hcap
          have hlx := RRows_len _ hrow
          have hmul : (xs.length + ys.length) * (Y e).cells ≤ k * (Y e).cells := Nat.mul_le_mul_right _ hfit
          rw [Nat.add_mul] at hmul
          obtain ⟨w', hrun, hw1, hbut⟩ := run_storeCells (P := P) rowsy c.w arr (ao + xs.length * (Y e).cells) 0 hh hfree (by omega) (RRows_one _ hrowy)
          have hrun' := run_append_in (res := res) (w := c.w) (A := some ⟨ab, ao, none⟩) (len := xs.length) (cap := k) (n := ys.length) hY ht hu he hk hku hsrc hly hfit (r := .ok () w') (by
            simp only [Addr_add]; exact hrun)
          rw [hrun']
          let i : Info := { blk := ab, off := ao, es := (Y e).cells, cap := k, arr0 := #[], ty := 0, fr := (0, 0) }
          have hold : ∀ j, j < c.w.heap.size → j ∉ (ab :: q) → w'.heap[j]? = c.w.heap[j]? := fun j _ hj => hbut.oth j (fun e => hj (by simp [e]))
          have hle := Le_newQ (i := i) (q := ab :: q) hinv hown1 (fun b hb => (hq b hb).2.1) hold
          have hagq : ∀ b ∈ q, w'.heap[b]? = c.w.heap[b]? := fun b hb => hbut.oth b (fun e => by subst e; exact (List.nodup_cons.1 hnd).1 hb)
          obtain ⟨bs', hi⟩ := InvH.newQ (i := i) (q := ab :: q) (w' := w') (ob := .arr (Y e).cells (xs ++ ys) false) hinv hown1
            (fun b hb => ⟨(hq b hb).1, (hq b hb).2.1, by rw [hbut.size]; exact (hq b hb).2.2.1, (hq b hb).2.2.2⟩) hnd (by rw [hbut.size]; exact Nat.le_refl _) hold hbut.kp (by
            refine ⟨i, by simp [Cx.newAt], rfl, .inr he, by simp [i]; omega, .inr ⟨rows ++ rowsy, q ++ [], by simp [i], ?_, ?_, ?_⟩⟩
            · exact RRows_append (hrow.mono hle _ _ hagq) (hrowy.mono hle _ _ (by simp))
            · obtain ⟨arr', ty', fr', hh', hin⟩ := hcell
              simp only at hh'
              rw [hh] at hh'; cases hh'
              refine CellsAt.app (a := i.addr) hw1 (fun j v hv => ?_) (fun j v hv => ?_)
              · have hjl : j < rows.length := (List.getElem?_eq_some_iff.1 hv).1
                rw [spl_out _ _ _ _ (by simp only [Info.addr, i]; omega)]
                exact hin j v hv
              · have := spl_in rowsy arr (ao + xs.length * (Y e).cells + 0) j v (by omega) hv
                simp only [Info.addr, i, hlx]
                simpa using this
            · exact ⟨rfl, he, _, _, _, hw1, by simp only [Info.addr, i, spl_size]; exact hcap, by rw [spl_size]; exact hfree⟩)
          exact ⟨_, c.newAt w' own i, bs', rfl, hle, hi, ⟨_, k, i, rfl, hfit, by simp [Cx.newAt], by simp [i], .inr (by simp [i])⟩⟩
      · -- a new array
        have hfit' : k < xs.length + ys.length := Nat.lt_of_not_le hfit
        have hold : ∃ rows q, RRows c (Y e).cells xs rows q ∧ q.Nodup ∧ (∀ b ∈ q, b ∉ bs1 ∧ ¬ c.Z b ∧ b < c.w.heap.size ∧ (F.own b ∨ F.w.heap.size ≤ b)) ∧
            ∀ w' : World, w'.heap = c.w.heap → (Builtin.firstCells (Y e).cells xs.length (.slice A xs.length k)).run P w' = .ok rows.toArray w' := by
          rcases hcase with rfl | ⟨a, rows, q, rfl, hoa, hrow, hcell, hnd, hq⟩
          · have hx0 : xs = [] := List.length_eq_zero_iff.1 (by omega)
            subst hx0
            refine ⟨[], [], ⟨rfl, rfl⟩, by simp, by simp, fun w' _ => ?_⟩
            cases A with
            | none => rfl
            | some a => simp [Builtin.firstCells, loadCells, loadCellsFrom]
          · refine ⟨rows, q, hrow, (List.nodup_cons.1 hnd).2, fun b hb => hq b (by simp [hb]), fun w' hw' => ?_⟩
            refine run_firstCells (hcell.agree (by rw [hw'])) hoa.1 (RRows_len _ hrow)
        obtain ⟨rows, q, hrow, hnq, hq, hfirst⟩ := hold
        have hmulb : (2 * (xs.length + ys.length) + 192) * (Y e).bytes ≤ 2 ^ 48 := by
          have h1 : 2 * (xs.length + ys.length) + 192 ≤ 2 ^ 32 := by omega
          calc (2 * (xs.length + ys.length) + 192) * (Y e).bytes ≤ 2 ^ 32 * 2 ^ 16 := Nat.mul_le_mul h1 hby
            _ = 2 ^ 48 := by decide
        obtain ⟨nc, hnc, hrun⟩ := run_append_new (res := res) (w := c.w) hY ht hu he hk hku hsrc hly hfit' hfirst (fun w => hzv w) hmulb (by omega) hby0
        rw [hrun]
        let cells : Array Value := rows.toArray ++ rowsy.toArray ++ Builtin.zeroCells zv.cells (nc - (xs.length + ys.length))
        let w' : World := c.w.drew.alloc (.cells cells e)
        let i : Info := { blk := c.w.heap.size, off := 0, es := (Y e).cells, cap := nc, arr0 := #[], ty := 0, fr := (0, 0) }
        have hnew : w'.heap[c.w.heap.size]? = some (.cells cells e (0, 0)) := heap_alloc_new c.w.drew _
        have hagree : ∀ j, j < c.w.heap.size → w'.heap[j]? = c.w.heap[j]? := fun j hj => alloc_old (w := c.w.drew) j hj
        have hws : w'.heap.size = c.w.heap.size + 1 := by simp [w', World.size_alloc]
        have hle := Le_newQ (i := i) (q := c.w.heap.size :: q) (w' := w') hinv hown1 (fun b hb hz => by
          rcases List.mem_cons.1 hb with rfl | hb
          · have := hinv.zl _ hz; omega
          · exact (hq b hb).2.1 hz) (fun j hj _ => hagree j hj)
        have hsize : cells.size = nc * (Y e).cells := by
          have hlx := RRows_len _ hrow
          simp only [cells, Array.size_append, Builtin.zeroCells, Array.size_map, Array.size_range, hzs, List.size_toArray, hlx, hly]
          rw [← Nat.add_mul, ← Nat.add_mul]; congr 1; omega
        obtain ⟨bs', hi⟩ := InvH.newQ (i := i) (q := c.w.heap.size :: q) (w' := w') (ob := .arr (Y e).cells (xs ++ ys) false) hinv hown1
          (fun b hb => by
            rcases List.mem_cons.1 hb with rfl | hb
            · exact ⟨fun hx => by have := hinv.bl _ hx; omega, fun hx => by have := hinv.zl _ hx; omega, by omega, .inr hinv.fs⟩
            · exact ⟨(hq b hb).1, (hq b hb).2.1, by have := (hq b hb).2.2.1; omega, (hq b hb).2.2.2⟩)
          (List.nodup_cons.2 ⟨fun hx => by have := (hq _ hx).2.2.1; omega, hnq⟩) (by omega) (fun j hj _ => hagree j hj) ⟨rfl, rfl⟩ (by
          refine ⟨i, by simp [Cx.newAt], rfl, .inr he, by simp [i]; omega, .inr ⟨rows ++ rowsy, q ++ [], by simp [i], ?_, ?_, ?_⟩⟩
          · exact RRows_append (hrow.mono hle _ _ (fun b hb => hagree b (hq b hb).2.2.1)) (hrowy.mono hle _ _ (by simp))
          · refine ⟨cells, e, (0, 0), hnew, fun j v hv => ?_⟩
            simp only [Info.addr, i, Nat.zero_add, cells]
            rw [Array.getElem?_append_left (by simp; have := (List.getElem?_eq_some_iff.1 hv).1; simpa using this)]
            rw [← hv, ← List.getElem?_toArray]; simp
          · exact ⟨rfl, he, cells, e, (0, 0), hnew, by simp [Info.addr, i, hsize], Free00 _⟩)
        exact ⟨_, c.newAt w' own i, bs', rfl, hle, hi, ⟨_, nc, i, rfl, hnc, by simp [Cx.newAt], by simp [i], .inr (by simp [i])⟩⟩
end
end Go.Vm

namespace Go.Vm

theorem isByte_cell {c : Cx} {t : T} {cs : List Value} {bs : List Nat} (hb : isByte t = true) (h : RC c t cs bs) : ∃ n : Int, cs = [.int .u8 n] ∧ byteOf t = UInt8.ofNat n.toNat := by
  cases t with
  | int k n =>
    cases k <;> simp only [isByte] at hb <;> first | (cases hb; done) | skip
    obtain ⟨rfl, _⟩ := h
    exact ⟨n, rfl, rfl⟩
  | _ => simp [isByte] at hb

theorem bytes_cells {c : Cx} {es : Nat} : ∀ {l : List T} {cs : List Value} {bs : List Nat}, l.all isByte = true → RRows c es l cs bs → ∃ ns : List Int, cs = ns.map (Value.int .u8) ∧ l.map byteOf = ns.map (fun n => UInt8.ofNat n.toNat) ∧ (l = [] ∨ es = 1)
  | [], _, _, _, h => by obtain ⟨rfl, _⟩ := h; exact ⟨[], rfl, rfl, .inl rfl⟩
  | t :: l, _, _, hb, h => by
    simp only [List.all_cons, Bool.and_eq_true] at hb
    obtain ⟨c1, c2, b1, b2, rfl, rfl, h0, h1, h2⟩ := h
    obtain ⟨n, rfl, hn⟩ := isByte_cell hb.1 h1
    obtain ⟨ns, rfl, hns, _⟩ := bytes_cells hb.2 h2
    exact ⟨n :: ns, rfl, by simp [hn, hns], .inr h0.symm⟩

theorem foldl_push (ns : List Int) : ∀ (s : ByteArray), ns.foldl (fun r n => r.push (UInt8.ofNat n.toNat)) s = ⟨(s.data.toList ++ ns.map (fun n => UInt8.ofNat n.toNat)).toArray⟩ := by
  induction ns with
  | nil => intro s; simp
  | cons n ns ih => intro s; rw [List.foldl_cons, ih]; simp [ByteArray.push]

section
variable {P : Program} {Y : TypeId → TyI} (hY : TysOk P Y)

include hY in
theorem convert_ok {F : Fr} {c : Cx} {H : Heap} {bs : List Nat} {own : Nat} {src dst : TypeId} {t : T} {v : Value} {out : Out} (h : InvH F c H bs) (hv : RV c t v) (hown : sumT (Y dst).k = true → H[own]? = some [])
    (hs : 0 < (Y src).cells) (hd : 0 < (Y dst).cells) (hel : ∀ e, (Y src).k = .sl e ∨ (Y dst).k = .sl e → 0 < (Y e).cells)
    (hm : (convertM Y own src dst t).run H = some out) : out.ups = [] ∧ Done F c (if sumT (Y dst).k then H.set own out.news else H) out.v ((convert src dst v).run P c.w) := by
  obtain ⟨ds, hds, htms, hus⟩ := (hY src hs).run_under c.w
  obtain ⟨dd, hdd, htmd, hud⟩ := (hY dst hd).run_under c.w
  unfold convertM at hm
  split at hm
  · rename_i k1 k2 k3 n hk1 hk2
    simp [RM.run] at hm; subst hm
    simp only [RV] at hv; subst hv
    rw [hk1] at htms; rw [hk2] at htmd; simp only [TyM] at htms htmd; subst htms; subst htmd
    refine ⟨rfl, ?_⟩
    simp only [hk2, sumT, Bool.false_eq_true, if_false, convert, Sem.run_bind, hds, hdd, Result.andThen_ok, Conv.intToInt, Sem.run_pure]
    exact Done.same h rfl
  · rename_i t _ _ _ e hk1 hk2
    split at hm
    case isFalse => simp [RM.run] at hm
    rename_i hu8
    simp only [RM.run_bind] at hm
    cases hx : (elemsM t).run H with
    | none => simp [hx] at hm
    | some l =>
      simp only [hx] at hm
      split at hm
      case isFalse => simp [RM.run] at hm
      rename_i hall
      simp [RM.run] at hm; subst hm
      refine ⟨rfl, ?_⟩
      obtain ⟨A, k, rfl, _, hr⟩ := elems_ok h hv hx
      have he := hel e (.inl hk1)
      obtain ⟨de, hde, htme, hue⟩ := (hY e he).run_under c.w
      have hde' : de = .int .u8 := by
        cases hke : (Y e).k <;> rw [hke] at hu8 htme <;> simp only [Ty.isU8] at hu8 <;> first | (cases hu8; done) | skip
        rename_i kk
        cases kk <;> simp only [Ty.isU8] at hu8 <;> first | (cases hu8; done) | skip
        exact htme
      subst hde'
      rw [hk1] at htms; rw [hk2] at htmd; simp only [TyM] at htms htmd; subst htms; subst htmd
      rw [run_convert_bytes_string c.w src dst e A l.length k hus hue hud]
      simp only [hk2, sumT, Bool.false_eq_true, if_false]
      rcases hr with rfl | ⟨a, es, rows, b, rfl, ha, hes, hrow, hc, _⟩
      · cases A with
        | none => exact Done.same h (by simp only [RV, Conv.bytesToString, bytesOf]; rfl)
        | some a =>
          rw [show ([] : List T).length = 0 from rfl, run_bytesToString c.w a 0 k [] (by simp [loadCells, loadCellsFrom])]
          exact Done.same h (by simp only [RV, bytesOf]; rfl)
      · obtain ⟨ns, rfl, hns, hor⟩ := bytes_cells hall hrow
        have hlen : l.length = ns.length := by have := congrArg List.length hns; simpa using this
        have hl := run_loadCells_list (P := P) c.w a (ns.map (Value.int .u8)) (fun j v hj => hc.cell ha j v hj)
        rw [List.length_map, ← hlen] at hl
        rw [run_bytesToString c.w a l.length k ns hl, foldl_push]
        exact Done.same h (by simp only [RV, bytesOf, hns]; rfl)
  · rename_i e e2 ie j off len hk1 hk2
    split at hm
    case isFalse => simp [RM.run] at hm
    rename_i hc
    obtain ⟨rfl, rfl, hu8, hlen⟩ := hc
    simp only [RM.run] at hm
    cases ha : H.at ie j with
    | none => simp [ha] at hm
    | some ob =>
      simp only [ha] at hm
      cases ob with
      | var t => simp [RM.run] at hm
      | gone => simp [RM.run] at hm
      | arr es l fz =>
        cases fz with
        | true => simp [RM.run] at hm
        | false =>
          simp only at hm
          split at hm
          case isFalse => simp [RM.run] at hm
          rename_i hfit
          simp [RM.run] at hm; subst hm
          refine ⟨rfl, ?_⟩
          have hown := hown (by rw [hk2]; rfl)
          obtain ⟨A, k, i, rfl, hlk, hmu, hcap, hA⟩ := hv
          have hA' : A = some ⟨i.blk, i.off + off * i.es, none⟩ := hA.resolve_left (by omega)
          subst hA'
          have he := hel e (.inl hk1)
          obtain ⟨de, hde, htme, hue⟩ := (hY e he).run_under c.w
          have hde' : de = .int .u8 := by
            cases hke : (Y e).k <;> rw [hke] at hu8 htme <;> simp only [Ty.isU8] at hu8 <;> first | (cases hu8; done) | skip
            rename_i kk
            cases kk <;> simp only [Ty.isU8] at hu8 <;> first | (cases hu8; done) | skip
            exact htme
          subst hde'
          rw [hk1] at htms; simp only [TyM] at htms; subst htms
          obtain ⟨p1, q, r1, rfl, ho, hput⟩ := h.hp.at ha
          have hnd := nodup_mid h.nd
          obtain ⟨i', hi', hies, hpos', hl', ho⟩ := ho
          rw [hmu] at hi'; cases hi'
          rcases ho with ⟨h0, _⟩ | ⟨rows, bs', hq, hrows, hcell, hoa⟩
          · omega
          obtain ⟨hsp, hes0, arr, ty, fr, hh, hsz, hfree⟩ := hoa
          have hh : c.w.heap[i.blk]? = some (.cells arr ty fr) := hh
          let w' : World := c.w.freeze ⟨i.blk, arr.size, none⟩ 1
          let fr' : Nat × Nat := if fr.1 == fr.2 then (arr.size, arr.size + 1) else (min fr.1 arr.size, max fr.2 (arr.size + 1))
          have hw1 : w'.heap[i.blk]? = some (.cells arr ty fr') := by
            simp only [w', World.freeze, Nat.one_ne_zero, if_false, Array.getElem?_modify, if_true, hh]
            rfl
          have hbut : But c.w w' i.blk := by
            refine ⟨?_, fun k hk => ?_, ⟨rfl, rfl⟩⟩
            · simp only [w', World.freeze, Nat.one_ne_zero, if_false, Array.size_modify]
            · simp only [w', World.freeze, Nat.one_ne_zero, if_false, Array.getElem?_modify]
              rw [if_neg (fun e => hk e.symm)]
          have hfree' : Free arr.size fr' := by
            obtain ⟨f1, f2⟩ := hfree
            have := f2 fr.1
            simp only [fr']
            split
            · exact ⟨Nat.le_succ _, fun k hk hx => by simp only at hx; omega⟩
            · rename_i hne
              simp only [beq_iff_eq] at hne
              refine ⟨by simp only; omega, fun k hk hx => ?_⟩
              simp only at hx
              omega
          have hmem : i.blk ∈ p1 ++ (q ++ r1) := by rw [hq]; simp
          have hle := Le_but h hmem hbut
          have hother : ∀ b, b ∈ p1 ∨ b ∈ r1 → w'.heap[b]? = c.w.heap[b]? := fun b hb => hbut.oth b (fun e => by
            subst e
            have hn := h.nd
            rw [List.nodup_append, List.nodup_append] at hn
            have hin : i.blk ∈ q := by rw [hq]; simp
            rcases hb with hb | hb
            · exact hn.2.2 _ hb _ (by simp [hin]) rfl
            · exact hn.2.1.2.2 _ hin _ hb rfl)
          have hin : ∀ b ∈ bs', b ≠ i.blk := fun b hb e => by
            rw [hq] at hnd; subst e; exact (List.nodup_cons.1 hnd).1 hb
          have hinv : InvH F (c.with w') (H.put ie j (.arr es l false)) (p1 ++ (q ++ r1)) := by
            refine InvH.write (q := q) h (by rw [hq]; simp) hbut (fun x hx => hx) hnd ?_
            refine hput (c.with w') _ q hle (fun b hb => hother b (.inl hb)) (fun b hb => hother b (.inr hb)) ?_
            refine ⟨i, hmu, hies, hpos', hl', .inr ⟨rows, bs', hq, hrows.mono hle es _ (fun b hb => hbut.oth b (hin b hb)), ?_, ?_⟩⟩
            · obtain ⟨arr2, ty2, fr2, hh2, hin2⟩ := hcell
              simp only [Info.addr] at hh2
              rw [hh] at hh2; cases hh2
              exact ⟨arr, ty, fr', hw1, hin2⟩
            · exact ⟨hsp, hes0, arr, ty, fr', hw1, hsz, hfree'⟩
          have hps : H.put ie j (.arr es l false) = H := by
            unfold Heap.at at ha
            unfold Heap.put
            cases hl : H[ie]? with
            | none => simp [hl] at ha
            | some l2 =>
              simp only [hl] at ha ⊢
              obtain ⟨h1, e1⟩ := List.getElem?_eq_some_iff.1 ha
              obtain ⟨h2, e2⟩ := List.getElem?_eq_some_iff.1 hl
              have e3 : l2.set j (.arr es l false) = l2 := by rw [← e1, List.set_getElem_self]
              rw [e3, ← e2, List.set_getElem_self]
          rw [hps] at hinv
          have hso : H.set own [] = H := by
            obtain ⟨h2, e2⟩ := List.getElem?_eq_some_iff.1 hown
            rw [← e2, List.set_getElem_self]
          have hrun : (convert src src (.slice (some ⟨i.blk, i.off + off * i.es, none⟩) len k)).run P c.w = .ok (.slice (some ⟨i.blk, i.off + off * i.es, none⟩) len k) w' := by
            have hshape : World.shape? c.w i.blk = some (ty, arr.size) := by simp [World.shape?, hh]
            simp only [convert, Sem.run_bind, hds, Result.andThen_ok, hde, BEq.rfl, markStringish, run_shape, hshape, run_freeze, Sem.run_pure]
            rfl
          rw [hrun]
          refine ⟨_, c.with w', p1 ++ (q ++ r1), rfl, hle, ?_, ⟨_, k, i, rfl, hlk, hmu, hcap, .inr rfl⟩⟩
          simpa [hk2, sumT, hso] using hinv
  · rename_i e s hk1 hk2
    split at hm
    case isFalse => simp [RM.run] at hm
    rename_i hc
    obtain ⟨hu8, hsz⟩ := hc
    simp [RM.run] at hm; subst hm
    refine ⟨rfl, ?_⟩
    have hown := hown (by rw [hk2]; rfl)
    have he := hel e (.inr hk2)
    obtain ⟨de, hde, htme, hue⟩ := (hY e he).run_under c.w
    have hde' : de = .int .u8 := by
      cases hke : (Y e).k <;> rw [hke] at hu8 htme <;> simp only [Ty.isU8] at hu8 <;> first | (cases hu8; done) | skip
      rename_i kk
      cases kk <;> simp only [Ty.isU8] at hu8 <;> first | (cases hu8; done) | skip
      exact htme
    subst hde'
    simp only [RV] at hv; subst hv
    rw [hk1] at htms; rw [hk2] at htmd; simp only [TyM] at htms htmd; subst htms; subst htmd
    let q := Question.appendCap s.size 0 e
    let nc := q.cut (c.w.tape c.w.drawn q)
    have hnc : s.size ≤ nc := by simp only [nc, q, Question.cut]; omega
    let cells : Array Value := (s.data.map fun b => Value.int .u8 b.toNat) ++ Array.replicate (nc - s.size) (.int .u8 0)
    have hcs : cells.size = nc := by simp only [cells, Array.size_append, Array.size_map, Array.size_replicate]; show s.size + _ = _; omega
    let w1 : World := c.w.drew.alloc (.cells cells e)
    let w' : World := w1.freeze ⟨c.w.heap.size, nc, none⟩ 1
    have hnew1 : w1.heap[c.w.heap.size]? = some (.cells cells e (0, 0)) := heap_alloc_new c.w.drew _
    have hnew : w'.heap[c.w.heap.size]? = some (.cells cells e (nc, nc + 1)) := by
      simp only [w', World.freeze, Nat.one_ne_zero, if_false, Array.getElem?_modify, if_true, hnew1]
      simp
    have hagree : ∀ j, j < c.w.heap.size → w'.heap[j]? = c.w.heap[j]? := fun j hj => by
      have h1 : w1.heap[j]? = c.w.heap[j]? := alloc_old (w := c.w.drew) j hj
      rw [← h1]
      simp only [w', World.freeze, Nat.one_ne_zero, if_false, Array.getElem?_modify]
      rw [if_neg (by omega)]
    have hws : w'.heap.size = c.w.heap.size + 1 := by
      simp only [w', World.freeze, Nat.one_ne_zero, if_false, Array.size_modify]
      simp [w1, World.size_alloc]
    have hrun : (convert src dst (.string s)).run P c.w = .ok (.slice (some ⟨c.w.heap.size, 0, none⟩) s.size nc) w' := by
      simp only [convert, Sem.run_bind, hds, hdd, hde, Result.andThen_ok, Conv.stringToBytes, run_choose, Question.forced, Bool.false_eq_true, if_false, run_newRow, Sem.run_pure, markStringish]
      have hshape : World.shape? w1 c.w.heap.size = some (e, nc) := by simp [World.shape?, hnew1, hcs]
      have e1 : ({ c.w with drawn := c.w.drawn + 1 } : World).alloc (.cells (s.data.map (fun b => Value.int .u8 b.toNat) ++ Array.replicate (q.cut (c.w.tape c.w.drawn q) - s.size) (.int .u8 0)) e) = w1 := rfl
      have e2 : ({ c.w with drawn := c.w.drawn + 1 } : World).heap.size = c.w.heap.size := rfl
      simp only [run_shape]
      rw [show (World.alloc ({ c.w with drawn := c.w.drawn + 1 } : World) (Obj.cells (Array.map (fun b => Value.int IntKind.u8 b.toNat) s.data ++ Array.replicate (Question.cut (Question.appendCap s.size 0 e) (c.w.tape c.w.drawn (Question.appendCap s.size 0 e)) - s.size) (Value.int IntKind.u8 0)) e (0, 0))) = w1 from rfl]
      simp only [hshape, Result.andThen_ok, run_freeze]
      rfl
    rw [hrun]
    let i : Info := { blk := c.w.heap.size, off := 0, es := 1, cap := nc, arr0 := #[], ty := 0, fr := (0, 0) }
    have hle := Le_new (i := i) h hown hagree
    have hbytes : (s.data.map fun b => Value.int .u8 b.toNat).toList = s.data.toList.map fun b => .int .u8 b.toNat := by simp
    obtain ⟨bs', hi⟩ := InvH.new (i := i) (ob := .arr 1 (s.data.toList.map byteT) false) (q := [c.w.heap.size]) (w' := w') h hown hws hagree ⟨rfl, rfl⟩ (.inr rfl) (by
      refine ⟨i, by simp [Cx.newAt], rfl, .inr (by omega), by simp [i]; exact hnc, .inr ⟨s.data.toList.map fun b => .int .u8 b.toNat, [], rfl, byteT_rows _ _, ?_, ?_⟩⟩
      · refine ⟨cells, e, (nc, nc + 1), hnew, fun j v hv => ?_⟩
        simp only [Info.addr, i, Nat.zero_add, cells]
        have hj := (List.getElem?_eq_some_iff.1 hv).1
        rw [Array.getElem?_append_left (by simpa using hj), ← Array.getElem?_toList, hbytes]; exact hv
      · exact ⟨rfl, by omega, cells, e, (nc, nc + 1), hnew, by simp [Info.addr, i, hcs], ⟨Nat.le_succ _, fun k hk hx => by simp only at hx; omega⟩⟩)
    refine ⟨_, c.newAt w' own i, bs', rfl, hle, by simpa [hk2, sumT] using hi, ⟨_, nc, i, rfl, hnc, by simp [Cx.newAt], by simp [i], .inr (by simp [i])⟩⟩
  · simp [RM.run] at hm

theorem mnmx_ok {F : Fr} {c : Cx} {H : Heap} {bs : List Nat} {mx : Bool} {a : Array TypeId} {t0 : TypeId} {t u r : T} {v x : Value} (h : InvH F c H bs) (hv : RV c t v) (hx : RV c u x)
    (hm : mnmx mx t u = some r) : Done F c H r ((if mx then Builtin.max_ a t0 #[v, x] else Builtin.min_ a t0 #[v, x]).run P c.w) := by
  cases t with
  | int k n =>
    cases u with
    | int k' m =>
      simp only [mnmx] at hm
      split at hm
      case isFalse => cases hm
      rename_i hk
      subst hk
      simp only [Option.some.injEq] at hm; subst hm
      simp only [RV] at hv hx; subst hv; subst hx
      cases mx
      · simp only [Bool.false_eq_true, if_false, Builtin.min_, List.foldlM_cons, List.foldlM_nil, Builtin.min2, Sem.run_bind, Sem.run_pure, Result.andThen_ok]
        exact Done.same h rfl
      · simp only [if_true, Builtin.max_, List.foldlM_cons, List.foldlM_nil, Builtin.max2, Sem.run_bind, Sem.run_pure, Result.andThen_ok]
        exact Done.same h rfl
    | _ => simp [mnmx] at hm
  | _ => simp [mnmx] at hm
end
end Go.Vm

namespace Go.Vm
theorem put_same {H : Heap} {e j : Nat} {ob : Ob} (h : H.at e j = some ob) : H.put e j ob = H := by
  unfold Heap.at at h
  unfold Heap.put
  cases hl : H[e]? with
  | none => simp [hl] at h
  | some l =>
    simp only [hl] at h ⊢
    obtain ⟨h1, rfl⟩ := List.getElem?_eq_some_iff.1 h
    obtain ⟨h2, rfl⟩ := List.getElem?_eq_some_iff.1 hl
    rw [List.set_getElem_self, List.set_getElem_self]
section
variable {P : Program} {Y : TypeId → TyI} (hY : TysOk P Y)
include hY
theorem clear_ok {F : Fr} {c : Cx} {H : Heap} {bs : List Nat} {t res : TypeId} {x : T} {v : Value} {out : Out} (h : InvH F c H bs) (hv : RV c x v) (ht : 0 < (Y t).cells)
    (hel : ∀ e, (Y t).k = .sl e → 0 < (Y e).cells) (hm : (clearM Y t x).run H = some out) : out.news = [] ∧ Done F c (H.ups out.ups) out.v ((Builtin.clear_ #[t] res #[v]).run P c.w) := by
  obtain ⟨d, hd, htm, _⟩ := (hY t ht).run_under c.w
  unfold clearM at hm
  split at hm
  case h_2 => simp [RM.run] at hm
  rename_i el e j off len hk
  simp only [RM.run] at hm
  cases ha : H.at e j with
  | none => simp [ha] at hm
  | some ob =>
    simp only [ha] at hm
    cases ob with
    | var t => simp [RM.run] at hm
    | gone => simp [RM.run] at hm
    | arr es l fz =>
      cases fz with
      | true => simp [RM.run] at hm
      | false =>
        simp only at hm
        split at hm
        case isFalse => simp [RM.run] at hm
        rename_i hc
        obtain ⟨hes, hfn, hfit, hpos⟩ := hc
        simp [RM.run] at hm; subst hm
        refine ⟨rfl, ?_⟩
        obtain ⟨A, k, i, rfl, hlk, hmu, hcap, hA⟩ := hv
        rw [hk] at htm; simp only [TyM] at htm; subst htm
        cases len with
        | zero =>
          have hl : l.take off ++ (List.replicate 0 (zeroT Y 9 el) ++ l.drop (off + 0)) = l := by simp
          rw [hl]
          refine ⟨.tuple #[], c, bs, ?_, .refl c, ?_, ⟨#[], rfl, rfl⟩⟩
          · cases A <;> simp [Builtin.clear_, Sem.run_bind, hd, Sem.run_pure]
          · simpa [Heap.ups, put_same ha] using h
        | succ len =>
          have hA' : A = some ⟨i.blk, i.off + off * i.es, none⟩ := hA.resolve_left (by omega)
          subst hA'
          obtain ⟨p1, q, r1, rfl, ho, hput⟩ := h.hp.at ha
          have hnd := nodup_mid h.nd
          obtain ⟨i', hi', hies, hpos', hlen, ho⟩ := ho
          rw [hmu] at hi'; cases hi'
          rcases ho with ⟨h0, _⟩ | ⟨rows, bs', hq, hrows, hcell, hoa⟩
          · omega
          obtain ⟨x1, y, z, p, q2, r, rfl, rfl, hx1, hr1, hr2, hr3⟩ := RRows_window off (len + 1) hrows (by omega)
          obtain ⟨z0, hz, hzr, hzs⟩ := zero_rc (P := P) hY (hel el hk) hfn
          have hzes : z0.cells.size = es := by rw [hzs, hes]
          have hzrow : ∀ c : Cx, RRows c es (List.replicate (len + 1) (zeroT Y 9 el)) (Builtin.zeroCells z0.cells (len + 1)).toList [] := fun c => by
            have := range_rows (hzr c) hzes hpos (len + 1)
            rw [← hzes] at this ⊢
            exact this
          obtain ⟨hsp, _, arr, ty, fr, hh, hsz, hfree⟩ := hoa
          have hylen : y.length = (len + 1) * es := by
            rw [RRows_len _ hr2, List.length_take, List.length_drop]; congr 1; omega
          have hzlen : (Builtin.zeroCells z0.cells (len + 1)).toList.length = y.length := by rw [RRows_len _ (hzrow c), hylen]; simp
          have hfitc : i.off + off * es + y.length ≤ arr.size := by
            have h1 : (off + (len + 1)) * es ≤ i.cap * es := Nat.mul_le_mul_right es (by omega)
            rw [Nat.add_mul] at h1
            simp only [Info.addr] at hsz
            rw [hylen]; omega
          have hh : c.w.heap[i.blk]? = some (.cells arr ty fr) := hh
          obtain ⟨w', hrun, hw1, hbut⟩ := run_storeCells (P := P) (b := i.blk) (Builtin.zeroCells z0.cells (len + 1)).toList c.w arr (i.off + off * es) 0 hh hfree (by rw [hzlen]; omega) (RRows_one _ (hzrow c))
          have hmem : i.blk ∈ p1 ++ (q ++ r1) := by rw [hq]; simp
          have hle := Le_but h hmem hbut
          have hqn : ∀ b, b ∈ p ∨ b ∈ q2 ∨ b ∈ r → b ≠ i.blk := fun b hb e => by
            rw [hq] at hnd; subst e; exact (List.nodup_cons.1 hnd).1 (by simpa using hb)
          have hother : ∀ b, b ∈ p1 ∨ b ∈ r1 → w'.heap[b]? = c.w.heap[b]? := fun b hb => hbut.oth b (fun e => by
            subst e
            have hn := h.nd
            rw [List.nodup_append, List.nodup_append] at hn
            have hin : i.blk ∈ q := by rw [hq]; simp
            rcases hb with hb | hb
            · exact hn.2.2 _ hb _ (by simp [hin]) rfl
            · exact hn.2.1.2.2 _ hin _ hb rfl)
          refine ⟨.tuple #[], c.with w', p1 ++ ((i.blk :: (p ++ ([] ++ r))) ++ r1), ?_, hle, ?_, ⟨#[], rfl, rfl⟩⟩
          · rw [hies]
            simp only [Builtin.clear_, Sem.run_bind, hd, Result.andThen_ok, hz, List.getElem?_toArray, List.getElem?_cons_zero]
            rw [hrun]
            rfl
          · simp only [Heap.ups]
            refine InvH.write (q := q) h (by rw [hq]; simp) hbut (fun b hb => ?_) ?_ ?_
            · rw [hq]; simp only [List.mem_cons, List.mem_append, List.not_mem_nil, false_or] at hb ⊢
              rcases hb with hb | hb | hb
              · exact .inl hb
              · exact .inr (.inl hb)
              · exact .inr (.inr (.inr hb))
            · rw [hq] at hnd
              refine List.Nodup.sublist ?_ hnd
              refine List.Sublist.cons_cons _ (List.Sublist.append (List.Sublist.refl _) ?_)
              simp
            · refine hput (c.with w') _ (i.blk :: (p ++ ([] ++ r))) hle (fun b hb => hother b (.inl hb)) (fun b hb => hother b (.inr hb)) ?_
              refine ⟨i, hmu, hies, hpos', ?_, .inr ⟨x1 ++ ((Builtin.zeroCells z0.cells (len + 1)).toList ++ z), p ++ ([] ++ r), rfl, ?_, ?_, ?_⟩⟩
              · simp; omega
              · refine RRows_append (hr1.mono hle es _ (fun b hb => hbut.oth b (hqn b (.inl hb)))) (RRows_append (hzrow _) ?_)
                have := hr3.mono hle es _ (fun b hb => hbut.oth b (hqn b (.inr (.inr hb))))
                rwa [List.drop_drop] at this
              · exact hcell.splice hh hzlen (by simp only [Info.addr] at *; rw [hx1]; omega) (by rw [hx1]; exact hw1)
              · exact ⟨hsp, hpos, _, _, _, hw1, by rw [spl_size]; exact hsz, by rw [spl_size]; exact hfree⟩
end
end Go.Vm

namespace Go.Vm

section
variable {P : Program} {Y : TypeId → TyI} (hY : TysOk P Y)

include hY in
/-- append of 'make(.., n)' to nil -/
theorem appendZ_ok {F : Fr} {c : Cx} {H : Heap} {bs : List Nat} {own : Nat} {t u res : TypeId} {x y : T} {v z : Value} {out : Out} (h : InvH F c H bs) (hv : RV c x v) (hz : RV c y z)
    (hown : H[own]? = some []) (ht : 0 < (Y t).cells) (hu : 0 < (Y u).cells) {ik : IntKind} (hk2 : (Y u).k = .int ik) (hm : (appendZM Y own t x y).run H = some out) :
    Done F c ((H.ups out.ups).set own out.news) out.v ((Builtin.append_ #[t, u] res #[v, z]).run P c.w) := by
  unfold appendZM at hm
  split at hm
  case h_2 => simp [RM.run] at hm
  rename_i e es m hk
  split at hm
  case isFalse => simp [RM.run] at hm
  rename_i hc
  obtain ⟨he, hf, hby0, hby, h0, hn⟩ := hc
  simp [RM.run] at hm; subst hm
  simp only [RV] at hz; subst hz
  obtain ⟨A, rfl⟩ := hv
  simp only [Heap.ups]
  obtain ⟨zv, hzv, hzr, hzs⟩ := zero_rc hY he hf
  obtain ⟨d, hd, htm, _⟩ := (hY t ht).run_under c.w
  obtain ⟨du, hdu, htmu, _⟩ := (hY u hu).run_under c.w
  rw [hk] at htm; rw [hk2] at htmu; simp only [TyM] at htm htmu; subst htm; subst htmu
  obtain ⟨i, d', hi, _, hsz, hbytes, _⟩ := (hY e he).ex
  have hti : ∀ w, (typeInfo e).run P w = .ok i w := fun w => by simp [typeInfo, hi]
  obtain ⟨n, rfl⟩ : ∃ n : Nat, m = (n : Int) := ⟨m.toNat, (Int.toNat_of_nonneg h0).symm⟩
  rw [Int.toNat_natCast]
  have hw : IntKind.i64.wrap (n : Int) = n := by
    have : (n : Int) % (2 ^ 64 : Int) = n := Int.emod_eq_of_lt h0 (by omega)
    simp only [IntKind.wrap, IntKind.bits, IntKind.signed, this, Bool.true_and]
    rw [if_neg (by simp; omega)]
  have hl1 : ¬ ((n : Int) < 0) := by omega
  have hmulb : n * (Y e).bytes ≤ 2 ^ 46 := by
    calc n * (Y e).bytes ≤ 2 ^ 30 * 2 ^ 16 := Nat.mul_le_mul (by omega) hby
      _ = 2 ^ 46 := by decide
  have hl2 : ¬ ((n : Int) * (i.bytes : Nat) > 2 ^ 48) := by
    rw [hbytes]
    have : ((n * (Y e).bytes : Nat) : Int) ≤ 2 ^ 46 := by exact_mod_cast hmulb
    rw [Int.natCast_mul] at this
    omega
  by_cases hn0 : n = 0
  · subst hn0
    have hrun : (Builtin.append_ #[t, u] res #[.slice A 0 0, .int .i64 ((0 : Nat) : Int)]).run P c.w = .ok (.slice A 0 0) c.w := by
      simp only [Builtin.append_, List.getElem?_toArray, List.getElem?_cons_zero, List.getElem?_cons_succ, Sem.run_bind, hd, Result.andThen_ok, (hY e he).run_size, hdu, Sem.run_pure, asInt, asIntOf, hw, if_true, hti]
      rw [if_neg hl1]
      simp only [Sem.run_bind, hti, Result.andThen_ok]
      rw [if_neg hl2]
      have z0 : ((0 : Nat) : Int).toNat = 0 := rfl
      simp only [Sem.run_bind, Sem.run_pure, Result.andThen_ok, z0, Nat.zero_add, Nat.zero_mul, if_pos (Nat.le_refl 0), Bool.not_true, Bool.false_eq_true, if_false, if_true]
      cases A <;> rfl
    rw [hrun]
    let i : Info := { blk := 0, off := 0, es := (Y e).cells, cap := 0, arr0 := #[], ty := 0, fr := (0, 0) }
    obtain ⟨bs', hi⟩ := InvH.newQ (i := i) (q := []) (w' := c.w) (ob := .arr (Y e).cells [] false) h hown (by simp) (by simp) (Nat.le_refl _) (fun _ _ _ => rfl) (.refl _)
      ⟨i, by simp [Cx.newAt], rfl, .inr he, by simp [i], .inl ⟨rfl, rfl⟩⟩
    exact ⟨_, c.newAt c.w own i, bs', rfl, Le_newQ (q := []) h hown (by simp) (fun _ _ _ => rfl), by simpa using hi, ⟨A, 0, i, rfl, Nat.le_refl _, by simp [Cx.newAt], by simp [i], .inl rfl⟩⟩
  · have hnc : ¬ (Builtin.nextslicecap n 0 * i.bytes > 2 ^ 48) := by
      have h1 := nextslicecap_le (n := n) (k := 0) (by omega)
      have h2 : Builtin.nextslicecap n 0 * i.bytes ≤ (2 * n + 192) * i.bytes := Nat.mul_le_mul_right _ h1
      have h3 : (2 * n + 192) * (Y e).bytes ≤ 2 ^ 48 := by
        calc (2 * n + 192) * (Y e).bytes ≤ 2 ^ 32 * 2 ^ 16 := Nat.mul_le_mul (by omega) hby
          _ = 2 ^ 48 := by decide
      rw [hbytes] at h2 ⊢; omega
    let q := Question.appendCap n 0 e
    have hncap : n ≤ q.cut (c.w.tape c.w.drawn q) := by simp only [q, Question.cut]; omega
    generalize hncd : q.cut (c.w.tape c.w.drawn q) = nc at hncap
    let cells : Array Value := Builtin.zeroCells zv.cells n ++ Builtin.zeroCells zv.cells (nc - n)
    let w' : World := c.w.drew.alloc (.cells cells e)
    have hns : ¬ (n * (Y e).cells = 0) := by
      have := Nat.mul_pos (Nat.pos_of_ne_zero hn0) he; omega
    have hrun : (Builtin.append_ #[t, u] res #[.slice A 0 0, .int .i64 (n : Int)]).run P c.w = .ok (.slice (some ⟨c.w.heap.size, 0, none⟩) n nc) w' := by
      simp only [Builtin.append_, List.getElem?_toArray, List.getElem?_cons_zero, List.getElem?_cons_succ, Sem.run_bind, hd, Result.andThen_ok, (hY e he).run_size, hdu, Sem.run_pure, asInt, asIntOf, hw, if_true, hti]
      rw [if_neg hl1]
      simp only [Sem.run_bind, hti, Result.andThen_ok]
      rw [if_neg hl2]
      simp only [Sem.run_bind, Sem.run_pure, Int.toNat_natCast, Result.andThen_ok, Nat.zero_add, if_neg (show ¬ n ≤ 0 by omega), hti]
      rw [if_neg (show ¬ ((n : Int) > IntKind.i64.max ∧ (True ∨ i.bytes = 0)) by have : IntKind.i64.max = 9223372036854775807 := rfl; rw [this]; omega)]
      simp only [Sem.run_bind, hti, Result.andThen_ok]
      rw [if_neg hnc]
      simp only [Sem.run_bind, run_choose, Question.forced, Bool.false_eq_true, if_false, Result.andThen_ok, hti, run_askRoom]
      have hfirst : ∀ w : World, (Builtin.firstCells (Y e).cells 0 (.slice A 0 0)).run P w = .ok #[] w := fun w => by
        cases A with
        | none => rfl
        | some a => simp [Builtin.firstCells, loadCells, loadCellsFrom]
      simp only [hfirst, Bool.not_true, Bool.false_eq_true, if_false, if_neg hns, Sem.run_bind, hzv, Result.andThen_ok, Sem.run_pure, run_newRow]
      have hq : Question.cut (Question.appendCap n 0 e) (c.w.tape c.w.drawn (Question.appendCap n 0 e)) = nc := hncd
      simp only [hq, Array.empty_append]
      rfl
    rw [hrun]
    let i : Info := { blk := c.w.heap.size, off := 0, es := (Y e).cells, cap := nc, arr0 := #[], ty := 0, fr := (0, 0) }
    have hnew : w'.heap[c.w.heap.size]? = some (.cells cells e (0, 0)) := heap_alloc_new c.w.drew _
    have hagree : ∀ j, j < c.w.heap.size → w'.heap[j]? = c.w.heap[j]? := fun j hj => alloc_old (w := c.w.drew) j hj
    have hws : w'.heap.size = c.w.heap.size + 1 := by simp [w', World.size_alloc]
    have hle := Le_newQ (i := i) (q := [c.w.heap.size]) (w' := w') h hown (fun b hb hz => by
      simp at hb; subst hb
      have := h.zl _ hz; omega) (fun j hj _ => hagree j hj)
    have hsize : cells.size = nc * (Y e).cells := by
      simp only [cells, Array.size_append, Builtin.zeroCells, Array.size_map, Array.size_range, hzs]
      rw [← Nat.add_mul]; congr 1; omega
    have hrows : ∀ c' : Cx, RRows c' (Y e).cells (List.replicate n (zeroT Y 9 e)) (Builtin.zeroCells zv.cells n).toList [] := fun c' => by
      have := range_rows (hzr c') hzs he n
      unfold Builtin.zeroCells; rw [hzs] at *; exact this
    obtain ⟨bs', hi⟩ := InvH.newQ (i := i) (q := [c.w.heap.size]) (w' := w') (ob := .arr (Y e).cells (List.replicate n (zeroT Y 9 e)) false) h hown
      (fun b hb => by
        simp at hb; subst hb
        exact ⟨fun hx => by have := h.bl _ hx; omega, fun hx => by have := h.zl _ hx; omega, by omega, .inr h.fs⟩)
      (by simp) (by omega) (fun j hj _ => hagree j hj) ⟨rfl, rfl⟩ (by
      refine ⟨i, by simp [Cx.newAt], rfl, .inr he, by simp [i]; omega, .inr ⟨_, [], by simp [i], hrows _, ?_, ?_⟩⟩
      · refine ⟨cells, e, (0, 0), hnew, fun j v hv => ?_⟩
        simp only [Info.addr, i, Nat.zero_add, cells]
        rw [Array.getElem?_append_left (by have := (List.getElem?_eq_some_iff.1 hv).1; simpa using this)]
        rw [← hv]; simp
      · exact ⟨rfl, he, cells, e, (0, 0), hnew, by simp [Info.addr, i, hsize], Free00 _⟩)
    exact ⟨_, c.newAt w' own i, bs', rfl, hle, hi, ⟨_, nc, i, rfl, hncap, by simp [Cx.newAt], by simp [i], .inr (by simp [i])⟩⟩

include hY in
theorem cap_ok {F : Fr} {c : Cx} {H : Heap} {bs : List Nat} {ty res : TypeId} {t r : T} {v : Value} (h : InvH F c H bs) (hv : RV c t v) (hty : 0 < (Y ty).cells)
    (hm : capT (Y ty).k t = some r) : Done F c H r ((Builtin.cap_ #[ty] res #[v]).run P c.w) := by
  obtain ⟨d, hd, htm, _⟩ := (hY ty hty).run_under c.w
  simp only [Builtin.cap_, List.getElem?_toArray, List.getElem?_cons_zero, Sem.run_bind, hd, Result.andThen]
  cases t with
  | nils =>
    obtain ⟨A, rfl⟩ := hv
    simp only [capT] at hm
    cases hk : (Y ty).k <;> simp only [hk] at hm htm <;> first | (cases hm; done) | skip
    simp only [Option.some.injEq] at hm; subst hm
    simp only [TyM] at htm; subst htm
    exact Done.same h rfl
  | _ => simp [capT] at hm
end
end Go.Vm

namespace Go.Vm

/-- the table of types, whole -/
structure TysW (P : Program) (Y : TypeId → TyI) : Prop where
  ok : TysOk P Y
  cl : ∀ t, match (Y t).k with
    | .bad => True
    | .sl e => 0 < (Y t).cells ∧ 0 < (Y e).cells
    | .ar _ e => 0 < (Y t).cells ∧ 0 < (Y e).cells
    | .st fs => 0 < (Y t).cells ∧ ∀ f ∈ fs, 0 < (Y f.1).cells
    | _ => 0 < (Y t).cells

theorem TysW.pos {P : Program} {Y : TypeId → TyI} (h : TysW P Y) {t : TypeId} {k : Ty} (hk : (Y t).k = k) (hb : k ≠ .bad) : 0 < (Y t).cells := by
  have := h.cl t
  rw [hk] at this
  cases k <;> first | exact this | exact this.1 | exact absurd rfl hb
theorem TysW.el {P : Program} {Y : TypeId → TyI} (h : TysW P Y) {t e : TypeId} (hk : (Y t).k = .sl e ∨ ∃ n, (Y t).k = .ar n e) : 0 < (Y e).cells := by
  have := h.cl t
  rcases hk with hk | ⟨n, hk⟩ <;> rw [hk] at this <;> exact this.2
theorem TysW.fld {P : Program} {Y : TypeId → TyI} (h : TysW P Y) {t : TypeId} {fs : List (TypeId × Nat)} (hk : (Y t).k = .st fs) : ∀ f ∈ fs, 0 < (Y f.1).cells := by
  have := h.cl t
  rw [hk] at this
  exact this.2

/-- what an operation that calls nothing does to the model -/
def OpOk (P : Program) (F : Fr) (c : Cx) (H' : Heap) (t : T) (r : Result Next) : Prop :=
  ∃ c' bs', c.Le c' ∧ InvH F c' H' bs' ∧ ((∃ x, r = .ok (.value x) c'.w ∧ RV c' t x) ∨ (r = .ok .skip c'.w ∧ t = .undef))

theorem OpOk.of_done {P : Program} {F : Fr} {c : Cx} {H' : Heap} {t : T} {s : Sem Value} (h : Done F c H' t (s.run P c.w)) :
    OpOk P F c H' t ((do pure (.value (← s)) : Sem Next).run P c.w) := by
  obtain ⟨x, c', bs', hr, hle, hi, hv⟩ := h
  exact ⟨c', bs', hle, hi, .inl ⟨x, by simp [hr, Result.andThen], hv⟩⟩

theorem RV_nilAs {c : Cx} {k : Ty} {Y : TypeId → TyI} {t : T} {v : Value} (h : RV c t v) : RV c (nilAs k Y t) v := by
  unfold nilAs
  split
  · split <;> exact h
  · exact h

theorem RV_none {c : Cx} {x : Option Operand} {ρ : Operand → T} {ν : Operand → Value} (h : ∀ x, RV c (ρ x) (ν x)) : RO c (x.map ρ) (x.map ν) := by
  cases x with
  | none => rfl
  | some x => exact ⟨_, rfl, h x⟩

theorem RVP_map {c : Cx} {ρ : Operand → T} {ν : Operand → Value} (h : ∀ x, RV c (ρ x) (ν x)) : ∀ (l : List (Nat × Operand)), RVP c (l.map fun x => (x.1, ρ x.2)) (l.map fun x => (x.1, ν x.2))
  | [] => rfl
  | (i, x) :: l => ⟨_, _, rfl, h x, RVP_map h l⟩

theorem RVL_map {c : Cx} {ρ : Operand → T} {ν : Operand → Value} (h : ∀ x, RV c (ρ x) (ν x)) : ∀ (l : List Operand), RVL c (l.map ρ) (l.map ν)
  | [] => rfl
  | x :: l => ⟨_, _, rfl, h x, RVL_map h l⟩

section
variable {P : Program} {Y : TypeId → TyI} (hY : TysW P Y)

theorem pickT_ok {c : Cx} {t u r : T} {v x : Value} {b : Bool} (hv : RV c t v) (hx : RV c u x) (hm : pickT t u b = some r) : RV c r (if b then v else x) := by
  unfold pickT at hm
  split at hm
  · simp only [Option.some.injEq] at hm; subst hm; trivial
  · simp only [Option.some.injEq] at hm; subst hm; trivial
  · simp only [RV] at hv hx; subst hv; subst hx
    simp only [Option.some.injEq] at hm; subst hm
    cases b <;> rfl
  · split at hm
    case isFalse => cases hm
    rename_i hg
    simp only [Option.some.injEq] at hm; subst hm
    simp only [RV] at hx; subst hx
    subst hg
    rfl
  · split at hm
    case isFalse => cases hm
    rename_i hg
    simp only [Option.some.injEq] at hm; subst hm
    simp only [RV] at hv; subst hv
    subst hg
    rfl
  · simp only [Option.some.injEq] at hm; subst hm
    cases b
    · exact hx
    · exact hv

theorem sliceM_bad {t : TypeId} {x : T} {lo hi mx : Option T} (hb : (Y t).k = .bad) : sliceM Y t x lo hi mx = .fail := by
  unfold sliceM; rw [hb]; cases mx <;> rfl

include hY in
theorem op_ok {F : Fr} {c : Cx} {H : Heap} {bs : List Nat} {own : Nat} {o : Oper} {ρ : Operand → T} {ν : Operand → Value} {out : Out} (h : InvH F c H bs) (hρ : ∀ x, RV c (ρ x) (ν x))
    (hown : allocs Y o.op = true → H[own]? = some []) (hm : (opM Y ρ own o.type o.op).run H = some out) :
    OpOk P F c (H.after (allocs Y o.op) own out) out.v ((execOp ν o).run P c.w) := by
  have pureP : ∀ {r : Result Value} {s : Sem Value}, allocs Y o.op = false → DoneP F c H out (s.run P c.w) → execOp ν o = (do pure (.value (← s))) →
      OpOk P F c (H.after (allocs Y o.op) own out) out.v ((execOp ν o).run P c.w) := by
    intro r s ha ⟨h1, h2, h3⟩ he
    rw [he, ha]
    have : H.after false own out = H := by simp [Heap.after, h1, Heap.ups]
    rw [this]; exact OpOk.of_done h3
  have pureD : ∀ {s : Sem Value} {t : T}, out = { v := t } → allocs Y o.op = false → Done F c H t (s.run P c.w) → execOp ν o = (do pure (.value (← s))) →
      OpOk P F c (H.after (allocs Y o.op) own out) out.v ((execOp ν o).run P c.w) := by
    intro s t ho ha hd he
    subst ho
    rw [he, ha]
    exact OpOk.of_done hd
  have ofO : ∀ {x : Option T}, (RM.ofOpt (x.map fun v => ({ v } : Out))).run H = some out → ∃ t, x = some t ∧ out = { v := t } := by
    intro x hx
    rw [RM.run_ofOpt] at hx
    cases x with
    | none => cases hx
    | some t => simp only [Option.map_some, Option.some.injEq] at hx; exact ⟨t, rfl, hx.symm⟩
  obtain ⟨dst, op, type, pos, after, guard⟩ := o
  simp only at hm hown pureP pureD ⊢
  cases op with
  | move x =>
    simp [opM, RM.run] at hm; subst hm
    exact ⟨c, bs, .refl c, by simpa [Heap.after, allocs, Heap.ups] using h, .inl ⟨ν x, rfl, hρ x⟩⟩
  | assign x =>
    simp [opM, RM.run] at hm; subst hm
    exact ⟨c, bs, .refl c, by simpa [Heap.after, allocs, Heap.ups] using h, .inl ⟨ν x, rfl, RV_nilAs (hρ x)⟩⟩
  | nilCheck x =>
    have hx := hρ x
    simp only [opM] at hm
    cases hk : ρ x <;> simp only [hk] at hm hx <;> first | (simp [RM.run] at hm; done) | skip
    · simp [RM.run] at hm; subst hm
      obtain ⟨i, hi, hv⟩ := hx
      refine ⟨c, bs, .refl c, by simpa [Heap.after, allocs, Heap.ups] using h, .inl ⟨ν x, ?_, ⟨i, hi, hv⟩⟩⟩
      simp only [execOp, hv]; rfl
    · simp [RM.run] at hm; subst hm
      obtain ⟨a, row, hv, hr⟩ := hx
      refine ⟨c, bs, .refl c, by simpa [Heap.after, allocs, Heap.ups] using h, .inl ⟨ν x, ?_, ⟨a, row, hv, hr⟩⟩⟩
      simp only [execOp, hv]; rfl
  | pick cnd a b =>
    have hc := hρ cnd
    simp only [opM] at hm
    cases hk : ρ cnd <;> simp only [hk] at hm hc <;> first | (simp [RM.run] at hm; done) | skip
    rename_i t
    obtain ⟨r, hr, rfl⟩ := ofO hm
    refine ⟨c, bs, .refl c, by simpa [Heap.after, allocs, Heap.ups] using h, .inl ⟨_, ?_, pickT_ok (hρ a) (hρ b) hr⟩⟩
    simp only [RV] at hc
    simp only [execOp, hc, asBool, Sem.run_bind, Sem.run_pure, Result.andThen_ok]
  | alloc t =>
    simp only [opM] at hm
    obtain ⟨h1, h2⟩ := alloc_ok hY.ok h (hown rfl) hm
    have : H.after true own out = H.set own out.news := by simp [Heap.after, h1, Heap.ups]
    simp only [allocs, this]
    exact OpOk.of_done h2
  | box t x =>
    simp only [opM] at hm
    obtain ⟨h1, h2⟩ := box_ok (P := P) (elem := t) h (hρ x) (hown rfl) hm
    have : H.after true own out = H.set own out.news := by simp [Heap.after, h1, Heap.ups]
    simp only [allocs, this]
    exact OpOk.of_done h2
  | build t ps =>
    simp only [opM] at hm
    have hk : (Y t).k ≠ .bad := by
      intro hb; unfold buildM at hm; simp [hb, RM.run] at hm
    refine pureP (r := .halt .blocked c.w) rfl (build_ok hY.ok (vs := ps.map fun (i, x) => (i, ν x)) h ?_ (hY.pos rfl hk) (fun e he => hY.el (.inr he)) (fun fs hfs => hY.fld hfs) hm) rfl
    have := RVP_map hρ ps.toList
    simpa using this
  | buildSlice t n ps =>
    simp only [opM] at hm
    have hk : (Y t).k ≠ .bad := by
      intro hb; unfold buildSliceM at hm; simp [hb, RM.run] at hm
    obtain ⟨h1, h2⟩ := buildSlice_ok hY.ok (vs := ps.map fun (i, x) => (i, ν x)) h (by have := RVP_map hρ ps.toList; simpa using this) (hown rfl) (hY.pos rfl hk) hm
    have : H.after true own out = H.set own out.news := by simp [Heap.after, h1, Heap.ups]
    simp only [allocs, this]
    exact OpOk.of_done h2
  | load t a =>
    simp only [opM] at hm
    exact pureP (r := .halt .blocked c.w) rfl (load_ok hY.ok h (hρ a) hm) rfl
  | store t a v =>
    simp only [opM] at hm
    obtain ⟨h1, h2, c', bs', hr, hle, hi⟩ := store_ok hY.ok h (hρ a) (RV_nilAs (hρ v)) hm
    refine ⟨c', bs', hle, by simpa [Heap.after, allocs] using hi, .inr ⟨?_, h1⟩⟩
    simp only [execOp, Sem.run_bind, hr, Result.andThen_ok, Sem.run_pure]
  | fieldAddr st x f =>
    simp only [opM] at hm
    have hk : (Y st).k ≠ .bad := by
      intro hb; unfold fieldAddrM at hm
      split at hm <;> simp [hb, RM.run] at hm
    exact pureP (r := .halt .blocked c.w) rfl (fieldAddr_ok hY.ok h (hρ x) (hY.pos rfl hk) (fun fs y hfs hy => hY.fld hfs y (List.mem_of_getElem? hy)) hm) rfl
  | field t x f =>
    simp only [opM] at hm
    have hk : (Y t).k ≠ .bad := by
      intro hb; unfold fieldM at hm; simp [hb, RM.run] at hm
    exact pureP (r := .halt .blocked c.w) rfl (field_ok hY.ok h (hρ x) (hY.pos rfl hk) hm) rfl
  | indexAddr t x i =>
    simp only [opM] at hm
    have hk : (Y t).k ≠ .bad := by
      intro hb; unfold indexAddrM at hm; simp [hb, RM.run] at hm
    exact pureP (r := .halt .blocked c.w) rfl (indexAddr_ok hY.ok h (hρ x) (hρ i) (hY.pos rfl hk) (fun e he => hY.el he) hm) rfl
  | index t x i =>
    simp only [opM] at hm
    have hk : (Y t).k ≠ .bad := by
      intro hb; unfold indexM at hm; simp [hb, RM.run] at hm
    exact pureP (r := .halt .blocked c.w) rfl (index_ok hY.ok h (hρ x) (hρ i) (hY.pos rfl hk) (fun e he => hY.el (.inr he)) hm) rfl
  | binOp op t x y yt =>
    simp only [opM] at hm
    have main : ∀ {r : T}, binTy Y op t (ρ x) (ρ y) = some r → (ρ x = .nilI → ρ y = .nilI → ∃ k, y = .const k) → out = { v := r } →
        OpOk P F c (H.after (allocs Y (.binOp op t x y yt)) own out) out.v ((execOp ν ⟨dst, .binOp op t x y yt, type, pos, after, guard⟩).run P c.w) := by
      intro r hr hnil ho
      by_cases hb : (Y t).k = .bad
      · have hr' : binT op (ρ x) (ρ y) = some r := by
          unfold binTy at hr; simpa [hb] using hr
        obtain ⟨hd, g1, g2⟩ := bin_ok (P := P) (ty := t) h (hρ x) (hρ y) hr'
        exact pureD (s := do eqGuard op t x y (ν x) (ν y); Go.binOp op t (ν x) (ν y)) ho rfl (by
          simp only [Sem.run_bind, run_eqGuard_int g1 g2, Result.andThen_ok]; exact hd) rfl
      · exact pureD ho rfl (binTy_ok hY.ok (ox := x) (oy := y) h (hρ x) (hρ y) (hY.pos rfl hb) hnil hr) rfl
    split at hm
    · rename_i h1 h2
      split at hm
      · obtain ⟨r, hr, ho⟩ := ofO hm
        exact main (by rw [h1, h2]; exact hr) (fun _ _ => ⟨_, rfl⟩) ho
      · simp [RM.run] at hm
    · rename_i hne
      obtain ⟨r, hr, ho⟩ := ofO hm
      exact main hr (fun e1 e2 => absurd e2 (hne e1)) ho
  | unOp op t x =>
    simp only [opM] at hm
    obtain ⟨r, hr, ho⟩ := ofO hm
    exact pureD ho rfl (un_ok (P := P) h (hρ x) hr) rfl
  | slice t x lo hi mx =>
    simp only [opM] at hm
    have hk : (Y t).k ≠ .bad := by
      intro hb; rw [sliceM_bad hb] at hm; cases hm
    exact pureP (r := .halt .blocked c.w) rfl (slice_ok hY.ok h (hρ x) (RV_none hρ) (RV_none hρ) (RV_none hρ) (hY.pos rfl hk) (fun e he => hY.el he) hm) rfl
  | makeSlice t n m =>
    simp only [opM] at hm
    have hk : (Y t).k ≠ .bad := by
      intro hb; unfold makeSliceM at hm; simp [hb, RM.run] at hm
    obtain ⟨h1, h2⟩ := makeSlice_ok hY.ok h (hρ n) (hρ m) (hown rfl) (hY.pos rfl hk) hm
    have : H.after true own out = H.set own out.news := by simp [Heap.after, h1, Heap.ups]
    simp only [allocs, this]
    exact OpOk.of_done h2
  | makeFunc f first caps =>
    simp only [opM] at hm
    cases f <;> simp only at hm <;> first | (simp [RM.run] at hm; done) | skip
    simp [RM.run] at hm; subst hm
    refine ⟨c, bs, .refl c, by simpa [Heap.after, allocs, Heap.ups] using h, .inl ⟨_, rfl, ⟨_, _, rfl, ?_, ?_⟩⟩⟩
    · have := RVL_map hρ first.toList; simpa using this
    · have := RVL_map hρ caps.toList; simpa using this
  | extract x i =>
    simp only [opM] at hm
    obtain ⟨r, hr, ho⟩ := ofO hm
    exact pureD ho rfl (extract_ok (P := P) h (hρ x) hr) rfl
  | convert src dst x =>
    simp only [opM] at hm
    have hk1 : (Y src).k ≠ .bad := by
      intro hb; unfold convertM at hm; simp [hb, RM.run] at hm
    have hk2 : (Y dst).k ≠ .bad := by
      intro hb; unfold convertM at hm; simp [hb, RM.run] at hm
    obtain ⟨h1, h2⟩ := convert_ok hY.ok h (hρ x) hown (hY.pos rfl hk1) (hY.pos rfl hk2) (fun e he => he.elim (fun he => hY.el (.inl he)) (fun he => hY.el (.inl he))) hm
    have : H.after (allocs Y (.convert src dst x)) own out = if sumT (Y dst).k then H.set own out.news else H := by
      simp only [Heap.after, h1, Heap.ups, allocs]
    rw [this]
    exact OpOk.of_done h2
  | call cl =>
    obtain ⟨callee, args, argTypes⟩ := cl
    cases callee with
    | value f => simp [opM, RM.run] at hm
    | invoke r m => simp [opM, RM.run] at hm
    | builtin b =>
      simp only [opM] at hm
      have hres : ∀ (as : Array Value), ∃ cs, execOp ν ⟨dst, .call ⟨.builtin b, args, argTypes⟩, type, pos, after, guard⟩ = builtin b argTypes type cs (args.map ν) := by
        intro _
        refine ⟨args.map fun | .const _ => true | _ => false, ?_⟩
        rfl
      obtain ⟨cs, hres⟩ := hres #[]
      split at hm
      · rename_i x t ha ht _
        obtain ⟨r, hr, ho⟩ := ofO hm
        have hk : (Y t).k ≠ .bad := by
          intro hb; unfold lenT at hr; rw [hb] at hr; split at hr <;> cases hr
        have e1 : args = #[x] := by apply Array.ext'; simpa using ha
        have e2 : argTypes = #[t] := by apply Array.ext'; simpa using ht
        refine pureD (s := Builtin.len_ argTypes type (args.map ν)) ho rfl ?_ hres
        subst e1; subst e2
        rw [show Array.map ν #[x] = #[ν x] by simp]
        exact len_ok hY.ok h (hρ x) (hY.pos rfl hk) hr
      · rename_i x t ha ht _
        obtain ⟨r, hr, ho⟩ := ofO hm
        have hk : (Y t).k ≠ .bad := by
          intro hb; unfold capT at hr; rw [hb] at hr; split at hr <;> cases hr
        have e1 : args = #[x] := by apply Array.ext'; simpa using ha
        have e2 : argTypes = #[t] := by apply Array.ext'; simpa using ht
        refine pureD (s := Builtin.cap_ argTypes type (args.map ν)) ho rfl ?_ hres
        subst e1; subst e2
        rw [show Array.map ν #[x] = #[ν x] by simp]
        exact cap_ok hY.ok h (hρ x) (hY.pos rfl hk) hr
      · rename_i x y t u ha ht _
        cases hint : (Y u).k.isInt with
        | true =>
        rw [hint] at hm
        simp only [appM] at hm
        obtain ⟨ik, hik⟩ : ∃ ik, (Y u).k = .int ik := by
          cases hku : (Y u).k <;> rw [hku] at hint <;> simp [Ty.isInt] at hint
          exact ⟨_, rfl⟩
        have hk : (Y t).k ≠ .bad := by
          intro hb; unfold appendZM at hm; simp [hb, RM.run] at hm
        have hku : (Y u).k ≠ .bad := by rw [hik]; intro hb; cases hb
        have e1 : args = #[x, y] := by apply Array.ext'; simpa using ha
        have e2 : argTypes = #[t, u] := by apply Array.ext'; simpa using ht
        have hd := appendZ_ok (res := type) hY.ok h (hρ x) (hρ y) (hown rfl) (hY.pos rfl hk) (hY.pos rfl hku) hik hm
        rw [hres]
        subst e1; subst e2
        rw [show Array.map ν #[x, y] = #[ν x, ν y] by simp]
        exact OpOk.of_done (s := Builtin.append_ #[t, u] type #[ν x, ν y]) hd
        | false =>
        rw [hint] at hm
        simp only [appM] at hm
        have hk : (Y t).k ≠ .bad := by
          intro hb; unfold appendM at hm; simp [hb, RM.run] at hm
        have hku : (Y u).k ≠ .bad := by
          intro hb
          unfold appendM at hm
          split at hm
          · simp only [RM.run_bind] at hm
            split at hm
            · split at hm
              · rename_i hs
                unfold srcM at hs
                rw [hb] at hs
                simp [RM.run] at hs
              · cases hm
            · cases hm
          · simp [RM.run] at hm
        have e1 : args = #[x, y] := by apply Array.ext'; simpa using ha
        have e2 : argTypes = #[t, u] := by apply Array.ext'; simpa using ht
        have hd := append_ok (res := type) hY.ok h (hρ x) (hρ y) (hown rfl) (hY.pos rfl hk) (hY.pos rfl hku) hm
        rw [hres]
        subst e1; subst e2
        rw [show Array.map ν #[x, y] = #[ν x, ν y] by simp]
        exact OpOk.of_done (s := Builtin.append_ #[t, u] type #[ν x, ν y]) hd
      · rename_i x t ha ht _
        have e1 : args = #[x] := by apply Array.ext'; simpa using ha
        have e2 : argTypes = #[t] := by apply Array.ext'; simpa using ht
        have hk : (Y t).k ≠ .bad := by
          intro hb; unfold clearM at hm; simp [hb, RM.run] at hm
        obtain ⟨h1, hd⟩ := clear_ok (res := type) hY.ok h (hρ x) (hY.pos rfl hk) (fun e he => hY.el (.inl he)) hm
        rw [hres]
        subst e1; subst e2
        rw [show Array.map ν #[x] = #[ν x] by simp]
        exact OpOk.of_done (s := Builtin.clear_ #[t] type #[ν x]) hd
      · rename_i x y ha _
        obtain ⟨r, hr, ho⟩ := ofO hm
        have e1 : args = #[x, y] := by apply Array.ext'; simpa using ha
        refine pureD (s := Builtin.max_ argTypes type (args.map ν)) ho rfl ?_ hres
        subst e1
        have := mnmx_ok (P := P) (mx := true) (a := argTypes) (t0 := type) h (hρ x) (hρ y) hr
        simpa using this
      · rename_i x y ha _
        obtain ⟨r, hr, ho⟩ := ofO hm
        have e1 : args = #[x, y] := by apply Array.ext'; simpa using ha
        refine pureD (s := Builtin.min_ argTypes type (args.map ν)) ho rfl ?_ hres
        subst e1
        have := mnmx_ok (P := P) (mx := false) (a := argTypes) (t0 := type) h (hρ x) (hρ y) hr
        simpa using this
      · simp [RM.run] at hm
  | _ => simp [opM, RM.run] at hm
end
end Go.Vm

namespace Go.Vm

/-! ### what passes a call -/

-- nothing that is another's, no reference into the heap: what may be given away
mutual
def T.clo : T → Bool
  | .int .. | .bool _ | .str _ | .nilI | .nilP | .nils _ | .err | .any => true
  | .nd l => cloL l
  | .sl g l => (g != .b) && cloL l
  | .ow _ l => cloL l
  | _ => false
def cloL : List T → Bool
  | [] => true
  | t :: l => t.clo && cloL l
end

-- the same, borrowed slices too
mutual
def T.cloA : T → Bool
  | .int .. | .bool _ | .str _ | .nilI | .nilP | .nils _ | .err | .any => true
  | .nd l => cloAL l
  | .sl _ l => cloAL l
  | .ow _ l => cloAL l
  | _ => false
def cloAL : List T → Bool
  | [] => true
  | t :: l => t.cloA && cloAL l
end
mutual
theorem clo_A : ∀ t : T, t.clo = true → t.cloA = true
  | .nd l, h => cloL_A l h
  | .sl g l, h => by
    simp only [T.clo, Bool.and_eq_true] at h
    exact cloL_A l h.2
  | .ow _ l, h => cloL_A l h
  | .int .., _ => rfl
  | .bool _, _ => rfl
  | .str _, _ => rfl
  | .nilI, _ => rfl
  | .nilP, _ => rfl
  | .err, _ => rfl
  | .any, _ => rfl
  | .nils _, _ => rfl
  | .ref .., h => by simp [T.clo] at h
  | .vr .., h => by simp [T.clo] at h
  | .ptr .., h => by simp [T.clo] at h
  | .fp _, h => by simp [T.clo] at h
  | .io _, h => by simp [T.clo] at h
  | .fn .., h => by simp [T.clo] at h
  | .tup _, h => by simp [T.clo] at h
  | .undef, h => by simp [T.clo] at h
  | .opt .., h => by simp [T.clo] at h
theorem cloL_A : ∀ l : List T, cloL l = true → cloAL l = true
  | [], _ => rfl
  | t :: l, h => by
    simp only [cloL, Bool.and_eq_true] at h
    simp only [cloAL, Bool.and_eq_true]
    exact ⟨clo_A t h.1, cloL_A l h.2⟩
end

/-- the tags of a tree, turned: at a call the lent blocks of the caller are region 0 of the callee -/
def upT : Tag → Tag
  | .b => .r 0
  | .s => .s
  | .r k => .r (k + 1)
def dnT : Tag → Tag
  | .b => .b
  | .s => .s
  | .r 0 => .b
  | .r (k + 1) => .r k
mutual
def T.tg (τ : Tag → Tag) : T → T
  | .nd l => .nd (tgL τ l)
  | .sl g l => .sl (τ g) (tgL τ l)
  | .ow es l => .ow es (tgL τ l)
  | .tup l => .tup (tgL τ l)
  | .io t => .io (t.tg τ)
  | .fp t => .fp (t.tg τ)
  | t => t
def tgL (τ : Tag → Tag) : List T → List T
  | [] => []
  | t :: l => t.tg τ :: tgL τ l
end
theorem tgL_len (τ : Tag → Tag) : ∀ l : List T, (tgL τ l).length = l.length
  | [] => rfl
  | t :: l => by simp [tgL, tgL_len τ l]

-- lent: all slices another's; 'k': what a place is lent as
mutual
def lendA (k : T → RM T) : T → RM T
  | .int a b => .pure (.int a b)
  | .bool b => .pure (.bool b)
  | .str s => .pure (.str s)
  | .nilI => .pure .nilI
  | .nilP => .pure .nilP
  | .err => .pure .err
  | .any => .pure .any
  | .nils _ => .pure (.sl .b [])
  | .nd l => (lendAL k l).bind fun l => .pure (.nd l)
  | .sl _ l => (lendAL k l).bind fun l => .pure (.sl .b l)
  | .ow _ l => (lendAL k l).bind fun l => .pure (.sl .b l)
  | .fp t => (lendA k t).bind fun t => .pure (.fp t)
  | .fn f a b => (lendAL k a).bind fun a => (lendAL k b).bind fun b => .pure (.fn f a b)
  | .ref e j off len => (elemsM (.ref e j off len)).bind fun l => (lendKL k l).bind fun l => .pure (.sl .b l)
  | .vr e j p o es off len => (elemsM (.vr e j p o es off len)).bind fun l => (lendKL k l).bind fun l => .pure (.sl .b l)
  | .ptr e j p o => .get e j fun ob => (subM p o ob).bind fun u => (k u).bind fun t => .pure (.fp t)
  | _ => .fail
def lendAL (k : T → RM T) : List T → RM (List T)
  | [] => .pure []
  | t :: l => (lendA k t).bind fun t => (lendAL k l).bind fun l => .pure (t :: l)
def lendKL (k : T → RM T) : List T → RM (List T)
  | [] => .pure []
  | t :: l => (k t).bind fun t => (lendKL k l).bind fun l => .pure (t :: l)
end

def lendM : Nat → T → RM T
  | 0 => fun _ => .fail
  | n + 1 => lendA (lendM n)

-- given away: what is one's own goes with it
mutual
def giveS : T → Heap → Option (T × Heap)
  | .int a b, H => some (.int a b, H)
  | .bool b, H => some (.bool b, H)
  | .str s, H => some (.str s, H)
  | .nilI, H => some (.nilI, H)
  | .nilP, H => some (.nilP, H)
  | .err, H => some (.err, H)
  | .any, H => some (.any, H)
  | .nils es, H => some (.ow es [], H)
  | .nd l, H => match giveSL l H with | some x => some (.nd x.1, x.2) | none => none
  | .sl g l, H => if cloAL l = true then some (.sl g l, H) else none
  | .ow es l, H => if cloAL l = true then some (.ow es l, H) else none
  | .ref e j off len, H => match H.at e j with
    | some (.arr es l false) => if off = 0 ∧ len = l.length ∧ cloAL l = true then some (.ow es l, H.put e j .gone) else none
    | _ => none
  | _, _ => none
def giveSL : List T → Heap → Option (List T × Heap)
  | [], H => some ([], H)
  | t :: l, H => match giveS t H with
    | some x => match giveSL l x.2 with | some y => some (x.1 :: y.1, y.2) | none => none
    | none => none
end

/-- within '.io': an array that is handed over by a slice of it -/
def T.asArr : T → Option (Nat × List T)
  | .tup [.ow es l] => some (es, l)
  | _ => none

-- what comes: its own slices become objects of entry e, from place j on
mutual
def thawA (e : Nat) : T → Nat → T × List Ob
  | .nd l, j => let x := thawAL e l j; (.nd x.1, x.2)
  | .ow es l, j => (.ref e j 0 l.length, [.arr es l false])
  | .io t, j => match t.asArr with
    | some y => (.ref e j 0 y.2.length, [.arr y.1 y.2 false])
    | none => let x := thawA e t (j + 1); (.ptr e j [] 0, .var x.1 :: x.2)
  | .tup l, j => let x := thawAL e l j; (.tup x.1, x.2)
  | .fp (.io u), j => let x := thawA e u (j + 1); (.ptr e j [] 0, .var x.1 :: x.2)
  | t, _ => (t, [])
def thawAL (e : Nat) : List T → Nat → List T × List Ob
  | [], _ => ([], [])
  | t :: l, j => let x := thawA e t j; let y := thawAL e l (j + x.2.length); (x.1 :: y.1, x.2 ++ y.2)
end

/-! ### what a contract says -/

/-- what is handed over and comes back: a variable, or an array -/
def RIo (c : Cx) (t : T) (i : Info) (v : Value) (bs : List Nat) : Prop := match t.asArr with
  | some y => (∃ A, v = .slice A y.2.length i.cap ∧ (i.cap = 0 ∨ A = some i.addr)) ∧ HArr c i y.1 y.2 bs
  | none => v = .pointer (some i.addr) ∧ HVar c i t bs
def HOut (c : Cx) (i : Info) (t : T) (bs : List Nat) : Prop := match t.asArr with
  | some y => HArr c i y.1 y.2 bs
  | none => HVar c i t bs
def obOf (t : T) : Ob := match t.asArr with
  | some y => .arr y.1 y.2 false
  | none => .var t
def T.cloO (t : T) : Bool := match t.asArr with
  | some y => cloL y.2
  | none => t.clo
def cloOL : List T → Bool
  | [] => true
  | t :: l => t.cloO && cloOL l

theorem asArr_clo {t : T} (h : t.clo = true) : t.asArr = none := by
  cases t with
  | tup l => simp [T.clo] at h
  | _ => rfl
def T.cloOA (t : T) : Bool := match t.asArr with
  | some y => cloAL y.2
  | none => t.cloA
theorem asArr_cloA {t : T} (h : t.cloA = true) : t.asArr = none := by
  cases t with
  | tup l => simp [T.cloA] at h
  | _ => rfl
theorem cloA_cloOA {t : T} (h : t.cloA = true) : t.cloOA = true := by simp [T.cloOA, asArr_cloA h, h]
theorem clo_cloO {t : T} (h : t.clo = true) : t.cloO = true := by simp [T.cloO, asArr_clo h, h]
theorem asArr_some {t : T} {y : Nat × List T} (h : t.asArr = some y) : t = .tup [.ow y.1 y.2] := by
  unfold T.asArr at h
  split at h
  · cases h; rfl
  · cases h
theorem HOut_ob {c : Cx} {e j : Nat} {i : Info} {t : T} {bs : List Nat} (hm : c.μ e j = some i) (h : HOut c i t bs) : HOb c e j (obOf t) bs := by
  cases ha : t.asArr with
  | some y => simp only [HOut, obOf, ha] at h ⊢; exact ⟨i, hm, h⟩
  | none => simp only [HOut, obOf, ha] at h ⊢; exact ⟨i, hm, h⟩
theorem RIo_out {c : Cx} {i : Info} {t : T} {v : Value} {bs : List Nat} (h : RIo c t i v bs) : HOut c i t bs := by
  cases ha : t.asArr with
  | some y => simp only [HOut, RIo, ha] at h ⊢; exact h.2
  | none => simp only [HOut, RIo, ha] at h ⊢; exact h.2

/-- a value that is handed over, with the blocks that go with it and the place of a variable that is handed over -/
def RX (c : Cx) : T → Option Info → Value → List Nat → Prop
  | .io t, i, v, bs => ∃ i', i = some i' ∧ RIo c t i' v bs
  | .nd l, i, v, bs => i = none ∧ ∃ cs, v = .agg cs ∧ RCL c l cs.toList bs
  | .ow es l, i, v, bs => i = none ∧ RC c (.ow es l) [v] bs
  | .fp (.io u), i, v, bs => i = none ∧ ∃ i', v = .pointer (some i'.addr) ∧ HVar c i' u bs
  | t, i, v, bs => i = none ∧ bs = [] ∧ RV c t v

def RXL (c : Cx) : List T → List (Option Info) → List Value → List Nat → Prop
  | [], is, vs, bs => is = [] ∧ vs = [] ∧ bs = []
  | t :: l, is, vs, bs => ∃ i is' v vs' b1 b2, is = i :: is' ∧ vs = v :: vs' ∧ bs = b1 ++ b2 ∧ RX c t i v b1 ∧ RXL c l is' vs' b2


mutual
def RN (c : Cx) : T → List (Option Info) → List Value → List Nat → Prop
  | .io t, is, cs, bs => ∃ i v, is = [some i] ∧ cs = [v] ∧ t.asArr.isSome = true ∧ RIo c t i v bs
  | .nd l, is, cs, bs => RNL c l is cs bs
  | t, is, cs, bs => is = [] ∧ RC c t cs bs
def RNL (c : Cx) : List T → List (Option Info) → List Value → List Nat → Prop
  | [], is, cs, bs => is = [] ∧ cs = [] ∧ bs = []
  | t :: l, is, cs, bs => ∃ i1 i2 c1 c2 b1 b2, is = i1 ++ i2 ∧ cs = c1 ++ c2 ∧ bs = b1 ++ b2 ∧ RN c t i1 c1 b1 ∧ RNL c l i2 c2 b2
end
mutual
def T.hasIo : T → Bool
  | .io _ => true
  | .nd l => hasIoL l
  | _ => false
def hasIoL : List T → Bool
  | [] => false
  | t :: l => t.hasIo || hasIoL l
end
mutual
def T.clN : T → Bool
  | .io t => t.asArr.isSome && t.cloOA
  | .nd l => clNL l
  | t => t.cloA
def clNL : List T → Bool
  | [] => true
  | t :: l => t.clN && clNL l
end
mutual
theorem clo_noIo : ∀ t : T, t.clo = true → t.hasIo = false
  | .nd l, h => cloL_noIo l h
  | .io _, h => by simp [T.clo] at h
  | .int .., _ | .bool _, _ | .str _, _ | .nilI, _ | .nilP, _ | .err, _ | .any, _ | .nils _, _ | .sl .., _ | .ow .., _ | .ref .., _ | .vr .., _ | .ptr .., _ | .fp _, _ | .fn .., _ | .tup _, _ | .undef, _ | .opt .., _ => rfl
theorem cloL_noIo : ∀ l : List T, cloL l = true → hasIoL l = false
  | [], _ => rfl
  | t :: l, h => by
    simp only [cloL, Bool.and_eq_true] at h
    simp only [hasIoL, clo_noIo t h.1, cloL_noIo l h.2, Bool.or_self]
end

/-- an argument -/
def RA (c : Cx) (t : T) (is : List (Option Info)) (v : Value) (bs : List Nat) : Prop :=
  (∃ i, is = [i] ∧ RX c t i v bs) ∨ (∃ l cs, t = .nd l ∧ v = .agg cs ∧ RNL c l is cs.toList bs ∧ hasIoL l = true)
def RAL (c : Cx) : List T → List (Option Info) → List Value → List Nat → Prop
  | [], is, vs, bs => is = [] ∧ vs = [] ∧ bs = []
  | t :: l, is, vs, bs => ∃ i1 is' v vs' b1 b2, is = i1 ++ is' ∧ vs = v :: vs' ∧ bs = b1 ++ b2 ∧ RA c t i1 v b1 ∧ RAL c l is' vs' b2
theorem RAL_of {c : Cx} : ∀ {l : List T} {is : List (Option Info)} {vs : List Value} {bs : List Nat}, RXL c l is vs bs → RAL c l is vs bs
  | [], _, _, _, h => h
  | _ :: _, _, _, _, ⟨i, is', v, vs', b1, b2, e1, e2, e3, h1, h2⟩ => ⟨[i], is', v, vs', b1, b2, e1, e2, e3, .inl ⟨i, rfl, h1⟩, RAL_of h2⟩

/-- results: one value, or a tuple -/
def RXR (c : Cx) : T → List (Option Info) → Value → List Nat → Prop
  | .tup l, is, v, bs => ∃ vs, v = .tuple vs ∧ RXL c l is vs.toList bs
  | t, is, v, bs => ∃ i, is = [i] ∧ RX c t i v bs

/-- what the variables that were handed over hold behind the call -/
def ROuts (c : Cx) : List T → List (Option Info) → List Nat → Prop
  | [], is, bs => (∀ i ∈ is, i = none) ∧ bs = []
  | t :: l, is, bs => match is with
    | [] => False
    | none :: is' => ROuts c (t :: l) is' bs
    | some i :: is' => ∃ b1 b2, bs = b1 ++ b2 ∧ HOut c i t b1 ∧ ROuts c l is' b2

/-- a value that may leave an activation: closed, or a pointer to a variable that goes with it -/
def T.clP : T → Bool
  | .fp (.io u) => u.clo
  | t => t.clo
def clPL : List T → Bool
  | [] => true
  | t :: l => t.clP && clPL l
def T.clPA : T → Bool
  | .fp (.io u) => u.cloA
  | t => t.cloA
def clPAL : List T → Bool
  | [] => true
  | t :: l => t.clPA && clPAL l
theorem clP_of {t : T} (h : t.clo = true) : t.clP = true := by
  cases t with
  | fp u => simp [T.clo] at h
  | _ => exact h
theorem clPL_of : ∀ {l : List T}, cloL l = true → clPL l = true
  | [], _ => rfl
  | t :: l, h => by
    simp only [cloL, Bool.and_eq_true] at h
    simp only [clPL, Bool.and_eq_true]
    exact ⟨clP_of h.1, clPL_of h.2⟩

mutual
def ioSz : T → List Nat
  | .io t => [t.size]
  | .nd l => ioSizes l
  | _ => []
def ioSizes : List T → List Nat
  | [] => []
  | t :: l => ioSz t ++ ioSizes l
end

structure Post (c : Cx) (bs : List Nat) (c' : Cx) (bs' : List Nat) : Prop where
  nd : bs'.Nodup
  dz : ∀ b ∈ bs', ¬ c'.Z b
  zz : ∀ b, c'.Zs b → c'.Z b
  zl : ∀ b, c'.Z b → b < c'.w.heap.size
  bl : ∀ b ∈ bs', b < c'.w.heap.size
  fs : c.w.heap.size ≤ c'.w.heap.size
  ff : ∀ b, b < c.w.heap.size → b ∉ bs → c'.w.heap[b]? = c.w.heap[b]?
  fb : ∀ b ∈ bs', b ∈ bs ∨ c.w.heap.size ≤ b
  fz : ∀ b, c'.Zs b → c.Zs b ∨ b ∈ bs ∨ c.w.heap.size ≤ b
  fZ : ∀ b, c'.Z b → c.Z b ∨ c'.Zs b
  uz : ∀ b, c.Z b → c'.Z b
  us : ∀ b, c.Zs b → c'.Zs b
  kp : Keep c.w c'.w
  rr : c'.R = c.R

structure Pre (c : Cx) (bs : List Nat) : Prop where
  mu : ∀ e j, c.μ e j = none
  nd : bs.Nodup
  dz : ∀ b ∈ bs, ¬ c.Z b
  zz : ∀ b, c.Zs b → c.Z b
  zl : ∀ b, c.Z b → b < c.w.heap.size
  bl : ∀ b ∈ bs, b < c.w.heap.size

/-- THE CONTRACT: called with such arguments, it returns such a result, and the variables that were handed over hold 'outs' -/
def CallR (P : Program) (f : FuncId) (args outs : List T) (res : T) : Prop :=
  (∃ fn, P.funcs[f]? = some fn ∧ fn.body.isSome = true ∧ fn.name ≠ "runtime.NumGoroutine") ∧ outs.map T.size = ioSizes args ∧
  ∀ (c : Cx) (is : List (Option Info)) (vs : List Value) (bs : List Nat), Pre c bs → RAL c args is vs bs →
    Calls P f vs.toArray c.w fun e w' => ∃ r c' ris b1 b2, e = .returned r ∧ c'.w = w' ∧ (∀ e j, c'.μ e j = none) ∧ Post c bs c' (b1 ++ b2) ∧ RXR c' res ris r b1 ∧ ROuts c' outs is b2

end Go.Vm

namespace Go.Vm

/-! ### lending -/
def Cx.lent (c : Cx) (bs : List Nat) : Cx := { w := c.w, Z := fun b => c.Z b ∨ b ∈ bs, Zs := c.Zs, μ := fun _ _ => none, R := fun k b => match k with | 0 => c.Z b | k + 1 => c.R k b ∧ c.Z b }

theorem lent_zz {F : Fr} {c : Cx} {H : Heap} {bs : List Nat} (h : InvH F c H bs) {g : Tag} {b : Nat} (hz : c.zz g b) : (c.lent bs).zz .b b := .inl (zz_Z h hz)

theorem RM.bind_some {α β : Type} {H : Heap} {m : RM α} {f : α → RM β} {b : β} (h : (m.bind f).run H = some b) : ∃ a, m.run H = some a ∧ (f a).run H = some b := by
  rw [RM.run_bind] at h
  cases hm : m.run H with
  | none => simp [hm] at h
  | some a => simp only [hm] at h; exact ⟨a, rfl, h⟩

theorem RM.pure_some {α : Type} {H : Heap} {a b : α} (h : (RM.pure a : RM α).run H = some b) : a = b := by simpa [RM.run] using h

def KOk (F : Fr) (c : Cx) (H : Heap) (bs : List Nat) (k : T → RM T) : Prop :=
  ∀ t t' cs b, (∀ x ∈ b, x ∈ bs) → RC c t cs b → (k t).run H = some t' → RC (c.lent bs) t' cs []

theorem lendKL_rows {c : Cx} {F : Fr} {H : Heap} {bs : List Nat} {k : T → RM T} (hk : KOk F c H bs k) {es : Nat} : ∀ (l : List T) {l' : List T} {cs : List Value} {b : List Nat}, (∀ x ∈ b, x ∈ bs) → RRows c es l cs b →
    (lendKL k l).run H = some l' → RRows (c.lent bs) es l' cs [] ∧ l'.length = l.length
  | [], l', cs, b, _, r, hm => by
    have := RM.pure_some hm; subst this
    exact ⟨⟨r.1, rfl⟩, rfl⟩
  | t :: l, l', cs, b, hb, r, hm => by
    obtain ⟨t', h1, hm⟩ := RM.bind_some hm
    obtain ⟨l2, h2, hm⟩ := RM.bind_some hm
    have := RM.pure_some hm; subst this
    obtain ⟨c1, c2, b1, b2, rfl, rfl, e, r1, r2⟩ := r
    obtain ⟨r3, hl⟩ := lendKL_rows hk l (fun x hx => hb x (by simp [hx])) r2 h2
    exact ⟨⟨c1, c2, [], [], rfl, rfl, e, hk t t' c1 b1 (fun x hx => hb x (by simp [hx])) r1 h1, r3⟩, by simp [hl]⟩

section
variable {F : Fr} {c : Cx} {H : Heap} {bs : List Nat} {k : T → RM T} (h : InvH F c H bs) (hk : KOk F c H bs k)
include h hk

theorem lend_slice {t : T} {v : Value} {l l' : List T} (hv : RV c t v) (he : (elemsM t).run H = some l) (hl : (lendKL k l).run H = some l') : RC (c.lent bs) (.sl .b l') [v] [] := by
  obtain ⟨A, kk, rfl, hlk, hr⟩ := elems_ok h hv he
  have hlen : l'.length = l.length ∧ (l' = [] ∨ ∃ a es rows, A = some a ∧ a.spot = none ∧ 0 < es ∧ RRows (c.lent bs) es l' rows [] ∧ CellsAt c.w a rows ∧ (c.lent bs).Z a.block) := by
    rcases hr with rfl | ⟨a, es, rows, b, rfl, ha, hes, hrow, hc, hblk, hb⟩
    · have := RM.pure_some hl; subst this; exact ⟨rfl, .inl rfl⟩
    · obtain ⟨r, e⟩ := lendKL_rows hk l hb hrow hl
      exact ⟨e, .inr ⟨a, es, rows, rfl, ha, hes, r, hc, hblk.symm.imp id id⟩⟩
  exact ⟨rfl, A, kk, by rw [hlen.1], by rw [hlen.1]; exact hlk, hlen.2⟩

theorem lend_ptr {e j o : Nat} {p : List Nat} {v : Value} {ob : Ob} {u t : T} (hv : RV c (.ptr e j p o) v) (ha : H.at e j = some ob) (hs : (subM p o ob).run H = some u) (hu : (k u).run H = some t) :
    RC (c.lent bs) (.fp t) [v] [] := by
  obtain ⟨i, hi, rfl⟩ := hv
  obtain ⟨i', y, b2, hi', hr, hc, hblk, hb⟩ := sub_ok h ha hs
  rw [hi] at hi'; cases hi'
  refine ⟨rfl, _, y, rfl, rfl, hk u t y b2 hb hr hu, hc, ?_⟩
  rcases hblk with hblk | hz
  · exact .inr hblk
  · exact .inl (h.zz _ hz)

mutual
theorem lendA_rc : ∀ (t : T) {t' : T} {cs : List Value} {b : List Nat}, (∀ x ∈ b, x ∈ bs) → RC c t cs b → (lendA k t).run H = some t' → RC (c.lent bs) t' cs []
  | .int .., t', cs, b, _, r, hm => by have := RM.pure_some hm; subst this; exact ⟨r.1, rfl⟩
  | .bool .., t', cs, b, _, r, hm => by have := RM.pure_some hm; subst this; exact ⟨r.1, rfl⟩
  | .str .., t', cs, b, _, r, hm => by have := RM.pure_some hm; subst this; exact ⟨r.1, rfl⟩
  | .nilI, t', cs, b, _, r, hm => by have := RM.pure_some hm; subst this; exact ⟨r.1, rfl⟩
  | .nilP, t', cs, b, _, r, hm => by have := RM.pure_some hm; subst this; exact ⟨r.1, rfl⟩
  | .err, t', cs, b, _, r, hm => by have := RM.pure_some hm; subst this; exact ⟨rfl, r.2⟩
  | .any, t', cs, b, _, r, hm => by have := RM.pure_some hm; subst this; exact ⟨rfl, r.2⟩
  | .nils _, t', cs, b, _, r, hm => by
    have := RM.pure_some hm; subst this
    obtain ⟨_, A, rfl⟩ := r
    exact ⟨rfl, A, 0, rfl, Nat.le_refl _, .inl rfl⟩
  | .nd l, t', cs, b, hb, r, hm => by
    obtain ⟨l', h1, hm⟩ := RM.bind_some hm
    have := RM.pure_some hm; subst this
    exact lendAL_rc l hb r h1
  | .sl g l, t', cs, b, hb, r, hm => by
    obtain ⟨l', h1, hm⟩ := RM.bind_some hm
    have := RM.pure_some hm; subst this
    obtain ⟨rfl, A, kk, rfl, hlk, hr⟩ := r
    rcases hr with rfl | ⟨a, es, rows, rfl, ha, hes, hrow, hc, hz⟩
    · have := RM.pure_some h1; subst this
      exact ⟨rfl, A, kk, rfl, hlk, .inl rfl⟩
    · obtain ⟨r, e⟩ := lendA_rows l (b := []) (by simp) hrow h1
      exact ⟨rfl, some a, kk, by rw [e], by rw [e]; exact hlk, .inr ⟨a, es, rows, rfl, ha, hes, r, hc, .inl (zz_Z h hz)⟩⟩
  | .ow es l, t', cs, b, hb, r, hm => by
    obtain ⟨l', h1, hm⟩ := RM.bind_some hm
    have := RM.pure_some hm; subst this
    obtain ⟨A, kk, rfl, hr⟩ := r
    rcases hr with ⟨rfl, rfl, rfl⟩ | ⟨a, rows, b', rfl, ho, hrow, hc, hlk, rfl⟩
    · have := RM.pure_some h1; subst this
      exact ⟨rfl, A, 0, rfl, Nat.le_refl _, .inl rfl⟩
    · obtain ⟨r, e⟩ := lendA_rows l (fun x hx => hb x (by simp [hx])) hrow h1
      exact ⟨rfl, some a, kk, by rw [e], by rw [e]; exact hlk, .inr ⟨a, es, rows, rfl, ho.1, ho.2.1, r, hc, .inr (hb _ (by simp))⟩⟩
  | .fp t, t', cs, b, hb, r, hm => by
    obtain ⟨u, h1, hm⟩ := RM.bind_some hm
    have := RM.pure_some hm; subst this
    obtain ⟨rfl, a, row, rfl, ha, r, hc, hz⟩ := r
    exact ⟨rfl, a, row, rfl, ha, lendA_rc t (by simp) r h1, hc, .inl hz⟩
  | .fn f x y, t', cs, b, hb, r, hm => by
    obtain ⟨x', h1, hm⟩ := RM.bind_some hm
    obtain ⟨y', h2, hm⟩ := RM.bind_some hm
    have := RM.pure_some hm; subst this
    obtain ⟨rfl, xs, ys, rfl, r1, r2⟩ := r
    exact ⟨rfl, xs, ys, rfl, lendA_rvl x r1 h1, lendA_rvl y r2 h2⟩
  | .ref e j off len, t', cs, b, hb, r, hm => by
    obtain ⟨l, h1, hm⟩ := RM.bind_some hm
    obtain ⟨l', h2, hm⟩ := RM.bind_some hm
    have := RM.pure_some hm; subst this
    obtain ⟨_, A, kk, i, rfl, r⟩ := r
    exact lend_slice h hk (t := .ref e j off len) ⟨A, kk, i, rfl, r⟩ h1 h2
  | .vr e j p o es off len, t', cs, b, hb, r, hm => by
    obtain ⟨l, h1, hm⟩ := RM.bind_some hm
    obtain ⟨l', h2, hm⟩ := RM.bind_some hm
    have := RM.pure_some hm; subst this
    obtain ⟨_, kk, i, hi, rfl, r⟩ := r
    exact lend_slice h hk (t := .vr e j p o es off len) ⟨kk, i, hi, rfl, r⟩ h1 h2
  | .ptr e j p o, t', cs, b, hb, r, hm => by
    simp only [lendA, RM.run] at hm
    cases ha : H.at e j with
    | none => simp [ha] at hm
    | some ob =>
      simp only [ha] at hm
      obtain ⟨u, h1, hm⟩ := RM.bind_some hm
      obtain ⟨t, h2, hm⟩ := RM.bind_some hm
      have := RM.pure_some hm; subst this
      obtain ⟨_, i, hi, rfl⟩ := r
      exact lend_ptr h hk (v := .pointer (some ⟨i.blk, i.off + o, none⟩)) ⟨i, hi, rfl⟩ ha h1 h2
  | .tup _, _, _, _, _, r, _ => by simp [RC] at r
  | .io _, _, _, _, _, r, _ => by simp [RC] at r
  | .undef, _, _, _, _, r, _ => by simp [RC] at r
  | .opt _ _, _, _, _, _, r, _ => by simp [RC] at r
theorem lendAL_rc : ∀ (l : List T) {l' : List T} {cs : List Value} {b : List Nat}, (∀ x ∈ b, x ∈ bs) → RCL c l cs b → (lendAL k l).run H = some l' → RCL (c.lent bs) l' cs []
  | [], l', cs, b, _, r, hm => by have := RM.pure_some hm; subst this; exact ⟨r.1, rfl⟩
  | t :: l, l', cs, b, hb, r, hm => by
    obtain ⟨t', h1, hm⟩ := RM.bind_some hm
    obtain ⟨l2, h2, hm⟩ := RM.bind_some hm
    have := RM.pure_some hm; subst this
    obtain ⟨c1, c2, b1, b2, rfl, rfl, r1, r2⟩ := r
    exact ⟨c1, c2, [], [], rfl, rfl, lendA_rc t (fun x hx => hb x (by simp [hx])) r1 h1, lendAL_rc l (fun x hx => hb x (by simp [hx])) r2 h2⟩
theorem lendA_rows {es : Nat} : ∀ (l : List T) {l' : List T} {cs : List Value} {b : List Nat}, (∀ x ∈ b, x ∈ bs) → RRows c es l cs b → (lendAL k l).run H = some l' → RRows (c.lent bs) es l' cs [] ∧ l'.length = l.length
  | [], l', cs, b, _, r, hm => by have := RM.pure_some hm; subst this; exact ⟨⟨r.1, rfl⟩, rfl⟩
  | t :: l, l', cs, b, hb, r, hm => by
    obtain ⟨t', h1, hm⟩ := RM.bind_some hm
    obtain ⟨l2, h2, hm⟩ := RM.bind_some hm
    have := RM.pure_some hm; subst this
    obtain ⟨c1, c2, b1, b2, rfl, rfl, e, r1, r2⟩ := r
    obtain ⟨r3, e3⟩ := lendA_rows l (fun x hx => hb x (by simp [hx])) r2 h2
    exact ⟨⟨c1, c2, [], [], rfl, rfl, e, lendA_rc t (fun x hx => hb x (by simp [hx])) r1 h1, r3⟩, by simp [e3]⟩
theorem lendA_rv : ∀ (t : T) {t' : T} {v : Value}, RV c t v → (lendA k t).run H = some t' → RV (c.lent bs) t' v
  | .int .., t', v, r, hm => by have := RM.pure_some hm; subst this; exact r
  | .bool .., t', v, r, hm => by have := RM.pure_some hm; subst this; exact r
  | .str .., t', v, r, hm => by have := RM.pure_some hm; subst this; exact r
  | .nilI, t', v, r, hm => by have := RM.pure_some hm; subst this; exact r
  | .nilP, t', v, r, hm => by have := RM.pure_some hm; subst this; exact r
  | .err, t', v, r, hm => by have := RM.pure_some hm; subst this; exact r
  | .any, t', v, r, hm => by have := RM.pure_some hm; subst this; exact r
  | .nils _, t', v, r, hm => by
    have := RM.pure_some hm; subst this
    obtain ⟨A, rfl⟩ := r
    exact ⟨A, 0, rfl, Nat.le_refl _, .inl rfl⟩
  | .nd l, t', v, r, hm => by
    obtain ⟨l', h1, hm⟩ := RM.bind_some hm
    have := RM.pure_some hm; subst this
    obtain ⟨cs, rfl, r⟩ := r
    exact ⟨cs, rfl, lendAL_rc l (by simp) r h1⟩
  | .sl g l, t', v, r, hm => by
    obtain ⟨l', h1, hm⟩ := RM.bind_some hm
    have := RM.pure_some hm; subst this
    obtain ⟨A, kk, rfl, hlk, hr⟩ := r
    rcases hr with rfl | ⟨a, es, rows, rfl, ha, hes, hrow, hc, hz⟩
    · have := RM.pure_some h1; subst this
      exact ⟨A, kk, rfl, hlk, .inl rfl⟩
    · obtain ⟨r, e⟩ := lendA_rows l (b := []) (by simp) hrow h1
      exact ⟨some a, kk, by rw [e], by rw [e]; exact hlk, .inr ⟨a, es, rows, rfl, ha, hes, r, hc, .inl (zz_Z h hz)⟩⟩
  | .ow _ _, _, _, r, _ => r.elim
  | .fp t, t', v, r, hm => by
    obtain ⟨u, h1, hm⟩ := RM.bind_some hm
    have := RM.pure_some hm; subst this
    obtain ⟨a, row, rfl, ha, r, hc, hz⟩ := r
    exact ⟨a, row, rfl, ha, lendA_rc t (by simp) r h1, hc, .inl hz⟩
  | .fn f x y, t', v, r, hm => by
    obtain ⟨x', h1, hm⟩ := RM.bind_some hm
    obtain ⟨y', h2, hm⟩ := RM.bind_some hm
    have := RM.pure_some hm; subst this
    obtain ⟨xs, ys, rfl, r1, r2⟩ := r
    exact ⟨xs, ys, rfl, lendA_rvl x r1 h1, lendA_rvl y r2 h2⟩
  | .ref e j off len, t', v, r, hm => by
    obtain ⟨l, h1, hm⟩ := RM.bind_some hm
    obtain ⟨l', h2, hm⟩ := RM.bind_some hm
    have := RM.pure_some hm; subst this
    obtain ⟨_, A, kk, e, r⟩ := lend_slice h hk (t := .ref e j off len) r h1 h2
    simp only [List.cons.injEq, and_true] at e
    exact ⟨A, kk, e, r⟩
  | .vr e j p o es off len, t', v, r, hm => by
    obtain ⟨l, h1, hm⟩ := RM.bind_some hm
    obtain ⟨l', h2, hm⟩ := RM.bind_some hm
    have := RM.pure_some hm; subst this
    obtain ⟨_, A, kk, e, r⟩ := lend_slice h hk (t := .vr e j p o es off len) r h1 h2
    simp only [List.cons.injEq, and_true] at e
    exact ⟨A, kk, e, r⟩
  | .ptr e j p o, t', v, r, hm => by
    simp only [lendA, RM.run] at hm
    cases ha : H.at e j with
    | none => simp [ha] at hm
    | some ob =>
      simp only [ha] at hm
      obtain ⟨u, h1, hm⟩ := RM.bind_some hm
      obtain ⟨t, h2, hm⟩ := RM.bind_some hm
      have := RM.pure_some hm; subst this
      obtain ⟨_, a, row, e, r⟩ := lend_ptr h hk r ha h1 h2
      simp only [List.cons.injEq, and_true] at e
      exact ⟨a, row, e, r⟩
  | .tup _, _, _, _, hm => by simp [lendA, RM.run] at hm
  | .io _, _, _, r, _ => r.elim
  | .undef, _, _, _, hm => by simp [lendA, RM.run] at hm
  | .opt _ _, _, _, _, hm => by simp [lendA, RM.run] at hm
theorem lendA_rvl : ∀ (l : List T) {l' : List T} {vs : List Value}, RVL c l vs → (lendAL k l).run H = some l' → RVL (c.lent bs) l' vs
  | [], l', vs, r, hm => by have := RM.pure_some hm; subst this; exact r
  | t :: l, l', vs, r, hm => by
    obtain ⟨t', h1, hm⟩ := RM.bind_some hm
    obtain ⟨l2, h2, hm⟩ := RM.bind_some hm
    have := RM.pure_some hm; subst this
    obtain ⟨v, vs', rfl, r1, r2⟩ := r
    exact ⟨v, vs', rfl, lendA_rv t r1 h1, lendA_rvl l r2 h2⟩
end
end

theorem lend_KOk {F : Fr} {c : Cx} {H : Heap} {bs : List Nat} (h : InvH F c H bs) : ∀ n, KOk F c H bs (lendM n)
  | 0 => fun t t' cs b _ _ hm => by simp [lendM, RM.run] at hm
  | n + 1 => fun t t' cs b hb r hm => lendA_rc h (lend_KOk h n) t hb r hm

theorem lend_ok {F : Fr} {c : Cx} {H : Heap} {bs : List Nat} (h : InvH F c H bs) {n : Nat} {t t' : T} {v : Value} (hv : RV c t v) (hm : (lendM n t).run H = some t') : RV (c.lent bs) t' v := by
  cases n with
  | zero => simp [lendM, RM.run] at hm
  | succ n => exact lendA_rv h (lend_KOk h n) t hv hm

end Go.Vm

namespace Go.Vm

/-! ### giving away -/
theorem put_own {H : Heap} {e j own : Nat} {ob x : Ob} (hown : H[own]? = some []) (ha : H.at e j = some ob) : (H.put e j x)[own]? = some [] := by
  have hne : e ≠ own := fun he => by subst he; simp [Heap.at, hown] at ha
  unfold Heap.put
  cases hl : H[e]? with
  | none => simpa using hown
  | some l => simp only [List.getElem?_set_ne hne]; exact hown

structure Given (F : Fr) (c : Cx) (bs : List Nat) (H' : Heap) (bu bs' : List Nat) : Prop where
  inv : InvH F c H' bs'
  nd : bu.Nodup
  sub : ∀ b ∈ bu, b ∈ bs ∧ b ∉ bs'
  rest : ∀ b ∈ bs', b ∈ bs

theorem Given.refl {F : Fr} {c : Cx} {H : Heap} {bs : List Nat} (h : InvH F c H bs) : Given F c bs H [] bs := ⟨h, by simp, by simp, fun _ h => h⟩
theorem Given.trans {F : Fr} {c : Cx} {H1 H2 : Heap} {bs b1 b2 bs1 bs2 : List Nat} (h : Given F c bs H1 b1 bs1) (h' : Given F c bs1 H2 b2 bs2) : Given F c bs H2 (b1 ++ b2) bs2 where
  inv := h'.inv
  nd := List.nodup_append.2 ⟨h.nd, h'.nd, fun a ha b hb e => (h.sub a ha).2 (e ▸ (h'.sub b hb).1)⟩
  sub b hb := by
    rcases List.mem_append.1 hb with hb | hb
    · exact ⟨(h.sub b hb).1, fun hx => (h.sub b hb).2 (h'.rest b hx)⟩
    · exact ⟨h.rest b (h'.sub b hb).1, (h'.sub b hb).2⟩
  rest b hb := h.rest b (h'.rest b hb)

theorem give_ref {F : Fr} {c : Cx} {H : Heap} {bs : List Nat} {e j off len es : Nat} {l : List T} {v : Value} (h : InvH F c H bs) (ha : H.at e j = some (.arr es l false)) (ho : off = 0) (hl : len = l.length)
    (hv : RV c (.ref e j off len) v) : ∃ bu bs', Given F c bs (H.put e j .gone) bu bs' ∧ RC c (.ow es l) [v] bu := by
  subst ho; subst hl
  obtain ⟨A, k, i, rfl, hlk, hi, hcap, hA⟩ := hv
  obtain ⟨p, q, r, rfl, hob, hinv⟩ := HR.drop h ha
  obtain ⟨i', hi', hies, hes, hll, hr⟩ := hob
  rw [hi] at hi'; cases hi'
  have hnd := h.nd
  simp only [Nat.zero_add] at hcap
  by_cases hk : k = 0
  · subst hk
    have hl0 : l = [] := List.length_eq_zero_iff.1 (by omega)
    refine ⟨[], p ++ r, ⟨hinv, by simp, by simp, fun b hb => ?_⟩, A, 0, rfl, .inl ⟨rfl, hl0, rfl⟩⟩
    rcases List.mem_append.1 hb with hb | hb <;> simp [hb]
  · rcases hr with ⟨h0, _⟩ | ⟨rows, bq, rfl, hrow, hcell, hoa⟩
    · omega
    · have hA : A = some i.addr := by
        rcases hA with h0 | hA
        · exact absurd h0 hk
        · rw [hA]; simp [Info.addr]
      subst hA
      refine ⟨i.blk :: bq, p ++ r, ⟨hinv, nodup_mid hnd, fun b hb => ⟨by simp only [List.mem_append]; exact .inr (.inl hb), fun hx => ?_⟩, fun b hb => ?_⟩,
        some i.addr, k, rfl, .inr ⟨i.addr, rows, bq, rfl, by rw [hcap]; exact hoa, hrow, hcell, hlk, rfl⟩⟩
      · rw [List.nodup_append, List.nodup_append] at hnd
        rcases List.mem_append.1 hx with hx | hx
        · exact hnd.2.2 b hx b (List.mem_append.2 (.inl hb)) rfl
        · exact hnd.2.1.2.2 b hb b hx rfl
      · rcases List.mem_append.1 hb with hb | hb
        · simp [hb]
        · simp only [List.mem_append]; exact .inr (.inr hb)

-- a tree of a variable of one's own, part of whose blocks lie within: 'b0'
mutual
theorem giveS_rc {F : Fr} {c : Cx} : ∀ (t : T) {H H' : Heap} {bs b0 : List Nat} {u : T} {cs : List Value}, InvH F c H bs → RC c t cs b0 → giveS t H = some (u, H') →
    ∃ bu bs', Given F c bs H' bu bs' ∧ ∃ bx, RC c u cs bx ∧ (∀ x, x ∈ bx ↔ x ∈ b0 ∨ x ∈ bu) ∧ (b0.Nodup → (∀ x ∈ b0, x ∉ bs) → bx.Nodup)
  | .int .., H, H', bs, b0, u, cs, h, r, hm => by
    simp only [giveS, Option.some.injEq, Prod.mk.injEq] at hm; obtain ⟨rfl, rfl⟩ := hm
    exact ⟨[], bs, .refl h, b0, r, by simp, fun hn _ => hn⟩
  | .bool .., H, H', bs, b0, u, cs, h, r, hm => by
    simp only [giveS, Option.some.injEq, Prod.mk.injEq] at hm; obtain ⟨rfl, rfl⟩ := hm
    exact ⟨[], bs, .refl h, b0, r, by simp, fun hn _ => hn⟩
  | .str .., H, H', bs, b0, u, cs, h, r, hm => by
    simp only [giveS, Option.some.injEq, Prod.mk.injEq] at hm; obtain ⟨rfl, rfl⟩ := hm
    exact ⟨[], bs, .refl h, b0, r, by simp, fun hn _ => hn⟩
  | .nilI, H, H', bs, b0, u, cs, h, r, hm => by
    simp only [giveS, Option.some.injEq, Prod.mk.injEq] at hm; obtain ⟨rfl, rfl⟩ := hm
    exact ⟨[], bs, .refl h, b0, r, by simp, fun hn _ => hn⟩
  | .nilP, H, H', bs, b0, u, cs, h, r, hm => by
    simp only [giveS, Option.some.injEq, Prod.mk.injEq] at hm; obtain ⟨rfl, rfl⟩ := hm
    exact ⟨[], bs, .refl h, b0, r, by simp, fun hn _ => hn⟩
  | .err, H, H', bs, b0, u, cs, h, r, hm => by
    simp only [giveS, Option.some.injEq, Prod.mk.injEq] at hm; obtain ⟨rfl, rfl⟩ := hm
    exact ⟨[], bs, .refl h, b0, r, by simp, fun hn _ => hn⟩
  | .any, H, H', bs, b0, u, cs, h, r, hm => by
    simp only [giveS, Option.some.injEq, Prod.mk.injEq] at hm; obtain ⟨rfl, rfl⟩ := hm
    exact ⟨[], bs, .refl h, b0, r, by simp, fun hn _ => hn⟩
  | .nils es, H, H', bs, b0, u, cs, h, r, hm => by
    simp only [giveS, Option.some.injEq, Prod.mk.injEq] at hm; obtain ⟨rfl, rfl⟩ := hm
    obtain ⟨rfl, A, rfl⟩ := r
    exact ⟨[], bs, .refl h, [], ⟨A, 0, rfl, .inl ⟨rfl, rfl, rfl⟩⟩, by simp, fun hn _ => hn⟩
  | .nd l, H, H', bs, b0, u, cs, h, r, hm => by
    simp only [giveS] at hm
    cases hl : giveSL l H with
    | none => simp [hl] at hm
    | some x =>
      simp only [hl, Option.some.injEq, Prod.mk.injEq] at hm; obtain ⟨rfl, rfl⟩ := hm
      obtain ⟨bu, bs', hg, bx, hr, hmem⟩ := giveSL_rc l h r (show giveSL l H = some (x.1, x.2) from hl)
      exact ⟨bu, bs', hg, bx, hr, hmem⟩
  | .sl g l, H, H', bs, b0, u, cs, h, r, hm => by
    simp only [giveS] at hm
    split at hm
    case isFalse => cases hm
    simp only [Option.some.injEq, Prod.mk.injEq] at hm; obtain ⟨rfl, rfl⟩ := hm
    exact ⟨[], bs, .refl h, b0, r, by simp, fun hn _ => hn⟩
  | .ow es l, H, H', bs, b0, u, cs, h, r, hm => by
    simp only [giveS] at hm
    split at hm
    case isFalse => cases hm
    simp only [Option.some.injEq, Prod.mk.injEq] at hm; obtain ⟨rfl, rfl⟩ := hm
    exact ⟨[], bs, .refl h, b0, r, by simp, fun hn _ => hn⟩
  | .ref e j off len, H, H', bs, b0, u, cs, h, r, hm => by
    simp only [giveS] at hm
    cases ha : H.at e j with
    | none => simp [ha] at hm
    | some ob =>
      simp only [ha] at hm
      cases ob with
      | arr es l fz =>
        cases fz with
        | true => simp at hm
        | false =>
          simp only at hm
          split at hm
          case isFalse => cases hm
          rename_i hc
          simp only [Option.some.injEq, Prod.mk.injEq] at hm; obtain ⟨rfl, rfl⟩ := hm
          obtain ⟨rfl, A, k, i, rfl, hr⟩ := r
          obtain ⟨bu, bs', hg, hrc⟩ := give_ref h ha hc.1 hc.2.1 ⟨A, k, i, rfl, hr⟩
          exact ⟨bu, bs', hg, bu, hrc, by simp, fun _ _ => hg.nd⟩
      | var _ => simp at hm
      | gone => simp at hm
  | .vr .., H, H', bs, b0, u, cs, h, r, hm => by simp [giveS] at hm
  | .ptr .., H, H', bs, b0, u, cs, h, r, hm => by simp [giveS] at hm
  | .fp .., H, H', bs, b0, u, cs, h, r, hm => by simp [giveS] at hm
  | .fn .., H, H', bs, b0, u, cs, h, r, hm => by simp [giveS] at hm
  | .tup _, H, H', bs, b0, u, cs, h, r, hm => by simp [giveS] at hm
  | .io _, H, H', bs, b0, u, cs, h, r, hm => by simp [giveS] at hm
  | .undef, H, H', bs, b0, u, cs, h, r, hm => by simp [giveS] at hm
  | .opt _ _, H, H', bs, b0, u, cs, h, r, hm => by simp [giveS] at hm
theorem giveSL_rc {F : Fr} {c : Cx} : ∀ (l : List T) {H H' : Heap} {bs b0 : List Nat} {u : List T} {cs : List Value}, InvH F c H bs → RCL c l cs b0 → giveSL l H = some (u, H') →
    ∃ bu bs', Given F c bs H' bu bs' ∧ ∃ bx, RCL c u cs bx ∧ (∀ x, x ∈ bx ↔ x ∈ b0 ∨ x ∈ bu) ∧ (b0.Nodup → (∀ x ∈ b0, x ∉ bs) → bx.Nodup)
  | [], H, H', bs, b0, u, cs, h, r, hm => by
    simp only [giveSL, Option.some.injEq, Prod.mk.injEq] at hm; obtain ⟨rfl, rfl⟩ := hm
    exact ⟨[], bs, .refl h, b0, r, by simp, fun hn _ => hn⟩
  | t :: l, H, H', bs, b0, u, cs, h, r, hm => by
    simp only [giveSL] at hm
    cases h1 : giveS t H with
    | none => simp [h1] at hm
    | some x =>
      simp only [h1] at hm
      cases h2 : giveSL l x.2 with
      | none => simp [h2] at hm
      | some y =>
        simp only [h2, Option.some.injEq, Prod.mk.injEq] at hm; obtain ⟨rfl, rfl⟩ := hm
        obtain ⟨c1, c2, b1, b2, rfl, rfl, r1, r2⟩ := r
        obtain ⟨bu1, bs1, hg1, bx1, hr1, hm1, hn1⟩ := giveS_rc t h r1 (show giveS t H = some (x.1, x.2) from h1)
        obtain ⟨bu2, bs2, hg2, bx2, hr2, hm2, hn2⟩ := giveSL_rc l hg1.inv r2 (show giveSL l x.2 = some (y.1, y.2) from h2)
        refine ⟨bu1 ++ bu2, bs2, hg1.trans hg2, bx1 ++ bx2, ⟨c1, c2, bx1, bx2, rfl, rfl, hr1, hr2⟩, fun z => ?_, fun hn hd => ?_⟩
        · simp only [List.mem_append, hm1, hm2]
          constructor <;> (intro hz; rcases hz with (hz | hz) | (hz | hz) <;> simp [hz])
        · rw [List.nodup_append] at hn
          refine List.nodup_append.2 ⟨hn1 hn.1 (fun z hz => hd z (by simp [hz])), hn2 hn.2.1 (fun z hz hb => hd z (by simp [hz]) (hg1.rest z hb)), fun a ha b hb e => ?_⟩
          subst e
          rcases (hm1 a).1 ha with ha | ha <;> rcases (hm2 a).1 hb with hb | hb
          · exact hn.2.2 a ha a hb rfl
          · exact hd a (by simp [ha]) (hg1.rest a (hg2.sub a hb).1)
          · exact hd a (by simp [hb]) (hg1.sub a ha).1
          · exact (hg1.sub a ha).2 (hg2.sub a hb).1
end

-- H' keeps an empty entry empty
mutual
theorem giveS_own : ∀ (t : T) {H H' : Heap} {u : T} {own : Nat}, H[own]? = some [] → giveS t H = some (u, H') → H'[own]? = some []
  | .nd l, H, H', u, own, h, hm => by
    simp only [giveS] at hm
    cases hl : giveSL l H with
    | none => simp [hl] at hm
    | some x =>
      simp only [hl, Option.some.injEq, Prod.mk.injEq] at hm; obtain ⟨rfl, rfl⟩ := hm
      exact giveSL_own l h (show giveSL l H = some (x.1, x.2) from hl)
  | .ref e j off len, H, H', u, own, h, hm => by
    simp only [giveS] at hm
    split at hm
    · rename_i ha
      split at hm
      · simp only [Option.some.injEq, Prod.mk.injEq] at hm; obtain ⟨rfl, rfl⟩ := hm
        exact put_own h ha
      · cases hm
    · cases hm
  | .sl g l, H, H', u, own, h, hm => by
    simp only [giveS] at hm; split at hm
    · simp only [Option.some.injEq, Prod.mk.injEq] at hm; obtain ⟨rfl, rfl⟩ := hm; exact h
    · cases hm
  | .ow es l, H, H', u, own, h, hm => by
    simp only [giveS] at hm; split at hm
    · simp only [Option.some.injEq, Prod.mk.injEq] at hm; obtain ⟨rfl, rfl⟩ := hm; exact h
    · cases hm
  | .int .., H, H', u, own, h, hm => by simp only [giveS, Option.some.injEq, Prod.mk.injEq] at hm; obtain ⟨rfl, rfl⟩ := hm; exact h
  | .bool .., H, H', u, own, h, hm => by simp only [giveS, Option.some.injEq, Prod.mk.injEq] at hm; obtain ⟨rfl, rfl⟩ := hm; exact h
  | .str .., H, H', u, own, h, hm => by simp only [giveS, Option.some.injEq, Prod.mk.injEq] at hm; obtain ⟨rfl, rfl⟩ := hm; exact h
  | .nilI, H, H', u, own, h, hm => by simp only [giveS, Option.some.injEq, Prod.mk.injEq] at hm; obtain ⟨rfl, rfl⟩ := hm; exact h
  | .nilP, H, H', u, own, h, hm => by simp only [giveS, Option.some.injEq, Prod.mk.injEq] at hm; obtain ⟨rfl, rfl⟩ := hm; exact h
  | .err, H, H', u, own, h, hm => by simp only [giveS, Option.some.injEq, Prod.mk.injEq] at hm; obtain ⟨rfl, rfl⟩ := hm; exact h
  | .any, H, H', u, own, h, hm => by simp only [giveS, Option.some.injEq, Prod.mk.injEq] at hm; obtain ⟨rfl, rfl⟩ := hm; exact h
  | .nils es, H, H', u, own, h, hm => by simp only [giveS, Option.some.injEq, Prod.mk.injEq] at hm; obtain ⟨rfl, rfl⟩ := hm; exact h
  | .vr .., H, H', u, own, h, hm => by simp [giveS] at hm
  | .ptr .., H, H', u, own, h, hm => by simp [giveS] at hm
  | .fp .., H, H', u, own, h, hm => by simp [giveS] at hm
  | .fn .., H, H', u, own, h, hm => by simp [giveS] at hm
  | .tup _, H, H', u, own, h, hm => by simp [giveS] at hm
  | .io _, H, H', u, own, h, hm => by simp [giveS] at hm
  | .undef, H, H', u, own, h, hm => by simp [giveS] at hm
  | .opt _ _, H, H', u, own, h, hm => by simp [giveS] at hm
theorem giveSL_own : ∀ (l : List T) {H H' : Heap} {u : List T} {own : Nat}, H[own]? = some [] → giveSL l H = some (u, H') → H'[own]? = some []
  | [], H, H', u, own, h, hm => by simp only [giveSL, Option.some.injEq, Prod.mk.injEq] at hm; obtain ⟨rfl, rfl⟩ := hm; exact h
  | t :: l, H, H', u, own, h, hm => by
    simp only [giveSL] at hm
    cases h1 : giveS t H with
    | none => simp [h1] at hm
    | some x =>
      simp only [h1] at hm
      cases h2 : giveSL l x.2 with
      | none => simp [h2] at hm
      | some y =>
        simp only [h2, Option.some.injEq, Prod.mk.injEq] at hm; obtain ⟨rfl, rfl⟩ := hm
        exact giveSL_own l (giveS_own t h (show giveS t H = some (x.1, x.2) from h1)) (show giveSL l x.2 = some (y.1, y.2) from h2)
end
end Go.Vm

namespace Go.Vm

def Cx.rowAt (c : Cx) (own : Nat) (is : List Info) : Cx := { c with μ := fun e j => if e = own then is[j]? else c.μ e j }

theorem Le_row {F : Fr} {c : Cx} {H : Heap} {bs : List Nat} {own : Nat} {is : List Info} (h : InvH F c H bs) (hown : H[own]? = some []) : c.Le (c.rowAt own is) where
  z _ h := h
  zs _ h := h
  hz _ _ := rfl
  hs _ _ := rfl
  mu e j x hx := by
    simp only [Cx.rowAt]
    split
    · rename_i he
      subst he
      obtain ⟨ob, ho⟩ := h.mu _ _ _ hx
      simp [Heap.at, hown] at ho
    · exact hx
  r _ _ h := h

theorem InvH.row {F : Fr} {c : Cx} {H : Heap} {bs q : List Nat} {own : Nat} {is : List Info} {obs : List Ob} (h : InvH F c H bs) (hown : H[own]? = some [])
    (hq : ∀ x ∈ q, x ∉ bs ∧ ¬ c.Z x ∧ x < c.w.heap.size ∧ (F.own x ∨ F.w.heap.size ≤ x)) (hnq : q.Nodup) (hl : is.length = obs.length)
    (ho : HRow (c.rowAt own is) own 0 obs q) : ∃ bs', InvH F (c.rowAt own is) (H.set own obs) bs' ∧ ∀ x, x ∈ bs' → x ∈ bs ∨ x ∈ q := by
  have hle := Le_row (is := is) h hown
  obtain ⟨p, q0, r, rfl, hr0, hset⟩ := HR.row h.hp hown
  simp only [HRow] at hr0; subst hr0
  have hlt : own < H.length := (List.getElem?_eq_some_iff.1 hown).1
  have hold : ∀ x ∈ p ++ ([] ++ r), x ∉ q := fun x hx hq' => (hq x hq').1 hx
  refine ⟨p ++ (q ++ r), ?_, fun x hx => by simp only [List.mem_append, List.nil_append] at hx ⊢; rcases hx with hx | hx | hx <;> simp [hx]⟩
  constructor
  · have := hset (c.rowAt own is) obs q hle (fun _ _ => rfl) (fun _ _ => rfl) (by simpa using ho)
    simpa using this
  · have hn := h.nd
    simp only [List.nil_append] at hn
    rw [List.nodup_append] at hn
    rw [List.nodup_append, List.nodup_append]
    refine ⟨hn.1, ⟨hnq, hn.2.1, fun a ha b hb e => ?_⟩, fun a ha b hb e => ?_⟩
    · subst e; exact hold a (by simp [hb]) ha
    · rcases List.mem_append.1 hb with hb | hb
      · subst e; exact hold a (by simp [ha]) hb
      · exact hn.2.2 a ha b hb e
  · intro b hb hz
    simp only [List.mem_append] at hb
    rcases hb with hb | hb | hb
    · exact h.dz b (by simp [hb]) hz
    · exact (hq b hb).2.1 hz
    · exact h.dz b (by simp [hb]) hz
  · exact h.zz
  · exact h.zl
  · intro b hb
    simp only [List.mem_append] at hb
    rcases hb with hb | hb | hb
    · exact h.bl b (by simp [hb])
    · exact (hq b hb).2.2.1
    · exact h.bl b (by simp [hb])
  · intro e j x hx
    simp only [Cx.rowAt] at hx
    split at hx
    · rename_i he
      subst he
      have hj : j < obs.length := by rw [← hl]; exact (List.getElem?_eq_some_iff.1 hx).1
      exact ⟨obs[j], by simp [Heap.at, List.getElem?_set_self hlt, hj]⟩
    · rename_i he
      obtain ⟨ob', ho'⟩ := h.mu _ _ _ hx
      unfold Heap.at at *
      rw [List.getElem?_set_ne (Ne.symm he)]; exact ⟨ob', ho'⟩
  · exact h.fs
  · exact h.ff
  · intro b hb
    simp only [List.mem_append] at hb
    rcases hb with hb | hb | hb
    · exact h.fb b (by simp [hb])
    · exact (hq b hb).2.2.2
    · exact h.fb b (by simp [hb])
  · exact h.fz
  · exact h.fZ
  · exact h.kp
  · exact h.rr

theorem HRow_app {c : Cx} {e : Nat} : ∀ {l m : List Ob} {j : Nat} {b1 b2 : List Nat}, HRow c e j l b1 → HRow c e (j + l.length) m b2 → HRow c e j (l ++ m) (b1 ++ b2)
  | [], m, j, b1, b2, h1, h2 => by simp only [HRow] at h1; subst h1; simpa using h2
  | ob :: l, m, j, _, b2, ⟨x, y, e1, h0, h1⟩, h2 => by
    subst e1
    exact ⟨x, y ++ b2, by simp, h0, HRow_app h1 (by simpa [Nat.add_assoc, Nat.add_comm 1 l.length] using h2)⟩

/-- where the infos of a row lie -/
def Has (c : Cx) (own j : Nat) (is : List Info) : Prop := ∀ k i, is[k]? = some i → c.μ own (j + k) = some i

theorem Has.app {c : Cx} {own j : Nat} {a b : List Info} (h : Has c own j (a ++ b)) : Has c own j a ∧ Has c own (j + a.length) b :=
  ⟨fun k i hk => h k i (by rw [List.getElem?_append_left (List.getElem?_eq_some_iff.1 hk).1]; exact hk),
   fun k i hk => by have := h (a.length + k) i (by rw [List.getElem?_append_right (by omega)]; simpa using hk); rwa [← Nat.add_assoc] at this⟩

-- what comes becomes objects
mutual
theorem thaw_rc {c : Cx} {own : Nat} : ∀ (t : T) {j : Nat} {cs : List Value} {b : List Nat}, RC c t cs b →
    ∃ is : List Info, is.length = (thawA own t j).2.length ∧ ∀ c' : Cx, c.Le c' → (∀ x ∈ b, c'.w.heap[x]? = c.w.heap[x]?) → Has c' own j is → RC c' (thawA own t j).1 cs [] ∧ HRow c' own j (thawA own t j).2 b
  | .nd l, j, cs, b, r => thawL_rc l r
  | .ow es l, j, cs, b, r => by
    obtain ⟨A, k, rfl, hr⟩ := r
    rcases hr with ⟨rfl, rfl, rfl⟩ | ⟨a, rows, bs', rfl, ho, hrow, hc, hlk, rfl⟩
    · let i : Info := { blk := 0, off := 0, es := es, cap := 0, arr0 := #[], ty := 0, fr := (0, 0) }
      refine ⟨[i], rfl, fun c' hle _ hh => ⟨⟨rfl, A, 0, i, rfl, Nat.le_refl _, hh 0 i rfl, rfl, .inl rfl⟩, [], [], rfl, ⟨i, hh 0 i rfl, rfl, .inl rfl, by simp, .inl ⟨rfl, rfl⟩⟩, rfl⟩⟩
    · let i : Info := { blk := a.block, off := a.off, es := es, cap := k, arr0 := #[], ty := 0, fr := (0, 0) }
      have ha : a = i.addr := by obtain ⟨x, y, z⟩ := a; have := ho.1; simp only at this; subst this; rfl
      refine ⟨[i], rfl, fun c' hle hag hh => ⟨⟨rfl, some a, k, i, rfl, hlk, hh 0 i rfl, by simp [i], .inr ?_⟩, a.block :: bs', [], by simp, ⟨i, hh 0 i rfl, rfl, .inr ho.2.1, hlk, .inr ⟨rows, bs', rfl, ?_, ?_, ?_⟩⟩, rfl⟩⟩
      · rw [ha]; simp [Info.addr]
      · exact hrow.mono hle es l (fun x hx => hag x (by simp [hx]))
      · rw [← ha]; exact hc.agree (hag _ (by simp))
      · rw [← ha]; exact ho.agree (hag _ (by simp))
  | .io t, j, cs, b, r => by simp [RC] at r
  | .tup l, j, cs, b, r => by simp [RC] at r
  | .int .., j, cs, b, r => ⟨[], rfl, fun c' hle hag _ => ⟨⟨r.1, rfl⟩, by obtain ⟨_, rfl⟩ := r; rfl⟩⟩
  | .bool .., j, cs, b, r => ⟨[], rfl, fun c' hle hag _ => ⟨⟨r.1, rfl⟩, by obtain ⟨_, rfl⟩ := r; rfl⟩⟩
  | .str .., j, cs, b, r => ⟨[], rfl, fun c' hle hag _ => ⟨⟨r.1, rfl⟩, by obtain ⟨_, rfl⟩ := r; rfl⟩⟩
  | .nilI, j, cs, b, r => ⟨[], rfl, fun c' hle hag _ => ⟨⟨r.1, rfl⟩, by obtain ⟨_, rfl⟩ := r; rfl⟩⟩
  | .nilP, j, cs, b, r => ⟨[], rfl, fun c' hle hag _ => ⟨⟨r.1, rfl⟩, by obtain ⟨_, rfl⟩ := r; rfl⟩⟩
  | .sl g l, j, cs, b, r => ⟨[], rfl, fun c' hle hag _ => ⟨by obtain ⟨rfl, r⟩ := r; exact RC.mono hle _ hag ⟨rfl, r⟩, by obtain ⟨rfl, _⟩ := r; rfl⟩⟩
  | .nils _, j, cs, b, r => ⟨[], rfl, fun c' hle hag _ => ⟨by obtain ⟨rfl, r⟩ := r; exact ⟨rfl, r⟩, by obtain ⟨rfl, _⟩ := r; rfl⟩⟩
  | .err, j, cs, b, r => ⟨[], rfl, fun c' hle hag _ => ⟨by obtain ⟨rfl, r⟩ := r; exact ⟨rfl, r⟩, by obtain ⟨rfl, _⟩ := r; rfl⟩⟩
  | .any, j, cs, b, r => ⟨[], rfl, fun c' hle hag _ => ⟨by obtain ⟨rfl, r⟩ := r; exact ⟨rfl, r⟩, by obtain ⟨rfl, _⟩ := r; rfl⟩⟩
  | .ref .., j, cs, b, r => ⟨[], rfl, fun c' hle hag _ => ⟨by obtain ⟨rfl, r⟩ := r; exact RC.mono hle _ hag ⟨rfl, r⟩, by obtain ⟨rfl, _⟩ := r; rfl⟩⟩
  | .vr .., j, cs, b, r => ⟨[], rfl, fun c' hle hag _ => ⟨by obtain ⟨rfl, r⟩ := r; exact RC.mono hle _ hag ⟨rfl, r⟩, by obtain ⟨rfl, _⟩ := r; rfl⟩⟩
  | .ptr .., j, cs, b, r => ⟨[], rfl, fun c' hle hag _ => ⟨by obtain ⟨rfl, r⟩ := r; exact RC.mono hle _ hag ⟨rfl, r⟩, by obtain ⟨rfl, _⟩ := r; rfl⟩⟩
  | .fp t, j, cs, b, r => by
    cases t with
    | io u => obtain ⟨_, _, _, _, _, r, _⟩ := r; exact r.elim
    | _ => exact ⟨[], rfl, fun c' hle hag _ => ⟨by obtain ⟨rfl, r⟩ := r; exact RC.mono hle _ hag ⟨rfl, r⟩, by obtain ⟨rfl, _⟩ := r; rfl⟩⟩
  | .fn .., j, cs, b, r => ⟨[], rfl, fun c' hle hag _ => ⟨by obtain ⟨rfl, r⟩ := r; exact RC.mono hle _ hag ⟨rfl, r⟩, by obtain ⟨rfl, _⟩ := r; rfl⟩⟩
  | .undef, j, cs, b, r => by simp [RC] at r
  | .opt _ _, j, cs, b, r => by simp [RC] at r
theorem thawL_rc {c : Cx} {own : Nat} : ∀ (l : List T) {j : Nat} {cs : List Value} {b : List Nat}, RCL c l cs b →
    ∃ is : List Info, is.length = (thawAL own l j).2.length ∧ ∀ c' : Cx, c.Le c' → (∀ x ∈ b, c'.w.heap[x]? = c.w.heap[x]?) → Has c' own j is → RCL c' (thawAL own l j).1 cs [] ∧ HRow c' own j (thawAL own l j).2 b
  | [], j, cs, b, r => ⟨[], rfl, fun c' _ _ _ => ⟨⟨r.1, rfl⟩, by obtain ⟨_, rfl⟩ := r; rfl⟩⟩
  | t :: l, j, cs, b, r => by
    obtain ⟨c1, c2, b1, b2, rfl, rfl, r1, r2⟩ := r
    obtain ⟨is1, hl1, h1⟩ := thaw_rc (own := own) t (j := j) r1
    obtain ⟨is2, hl2, h2⟩ := thawL_rc (own := own) l (j := j + (thawA own t j).2.length) r2
    refine ⟨is1 ++ is2, by simp [thawAL, hl1, hl2], fun c' hle hag hh => ?_⟩
    obtain ⟨ha, hb⟩ := hh.app
    obtain ⟨g1, g2⟩ := h1 c' hle (fun x hx => hag x (by simp [hx])) ha
    rw [hl1] at hb
    obtain ⟨g3, g4⟩ := h2 c' hle (fun x hx => hag x (by simp [hx])) hb
    exact ⟨⟨c1, c2, [], [], rfl, rfl, g1, g3⟩, HRow_app g2 g4⟩
end
end Go.Vm

namespace Go.Vm

/-! ### passing arguments -/
inductive Mode where
  | lend | own (es : Nat) | io | ios | pv | iov | nl
  deriving Inhabited

def fixEs (es : Nat) : T → T
  | .ow 0 [] => .ow es []
  | t => t

structure Back where
  e : Nat
  j : Nat


mutual
def ioN : T → Heap → Option (T × List Back × Heap)
  | .int a b, H => some (.int a b, [], H)
  | .bool b, H => some (.bool b, [], H)
  | .str s, H => some (.str s, [], H)
  | .nd l, H => match ioNL l H with | some x => some (.nd x.1, x.2.1, x.2.2) | none => none
  | .ref e j off len, H => match H.at e j with
    | some (.arr es l false) => if off = 0 ∧ len = l.length ∧ cloAL l = true then some (.io (.tup [.ow es l]), [⟨e, j⟩], H.put e j .gone) else none
    | _ => none
  | _, _ => none
def ioNL : List T → Heap → Option (List T × List Back × Heap)
  | [], H => some ([], [], H)
  | t :: l, H => match ioN t H with
    | some x => match ioNL l x.2.2 with | some y => some (x.1 :: y.1, x.2.1 ++ y.2.1, y.2.2) | none => none
    | none => none
end

/-- first what is given; 'true': to be lent -/
def pass1 : List Mode → List T → Heap → Option (List (Bool × T) × List Back × Heap)
  | _, [], H => some ([], [], H)
  | [], t :: ts, H => match pass1 [] ts H with
    | some x => some ((true, t) :: x.1, x.2.1, x.2.2)
    | none => none
  | .lend :: ms, t :: ts, H => match pass1 ms ts H with
    | some x => some ((true, t) :: x.1, x.2.1, x.2.2)
    | none => none
  | .own es :: ms, t :: ts, H => if t.cel = true then match giveS t H with
      | some y => match pass1 ms ts y.2 with
        | some x => some ((false, fixEs es y.1) :: x.1, x.2.1, x.2.2)
        | none => none
      | none => none
    else none
  | .io :: ms, t :: ts, H => match t with
    | .ptr e j [] 0 => match H.at e j with
      | some (.var u) => match giveS u (H.put e j .gone) with
        | some y => match pass1 ms ts y.2 with
          | some x => some ((false, .io y.1) :: x.1, ⟨e, j⟩ :: x.2.1, x.2.2)
          | none => none
        | none => none
      | _ => none
    | _ => none
  | .pv :: ms, t :: ts, H => match t with
    | .ptr e j [] 0 => match H.at e j with
      | some (.var u) => match giveS u (H.put e j .gone) with
        | some y => match pass1 ms ts y.2 with
          | some x => some ((false, .fp (.io y.1)) :: x.1, x.2.1, x.2.2)
          | none => none
        | none => none
      | _ => none
    | _ => none
  | .iov :: ms, t :: ts, H => match t with
    | .nd l => match ioNL l H with
      | some y => if hasIoL y.1 = true then match pass1 ms ts y.2.2 with
          | some x => some ((false, .nd y.1) :: x.1, y.2.1 ++ x.2.1, x.2.2)
          | none => none
        else none
      | none => none
    | _ => none
  | .nl :: ms, t :: ts, H => match t with
    | .nils es => match pass1 ms ts H with
      | some x => some ((false, .nils es) :: x.1, x.2.1, x.2.2)
      | none => none
    | _ => none
  | .ios :: ms, t :: ts, H => match t with
    | .ref e j 0 len => match H.at e j with
      | some (.arr es l false) => if len = l.length ∧ cloAL l = true then match pass1 ms ts (H.put e j .gone) with
          | some x => some ((false, .io (.tup [.ow es l])) :: x.1, ⟨e, j⟩ :: x.2.1, x.2.2)
          | none => none
        else none
      | _ => none
    | _ => none

def modeOf (n : Nat) : Mode := if n = 4294967295 then .pv else .own n

def pass2 : List (Bool × T) → RM (List T)
  | [] => .pure []
  | (true, t) :: l => (lendM 5 t).bind fun t' => (pass2 l).bind fun l' => .pure (t' :: l')
  | (false, t) :: l => (pass2 l).bind fun l' => .pure (t.tg upT :: l')

/-- what passed, in memory -/
def PA (c : Cx) : List (Bool × T) → List (Option Info) → List Value → List Nat → Prop
  | [], is, vs, bs => is = [] ∧ vs = [] ∧ bs = []
  | (true, t) :: l, is, vs, bs => ∃ is' v vs', is = none :: is' ∧ vs = v :: vs' ∧ RV c t v ∧ PA c l is' vs' bs
  | (false, t) :: l, is, vs, bs => ∃ i1 is' v vs' b1 b2, is = i1 ++ is' ∧ vs = v :: vs' ∧ bs = b1 ++ b2 ∧ RA c t i1 v b1 ∧ PA c l is' vs' b2

/-- the places that are to be filled again -/
def BackOk (c : Cx) (H : Heap) : List Back → List (Option Info) → Prop
  | [], is => ∀ i ∈ is, i = none
  | b :: l, is => match is with
    | [] => False
    | none :: is' => BackOk c H (b :: l) is'
    | some i :: is' => c.μ b.e b.j = some i ∧ H.at b.e b.j = some .gone ∧ BackOk c H l is'

-- what is given is closed
mutual
theorem giveS_clo : ∀ (t : T) {H H' : Heap} {u : T}, giveS t H = some (u, H') → u.cloA = true ∧ u.isNd = t.isNd
  | .nd l, H, H', u, hm => by
    simp only [giveS] at hm
    cases hl : giveSL l H with
    | none => simp [hl] at hm
    | some x =>
      simp only [hl, Option.some.injEq, Prod.mk.injEq] at hm; obtain ⟨rfl, rfl⟩ := hm
      exact ⟨by simp only [T.cloA]; exact giveSL_clo l (show giveSL l H = some (x.1, x.2) from hl), rfl⟩
  | .ref e j off len, H, H', u, hm => by
    simp only [giveS] at hm
    split at hm
    · split at hm
      · rename_i hc
        simp only [Option.some.injEq, Prod.mk.injEq] at hm; obtain ⟨rfl, rfl⟩ := hm
        exact ⟨hc.2.2, rfl⟩
      · cases hm
    · cases hm
  | .sl g l, H, H', u, hm => by
    simp only [giveS] at hm; split at hm
    · rename_i hc
      simp only [Option.some.injEq, Prod.mk.injEq] at hm; obtain ⟨rfl, rfl⟩ := hm; exact ⟨hc, rfl⟩
    · cases hm
  | .ow es l, H, H', u, hm => by
    simp only [giveS] at hm; split at hm
    · rename_i hc
      simp only [Option.some.injEq, Prod.mk.injEq] at hm; obtain ⟨rfl, rfl⟩ := hm; exact ⟨hc, rfl⟩
    · cases hm
  | .int .., H, H', u, hm => by simp only [giveS, Option.some.injEq, Prod.mk.injEq] at hm; obtain ⟨rfl, rfl⟩ := hm; exact ⟨rfl, rfl⟩
  | .bool .., H, H', u, hm => by simp only [giveS, Option.some.injEq, Prod.mk.injEq] at hm; obtain ⟨rfl, rfl⟩ := hm; exact ⟨rfl, rfl⟩
  | .str .., H, H', u, hm => by simp only [giveS, Option.some.injEq, Prod.mk.injEq] at hm; obtain ⟨rfl, rfl⟩ := hm; exact ⟨rfl, rfl⟩
  | .nilI, H, H', u, hm => by simp only [giveS, Option.some.injEq, Prod.mk.injEq] at hm; obtain ⟨rfl, rfl⟩ := hm; exact ⟨rfl, rfl⟩
  | .nilP, H, H', u, hm => by simp only [giveS, Option.some.injEq, Prod.mk.injEq] at hm; obtain ⟨rfl, rfl⟩ := hm; exact ⟨rfl, rfl⟩
  | .err, H, H', u, hm => by simp only [giveS, Option.some.injEq, Prod.mk.injEq] at hm; obtain ⟨rfl, rfl⟩ := hm; exact ⟨rfl, rfl⟩
  | .any, H, H', u, hm => by simp only [giveS, Option.some.injEq, Prod.mk.injEq] at hm; obtain ⟨rfl, rfl⟩ := hm; exact ⟨rfl, rfl⟩
  | .nils es, H, H', u, hm => by simp only [giveS, Option.some.injEq, Prod.mk.injEq] at hm; obtain ⟨rfl, rfl⟩ := hm; exact ⟨rfl, rfl⟩
  | .vr .., H, H', u, hm => by simp [giveS] at hm
  | .ptr .., H, H', u, hm => by simp [giveS] at hm
  | .fp .., H, H', u, hm => by simp [giveS] at hm
  | .fn .., H, H', u, hm => by simp [giveS] at hm
  | .tup _, H, H', u, hm => by simp [giveS] at hm
  | .io _, H, H', u, hm => by simp [giveS] at hm
  | .undef, H, H', u, hm => by simp [giveS] at hm
  | .opt _ _, H, H', u, hm => by simp [giveS] at hm
theorem giveSL_clo : ∀ (l : List T) {H H' : Heap} {u : List T}, giveSL l H = some (u, H') → cloAL u = true
  | [], H, H', u, hm => by simp only [giveSL, Option.some.injEq, Prod.mk.injEq] at hm; obtain ⟨rfl, rfl⟩ := hm; rfl
  | t :: l, H, H', u, hm => by
    simp only [giveSL] at hm
    cases h1 : giveS t H with
    | none => simp [h1] at hm
    | some x =>
      simp only [h1] at hm
      cases h2 : giveSL l x.2 with
      | none => simp [h2] at hm
      | some y =>
        simp only [h2, Option.some.injEq, Prod.mk.injEq] at hm; obtain ⟨rfl, rfl⟩ := hm
        simp only [cloAL, Bool.and_eq_true]
        exact ⟨(giveS_clo t (show giveS t H = some (x.1, x.2) from h1)).1, giveSL_clo l (show giveSL l x.2 = some (y.1, y.2) from h2)⟩
end

-- closed, of slices whose tags are ok
mutual
def T.cl (ok : Tag → Bool) : T → Bool
  | .int .. | .bool _ | .str _ | .nilI | .nilP | .nils _ | .err | .any => true
  | .nd l => clL ok l
  | .sl g l => ok g && clL ok l
  | .ow _ l => clL ok l
  | _ => false
def clL (ok : Tag → Bool) : List T → Bool
  | [] => true
  | t :: l => t.cl ok && clL ok l
end
def nb (g : Tag) : Bool := g != .b
def ab (_ : Tag) : Bool := true
mutual
theorem clo_cl : ∀ t : T, t.clo = t.cl nb
  | .nd l => by simp only [T.clo, T.cl]; exact cloL_cl l
  | .sl g l => by simp only [T.clo, T.cl, nb, cloL_cl l]
  | .ow _ l => by simp only [T.clo, T.cl]; exact cloL_cl l
  | .int .. => rfl
  | .bool _ => rfl
  | .str _ => rfl
  | .nilI => rfl
  | .nilP => rfl
  | .err => rfl
  | .any => rfl
  | .nils _ => rfl
  | .ref .. => rfl
  | .vr .. => rfl
  | .ptr .. => rfl
  | .fp _ => rfl
  | .io _ => rfl
  | .fn .. => rfl
  | .tup _ => rfl
  | .undef => rfl
  | .opt .. => rfl
theorem cloL_cl : ∀ l : List T, cloL l = clL nb l
  | [] => rfl
  | t :: l => by simp only [cloL, clL, clo_cl t, cloL_cl l]
end
mutual
theorem cloA_cl : ∀ t : T, t.cloA = t.cl ab
  | .nd l => by simp only [T.cloA, T.cl]; exact cloAL_cl l
  | .sl g l => by simp only [T.cloA, T.cl, ab, Bool.true_and]; exact cloAL_cl l
  | .ow _ l => by simp only [T.cloA, T.cl]; exact cloAL_cl l
  | .int .. => rfl
  | .bool _ => rfl
  | .str _ => rfl
  | .nilI => rfl
  | .nilP => rfl
  | .err => rfl
  | .any => rfl
  | .nils _ => rfl
  | .ref .. => rfl
  | .vr .. => rfl
  | .ptr .. => rfl
  | .fp _ => rfl
  | .io _ => rfl
  | .fn .. => rfl
  | .tup _ => rfl
  | .undef => rfl
  | .opt .. => rfl
theorem cloAL_cl : ∀ l : List T, cloAL l = clL ab l
  | [] => rfl
  | t :: l => by simp only [cloAL, clL, cloA_cl t, cloAL_cl l]
end
mutual
theorem tg_id : ∀ t : T, t.tg id = t
  | .nd l => by simp only [T.tg, tgL_id l]
  | .sl g l => by simp only [T.tg, tgL_id l, id]
  | .ow _ l => by simp only [T.tg, tgL_id l]
  | .tup l => by simp only [T.tg, tgL_id l]
  | .io t => by simp only [T.tg, tg_id t]
  | .fp t => by simp only [T.tg, tg_id t]
  | .int .. => rfl
  | .bool _ => rfl
  | .str _ => rfl
  | .nilI => rfl
  | .nilP => rfl
  | .err => rfl
  | .any => rfl
  | .nils _ => rfl
  | .ref .. => rfl
  | .vr .. => rfl
  | .ptr .. => rfl
  | .fn .. => rfl
  | .undef => rfl
  | .opt .. => rfl
theorem tgL_id : ∀ l : List T, tgL id l = l
  | [] => rfl
  | t :: l => by simp only [tgL, tg_id t, tgL_id l]
end

/-- a closed tree may go from one activation to another, its tags turned -/
structure Cx.Hand (τ : Tag → Tag) (ok : Tag → Bool) (c c' : Cx) : Prop where
  zs : ∀ g b, ok g = true → c.zz g b → c'.zz (τ g) b
  hs : ∀ g b, ok g = true → c.zz g b → c'.w.heap[b]? = c.w.heap[b]?

section
variable {τ : Tag → Tag} {ok : Tag → Bool} {c c' : Cx} (h : c.Hand τ ok c')
include h
mutual
theorem RC.hand : ∀ (t : T) {cs : List Value} {bs : List Nat}, t.cl ok = true → (∀ b ∈ bs, c'.w.heap[b]? = c.w.heap[b]?) → RC c t cs bs → RC c' (t.tg τ) cs bs
  | .int .., _, _, _, _, r => r
  | .bool .., _, _, _, _, r => r
  | .str .., _, _, _, _, r => r
  | .nilI, _, _, _, _, r => r
  | .nilP, _, _, _, _, r => r
  | .err, _, _, _, _, r => r
  | .any, _, _, _, _, r => r
  | .nils _, _, _, _, _, r => r
  | .nd l, _, _, hc, hb, r => by
    simp only [RC, T.tg] at r ⊢; exact RCL.hand l (by simpa [T.cl] using hc) hb r
  | .sl g l, _, _, hc, hb, r => by
    simp only [T.cl, Bool.and_eq_true] at hc
    obtain ⟨hg, hc⟩ := hc
    obtain ⟨e, A, k, e1, hk, r⟩ := r
    simp only [T.tg]
    refine ⟨e, A, k, by rw [tgL_len]; exact e1, by rw [tgL_len]; exact hk, ?_⟩
    rcases r with rfl | ⟨a, es, rows, e2, e3, e4, r1, r2, r3⟩
    · exact .inl rfl
    · exact .inr ⟨a, es, rows, e2, e3, e4, RRows.hand es l hc (by simp) r1, r2.agree (h.hs _ _ hg r3), h.zs _ _ hg r3⟩
  | .ow es l, _, _, hc, hb, r => by
    obtain ⟨A, k, e1, r⟩ := r
    simp only [T.tg]
    refine ⟨A, k, by rw [tgL_len]; exact e1, ?_⟩
    rcases r with ⟨h1, rfl, h2⟩ | ⟨a, rows, bs', e2, o, r1, r2, r3, rfl⟩
    · exact .inl ⟨h1, rfl, h2⟩
    · have h0 := hb a.block (by simp)
      exact .inr ⟨a, rows, bs', e2, o.agree h0, RRows.hand es l (by simpa [T.cl] using hc) (fun b hx => hb b (by simp [hx])) r1, r2.agree h0, by rw [tgL_len]; exact r3, rfl⟩
  | .ref .., _, _, hc, _, _ => by simp [T.cl] at hc
  | .vr .., _, _, hc, _, _ => by simp [T.cl] at hc
  | .ptr .., _, _, hc, _, _ => by simp [T.cl] at hc
  | .fp .., _, _, hc, _, _ => by simp [T.cl] at hc
  | .fn .., _, _, hc, _, _ => by simp [T.cl] at hc
  | .tup .., _, _, hc, _, _ => by simp [T.cl] at hc
  | .io .., _, _, hc, _, _ => by simp [T.cl] at hc
  | .undef, _, _, hc, _, _ => by simp [T.cl] at hc
  | .opt .., _, _, hc, _, _ => by simp [T.cl] at hc
theorem RCL.hand : ∀ (l : List T) {cs : List Value} {bs : List Nat}, clL ok l = true → (∀ b ∈ bs, c'.w.heap[b]? = c.w.heap[b]?) → RCL c l cs bs → RCL c' (tgL τ l) cs bs
  | [], _, _, _, _, r => r
  | t :: l, _, _, hc, hb, r => by
    simp only [clL, Bool.and_eq_true] at hc
    obtain ⟨c1, c2, b1, b2, e1, rfl, r1, r2⟩ := r
    exact ⟨c1, c2, b1, b2, e1, rfl, RC.hand t hc.1 (fun b hx => hb b (by simp [hx])) r1, RCL.hand l hc.2 (fun b hx => hb b (by simp [hx])) r2⟩
theorem RRows.hand (es : Nat) : ∀ (l : List T) {cs : List Value} {bs : List Nat}, clL ok l = true → (∀ b ∈ bs, c'.w.heap[b]? = c.w.heap[b]?) → RRows c es l cs bs → RRows c' es (tgL τ l) cs bs
  | [], _, _, _, _, r => r
  | t :: l, _, _, hc, hb, r => by
    simp only [clL, Bool.and_eq_true] at hc
    obtain ⟨c1, c2, b1, b2, e1, rfl, e2, r1, r2⟩ := r
    exact ⟨c1, c2, b1, b2, e1, rfl, e2, RC.hand t hc.1 (fun b hx => hb b (by simp [hx])) r1, RRows.hand es l hc.2 (fun b hx => hb b (by simp [hx])) r2⟩
end

theorem tg_asArr {t : T} (ha : t.asArr = none) (hc : t.cl ok = true) : (t.tg τ).asArr = none := by
  cases t with
  | tup l => simp [T.cl] at hc
  | _ => rfl
theorem HVar.hand {i : Info} {t : T} {bs : List Nat} (hc : t.cl ok = true) (hb : ∀ b ∈ bs, c'.w.heap[b]? = c.w.heap[b]?) (r : HVar c i t bs) : HVar c' i (t.tg τ) bs := by
  obtain ⟨cs, bs', arr, rfl, r1, r2, r3⟩ := r
  exact ⟨cs, bs', arr, rfl, RC.hand h t hc (fun b hx => hb b (by simp [hx])) r1, by rw [hb i.blk (by simp)]; exact r2, r3⟩
theorem HArr.hand {i : Info} {es : Nat} {l : List T} {bs : List Nat} (hc : clL ok l = true) (hb : ∀ b ∈ bs, c'.w.heap[b]? = c.w.heap[b]?) (r : HArr c i es l bs) : HArr c' i es (tgL τ l) bs := by
  obtain ⟨e1, e2, e3, r⟩ := r
  refine ⟨e1, e2, by rw [tgL_len]; exact e3, r.imp id ?_⟩
  rintro ⟨rows, bs', rfl, r1, r2, r3⟩
  have h0 := hb i.blk (by simp)
  exact ⟨rows, bs', rfl, RRows.hand h es l hc (fun b hx => hb b (by simp [hx])) r1, r2.agree h0, r3.agree h0⟩
/-- 'cloO' for tags that are ok -/
def T.clO (ok : Tag → Bool) (t : T) : Bool := match t.asArr with
  | some y => clL ok y.2
  | none => t.cl ok
theorem HOut.hand {i : Info} {t : T} {bs : List Nat} (hc : t.clO ok = true) (hb : ∀ b ∈ bs, c'.w.heap[b]? = c.w.heap[b]?) (r : HOut c i t bs) : HOut c' i (t.tg τ) bs := by
  cases ha : t.asArr with
  | some y =>
    obtain rfl := asArr_some ha
    exact HArr.hand h (by simpa [T.clO, T.asArr] using hc) hb r
  | none =>
    simp only [HOut, T.clO, ha] at hc r ⊢
    rw [tg_asArr h ha hc]; exact HVar.hand h hc hb r
theorem RIo.hand {i : Info} {t : T} {v : Value} {bs : List Nat} (hc : t.clO ok = true) (hb : ∀ b ∈ bs, c'.w.heap[b]? = c.w.heap[b]?) (r : RIo c t i v bs) : RIo c' (t.tg τ) i v bs := by
  cases ha : t.asArr with
  | some y =>
    obtain rfl := asArr_some ha
    obtain ⟨⟨A, h1, h2⟩, h3⟩ := r
    exact ⟨⟨A, by rw [tgL_len]; exact h1, h2⟩, HArr.hand h (by simpa [T.clO, T.asArr] using hc) hb h3⟩
  | none =>
    simp only [RIo, T.clO, ha] at hc r ⊢
    rw [tg_asArr h ha hc]; exact ⟨r.1, HVar.hand h hc hb r.2⟩
end
theorem cloO_cl (t : T) : t.cloO = t.clO nb := by unfold T.cloO T.clO; cases t.asArr <;> simp [clo_cl, cloL_cl]
theorem cloOA_cl (t : T) : t.cloOA = t.clO ab := by unfold T.cloOA T.clO; cases t.asArr <;> simp [cloA_cl, cloAL_cl]

theorem RC_fixEs {c : Cx} {es : Nat} {t : T} {cs : List Value} {bs : List Nat} (h : RC c t cs bs) : RC c (fixEs es t) cs bs := by
  unfold fixEs
  split
  · obtain ⟨A, k, e, r⟩ := h
    refine ⟨A, k, e, ?_⟩
    rcases r with r | ⟨a, rows, b, _, ho, _⟩
    · exact .inl r
    · exact absurd ho.2.1 (by omega)
  · exact h
theorem fixEs_clo {es : Nat} {t : T} (h : t.cloA = true) : (fixEs es t).cloA = true := by
  unfold fixEs; split
  · rfl
  · exact h
theorem fixEs_nd {es : Nat} {t : T} : (fixEs es t).isNd = t.isNd := by
  unfold fixEs; split <;> rfl

theorem RX_of_RC {c : Cx} {t : T} {v : Value} {bs : List Nat} (hc : t.cloA = true) (h : RC c t v.cells.toList bs) (hn : t.isNd = true → ∃ cs, v = .agg cs) (h1 : t.isNd = false → ¬ ∃ cs, v = .agg cs) :
    RX c t none v bs := by
  have single : t.isNd = false → v.cells.toList = [v] := fun hf => by
    cases v <;> first | rfl | exact absurd ⟨_, rfl⟩ (h1 hf)
  cases t with
  | nd l =>
    obtain ⟨cs, rfl⟩ := hn rfl
    exact ⟨rfl, cs, rfl, by simpa only [RC, Value.cells] using h⟩
  | ow es l => rw [single rfl] at h; exact ⟨rfl, h⟩
  | int => rw [single rfl] at h; obtain ⟨e, rfl⟩ := h; exact ⟨rfl, rfl, by simpa [RV] using e⟩
  | bool => rw [single rfl] at h; obtain ⟨e, rfl⟩ := h; exact ⟨rfl, rfl, by simpa [RV] using e⟩
  | str => rw [single rfl] at h; obtain ⟨e, rfl⟩ := h; exact ⟨rfl, rfl, by simpa [RV] using e⟩
  | nilI => rw [single rfl] at h; obtain ⟨e, rfl⟩ := h; exact ⟨rfl, rfl, by simpa [RV] using e⟩
  | nilP => rw [single rfl] at h; obtain ⟨e, rfl⟩ := h; exact ⟨rfl, rfl, by simpa [RV] using e⟩
  | err => rw [single rfl] at h; obtain ⟨rfl, t, x, e⟩ := h; exact ⟨rfl, rfl, t, x, by simpa using e⟩
  | any => rw [single rfl] at h; obtain ⟨rfl, x, e, r⟩ := h; exact ⟨rfl, rfl, by simp only [List.cons.injEq, and_true] at e; subst e; exact r⟩
  | nils => rw [single rfl] at h; obtain ⟨rfl, A, e⟩ := h; exact ⟨rfl, rfl, A, by simpa using e⟩
  | sl g l => rw [single rfl] at h; obtain ⟨rfl, A, k, e, r⟩ := h; exact ⟨rfl, rfl, A, k, by simpa using e, r⟩
  | _ => simp [T.cloA] at hc

end Go.Vm
