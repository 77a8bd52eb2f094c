/- Shows what the parts of the program do that the claim reaches: a machine of values over the model, and the contracts of functions, for all arguments within the lengths that each theorem names. -/
import Derived.Test.YtjodaapkfknfnaaXViewV2
set_option linter.all false

namespace Go.Vm

theorem put_gone {H : Heap} {e j e' j' : Nat} (h : H.at e' j' = some .gone) : (H.put e j .gone).at e' j' = some .gone := by
  unfold Heap.at Heap.put at *
  cases hl : H[e]? with
  | none => simpa [hl] using h
  | some l =>
    simp only
    by_cases he : e = e'
    · subst he
      simp only [hl] at h
      simp only [List.getElem?_set_self (List.getElem?_eq_some_iff.1 hl).1]
      by_cases hj : j = j'
      · subst hj; exact List.getElem?_set_self (List.getElem?_eq_some_iff.1 h).1
      · rw [List.getElem?_set_ne hj]; exact h
    · simp only [List.getElem?_set_ne he]; exact h

theorem put_at {H : Heap} {e j : Nat} {ob x : Ob} (h : H.at e j = some ob) : (H.put e j x).at e j = some x := by
  unfold Heap.at Heap.put at *
  cases hl : H[e]? with
  | none => simp [hl] at h
  | some l =>
    simp only [hl] at h ⊢
    simp only [List.getElem?_set_self (List.getElem?_eq_some_iff.1 hl).1]
    exact List.getElem?_set_self (List.getElem?_eq_some_iff.1 h).1

mutual
theorem giveS_gone : ∀ (t : T) {H H' : Heap} {u : T} {e j : Nat}, H.at e j = some .gone → giveS t H = some (u, H') → H'.at e j = some .gone
  | .nd l, H, H', u, e, j, h, hm => by
    simp only [giveS] at hm
    cases hl : giveSL l H with
    | none => simp [hl] at hm
    | some x =>
      simp only [hl, Option.some.injEq, Prod.mk.injEq] at hm; obtain ⟨rfl, rfl⟩ := hm
      exact giveSL_gone l h (show giveSL l H = some (x.1, x.2) from hl)
  | .ref .., H, H', u, e, j, h, hm => by
    simp only [giveS] at hm
    split at hm
    · split at hm
      · simp only [Option.some.injEq, Prod.mk.injEq] at hm; obtain ⟨rfl, rfl⟩ := hm
        exact put_gone h
      · cases hm
    · cases hm
  | .sl g l, H, H', u, e, j, h, hm => by
    simp only [giveS] at hm; split at hm
    · simp only [Option.some.injEq, Prod.mk.injEq] at hm; obtain ⟨rfl, rfl⟩ := hm; exact h
    · cases hm
  | .ow es l, H, H', u, e, j, h, hm => by
    simp only [giveS] at hm; split at hm
    · simp only [Option.some.injEq, Prod.mk.injEq] at hm; obtain ⟨rfl, rfl⟩ := hm; exact h
    · cases hm
  | .int .., H, H', u, e, j, h, hm => by simp only [giveS, Option.some.injEq, Prod.mk.injEq] at hm; obtain ⟨rfl, rfl⟩ := hm; exact h
  | .bool .., H, H', u, e, j, h, hm => by simp only [giveS, Option.some.injEq, Prod.mk.injEq] at hm; obtain ⟨rfl, rfl⟩ := hm; exact h
  | .str .., H, H', u, e, j, h, hm => by simp only [giveS, Option.some.injEq, Prod.mk.injEq] at hm; obtain ⟨rfl, rfl⟩ := hm; exact h
  | .nilI, H, H', u, e, j, h, hm => by simp only [giveS, Option.some.injEq, Prod.mk.injEq] at hm; obtain ⟨rfl, rfl⟩ := hm; exact h
  | .nilP, H, H', u, e, j, h, hm => by simp only [giveS, Option.some.injEq, Prod.mk.injEq] at hm; obtain ⟨rfl, rfl⟩ := hm; exact h
  | .err, H, H', u, e, j, h, hm => by simp only [giveS, Option.some.injEq, Prod.mk.injEq] at hm; obtain ⟨rfl, rfl⟩ := hm; exact h
  | .any, H, H', u, e, j, h, hm => by simp only [giveS, Option.some.injEq, Prod.mk.injEq] at hm; obtain ⟨rfl, rfl⟩ := hm; exact h
  | .nils es, H, H', u, e, j, h, hm => by simp only [giveS, Option.some.injEq, Prod.mk.injEq] at hm; obtain ⟨rfl, rfl⟩ := hm; exact h
  | .vr .., H, H', u, e, j, h, hm => by simp [giveS] at hm
  | .ptr .., H, H', u, e, j, h, hm => by simp [giveS] at hm
  | .fp .., H, H', u, e, j, h, hm => by simp [giveS] at hm
  | .fn .., H, H', u, e, j, h, hm => by simp [giveS] at hm
  | .tup _, H, H', u, e, j, h, hm => by simp [giveS] at hm
  | .io _, H, H', u, e, j, h, hm => by simp [giveS] at hm
  | .undef, H, H', u, e, j, h, hm => by simp [giveS] at hm
  | .opt _ _, H, H', u, e, j, h, hm => by simp [giveS] at hm
theorem giveSL_gone : ∀ (l : List T) {H H' : Heap} {u : List T} {e j : Nat}, H.at e j = some .gone → giveSL l H = some (u, H') → H'.at e j = some .gone
  | [], H, H', u, e, j, h, hm => by simp only [giveSL, Option.some.injEq, Prod.mk.injEq] at hm; obtain ⟨rfl, rfl⟩ := hm; exact h
  | t :: l, H, H', u, e, j, h, hm => by
    simp only [giveSL] at hm
    cases h1 : giveS t H with
    | none => simp [h1] at hm
    | some x =>
      simp only [h1] at hm
      cases h2 : giveSL l x.2 with
      | none => simp [h2] at hm
      | some y =>
        simp only [h2, Option.some.injEq, Prod.mk.injEq] at hm; obtain ⟨rfl, rfl⟩ := hm
        exact giveSL_gone l (giveS_gone t h (show giveS t H = some (x.1, x.2) from h1)) (show giveSL l x.2 = some (y.1, y.2) from h2)
end

theorem Given.perm {F : Fr} {c : Cx} {H : Heap} {bs bu bs' bx : List Nat} (h : Given F c bs H bu bs') (hm : ∀ x, x ∈ bx → x ∈ bu) (hn : bx.Nodup) : Given F c bs H bx bs' :=
  ⟨h.inv, hn, fun b hb => h.sub b (hm b hb), h.rest⟩

def closedArgs (l : List (Bool × T)) : Prop := ∀ x ∈ l, x.1 = false → x.2.cloA = true ∨ (∃ u, x.2 = .io u ∧ u.cloOA = true) ∨ (∃ u, x.2 = .fp (.io u) ∧ u.cloA = true) ∨ ∃ l, x.2 = .nd l ∧ clNL l = true ∧ hasIoL l = true

theorem agg_nd {c : Cx} {t : T} {v : Value} (h : RV c t v) (hc : t.cel = true) : (t.isNd = true → ∃ cs, v = .agg cs) ∧ (t.isNd = false → ¬ ∃ cs, v = .agg cs) := by
  cases t with
  | nd l => obtain ⟨cs, rfl, _⟩ := h; exact ⟨fun _ => ⟨_, rfl⟩, fun hf => by simp [T.isNd] at hf⟩
  | int => simp only [RV] at h; subst h; exact ⟨fun hf => by simp [T.isNd] at hf, fun _ => by simp⟩
  | bool => simp only [RV] at h; subst h; exact ⟨fun hf => by simp [T.isNd] at hf, fun _ => by simp⟩
  | str => simp only [RV] at h; subst h; exact ⟨fun hf => by simp [T.isNd] at hf, fun _ => by simp⟩
  | nilI => simp only [RV] at h; subst h; exact ⟨fun hf => by simp [T.isNd] at hf, fun _ => by simp⟩
  | nilP => simp only [RV] at h; subst h; exact ⟨fun hf => by simp [T.isNd] at hf, fun _ => by simp⟩
  | err => obtain ⟨_, _, rfl⟩ := h; exact ⟨fun hf => by simp [T.isNd] at hf, fun _ => by simp⟩
  | any => exact ⟨fun hf => by simp [T.isNd] at hf, fun _ => by rintro ⟨cs, rfl⟩; simp [RV, Value.oneCell'] at h⟩
  | nils => obtain ⟨_, rfl⟩ := h; exact ⟨fun hf => by simp [T.isNd] at hf, fun _ => by simp⟩
  | sl => obtain ⟨_, _, rfl, _⟩ := h; exact ⟨fun hf => by simp [T.isNd] at hf, fun _ => by simp⟩
  | ref => obtain ⟨_, _, _, rfl, _⟩ := h; exact ⟨fun hf => by simp [T.isNd] at hf, fun _ => by simp⟩
  | vr => obtain ⟨_, _, _, rfl, _⟩ := h; exact ⟨fun hf => by simp [T.isNd] at hf, fun _ => by simp⟩
  | ptr => obtain ⟨_, _, rfl⟩ := h; exact ⟨fun hf => by simp [T.isNd] at hf, fun _ => by simp⟩
  | fp => obtain ⟨_, _, rfl, _⟩ := h; exact ⟨fun hf => by simp [T.isNd] at hf, fun _ => by simp⟩
  | fn => obtain ⟨_, _, rfl, _⟩ := h; exact ⟨fun hf => by simp [T.isNd] at hf, fun _ => by simp⟩
  | _ => simp [T.cel] at hc


theorem BackOk_app {c : Cx} {H : Heap} : ∀ (i1 : List (Option Info)) (b1 : List Back) {i2 : List (Option Info)} {b2 : List Back}, BackOk c H b1 i1 → BackOk c H b2 i2 → BackOk c H (b1 ++ b2) (i1 ++ i2)
  | [], [], _, _, _, h2 => h2
  | [], _ :: _, _, _, h1, _ => by simp [BackOk] at h1
  | none :: i1, b1, i2, b2, h1, h2 => by
    have h1' : BackOk c H b1 i1 := by cases b1 <;> simp [BackOk] at h1 ⊢ <;> exact h1
    have := BackOk_app i1 b1 h1' h2
    cases hb : b1 ++ b2 with
    | nil => rw [hb] at this; simp [BackOk] at this ⊢; exact this
    | cons => rw [hb] at this; simpa [BackOk] using this
  | some i :: i1, [], _, _, h1, _ => by simp [BackOk] at h1
  | some i :: i1, b :: b1, i2, b2, h1, h2 => ⟨h1.1, h1.2.1, BackOk_app i1 b1 h1.2.2 h2⟩
theorem BackOk.later {c : Cx} {H H' : Heap} (h : ∀ e j, H.at e j = some .gone → H'.at e j = some .gone) : ∀ (is : List (Option Info)) (backs : List Back), BackOk c H backs is → BackOk c H' backs is
  | is, [], hb => by cases is <;> exact hb
  | [], _ :: _, hb => hb
  | none :: is, b :: bs, hb => by simp only [BackOk] at hb ⊢; exact BackOk.later h is (b :: bs) hb
  | some i :: is, b :: bs, hb => ⟨hb.1, h _ _ hb.2.1, BackOk.later h is bs hb.2.2⟩

/-- an array that is handed over -/
theorem ioArr_ok {F : Fr} {c : Cx} {H : Heap} {bs : List Nat} {e j es len : Nat} {l : List T} {v : Value} (h : InvH F c H bs) (ha : H.at e j = some (.arr es l false)) (hl : len = l.length) (h1 : RV c (.ref e j 0 len) v) :
    ∃ i q bs', c.μ e j = some i ∧ Given F c bs (H.put e j .gone) q bs' ∧ RIo c (.tup [.ow es l]) i v q := by
  obtain ⟨A, k, i, rfl, hlk, hi, hcap, hA⟩ := h1
  obtain ⟨p, q, r, rfl, hob, hinv⟩ := HR.drop h ha
  obtain ⟨i', hi', harr⟩ := hob
  rw [hi] at hi'; cases hi'
  have hnd := h.nd
  have hq : q.Nodup := by
    rw [List.nodup_append, List.nodup_append] at hnd
    exact hnd.2.1.1
  have hout : ∀ b ∈ q, b ∉ p ++ r := fun b hb hx => by
    rw [List.nodup_append, List.nodup_append] at hnd
    rcases List.mem_append.1 hx with hx | hx
    · exact hnd.2.2 b hx b (List.mem_append.2 (.inl hb)) rfl
    · exact hnd.2.1.2.2 b hb b hx rfl
  refine ⟨i, q, p ++ r, hi, ⟨hinv, hq, fun b hb => ⟨by simp only [List.mem_append]; exact .inr (.inl hb), hout b hb⟩, fun b hb => by
    rcases List.mem_append.1 hb with hb | hb
    · simp [hb]
    · simp only [List.mem_append]; exact .inr (.inr hb)⟩, ?_⟩
  simp only [Nat.zero_add] at hcap
  subst hcap; subst hl
  refine ⟨⟨A, rfl, ?_⟩, harr⟩
  rcases hA with h0 | hA
  · exact .inl h0
  · right; rw [hA]; simp [Info.addr]

mutual
theorem ioN_ok {F : Fr} {c : Cx} : ∀ (t : T) {H H' : Heap} {bs : List Nat} {cs : List Value} {u : T} {backs : List Back}, InvH F c H bs → RC c t cs [] → ioN t H = some (u, backs, H') →
    ∃ is bx bs', Given F c bs H' bx bs' ∧ RN c u is cs bx ∧ BackOk c H' backs is ∧ u.clN = true ∧
      (∀ own : Nat, H[own]? = some [] → H'[own]? = some []) ∧ (∀ e j : Nat, H.at e j = some .gone → H'.at e j = some .gone)
  | .int .., H, H', bs, cs, u, backs, h, r, hm => by
    simp only [ioN, Option.some.injEq, Prod.mk.injEq] at hm; obtain ⟨rfl, rfl, rfl⟩ := hm
    exact ⟨[], [], bs, .refl h, ⟨rfl, r⟩, by simp [BackOk], rfl, fun _ h => h, fun _ _ h => h⟩
  | .bool .., H, H', bs, cs, u, backs, h, r, hm => by
    simp only [ioN, Option.some.injEq, Prod.mk.injEq] at hm; obtain ⟨rfl, rfl, rfl⟩ := hm
    exact ⟨[], [], bs, .refl h, ⟨rfl, r⟩, by simp [BackOk], rfl, fun _ h => h, fun _ _ h => h⟩
  | .str .., H, H', bs, cs, u, backs, h, r, hm => by
    simp only [ioN, Option.some.injEq, Prod.mk.injEq] at hm; obtain ⟨rfl, rfl, rfl⟩ := hm
    exact ⟨[], [], bs, .refl h, ⟨rfl, r⟩, by simp [BackOk], rfl, fun _ h => h, fun _ _ h => h⟩
  | .nd l, H, H', bs, cs, u, backs, h, r, hm => by
    simp only [ioN] at hm
    split at hm
    case h_2 => cases hm
    rename_i x hx
    simp only [Option.some.injEq, Prod.mk.injEq] at hm; obtain ⟨rfl, rfl, rfl⟩ := hm
    exact ioNL_ok l h r (show ioNL l H = some (x.1, x.2.1, x.2.2) from hx)
  | .ref e j off len, H, H', bs, cs, u, backs, h, r, hm => by
    simp only [ioN] at hm
    split at hm
    case h_2 => cases hm
    rename_i es l ha
    split at hm
    case isFalse => cases hm
    rename_i hc
    obtain ⟨rfl, hl, hclo⟩ := hc
    simp only [Option.some.injEq, Prod.mk.injEq] at hm; obtain ⟨rfl, rfl, rfl⟩ := hm
    have hv : ∃ v, cs = [v] ∧ RV c (.ref e j 0 len) v := by
      obtain ⟨_, A, k, i, rfl, r⟩ := r
      exact ⟨_, rfl, A, k, i, rfl, r⟩
    obtain ⟨v, rfl, hv⟩ := hv
    obtain ⟨i, q, bs', hi, hg, hr⟩ := ioArr_ok h ha hl hv
    exact ⟨[some i], q, bs', hg, ⟨i, v, rfl, rfl, rfl, hr⟩, ⟨hi, put_at ha, by simp [BackOk]⟩, by simp [T.clN, T.asArr, T.cloOA, hclo], fun own hh => put_own hh ha, fun _ _ hh => put_gone hh⟩
  | .nilI, _, _, _, _, _, _, _, _, hm | .nilP, _, _, _, _, _, _, _, _, hm | .err, _, _, _, _, _, _, _, _, hm | .any, _, _, _, _, _, _, _, _, hm | .nils _, _, _, _, _, _, _, _, _, hm | .sl .., _, _, _, _, _, _, _, _, hm | .ow .., _, _, _, _, _, _, _, _, hm
  | .vr .., _, _, _, _, _, _, _, _, hm | .ptr .., _, _, _, _, _, _, _, _, hm | .fp _, _, _, _, _, _, _, _, _, hm | .io _, _, _, _, _, _, _, _, _, hm | .fn .., _, _, _, _, _, _, _, _, hm | .tup _, _, _, _, _, _, _, _, _, hm | .undef, _, _, _, _, _, _, _, _, hm | .opt .., _, _, _, _, _, _, _, _, hm => by simp [ioN] at hm
theorem ioNL_ok {F : Fr} {c : Cx} : ∀ (l : List T) {H H' : Heap} {bs : List Nat} {cs : List Value} {u : List T} {backs : List Back}, InvH F c H bs → RCL c l cs [] → ioNL l H = some (u, backs, H') →
    ∃ is bx bs', Given F c bs H' bx bs' ∧ RNL c u is cs bx ∧ BackOk c H' backs is ∧ clNL u = true ∧
      (∀ own : Nat, H[own]? = some [] → H'[own]? = some []) ∧ (∀ e j : Nat, H.at e j = some .gone → H'.at e j = some .gone)
  | [], H, H', bs, cs, u, backs, h, r, hm => by
    simp only [ioNL, Option.some.injEq, Prod.mk.injEq] at hm; obtain ⟨rfl, rfl, rfl⟩ := hm
    exact ⟨[], [], bs, .refl h, ⟨rfl, r.1, rfl⟩, by simp [BackOk], rfl, fun _ h => h, fun _ _ h => h⟩
  | t :: l, H, H', bs, cs, u, backs, h, r, hm => by
    simp only [ioNL] at hm
    split at hm
    case h_2 => cases hm
    rename_i x hx
    split at hm
    case h_2 => cases hm
    rename_i y hy
    simp only [Option.some.injEq, Prod.mk.injEq] at hm; obtain ⟨rfl, rfl, rfl⟩ := hm
    obtain ⟨c1, c2, b1, b2, rfl, hb, r1, r2⟩ := r
    simp only [List.nil_eq, List.append_eq_nil_iff] at hb
    obtain ⟨rfl, rfl⟩ := hb
    obtain ⟨i1, x1, s1, g1, n1, k1, cl1, o1, z1⟩ := ioN_ok t h r1 (show ioN t H = some (x.1, x.2.1, x.2.2) from hx)
    obtain ⟨i2, x2, s2, g2, n2, k2, cl2, o2, z2⟩ := ioNL_ok l g1.inv r2 (show ioNL l x.2.2 = some (y.1, y.2.1, y.2.2) from hy)
    exact ⟨i1 ++ i2, x1 ++ x2, s2, g1.trans g2, ⟨i1, i2, c1, c2, x1, x2, rfl, rfl, rfl, n1, n2⟩, BackOk_app _ _ (BackOk.later z2 _ _ k1) k2, by simp [clNL, cl1, cl2], fun own hh => o2 own (o1 own hh), fun e j hh => z2 e j (z1 e j hh)⟩
end

theorem pass1_ok {F : Fr} {c : Cx} : ∀ (ms : List Mode) (ts : List T) {H H' : Heap} {bs : List Nat} {vs : List Value} {as : List (Bool × T)} {backs : List Back}, InvH F c H bs → RVL c ts vs →
    pass1 ms ts H = some (as, backs, H') → ∃ is bx bs', Given F c bs H' bx bs' ∧ PA c as is vs bx ∧ BackOk c H' backs is ∧ closedArgs as ∧
      (∀ own : Nat, H[own]? = some [] → H'[own]? = some []) ∧ (∀ e j : Nat, H.at e j = some .gone → H'.at e j = some .gone)
  | ms, [], H, H', bs, vs, as, backs, h, hv, hm => by
    have : pass1 ms [] H = some ([], [], H) := by cases ms <;> simp [pass1]
    rw [this] at hm
    simp only [Option.some.injEq, Prod.mk.injEq] at hm; obtain ⟨rfl, rfl, rfl⟩ := hm
    exact ⟨[], [], bs, .refl h, ⟨rfl, hv, rfl⟩, by simp [BackOk], by intro x hx; simp at hx, fun _ h => h, fun _ _ h => h⟩
  | [], t :: ts, H, H', bs, vs, as, backs, h, hv, hm => by
    simp only [pass1] at hm
    split at hm
    case h_2 => cases hm
    rename_i x hx
    simp only [Option.some.injEq, Prod.mk.injEq] at hm; obtain ⟨rfl, rfl, rfl⟩ := hm
    obtain ⟨v, vs', rfl, h1, h2⟩ := hv
    obtain ⟨is, bx, bs', hg, hpa, hb, hcl, ho, hgo⟩ := pass1_ok [] ts h h2 (show pass1 [] ts H = some (x.1, x.2.1, x.2.2) from hx)
    exact ⟨none :: is, bx, bs', hg, ⟨is, v, vs', rfl, rfl, h1, hpa⟩, by cases hbb : x.2.1 <;> simp [BackOk, hbb] at hb ⊢ <;> exact hb, fun y hy => by
      rcases List.mem_cons.1 hy with rfl | hy
      · intro hf; simp at hf
      · exact hcl y hy, ho, hgo⟩
  | .lend :: ms, t :: ts, H, H', bs, vs, as, backs, h, hv, hm => by
    simp only [pass1] at hm
    split at hm
    case h_2 => cases hm
    rename_i x hx
    simp only [Option.some.injEq, Prod.mk.injEq] at hm; obtain ⟨rfl, rfl, rfl⟩ := hm
    obtain ⟨v, vs', rfl, h1, h2⟩ := hv
    obtain ⟨is, bx, bs', hg, hpa, hb, hcl, ho, hgo⟩ := pass1_ok ms ts h h2 (show pass1 ms ts H = some (x.1, x.2.1, x.2.2) from hx)
    exact ⟨none :: is, bx, bs', hg, ⟨is, v, vs', rfl, rfl, h1, hpa⟩, by cases hbb : x.2.1 <;> simp [BackOk, hbb] at hb ⊢ <;> exact hb, fun y hy => by
      rcases List.mem_cons.1 hy with rfl | hy
      · intro hf; simp at hf
      · exact hcl y hy, ho, hgo⟩
  | .own es :: ms, t :: ts, H, H', bs, vs, as, backs, h, hv, hm => by
    simp only [pass1] at hm
    split at hm
    case isFalse => cases hm
    rename_i hcel
    split at hm
    case h_2 => cases hm
    rename_i y hy
    split at hm
    case h_2 => cases hm
    rename_i x hx
    simp only [Option.some.injEq, Prod.mk.injEq] at hm; obtain ⟨rfl, rfl, rfl⟩ := hm
    obtain ⟨v, vs', rfl, h1, h2⟩ := hv
    obtain ⟨bu, bs1, hg1, b1, hr1, hm1, hn1⟩ := giveS_rc t h (h1.cells hcel) (show giveS t H = some (y.1, y.2) from hy)
    obtain ⟨hclo, hnd⟩ := giveS_clo t (show giveS t H = some (y.1, y.2) from hy)
    have hg1' := hg1.perm (bx := b1) (fun x hx => by simpa using (hm1 x).1 hx) (hn1 (by simp) (by simp))
    obtain ⟨is, bx, bs', hg, hpa, hb, hcl, ho, hgo⟩ := pass1_ok ms ts hg1.inv h2 (show pass1 ms ts y.2 = some (x.1, x.2.1, x.2.2) from hx)
    obtain ⟨ha1, ha2⟩ := agg_nd h1 hcel
    refine ⟨none :: is, b1 ++ bx, bs', hg1'.trans hg, ⟨[none], is, v, vs', b1, bx, rfl, rfl, rfl, .inl ⟨none, rfl, ?_⟩, hpa⟩, by cases hbb : x.2.1 <;> simp [BackOk, hbb] at hb ⊢ <;> exact hb, fun z hz => ?_, fun own hh => ho own (giveS_own t hh (show giveS t H = some (y.1, y.2) from hy)),
      fun e j hh => hgo e j (giveS_gone t hh (show giveS t H = some (y.1, y.2) from hy))⟩
    · exact RX_of_RC (fixEs_clo hclo) (RC_fixEs hr1) (by rw [fixEs_nd, hnd]; exact ha1) (by rw [fixEs_nd, hnd]; exact ha2)
    · rcases List.mem_cons.1 hz with rfl | hz
      · intro _; exact .inl (fixEs_clo hclo)
      · exact hcl z hz
  | .io :: ms, t :: ts, H, H', bs, vs, as, backs, h, hv, hm => by
    simp only [pass1] at hm
    split at hm
    case h_2 => cases hm
    rename_i e j
    split at hm
    case h_2 => cases hm
    rename_i u ha
    split at hm
    case h_2 => cases hm
    rename_i y hy
    split at hm
    case h_2 => cases hm
    rename_i x hx
    simp only [Option.some.injEq, Prod.mk.injEq] at hm; obtain ⟨rfl, rfl, rfl⟩ := hm
    obtain ⟨v, vs', rfl, h1, h2⟩ := hv
    obtain ⟨i, hi, rfl⟩ := h1
    obtain ⟨p, q, r, rfl, hob, hinv⟩ := HR.drop h ha
    obtain ⟨i', hi', cs, b', arr, rfl, hr, hrest⟩ := hob
    rw [hi] at hi'; cases hi'
    have hnd := h.nd
    have hmid := nodup_mid hnd
    have hout : ∀ b ∈ i.blk :: b', b ∉ p ++ r := fun b hb hx => by
      rw [List.nodup_append, List.nodup_append] at hnd
      rcases List.mem_append.1 hx with hx | hx
      · exact hnd.2.2 b hx b (List.mem_append.2 (.inl hb)) rfl
      · exact hnd.2.1.2.2 b hb b hx rfl
    have hg0 : Given F c (p ++ (i.blk :: b' ++ r)) (H.put e j .gone) (i.blk :: b') (p ++ r) := ⟨hinv, hmid, fun b hb => ⟨by simp only [List.mem_append]; exact .inr (.inl hb), hout b hb⟩, fun b hb => by
      rcases List.mem_append.1 hb with hb | hb
      · simp [hb]
      · simp only [List.mem_append]; exact .inr (.inr hb)⟩
    obtain ⟨bu, bs1, hg1, b1, hr1, hm1, hn1⟩ := giveS_rc u hinv hr (show giveS u (H.put e j .gone) = some (y.1, y.2) from hy)
    obtain ⟨hclo, _⟩ := giveS_clo u (show giveS u (H.put e j .gone) = some (y.1, y.2) from hy)
    have hb1n := hn1 (List.nodup_cons.1 hmid).2 (fun z hz => hout z (by simp [hz]))
    have hblk1 : i.blk ∉ b1 := fun hz => by
      rcases (hm1 _).1 hz with hz | hz
      · exact (List.nodup_cons.1 hmid).1 hz
      · exact hout _ (by simp) (hg1.sub _ hz).1
    have hg1' : Given F c (p ++ (i.blk :: b' ++ r)) y.2 (i.blk :: b1) bs1 := (hg0.trans hg1).perm (fun z hz => by
      rcases List.mem_cons.1 hz with rfl | hz
      · simp
      · rcases (hm1 _).1 hz with hz | hz <;> simp [hz]) (List.nodup_cons.2 ⟨hblk1, hb1n⟩)
    obtain ⟨is, bx, bs', hg, hpa, hb, hcl, ho, hgo⟩ := pass1_ok ms ts hg1.inv h2 (show pass1 ms ts y.2 = some (x.1, x.2.1, x.2.2) from hx)
    have hgone : x.2.2.at e j = some .gone := hgo e j (giveS_gone u (put_at ha) (show giveS u (H.put e j .gone) = some (y.1, y.2) from hy))
    refine ⟨some i :: is, (i.blk :: b1) ++ bx, bs', hg1'.trans hg, ⟨[some i], is, _, vs', i.blk :: b1, bx, rfl, rfl, rfl, .inl ⟨some i, rfl, ⟨i, rfl, by simp only [RIo, asArr_cloA hclo]; exact ⟨by simp [Info.addr], cs, b1, arr, rfl, hr1, hrest⟩⟩⟩, hpa⟩, ⟨hi, hgone, hb⟩, fun z hz => ?_,
      fun own hh => ho own (giveS_own u (put_own hh ha) (show giveS u (H.put e j .gone) = some (y.1, y.2) from hy)), fun e' j' hh => hgo e' j' (giveS_gone u (put_gone hh) (show giveS u (H.put e j .gone) = some (y.1, y.2) from hy))⟩
    rcases List.mem_cons.1 hz with rfl | hz
    · intro _; exact .inr (.inl ⟨_, rfl, cloA_cloOA hclo⟩)
    · exact hcl z hz
  | .pv :: ms, t :: ts, H, H', bs, vs, as, backs, h, hv, hm => by
    simp only [pass1] at hm
    split at hm
    case h_2 => cases hm
    rename_i e j
    split at hm
    case h_2 => cases hm
    rename_i u ha
    split at hm
    case h_2 => cases hm
    rename_i y hy
    split at hm
    case h_2 => cases hm
    rename_i x hx
    simp only [Option.some.injEq, Prod.mk.injEq] at hm; obtain ⟨rfl, rfl, rfl⟩ := hm
    obtain ⟨v, vs', rfl, h1, h2⟩ := hv
    obtain ⟨i, hi, rfl⟩ := h1
    obtain ⟨p, q, r, rfl, hob, hinv⟩ := HR.drop h ha
    obtain ⟨i', hi', cs, b', arr, rfl, hr, hrest⟩ := hob
    rw [hi] at hi'; cases hi'
    have hnd := h.nd
    have hmid := nodup_mid hnd
    have hout : ∀ b ∈ i.blk :: b', b ∉ p ++ r := fun b hb hx => by
      rw [List.nodup_append, List.nodup_append] at hnd
      rcases List.mem_append.1 hx with hx | hx
      · exact hnd.2.2 b hx b (List.mem_append.2 (.inl hb)) rfl
      · exact hnd.2.1.2.2 b hb b hx rfl
    have hg0 : Given F c (p ++ (i.blk :: b' ++ r)) (H.put e j .gone) (i.blk :: b') (p ++ r) := ⟨hinv, hmid, fun b hb => ⟨by simp only [List.mem_append]; exact .inr (.inl hb), hout b hb⟩, fun b hb => by
      rcases List.mem_append.1 hb with hb | hb
      · simp [hb]
      · simp only [List.mem_append]; exact .inr (.inr hb)⟩
    obtain ⟨bu, bs1, hg1, b1, hr1, hm1, hn1⟩ := giveS_rc u hinv hr (show giveS u (H.put e j .gone) = some (y.1, y.2) from hy)
    obtain ⟨hclo, _⟩ := giveS_clo u (show giveS u (H.put e j .gone) = some (y.1, y.2) from hy)
    have hb1n := hn1 (List.nodup_cons.1 hmid).2 (fun z hz => hout z (by simp [hz]))
    have hblk1 : i.blk ∉ b1 := fun hz => by
      rcases (hm1 _).1 hz with hz | hz
      · exact (List.nodup_cons.1 hmid).1 hz
      · exact hout _ (by simp) (hg1.sub _ hz).1
    have hg1' : Given F c (p ++ (i.blk :: b' ++ r)) y.2 (i.blk :: b1) bs1 := (hg0.trans hg1).perm (fun z hz => by
      rcases List.mem_cons.1 hz with rfl | hz
      · simp
      · rcases (hm1 _).1 hz with hz | hz <;> simp [hz]) (List.nodup_cons.2 ⟨hblk1, hb1n⟩)
    obtain ⟨is, bx, bs', hg, hpa, hb, hcl, ho, hgo⟩ := pass1_ok ms ts hg1.inv h2 (show pass1 ms ts y.2 = some (x.1, x.2.1, x.2.2) from hx)
    refine ⟨none :: is, (i.blk :: b1) ++ bx, bs', hg1'.trans hg, ⟨[none], is, _, vs', i.blk :: b1, bx, rfl, rfl, rfl, .inl ⟨none, rfl, ⟨rfl, i, by simp [Info.addr], cs, b1, arr, rfl, hr1, hrest⟩⟩, hpa⟩, by cases hbb : x.2.1 <;> simp [BackOk, hbb] at hb ⊢ <;> exact hb, fun z hz => ?_,
      fun own hh => ho own (giveS_own u (put_own hh ha) (show giveS u (H.put e j .gone) = some (y.1, y.2) from hy)), fun e' j' hh => hgo e' j' (giveS_gone u (put_gone hh) (show giveS u (H.put e j .gone) = some (y.1, y.2) from hy))⟩
    rcases List.mem_cons.1 hz with rfl | hz
    · intro _; exact .inr (.inr (.inl ⟨_, rfl, hclo⟩))
    · exact hcl z hz
  | .iov :: ms, t :: ts, H, H', bs, vs, as, backs, h, hv, hm => by
    simp only [pass1] at hm
    split at hm
    case h_2 => cases hm
    rename_i l
    split at hm
    case h_2 => cases hm
    rename_i y hy
    split at hm
    case isFalse => cases hm
    rename_i hio
    split at hm
    case h_2 => cases hm
    rename_i x hx
    simp only [Option.some.injEq, Prod.mk.injEq] at hm; obtain ⟨rfl, rfl, rfl⟩ := hm
    obtain ⟨v, vs', rfl, h1, h2⟩ := hv
    obtain ⟨cs, rfl, h1⟩ := h1
    obtain ⟨i1, x1, s1, g1, n1, k1, cl1, o1, z1⟩ := ioNL_ok l h h1 (show ioNL l H = some (y.1, y.2.1, y.2.2) from hy)
    obtain ⟨is, bx, bs', hg, hpa, hb, hcl, ho, hgo⟩ := pass1_ok ms ts g1.inv h2 (show pass1 ms ts y.2.2 = some (x.1, x.2.1, x.2.2) from hx)
    refine ⟨i1 ++ is, x1 ++ bx, bs', g1.trans hg, ⟨i1, is, _, vs', x1, bx, rfl, rfl, rfl, .inr ⟨_, cs, rfl, rfl, n1, hio⟩, hpa⟩, BackOk_app _ _ (BackOk.later hgo _ _ k1) hb, fun z hz => ?_,
      fun own hh => ho own (o1 own hh), fun e' j' hh => hgo e' j' (z1 e' j' hh)⟩
    rcases List.mem_cons.1 hz with rfl | hz
    · intro _; exact .inr (.inr (.inr ⟨_, rfl, cl1, hio⟩))
    · exact hcl z hz
  | .nl :: ms, t :: ts, H, H', bs, vs, as, backs, h, hv, hm => by
    simp only [pass1] at hm
    split at hm
    case h_2 => cases hm
    rename_i es
    split at hm
    case h_2 => cases hm
    rename_i x hx
    simp only [Option.some.injEq, Prod.mk.injEq] at hm; obtain ⟨rfl, rfl, rfl⟩ := hm
    obtain ⟨v, vs', rfl, h1, h2⟩ := hv
    obtain ⟨is, bx, bs', hg, hpa, hb, hcl, ho, hgo⟩ := pass1_ok ms ts h h2 (show pass1 ms ts H = some (x.1, x.2.1, x.2.2) from hx)
    refine ⟨none :: is, bx, bs', hg, ⟨[none], is, v, vs', [], bx, rfl, rfl, rfl, .inl ⟨none, rfl, ⟨rfl, rfl, h1⟩⟩, hpa⟩, by cases hbb : x.2.1 <;> simp [BackOk, hbb] at hb ⊢ <;> exact hb, fun z hz => ?_, ho, hgo⟩
    rcases List.mem_cons.1 hz with rfl | hz
    · intro _; exact .inl rfl
    · exact hcl z hz
  | .ios :: ms, t :: ts, H, H', bs, vs, as, backs, h, hv, hm => by
    simp only [pass1] at hm
    split at hm
    case h_2 => cases hm
    rename_i e j len
    split at hm
    case h_2 => cases hm
    rename_i es l ha
    split at hm
    case isFalse => cases hm
    rename_i hc
    obtain ⟨rfl, hclo⟩ := hc
    split at hm
    case h_2 => cases hm
    rename_i x hx
    simp only [Option.some.injEq, Prod.mk.injEq] at hm; obtain ⟨rfl, rfl, rfl⟩ := hm
    obtain ⟨v, vs', rfl, h1, h2⟩ := hv
    obtain ⟨A, k, i, rfl, hlk, hi, hcap, hA⟩ := h1
    obtain ⟨p, q, r, rfl, hob, hinv⟩ := HR.drop h ha
    obtain ⟨i', hi', harr⟩ := hob
    rw [hi] at hi'; cases hi'
    have hnd := h.nd
    have hq : q.Nodup := by
      rw [List.nodup_append, List.nodup_append] at hnd
      exact hnd.2.1.1
    have hout : ∀ b ∈ q, b ∉ p ++ r := fun b hb hx => by
      rw [List.nodup_append, List.nodup_append] at hnd
      rcases List.mem_append.1 hx with hx | hx
      · exact hnd.2.2 b hx b (List.mem_append.2 (.inl hb)) rfl
      · exact hnd.2.1.2.2 b hb b hx rfl
    have hg0 : Given F c (p ++ (q ++ r)) (H.put e j .gone) q (p ++ r) := ⟨hinv, hq, fun b hb => ⟨by simp only [List.mem_append]; exact .inr (.inl hb), hout b hb⟩, fun b hb => by
      rcases List.mem_append.1 hb with hb | hb
      · simp [hb]
      · simp only [List.mem_append]; exact .inr (.inr hb)⟩
    obtain ⟨is, bx, bs', hg, hpa, hb, hcl, ho, hgo⟩ := pass1_ok ms ts hinv h2 (show pass1 ms ts (H.put e j .gone) = some (x.1, x.2.1, x.2.2) from hx)
    have hgone : x.2.2.at e j = some .gone := hgo e j (put_at ha)
    simp only [Nat.zero_add] at hcap
    subst hcap
    refine ⟨some i :: is, q ++ bx, bs', hg0.trans hg, ⟨[some i], is, _, vs', q, bx, rfl, rfl, rfl, .inl ⟨some i, rfl, ⟨i, rfl, ⟨A, rfl, ?_⟩, harr⟩⟩, hpa⟩, ⟨hi, hgone, hb⟩, fun z hz => ?_,
      fun own hh => ho own (put_own hh ha), fun e' j' hh => hgo e' j' (put_gone hh)⟩
    · rcases hA with h0 | hA
      · exact .inl h0
      · right; rw [hA]; simp [Info.addr]
    rcases List.mem_cons.1 hz with rfl | hz
    · intro _; exact .inr (.inl ⟨_, rfl, hclo⟩)
    · exact hcl z hz
end Go.Vm

namespace Go.Vm

/-! ### a call, whole -/
theorem RX_of_RV {c : Cx} {t : T} {v : Value} (h : RV c t v) : RX c t none v [] := by
  cases t with
  | nd l => exact ⟨rfl, h⟩
  | ow es l => exact h.elim
  | io t => exact h.elim
  | fp u =>
    cases u with
    | io w => obtain ⟨_, _, _, _, r, _⟩ := h; exact r.elim
    | _ => exact ⟨rfl, rfl, h⟩
  | _ => exact ⟨rfl, rfl, h⟩

theorem RV.hand1 {τ : Tag → Tag} {ok : Tag → Bool} {c c' : Cx} (h : c.Hand τ ok c') {t : T} {v : Value} (hc : t.cl ok = true) (r : RV c t v) : RV c' (t.tg τ) v := by
  cases t with
  | int => exact r
  | bool => exact r
  | str => exact r
  | nilI => exact r
  | nilP => exact r
  | err => exact r
  | any => exact r
  | nils => exact r
  | ow => exact r.elim
  | nd l =>
    obtain ⟨cs, e, r⟩ := r
    exact ⟨cs, e, RCL.hand h l (by simpa [T.cl] using hc) (by simp) r⟩
  | sl g l =>
    obtain ⟨A, k, rfl, r⟩ := r
    obtain ⟨_, A', k', e, r⟩ := RC.hand h (.sl g l) (cs := [.slice A l.length k]) (bs := []) hc (by simp) ⟨rfl, A, k, rfl, r⟩
    simp only [List.cons.injEq, and_true] at e
    exact ⟨A', k', e, r⟩
  | _ => simp [T.cl] at hc

def T.clIo (ok : Tag → Bool) : T → Bool
  | .io u => u.clO ok
  | .fp (.io u) => u.cl ok
  | t => t.cl ok

theorem RX.hand {τ : Tag → Tag} {ok : Tag → Bool} {c c' : Cx} (h : c.Hand τ ok c') {t : T} {i : Option Info} {v : Value} {bs : List Nat} (hc : t.clIo ok = true) (hb : ∀ b ∈ bs, c'.w.heap[b]? = c.w.heap[b]?) (r : RX c t i v bs) : RX c' (t.tg τ) i v bs := by
  cases t with
  | io u => obtain ⟨i', e1, r⟩ := r; exact ⟨i', e1, RIo.hand h hc hb r⟩
  | nd l => obtain ⟨e, cs, e2, r⟩ := r; exact ⟨e, cs, e2, RCL.hand h l (by simpa [T.clIo, T.cl] using hc) hb r⟩
  | ow es l => obtain ⟨e, r⟩ := r; exact ⟨e, RC.hand h _ hc hb r⟩
  | sl g l => obtain ⟨e1, e2, r⟩ := r; exact ⟨e1, e2, RV.hand1 h (t := .sl g l) hc r⟩
  | int => exact r
  | bool => exact r
  | str => exact r
  | nilI => exact r
  | nilP => exact r
  | err => exact r
  | any => exact r
  | nils => exact r
  | fp u =>
    cases u with
    | io w =>
      obtain ⟨e1, i', e2, r⟩ := r
      exact ⟨e1, i', e2, HVar.hand h (by simpa [T.clIo] using hc) hb r⟩
    | _ => simp [T.clIo, T.cl] at hc
  | _ => simp [T.clIo, T.cl] at hc

theorem clIo_of {ok : Tag → Bool} {t : T} (h : t.cl ok = true ∨ (∃ u, t = .io u ∧ u.clO ok = true) ∨ ∃ u, t = .fp (.io u) ∧ u.cl ok = true) : t.clIo ok = true := by
  rcases h with h | ⟨u, rfl, h⟩ | ⟨u, rfl, h⟩
  · cases t <;> first | exact h | simp [T.cl] at h
  · exact h
  · exact h
theorem clIo_P {t : T} (h : t.clP = true) : t.clIo nb = true := by
  cases t with
  | fp u =>
    cases u with
    | io w => simpa [T.clIo, T.clP, clo_cl] using h
    | _ => simp [T.clP, T.clo] at h
  | io u => simp [T.clP, T.clo] at h
  | _ => exact clIo_of (.inl (by rw [← clo_cl]; exact h))

theorem Hand_lent (c : Cx) (bs : List Nat) : c.Hand upT ab (c.lent bs) := ⟨fun g b _ h => by
  cases g with
  | b => exact ⟨h, .inl h⟩
  | s => exact h
  | r k => exact ⟨h, .inl h.2⟩, fun _ _ _ _ => rfl⟩

mutual
theorem RC_noIo {c : Cx} : ∀ (t : T) {cs : List Value} {bs : List Nat}, RC c t cs bs → t.hasIo = false
  | .nd l, _, _, r => RCL_noIo (l := l) r
  | .io _, _, _, r => by simp [RC] at r
  | .int .., _, _, _ | .bool _, _, _, _ | .str _, _, _, _ | .nilI, _, _, _ | .nilP, _, _, _ | .err, _, _, _ | .any, _, _, _ | .nils _, _, _, _ | .sl .., _, _, _ | .ow .., _, _, _ | .ref .., _, _, _ | .vr .., _, _, _ | .ptr .., _, _, _ | .fp _, _, _, _ | .fn .., _, _, _ | .tup _, _, _, _ | .undef, _, _, _ | .opt .., _, _, _ => rfl
theorem RCL_noIo {c : Cx} : ∀ {l : List T} {cs : List Value} {bs : List Nat}, RCL c l cs bs → hasIoL l = false
  | [], _, _, _ => rfl
  | t :: l, _, _, ⟨_, _, _, _, _, _, r1, r2⟩ => by simp only [hasIoL, RC_noIo t r1, RCL_noIo r2, Bool.or_self]
end
mutual
theorem cloA_clN : ∀ t : T, t.cloA = true → t.clN = true
  | .nd l, h => cloAL_clN l h
  | .io _, h => by simp [T.cloA] at h
  | .int .., h | .bool _, h | .str _, h | .nilI, h | .nilP, h | .err, h | .any, h | .nils _, h | .sl .., h | .ow .., h | .ref .., h | .vr .., h | .ptr .., h | .fp _, h | .fn .., h | .tup _, h | .undef, h | .opt .., h => h
theorem cloAL_clN : ∀ l : List T, cloAL l = true → clNL l = true
  | [], _ => rfl
  | t :: l, h => by
    simp only [cloAL, Bool.and_eq_true] at h
    simp only [clNL, cloA_clN t h.1, cloAL_clN l h.2, Bool.and_self]
end
mutual
theorem hasIo_tg (τ : Tag → Tag) : ∀ t : T, (t.tg τ).hasIo = t.hasIo
  | .nd l => hasIoL_tg τ l
  | .io _ | .int .. | .bool _ | .str _ | .nilI | .nilP | .err | .any | .nils _ | .sl .. | .ow .. | .ref .. | .vr .. | .ptr .. | .fp _ | .fn .. | .tup _ | .undef | .opt .. => rfl
theorem hasIoL_tg (τ : Tag → Tag) : ∀ l : List T, hasIoL (tgL τ l) = hasIoL l
  | [] => rfl
  | t :: l => by simp only [tgL, hasIoL, hasIo_tg τ t, hasIoL_tg τ l]
end
theorem asArr_tg {τ : Tag → Tag} {t : T} (h : t.asArr.isSome = true) : (t.tg τ).asArr.isSome = true := by
  cases ha : t.asArr with
  | none => rw [ha] at h; cases h
  | some y => rw [asArr_some ha]; rfl
mutual
theorem RN.hand {τ : Tag → Tag} {c c' : Cx} (h : c.Hand τ ab c') (hw : ∀ b : Nat, c'.w.heap[b]? = c.w.heap[b]?) : ∀ (t : T) {is : List (Option Info)} {cs : List Value} {bs : List Nat}, t.clN = true → RN c t is cs bs → RN c' (t.tg τ) is cs bs
  | .io t, is, cs, bs, hc, r => by
    obtain ⟨i, v, e1, e2, hs, r⟩ := r
    simp only [T.clN, Bool.and_eq_true] at hc
    exact ⟨i, v, e1, e2, asArr_tg hs, RIo.hand h (by rw [← cloOA_cl]; exact hc.2) (fun b _ => hw b) r⟩
  | .nd l, is, cs, bs, hc, r => RNL.hand h hw l hc r
  | .int .., is, cs, bs, hc, r => ⟨r.1, RC.hand h _ (by rw [← cloA_cl]; exact hc) (fun b _ => hw b) r.2⟩
  | .bool .., is, cs, bs, hc, r => ⟨r.1, RC.hand h _ (by rw [← cloA_cl]; exact hc) (fun b _ => hw b) r.2⟩
  | .str .., is, cs, bs, hc, r => ⟨r.1, RC.hand h _ (by rw [← cloA_cl]; exact hc) (fun b _ => hw b) r.2⟩
  | .nilI, is, cs, bs, hc, r => ⟨r.1, RC.hand h _ (by rw [← cloA_cl]; exact hc) (fun b _ => hw b) r.2⟩
  | .nilP, is, cs, bs, hc, r => ⟨r.1, RC.hand h _ (by rw [← cloA_cl]; exact hc) (fun b _ => hw b) r.2⟩
  | .err, is, cs, bs, hc, r => ⟨r.1, RC.hand h _ (by rw [← cloA_cl]; exact hc) (fun b _ => hw b) r.2⟩
  | .any, is, cs, bs, hc, r => ⟨r.1, RC.hand h _ (by rw [← cloA_cl]; exact hc) (fun b _ => hw b) r.2⟩
  | .nils _, is, cs, bs, hc, r => ⟨r.1, RC.hand h _ (by rw [← cloA_cl]; exact hc) (fun b _ => hw b) r.2⟩
  | .sl .., is, cs, bs, hc, r => ⟨r.1, RC.hand h _ (by rw [← cloA_cl]; exact hc) (fun b _ => hw b) r.2⟩
  | .ow .., is, cs, bs, hc, r => ⟨r.1, RC.hand h _ (by rw [← cloA_cl]; exact hc) (fun b _ => hw b) r.2⟩
  | .ref .., is, cs, bs, hc, r | .vr .., is, cs, bs, hc, r | .ptr .., is, cs, bs, hc, r | .fp _, is, cs, bs, hc, r | .fn .., is, cs, bs, hc, r | .tup _, is, cs, bs, hc, r | .undef, is, cs, bs, hc, r | .opt .., is, cs, bs, hc, r => by simp [T.clN, T.cloA] at hc
theorem RNL.hand {τ : Tag → Tag} {c c' : Cx} (h : c.Hand τ ab c') (hw : ∀ b : Nat, c'.w.heap[b]? = c.w.heap[b]?) : ∀ (l : List T) {is : List (Option Info)} {cs : List Value} {bs : List Nat}, clNL l = true → RNL c l is cs bs → RNL c' (tgL τ l) is cs bs
  | [], _, _, _, _, r => r
  | t :: l, is, cs, bs, hc, r => by
    simp only [clNL, Bool.and_eq_true] at hc
    obtain ⟨i1, i2, c1, c2, b1, b2, e1, e2, e3, r1, r2⟩ := r
    exact ⟨i1, i2, c1, c2, b1, b2, e1, e2, e3, RN.hand h hw t hc.1 r1, RNL.hand h hw l hc.2 r2⟩
end

theorem pass2_ok {F : Fr} {c : Cx} {H : Heap} {bs : List Nat} (h : InvH F c H bs) : ∀ (l : List (Bool × T)) {is : List (Option Info)} {vs : List Value} {bx : List Nat} {args : List T},
    PA c l is vs bx → closedArgs l → (pass2 l).run H = some args → RAL (c.lent bs) args is vs bx
  | [], is, vs, bx, args, hp, _, hm => by
    have := RM.pure_some hm; subst this; exact hp
  | (true, t) :: l, is, vs, bx, args, hp, hc, hm => by
    obtain ⟨t', h1, hm⟩ := RM.bind_some hm
    obtain ⟨l', h2, hm⟩ := RM.bind_some hm
    have := RM.pure_some hm; subst this
    obtain ⟨is', v, vs', rfl, rfl, hv, hp⟩ := hp
    exact ⟨[none], is', v, vs', [], bx, rfl, rfl, rfl, .inl ⟨none, rfl, RX_of_RV (lend_ok h hv h1)⟩, pass2_ok h l hp (fun x hx => hc x (List.mem_cons.2 (.inr hx))) h2⟩
  | (false, t) :: l, is, vs, bx, args, hp, hc, hm => by
    obtain ⟨l', h2, hm⟩ := RM.bind_some hm
    have := RM.pure_some hm; subst this
    obtain ⟨i1, is', v, vs', b1, b2, rfl, rfl, rfl, hx, hp⟩ := hp
    refine ⟨i1, is', v, vs', b1, b2, rfl, rfl, rfl, ?_, pass2_ok h l hp (fun x hx => hc x (List.mem_cons.2 (.inr hx))) h2⟩
    have hc0 := hc (false, t) (by simp) rfl
    rcases hx with ⟨i, rfl, hx⟩ | ⟨m, cs, rfl, rfl, hx, hio⟩
    · refine .inl ⟨i, rfl, RX.hand (Hand_lent c bs) ?_ (fun _ _ => rfl) hx⟩
      rcases hc0 with hc0 | hc0 | hc0 | ⟨m, hm, hc0, hio⟩
      · exact clIo_of (.inl (by rw [← cloA_cl]; exact hc0))
      · exact clIo_of (.inr (.inl (by simpa only [cloOA_cl] using hc0)))
      · exact clIo_of (.inr (.inr (by simpa only [cloA_cl] using hc0)))
      · simp only at hm; subst hm
        obtain ⟨_, cs, _, hx⟩ := hx
        exact absurd (RCL_noIo hx) (by rw [hio]; simp)
    · have hcl : clNL m = true := by
        rcases hc0 with hc0 | ⟨u, hu, _⟩ | ⟨u, hu, _⟩ | ⟨m', hm, hc0, _⟩
        · exact cloAL_clN m hc0
        · cases hu
        · cases hu
        · cases hm; exact hc0
      exact .inr ⟨_, cs, rfl, rfl, RNL.hand (Hand_lent c bs) (fun _ => rfl) m hcl hx, by rw [hasIoL_tg]; exact hio⟩

/-! #### what comes back -/
def resClo : T → Bool
  | .tup l => clPL l
  | t => t.clP

theorem RXL.hand {τ : Tag → Tag} {c c' : Cx} (h : c.Hand τ nb c') : ∀ (l : List T) {is : List (Option Info)} {vs : List Value} {bs : List Nat}, clPL l = true → (∀ b ∈ bs, c'.w.heap[b]? = c.w.heap[b]?) → RXL c l is vs bs → RXL c' (tgL τ l) is vs bs
  | [], _, _, _, _, _, r => r
  | t :: l, _, _, _, hc, hb, r => by
    simp only [clPL, Bool.and_eq_true] at hc
    obtain ⟨i, is', v, vs', b1, b2, e1, e2, rfl, r1, r2⟩ := r
    exact ⟨i, is', v, vs', b1, b2, e1, e2, rfl, r1.hand h (clIo_P hc.1) (fun b hx => hb b (by simp [hx])), RXL.hand h l hc.2 (fun b hx => hb b (by simp [hx])) r2⟩

theorem RXR.hand {τ : Tag → Tag} {c c' : Cx} (h : c.Hand τ nb c') {t : T} {is : List (Option Info)} {v : Value} {bs : List Nat} (hc : resClo t = true) (hb : ∀ b ∈ bs, c'.w.heap[b]? = c.w.heap[b]?) (r : RXR c t is v bs) : RXR c' (t.tg τ) is v bs := by
  cases t with
  | tup l => obtain ⟨vs, e, r⟩ := r; exact ⟨vs, e, RXL.hand h l hc hb r⟩
  | io u => simp [resClo, T.clP, T.clo] at hc
  | _ =>
    obtain ⟨i, e, r⟩ := r
    exact ⟨i, e, RX.hand h (clIo_P hc) hb r⟩

theorem ROuts.hand {τ : Tag → Tag} {c c' : Cx} (h : c.Hand τ nb c') : ∀ (is : List (Option Info)) (l : List T) {bs : List Nat}, cloOL l = true → (∀ b ∈ bs, c'.w.heap[b]? = c.w.heap[b]?) → ROuts c l is bs → ROuts c' (tgL τ l) is bs
  | is, [], bs, _, _, r => by cases is <;> exact r
  | [], t :: l, bs, _, _, r => r
  | none :: is, t :: l, bs, hc, hb, r => by
    simp only [ROuts, tgL] at r ⊢
    exact ROuts.hand h is (t :: l) hc hb r
  | some i :: is, t :: l, bs, hc, hb, r => by
    simp only [cloOL, Bool.and_eq_true] at hc
    simp only [ROuts, tgL] at r ⊢
    obtain ⟨b1, b2, rfl, r1, r2⟩ := r
    exact ⟨b1, b2, rfl, r1.hand h (by rw [← cloO_cl]; exact hc.1) (fun b hx => hb b (by simp [hx])), ROuts.hand h is l hc.2 (fun b hx => hb b (by simp [hx])) r2⟩

def fillB : List Back → List T → Heap → Option Heap
  | [], [], H => some H
  | b :: bs, t :: ts, H => match H.at b.e b.j with
    | some .gone => if t.cloO = true then fillB bs ts (H.put b.e b.j (obOf (t.tg dnT))) else none
    | _ => none
  | _, _, _ => none

theorem InvH.fill {F : Fr} {c : Cx} {H : Heap} {bs q : List Nat} {e j : Nat} {ob : Ob} (h : InvH F c H bs) (ha : H.at e j = some .gone) (hv : HOb c e j ob q)
    (hq : ∀ x ∈ q, x ∉ bs ∧ ¬ c.Z x ∧ x < c.w.heap.size ∧ (F.own x ∨ F.w.heap.size ≤ x)) (hnq : q.Nodup) :
    ∃ bs', InvH F c (H.put e j ob) bs' ∧ ∀ x, x ∈ bs' ↔ x ∈ bs ∨ x ∈ q := by
  obtain ⟨p, q0, r, rfl, ho, hput⟩ := h.hp.at ha
  simp only [HOb] at ho; subst ho
  refine ⟨p ++ (q ++ r), ?_, fun x => by simp only [List.mem_append, List.nil_append]; constructor <;> intro hx <;> rcases hx with hx | hx <;> simp_all <;> (try rcases hx with hx | hx <;> simp_all)⟩
  have hlt : ∃ l, H[e]? = some l ∧ j < l.length := by
    unfold Heap.at at ha
    cases hl : H[e]? with
    | none => simp [hl] at ha
    | some l => simp only [hl] at ha; exact ⟨l, rfl, (List.getElem?_eq_some_iff.1 ha).1⟩
  obtain ⟨l, hl, hj⟩ := hlt
  constructor
  · exact hput c ob q (.refl c) (fun _ _ => rfl) (fun _ _ => rfl) hv
  · have hn := h.nd
    simp only [List.nil_append] at hn
    rw [List.nodup_append] at hn
    rw [List.nodup_append, List.nodup_append]
    refine ⟨hn.1, ⟨hnq, hn.2.1, fun a ha b hb e => ?_⟩, fun a ha b hb e => ?_⟩
    · subst e; exact (hq a ha).1 (by simp [hb])
    · rcases List.mem_append.1 hb with hb | hb
      · subst e; exact (hq a hb).1 (by simp [ha])
      · exact hn.2.2 a ha b hb e
  · intro b hb hz
    simp only [List.mem_append] at hb
    rcases hb with hb | hb | hb
    · exact h.dz b (by simp [hb]) hz
    · exact (hq b hb).2.1 hz
    · exact h.dz b (by simp [hb]) hz
  · exact h.zz
  · exact h.zl
  · intro b hb
    simp only [List.mem_append] at hb
    rcases hb with hb | hb | hb
    · exact h.bl b (by simp [hb])
    · exact (hq b hb).2.2.1
    · exact h.bl b (by simp [hb])
  · intro e' j' x hx
    obtain ⟨ob', ho'⟩ := h.mu e' j' x hx
    unfold Heap.at Heap.put at *
    simp only [hl]
    by_cases he : e = e'
    · subst he
      simp only [hl] at ho'
      simp only [List.getElem?_set_self (List.getElem?_eq_some_iff.1 hl).1]
      by_cases hjj : j = j'
      · subst hjj; exact ⟨_, List.getElem?_set_self hj⟩
      · exact ⟨ob', by rw [List.getElem?_set_ne hjj]; exact ho'⟩
    · simp only [List.getElem?_set_ne he]; exact ⟨ob', ho'⟩
  · exact h.fs
  · exact h.ff
  · intro b hb
    simp only [List.mem_append] at hb
    rcases hb with hb | hb | hb
    · exact h.fb b (by simp [hb])
    · exact (hq b hb).2.2.2
    · exact h.fb b (by simp [hb])
  · exact h.fz
  · exact h.fZ
  · exact h.kp
  · exact h.rr

theorem fillB_ok {F : Fr} {c : Cx} {H0 : Heap} : ∀ (is : List (Option Info)) (backs : List Back) (outs : List T) {H H' : Heap} {bs q : List Nat}, InvH F c H bs → BackOk c H0 backs is → ROuts c (tgL dnT outs) is q →
    (∀ x ∈ q, x ∉ bs ∧ ¬ c.Z x ∧ x < c.w.heap.size ∧ (F.own x ∨ F.w.heap.size ≤ x)) → q.Nodup → fillB backs outs H = some H' →
    ∃ bs', InvH F c H' bs' ∧ (∀ x, x ∈ bs' ↔ x ∈ bs ∨ x ∈ q) ∧ ∀ own : Nat, H[own]? = some [] → H'[own]? = some []
  | is, [], outs, H, H', bs, q, h, hb, ho, hq, hn, hm => by
    cases outs with
    | cons => simp [fillB] at hm
    | nil =>
      simp only [fillB, Option.some.injEq] at hm; subst hm
      have : q = [] := by cases is <;> exact ho.2
      subst this
      exact ⟨bs, h, by simp, fun _ h => h⟩
  | [], b :: backs, outs, H, H', bs, q, h, hb, ho, hq, hn, hm => by simp [BackOk] at hb
  | none :: is, b :: backs, outs, H, H', bs, q, h, hb, ho, hq, hn, hm => by
    cases outs with
    | nil => simp [fillB] at hm
    | cons t outs =>
      simp only [BackOk] at hb
      simp only [ROuts, tgL] at ho
      exact fillB_ok is (b :: backs) (t :: outs) h hb ho hq hn hm
  | some i :: is, b :: backs, outs, H, H', bs, q, h, hb, ho, hq, hn, hm => by
    cases outs with
    | nil => simp [fillB] at hm
    | cons t outs =>
      simp only [BackOk] at hb
      simp only [ROuts, tgL] at ho
      obtain ⟨b1, b2, rfl, hv, ho⟩ := ho
      simp only [fillB] at hm
      split at hm
      case h_2 => cases hm
      rename_i hg
      split at hm
      case isFalse => cases hm
      rename_i hclo
      rw [List.nodup_append] at hn
      obtain ⟨bs1, h1, hm1⟩ := h.fill hg (HOut_ob hb.1 hv) (fun x hx => hq x (by simp [hx])) hn.1
      obtain ⟨bs', h2, hm2, ho2⟩ := fillB_ok is backs outs h1 hb.2.2 ho (fun x hx => ⟨fun hx1 => by
        rcases (hm1 x).1 hx1 with hx1 | hx1
        · exact (hq x (by simp [hx])).1 hx1
        · exact hn.2.2 x hx1 x hx rfl, (hq x (by simp [hx])).2⟩) hn.2.1 hm
      refine ⟨bs', h2, fun x => ?_, fun own hown => ho2 own (put_own hown hg)⟩
      rw [hm2, hm1]; simp [or_assoc]

end Go.Vm

namespace Go.Vm

def resCloA : T → Bool
  | .tup l => clPAL l
  | t => t.clPA
mutual
theorem tg_cloA {τ : Tag → Tag} : ∀ t : T, t.cloA = true → (t.tg τ).cloA = true
  | .nd l, h => tgL_cloA l h
  | .sl g l, h => tgL_cloA l h
  | .ow _ l, h => tgL_cloA l h
  | .int .., _ => rfl
  | .bool _, _ => rfl
  | .str _, _ => rfl
  | .nilI, _ => rfl
  | .nilP, _ => rfl
  | .err, _ => rfl
  | .any, _ => rfl
  | .nils _, _ => rfl
  | .ref .., h => by simp [T.cloA] at h
  | .vr .., h => by simp [T.cloA] at h
  | .ptr .., h => by simp [T.cloA] at h
  | .fp _, h => by simp [T.cloA] at h
  | .io _, h => by simp [T.cloA] at h
  | .fn .., h => by simp [T.cloA] at h
  | .tup _, h => by simp [T.cloA] at h
  | .undef, h => by simp [T.cloA] at h
  | .opt .., h => by simp [T.cloA] at h
theorem tgL_cloA {τ : Tag → Tag} : ∀ l : List T, cloAL l = true → cloAL (tgL τ l) = true
  | [], _ => rfl
  | t :: l, h => by
    simp only [cloAL, Bool.and_eq_true] at h
    simp only [tgL, cloAL, Bool.and_eq_true]
    exact ⟨tg_cloA t h.1, tgL_cloA l h.2⟩
end
theorem clP_tg {τ : Tag → Tag} {t : T} (h : t.clP = true) : (t.tg τ).clPA = true := by
  cases t with
  | fp u =>
    cases u with
    | io w => exact tg_cloA w (clo_A w h)
    | _ => simp [T.clP, T.clo] at h
  | io u => simp [T.clP, T.clo] at h
  | tup u => simp [T.clP, T.clo] at h
  | _ => exact tg_cloA _ (clo_A _ h)
theorem clPL_tg {τ : Tag → Tag} : ∀ l : List T, clPL l = true → clPAL (tgL τ l) = true
  | [], _ => rfl
  | t :: l, h => by
    simp only [clPL, Bool.and_eq_true] at h
    simp only [tgL, clPAL, Bool.and_eq_true]
    exact ⟨clP_tg h.1, clPL_tg l h.2⟩
theorem resClo_tg {τ : Tag → Tag} {t : T} (h : resClo t = true) : resCloA (t.tg τ) = true := by
  cases t with
  | tup l => exact clPL_tg l h
  | fp u =>
    have := clP_tg (τ := τ) (t := .fp u) h
    exact this
  | io u => simp [resClo, T.clP, T.clo] at h
  | _ => exact clP_tg (τ := τ) (by simpa only [resClo] using h)

theorem RX.thaw {c : Cx} {own : Nat} {t : T} {i : Option Info} {v : Value} {b : List Nat} (hc : t.clPA = true) (j : Nat) (r : RX c t i v b) :
    ∃ is : List Info, is.length = (thawA own t j).2.length ∧ ∀ c' : Cx, c.Le c' → (∀ x ∈ b, c'.w.heap[x]? = c.w.heap[x]?) → Has c' own j is → RV c' (thawA own t j).1 v ∧ HRow c' own j (thawA own t j).2 b := by
  cases t with
  | nd l =>
    obtain ⟨_, cs, rfl, r⟩ := r
    obtain ⟨is, hl, hh⟩ := thawL_rc (own := own) l (j := j) r
    refine ⟨is, hl, fun c' hle hag hs => ?_⟩
    obtain ⟨g1, g2⟩ := hh c' hle hag hs
    exact ⟨⟨cs, rfl, g1⟩, g2⟩
  | ow es l =>
    obtain ⟨_, r⟩ := r
    obtain ⟨is, hl, hh⟩ := thaw_rc (own := own) (.ow es l) (j := j) r
    refine ⟨is, hl, fun c' hle hag hs => ?_⟩
    obtain ⟨g1, g2⟩ := hh c' hle hag hs
    refine ⟨?_, g2⟩
    obtain ⟨_, A, k, i, e, g⟩ := g1
    simp only [List.cons.injEq, and_true] at e
    exact ⟨A, k, i, e, g⟩
  | io u => simp [T.clPA, T.cloA] at hc
  | tup u => simp [T.clPA, T.cloA] at hc
  | fp u =>
    cases u with
    | io w =>
      obtain ⟨_, i', rfl, cs, bs', arr, rfl, hr, hrest⟩ := r
      obtain ⟨is, hl, hh⟩ := thaw_rc (own := own) w (j := j + 1) hr
      refine ⟨i' :: is, by simp [thawA, hl], fun c' hle hag hs => ?_⟩
      have h0 : c'.μ own j = some i' := by simpa using hs 0 i' rfl
      obtain ⟨g1, g2⟩ := hh c' hle (fun x hx => hag x (by simp [hx])) (fun k z hk => by have := hs (k + 1) z (by simpa using hk); rw [show j + 1 + k = j + (k + 1) by omega]; exact this)
      refine ⟨⟨i', h0, rfl⟩, ⟨[i'.blk], bs', by simp, ⟨i', h0, cs, [], arr, rfl, g1, ?_⟩, g2⟩⟩
      rw [hag i'.blk (by simp)]; exact hrest
    | _ => simp [T.clPA, T.cloA] at hc
  | _ => obtain ⟨_, rfl, r⟩ := r; exact ⟨[], rfl, fun c' hle hag hs => ⟨r.mono hle, rfl⟩⟩

theorem RXL.thaw {c : Cx} {own : Nat} : ∀ (l : List T) {is0 : List (Option Info)} {vs : List Value} {b : List Nat} (j : Nat), clPAL l = true → RXL c l is0 vs b →
    ∃ is : List Info, is.length = (thawAL own l j).2.length ∧ ∀ c' : Cx, c.Le c' → (∀ x ∈ b, c'.w.heap[x]? = c.w.heap[x]?) → Has c' own j is → RVL c' (thawAL own l j).1 vs ∧ HRow c' own j (thawAL own l j).2 b
  | [], is0, vs, b, j, _, r => by obtain ⟨_, rfl, rfl⟩ := r; exact ⟨[], rfl, fun c' _ _ _ => ⟨rfl, rfl⟩⟩
  | t :: l, is0, vs, b, j, hc, r => by
    simp only [clPAL, Bool.and_eq_true] at hc
    obtain ⟨i, is', v, vs', b1, b2, _, rfl, rfl, r1, r2⟩ := r
    obtain ⟨is1, hl1, h1⟩ := r1.thaw (own := own) hc.1 j
    obtain ⟨is2, hl2, h2⟩ := RXL.thaw (own := own) l (j + (thawA own t j).2.length) hc.2 r2
    refine ⟨is1 ++ is2, by simp [thawAL, hl1, hl2], fun c' hle hag hh => ?_⟩
    obtain ⟨ha, hb⟩ := hh.app
    obtain ⟨g1, g2⟩ := h1 c' hle (fun x hx => hag x (by simp [hx])) ha
    rw [hl1] at hb
    obtain ⟨g3, g4⟩ := h2 c' hle (fun x hx => hag x (by simp [hx])) hb
    exact ⟨⟨v, vs', rfl, g1, g3⟩, HRow_app g2 g4⟩

theorem RXR.thaw {c : Cx} {own : Nat} {t : T} {is0 : List (Option Info)} {v : Value} {b : List Nat} (hc : resCloA t = true) (r : RXR c t is0 v b) :
    ∃ is : List Info, is.length = (thawA own t 0).2.length ∧ ∀ c' : Cx, c.Le c' → (∀ x ∈ b, c'.w.heap[x]? = c.w.heap[x]?) → Has c' own 0 is → RV c' (thawA own t 0).1 v ∧ HRow c' own 0 (thawA own t 0).2 b := by
  cases t with
  | tup l =>
    obtain ⟨vs, rfl, r⟩ := r
    obtain ⟨is, hl, hh⟩ := RXL.thaw (own := own) l 0 hc r
    refine ⟨is, hl, fun c' hle hag hs => ?_⟩
    obtain ⟨g1, g2⟩ := hh c' hle hag hs
    exact ⟨⟨vs, rfl, g1⟩, g2⟩
  | _ => obtain ⟨i, e, r⟩ := r; exact r.thaw (by simpa only [resCloA] using hc) 0

/-- the world behind a call -/
def Cx.after (c c' : Cx) : Cx := { w := c'.w, Z := fun b => c.Z b ∨ c'.Zs b, Zs := c'.Zs, μ := c.μ, R := c.R }

theorem After {F : Fr} {c c' : Cx} {H H' : Heap} {bs bs' bx bo : List Nat} (h0 : InvH F c H bs) (hg : Given F c bs H' bx bs') (hp : Post (c.lent bs') bx c' bo) :
    c.Le (c.after c') ∧ InvH F (c.after c') H' bs' ∧ (∀ x ∈ bo, x ∉ bs' ∧ ¬ (c.after c').Z x ∧ x < (c.after c').w.heap.size ∧ (F.own x ∨ F.w.heap.size ≤ x)) := by
  have hZx : ∀ b, c.Z b → b ∉ bx := fun b hz hx => h0.dz b (hg.sub b hx).1 hz
  have hag : ∀ b, b < c.w.heap.size → b ∉ bx → c'.w.heap[b]? = c.w.heap[b]? := hp.ff
  have hle : c.Le (c.after c') := {
    z := fun _ h => .inl h
    zs := hp.us
    hz := fun b hb => hag b (h0.zl b hb) (hZx b hb)
    hs := fun b hb => hag b (h0.zl b (h0.zz b hb)) (hZx b (h0.zz b hb))
    mu := fun _ _ _ h => h
    r := fun _ _ h => h }
  have hbx : ∀ b ∈ bs', b ∉ bx := fun b hb hx => (hg.sub b hx).2 hb
  have hsz : c.w.heap.size ≤ c'.w.heap.size := hp.fs
  have hfz : ∀ b, c'.Zs b → c.Zs b ∨ b ∈ bx ∨ c.w.heap.size ≤ b := hp.fz
  refine ⟨hle, ?_, fun x hx => ?_⟩
  · constructor
    · exact HR.mono hle (fun b hb => hag b (hg.inv.bl b hb) (hbx b hb)) hg.inv.hp
    · exact hg.inv.nd
    · rintro b hb (hz | hz)
      · exact hg.inv.dz b hb hz
      · rcases hfz b hz with hz | hz | hz
        · exact hg.inv.dz b hb (hg.inv.zz b hz)
        · exact hbx b hb hz
        · have := hg.inv.bl b hb; omega
    · exact fun b hb => .inr hb
    · rintro b (hz | hz)
      · have := h0.zl b hz; show b < c'.w.heap.size; omega
      · exact hp.zl b (hp.zz b hz)
    · intro b hb; have := hg.inv.bl b hb; show b < c'.w.heap.size; omega
    · exact hg.inv.mu
    · have := h0.fs; show F.w.heap.size ≤ c'.w.heap.size; omega
    · intro b hb ho
      show c'.w.heap[b]? = _
      rw [hag b (by have := h0.fs; omega) (fun hx => by
        rcases h0.fb b (hg.sub b hx).1 with h' | h'
        · exact ho h'
        · omega)]
      exact h0.ff b hb ho
    · exact hg.inv.fb
    · intro b hb
      rcases hfz b hb with hz | hz | hz
      · exact h0.fz b hz
      · exact .inr (h0.fb b (hg.sub b hz).1)
      · right; right; have := h0.fs; omega
    · rintro b (hz | hz)
      · rcases h0.fZ b hz with h' | h'
        · exact .inl h'
        · exact .inr (hp.us b h')
      · exact .inr hz
    · exact h0.kp.trans hp.kp
    · exact h0.rr
  · have hfb : x ∈ bx ∨ c.w.heap.size ≤ x := hp.fb x hx
    refine ⟨fun hb => ?_, ?_, hp.bl x hx, ?_⟩
    · rcases hfb with h' | h'
      · exact hbx x hb h'
      · have := hg.inv.bl x hb; omega
    · rintro (hz | hz)
      · rcases hfb with h' | h'
        · exact hZx x hz h'
        · have := h0.zl x hz; omega
      · exact hp.dz x hx (hp.zz x hz)
    · rcases hfb with h' | h'
      · exact h0.fb x (hg.sub x h').1
      · right; have := h0.fs; omega

theorem BackOk.congr {c c' : Cx} {H : Heap} (h : ∀ e j, c'.μ e j = c.μ e j) : ∀ (is : List (Option Info)) (backs : List Back), BackOk c H backs is → BackOk c' H backs is
  | [], [], hb => hb
  | [], _ :: _, hb => hb
  | _ :: _, [], hb => hb
  | none :: is, b :: backs, hb => by simp only [BackOk] at hb ⊢; exact BackOk.congr h is (b :: backs) hb
  | some i :: is, b :: backs, hb => by simp only [BackOk] at hb ⊢; exact ⟨(h _ _).trans hb.1, hb.2.1, BackOk.congr h is backs hb.2.2⟩

/-- A CALL IS SOUND -/
theorem call_ok {P : Program} {F : Fr} {c : Cx} {H H1 H2 : Heap} {bs : List Nat} {own : Nat} {ms : List Mode} {ts : List T} {vs : List Value} {as : List (Bool × T)} {backs : List Back} {args outs : List T} {res : T} {f : FuncId}
    (h : InvH F c H bs) (hown : H[own]? = some []) (hv : RVL c ts vs) (h1 : pass1 ms ts H = some (as, backs, H1)) (h2 : (pass2 as).run H1 = some args) (hf : CallR P f args outs res)
    (hr : resClo res = true) (h3 : fillB backs outs H1 = some H2) :
    Calls P f vs.toArray c.w fun e w' => ∃ r c' bs', e = .returned r ∧ c'.w = w' ∧ c.Le c' ∧ InvH F c' (H2.set own (thawA own (res.tg dnT) 0).2) bs' ∧ RV c' (thawA own (res.tg dnT) 0).1 r := by
  obtain ⟨is, bx, bs', hg, hpa, hb, hcl, ho, _⟩ := pass1_ok ms ts h hv h1
  have hargs := pass2_ok hg.inv as hpa hcl h2
  have hpre : Pre (c.lent bs') bx := {
    mu := fun _ _ => rfl
    nd := hg.nd
    dz := fun b hx hz => by
      rcases hz with hz | hz
      · exact h.dz b (hg.sub b hx).1 hz
      · exact (hg.sub b hx).2 hz
    zz := fun b hz => .inl (h.zz b hz)
    zl := fun b hz => by
      rcases hz with hz | hz
      · exact h.zl b hz
      · exact hg.inv.bl b hz
    bl := fun b hx => h.bl b (hg.sub b hx).1 }
  refine Calls.mono (hf.2.2 (c.lent bs') is vs bx hpre hargs) ?_
  rintro e w' ⟨r, c', ris, b1, b2, rfl, rfl, hmu, hpost, hres, houts⟩
  obtain ⟨hle, hinv, hfresh⟩ := After h hg hpost
  have hhand : c'.Hand dnT nb (c.after c') := ⟨fun g b hg hz => by
    cases g with
    | b => simp [nb] at hg
    | s => exact hz
    | r k =>
      obtain ⟨h1, _⟩ := hz
      rw [hpost.rr] at h1
      cases k with
      | zero => exact .inl h1
      | succ k => exact ⟨h1.1, .inl h1.2⟩, fun _ _ _ _ => rfl⟩
  have hnd := hpost.nd
  rw [List.nodup_append] at hnd
  have hcl2 : ∀ (backs : List Back) (outs : List T) (H H' : Heap), fillB backs outs H = some H' → cloOL outs = true := by
    intro backs
    induction backs with
    | nil => intro outs H H' hm; cases outs <;> simp [fillB, cloOL] at hm ⊢
    | cons b backs ih =>
      intro outs H H' hm
      cases outs with
      | nil => rfl
      | cons t outs =>
        simp only [fillB] at hm
        split at hm
        · split at hm
          · rename_i hc; simp only [cloOL, Bool.and_eq_true]; exact ⟨hc, ih _ _ _ hm⟩
          · cases hm
        · cases hm
  have hout1 := ROuts.hand hhand is outs (hcl2 _ _ _ _ h3) (fun _ _ => rfl) houts
  have hb' : BackOk (c.after c') H1 backs is := @BackOk.congr c (c.after c') H1 (fun _ _ => rfl) is backs hb
  obtain ⟨bs2, hinv2, hm2, ho2⟩ := fillB_ok is backs outs hinv hb' hout1 (fun x hx => hfresh x (by simp [hx])) hnd.2.1 h3
  obtain ⟨iz, hlz, hth⟩ := (RXR.hand hhand hr (fun _ _ => rfl) hres).thaw (own := own) (resClo_tg hr)
  have hle2 := Le_row (is := iz) hinv2 (ho2 own (ho own hown))
  obtain ⟨g1, g2⟩ := hth _ hle2 (fun _ _ => rfl) (fun k i hk => by simp [Cx.rowAt, hk])
  obtain ⟨bs3, hinv3, _⟩ := hinv2.row (ho2 own (ho own hown)) (q := b1) (fun x hx => ⟨fun hx2 => by
    rcases (hm2 x).1 hx2 with hx2 | hx2
    · exact (hfresh x (by simp [hx])).1 hx2
    · exact hnd.2.2 x hx x hx2 rfl, (hfresh x (by simp [hx])).2⟩) hnd.1 hlz g2
  exact ⟨r, (c.after c').rowAt own iz, bs3, rfl, rfl, hle.trans hle2, hinv3, g1⟩

end Go.Vm

namespace Go.Vm

/-! ### one operation, with what follows -/
theorem RVL_getD {c : Cx} : ∀ {l : List T} {vs : List Value} (k : Nat), RVL c l vs → RV c (l.getD k .undef) (vs.getD k undef)
  | [], vs, k, h => by simp; trivial
  | t :: l, _, 0, ⟨v, vs', rfl, h1, h2⟩ => by simpa using h1
  | t :: l, _, k + 1, ⟨v, vs', rfl, h1, h2⟩ => by simpa using RVL_getD k h2

theorem RVL_setV {c : Cx} {t : T} {v : Value} (ht : RV c t v) : ∀ {l : List T} {vs : List Value} (k : Nat), RVL c l vs → RVL c (l.set k t) (vs.set k v)
  | [], vs, k, h => by simp only [RVL] at h; subst h; rfl
  | u :: l, _, 0, ⟨x, vs', rfl, h1, h2⟩ => ⟨v, vs', rfl, ht, h2⟩
  | u :: l, _, k + 1, ⟨x, vs', rfl, h1, h2⟩ => ⟨x, _, rfl, h1, RVL_setV ht k h2⟩

theorem RV_const {c : Cx} (v : Value) : RV c (ofConst v) v := by
  unfold ofConst
  split <;> first | rfl | exact ⟨_, rfl⟩ | trivial

theorem ev_ok {F : Fr} {c : Cx} {s : S} {a : Act} {bs : List Nat} (h : Inv F c s a bs) (x : Operand) : RV c (s.ev x) (a.eval x) := by
  cases x with
  | tmp t =>
    have := RVL_getD t h.tm
    simpa [S.ev, Act.eval, Array.getD_eq_getD_getElem?] using this
  | const v => exact RV_const v
  | func f => exact ⟨#[], #[], rfl, rfl, rfl⟩
  | global g => trivial

theorem put_ok {c : Cx} {s : S} {a : Act} {t : T} {v : Value} {d : Option Tmp} (h : RVL c s.tm a.tmps.toList) (ht : RV c t v) : RVL c (s.put d t).tm (a.put d v).tmps.toList := by
  cases d with
  | none => exact h
  | some d => simpa [S.put, Act.put] using RVL_setV ht d h

theorem put_df {a : Act} {v : Value} {d : Option Tmp} : (a.put d v).defers = a.defers := by cases d <;> rfl
theorem put_hp {s : S} {t : T} {d : Option Tmp} : (s.put d t).hp = s.hp := by cases d <;> rfl

theorem Inv.next {F : Fr} {c : Cx} {tm : List T} {H : Heap} {a : Act} {bs : List Nat} {d : Option Tmp} {t : T} {v : Value} (hi : InvH F c H bs) (ht : RVL c tm a.tmps.toList) (hv : RV c t v) (hd : a.defers = []) (hp : ∀ j i, F.pin j = some i → c.μ 0 j = some i) :
    Inv F c (({ tm := tm, hp := H } : S).put d t) (a.put d v) bs :=
  ⟨by rw [put_hp]; exact hi, put_ok (s := { tm := tm, hp := H }) ht hv, by rw [put_df]; exact hd, hp⟩

theorem HR_ext {c : Cx} : ∀ {H : Heap} {e : Nat} {bs : List Nat}, HR c e H bs → HR c e (H ++ [[]]) bs
  | [], e, bs, h => by simp only [HR] at h; subst h; exact ⟨[], [], rfl, rfl, rfl⟩
  | r :: H, e, bs, ⟨b1, b2, e1, h1, h2⟩ => ⟨b1, b2, e1, h1, HR_ext h2⟩

theorem at_ext {H : Heap} {e j : Nat} {ob : Ob} (h : H.at e j = some ob) : Heap.at (H ++ [[]]) e j = some ob := by
  unfold Heap.at at *
  cases hl : H[e]? with
  | none => simp [hl] at h
  | some l => rw [List.getElem?_append_left (List.getElem?_eq_some_iff.1 hl).1, hl]; simpa [hl] using h

theorem InvH.ext {F : Fr} {c : Cx} {H : Heap} {bs : List Nat} (h : InvH F c H bs) : InvH F c (H ++ [[]]) bs where
  hp := HR_ext h.hp
  nd := h.nd
  dz := h.dz
  zz := h.zz
  zl := h.zl
  bl := h.bl
  mu e j i hi := by obtain ⟨ob, ho⟩ := h.mu e j i hi; exact ⟨ob, at_ext ho⟩
  fs := h.fs
  ff := h.ff
  fb := h.fb
  fz := h.fz
  fZ := h.fZ
  kp := h.kp
  rr := h.rr

theorem own_ext (H : Heap) : (H ++ [[]] : Heap)[H.length]? = some [] := by simp

/-- the heap that an operation finds -/
def S.grown (s : S) (b : Bool) : Heap := if b then s.hp ++ [[]] else s.hp

/-- the function that a call reaches, and its arguments -/
def callT (ρ : Operand → T) : Op → Option (FuncId × List T)
  | .call { callee := .value x, args, .. } => match ρ x with
    | .fn f first caps => some (f, first ++ args.toList.map ρ ++ caps)
    | _ => none
  | _ => none

def isCall : Op → Bool
  | .call { callee := .value _, .. } => true
  | _ => false

/-- what holds where 'g' does -/
def mkOpt (g : Bool) (t : T) : T := match g with | true => t | false => .opt false t
theorem mkOpt_ok {c : Cx} {g : Bool} {t : T} {v : Value} (h1 : g = true → RV c t v) (h0 : g = false → v = undef) : RV c (mkOpt g t) v := by
  cases g
  · exact ⟨fun e => (by cases e), fun _ => h0 rfl⟩
  · exact h1 rfl
theorem mkOpt_t (t : T) : mkOpt true t = t := rfl
theorem mkOpt_f (t : T) : mkOpt false t = .opt false t := rfl
def isOpt : T → Bool
  | .opt .. => true
  | _ => false

def vprim (Y : TypeId → TyI) (ρ : Operand → T) (o : Oper) (K : S → Prop) (s : S) : Prop :=
  match (opM Y ρ s.hp.length o.type o.op).run (s.grown (allocs Y o.op)) with
  | some out => K ({ s with hp := (s.grown (allocs Y o.op)).after (allocs Y o.op) s.hp.length out }.put o.dst out.v)
  | none => False

/-- a call of a function whose contract is known: 'ms': how the arguments pass -/
def vcallF (P : Program) (f : FuncId) (ts : List T) (dst : Option Tmp) (K : S → Prop) (s : S) : Prop :=
  ∃ ms as backs H1 args outs res H2, pass1 ms ts (s.hp ++ [[]]) = some (as, backs, H1) ∧ (pass2 as).run H1 = some args ∧ CallR P f args outs res ∧ resClo res = true ∧
    fillB backs outs H1 = some H2 ∧ K ({ s with hp := H2.set s.hp.length (thawA s.hp.length (res.tg dnT) 0).2 }.put dst (thawA s.hp.length (res.tg dnT) 0).1)

def vcall (P : Program) (ρ : Operand → T) (o : Oper) (K : S → Prop) (s : S) : Prop :=
  match callT ρ o.op with
  | some (f, ts) => vcallF P f ts o.dst K s
  | none => False

def vopR (P : Program) (Y : TypeId → TyI) (ρ : Operand → T) (o : Oper) (K : S → Prop) (s : S) : Prop := if isCall o.op then vcall P ρ o K s else vprim Y ρ o K s
def vop (P : Program) (Y : TypeId → TyI) (o : Oper) (K : S → Prop) (s : S) : Prop := vopR P Y s.ev o K s

/-- what a guard's operation yielded -/
def guardT (ops : Array Oper) (tm : List T) (g : Nat) : T := match (ops[g]?).bind (·.dst) with | some d => tm.getD d .undef | none => .undef

/-- operations that neither branch nor touch the heap: guarded, they may be worked out all the same -/
def quietK : Op → Bool
  | .move _ | .assign _ | .fieldAddr .. | .field .. | .load .. | .unOp .. | .extract .. | .pick .. | .nilCheck _ => true
  | .binOp op .. => match op with | .quo | .rem | .shl | .shr => false | _ => true
  | .call { callee := .builtin .len, .. } => true
  | _ => false

/-- an operand, where 'g' holds -/
def stripT (g : Bool) : T → T
  | .opt false t => mkOpt (!g) t
  | .opt true t => t
  | t => t
/-- does the guarded operation run? -/
def guardC (w : Bool) : T → Option Bool
  | .bool b => some (b == w)
  | .opt false _ => some false
  | _ => none
theorem guardC_mk (w g b : Bool) : guardC w (mkOpt g (.bool b)) = some (g && (b == w)) := by cases g <;> rfl
theorem guardC_b (w b : Bool) : guardC w (.bool b) = some (b == w) := rfl
theorem guardC_f (w : Bool) (t : T) : guardC w (.opt false t) = some false := rfl
theorem stripT_mk (g h : Bool) {t : T} (ht : isOpt t = false) : stripT g (mkOpt h t) = mkOpt (!g || h) t := by
  cases h
  · cases g <;> rfl
  · cases g <;> cases t <;> first | rfl | cases ht

def vquiet (Y : TypeId → TyI) (g : Bool) (o : Oper) (K : S → Prop) (s : S) : Prop :=
  match (opM Y (fun x => stripT g (s.ev x)) s.hp.length o.type o.op).run s.hp with
  | some out => out.ups = [] ∧ K (s.put o.dst (mkOpt g out.v))
  | none => g = false ∧ K (s.put o.dst (.opt false .undef))

def leafT : T → Bool
  | .int .. | .bool _ | .str _ => true
  | _ => false
/-- a guarded call that only looks: what it yields is known only where the guard holds -/
def vpure (P : Program) (ρ : Operand → T) (g : Bool) (o : Oper) (K : S → Prop) (s : S) : Prop :=
  match callT ρ o.op with
  | some x => ∃ args res, leafT res = true ∧ (g = true → (pass2 (x.2.map fun t => (true, t))).run (s.hp ++ [[]]) = some args ∧ CallR P x.1 args [] res) ∧ K (({ s with hp := s.hp ++ [[]] } : S).put o.dst (mkOpt g res))
  | none => False

def vgop (P : Program) (Y : TypeId → TyI) (ops : Array Oper) (o : Oper) (K : S → Prop) (s : S) : Prop :=
  match o.guard with
  | none => vop P Y o K s
  | some (g, want) => match guardC want (guardT ops s.tm g) with
    | some c => if quietK o.op = true then vquiet Y c o K s
      else (c = true → vopR P Y s.ev o K s) ∧ (c = false → K (s.put o.dst (.opt false .undef))) ∨ vpure P (fun x => stripT c (s.ev x)) c o K s
    | none => False

def vops (P : Program) (Y : TypeId → TyI) (ops : Array Oper) (K : S → Prop) : List Nat → S → Prop
  | [], s => K s
  | i :: rest, s => match ops[i]? with
    | none => vops P Y ops K rest s
    | some o => vgop P Y ops o (vops P Y ops K rest) s

section
variable {P : Program} {Y : TypeId → TyI} (hY : TysW P Y)

theorem Inv.grown {F : Fr} {c : Cx} {s : S} {a : Act} {bs : List Nat} (h : Inv F c s a bs) (b : Bool) : InvH F c (s.grown b) bs := by
  cases b
  · exact h.h
  · exact h.h.ext

theorem run_enter {ρ : Operand → Value} {o : Oper} {f : FuncId} {fn : Func} {x : Operand} {args : Array Operand} {ats : Array TypeId} {xs ys : Array Value} {w : World}
    (hop : o.op = .call { callee := .value x, args, argTypes := ats }) (hx : ρ x = .func (.func f) xs ys)
    (hf : P.funcs[f]? = some fn) (hn : fn.name ≠ "runtime.NumGoroutine") (hb : fn.body.isSome = true) : (execOp ρ o).run P w = .ok (.enter f (xs ++ args.map ρ ++ ys)) w := by
  have h2 : ¬ fn.body = none := by cases hx : fn.body <;> simp_all
  unfold execOp
  simp [hop, resolve, Deferred.ofValue, invoke, callFunc, hf, hn, h2, hx]

theorem RVL_app {c : Cx} : ∀ {l m : List T} {vs us : List Value}, RVL c l vs → RVL c m us → RVL c (l ++ m) (vs ++ us)
  | [], m, vs, us, h1, h2 => by simp only [RVL] at h1; subst h1; exact h2
  | t :: l, m, _, us, ⟨v, vs', rfl, h1, h2⟩, h3 => ⟨v, _, rfl, h1, RVL_app h2 h3⟩

include hY in
theorem vopR_soundL {F : Fr} {c : Cx} {s : S} {a : Act} {bs : List Nat} {o : Oper} {K : S → Prop} {next : Act → World → Prop} {Q : Exit → Act → World → Prop} {ρ : Operand → T} (h : Inv F c s a bs) (hρ : ∀ x, RV c (ρ x) (a.eval x))
    (hK : ∀ s' c' v bs', c.Le c' → Inv F c' s' (a.put o.dst v) bs' → K s' → next (a.put o.dst v) c'.w) (hv : vopR P Y ρ o K s) : o.wp P a c.w next Q := by
  unfold vopR at hv
  split at hv
  · rename_i hc
    unfold vcall at hv
    split at hv
    case h_2 => exact hv.elim
    rename_i f ts hct
    obtain ⟨ms, as, backs, H1, args, outs, res, H2, hp1, hp2, hcr, hrc, hfill, hk⟩ := hv
    obtain ⟨fn, hf, hb, hn⟩ := hcr.1
    have ⟨x, as', ats, hop⟩ : ∃ x as' ats, o.op = .call { callee := .value x, args := as', argTypes := ats } := by
      unfold isCall at hc
      split at hc
      · rename_i x as' ats heq; exact ⟨_, _, _, heq⟩
      · cases hc
    rw [hop] at hct
    simp only [callT] at hct
    split at hct
    case h_2 => cases hct
    rename_i f' first caps hx
    simp only [Option.some.injEq, Prod.mk.injEq] at hct
    obtain ⟨rfl, rfl⟩ := hct
    have hxv := hρ x
    rw [hx] at hxv
    obtain ⟨xs, ys, hxe, r1, r2⟩ := hxv
    have hargs : RVL c (first ++ as'.toList.map ρ ++ caps) (xs ++ as'.map a.eval ++ ys).toList := by
      simp only [Array.toList_append, Array.toList_map]
      exact RVL_app (RVL_app r1 (RVL_map hρ _)) r2
    have hcall := call_ok h.h.ext (own_ext s.hp) hargs hp1 hp2 hcr hrc hfill
    unfold Oper.wp
    rw [run_enter hop hxe hf hn hb]
    simp only [Oper.upon]
    rw [show xs ++ Array.map a.eval as' ++ ys = (xs ++ Array.map a.eval as' ++ ys).toList.toArray by simp]
    refine Calls.mono hcall ?_
    rintro e w' ⟨r, c', bs', rfl, rfl, hle, hinv, hr⟩
    simp only
    exact hK _ c' _ bs' hle (Inv.next hinv (RVL.mono hle s.tm h.tm) hr h.df fun j i e => hle.mu _ _ _ (h.pin j i e)) hk
  · unfold vprim at hv
    split at hv
    case h_2 => exact hv.elim
    rename_i out hout
    obtain ⟨c', bs', hle, hinv, hr⟩ := op_ok hY (Inv.grown h _) (ν := a.eval) hρ (fun ha => by simp only [S.grown, ha, if_true]; exact own_ext s.hp) hout
    unfold Oper.wp
    rcases hr with ⟨x, hx, hxv⟩ | ⟨hx, hu⟩
    · rw [hx]
      exact hK _ c' _ bs' hle (Inv.next hinv (RVL.mono hle s.tm h.tm) hxv h.df fun j i e => hle.mu _ _ _ (h.pin j i e)) hv
    · rw [hx]
      exact hK _ c' _ bs' hle (Inv.next (v := undef) hinv (RVL.mono hle s.tm h.tm) (by rw [hu]; trivial) h.df fun j i e => hle.mu _ _ _ (h.pin j i e)) hv

theorem guardC_ok {F : Fr} {c : Cx} {s : S} {a : Act} {bs : List Nat} {ops : Array Oper} {g : Nat} {w b : Bool} (h : Inv F c s a bs) (hg : guardC w (guardT ops s.tm g) = some b) :
    (yielded ops a.tmps g == some w) = b := by
  unfold guardC at hg
  split at hg
  · rename_i x hb
    simp only [Option.some.injEq] at hg; subst hg
    unfold guardT at hb
    unfold yielded
    split at hb
    · rename_i d hd
      have hv := RVL_getD d h.tm
      rw [hb] at hv
      simp only [RV] at hv
      rw [hd]
      simp only [Option.bind_some]
      have hlt : a.tmps[d]? = some (.bool x) := by
        rw [List.getD_eq_getElem?_getD] at hv
        cases hx : a.tmps.toList[d]? with
        | none => rw [hx] at hv; simp [undef] at hv
        | some v => rw [hx] at hv; simp only [Option.getD_some] at hv; subst hv; simpa using hx
      rw [hlt]
      rfl
    · cases hb
  · rename_i t hb
    simp only [Option.some.injEq] at hg; subst hg
    unfold guardT at hb
    unfold yielded
    split at hb
    · rename_i d hd
      have hv := RVL_getD d h.tm
      rw [hb] at hv
      have hv := hv.2 rfl
      rw [hd]
      simp only [Option.bind_some]
      cases hx : a.tmps[d]? with
      | none => rfl
      | some v =>
        rw [List.getD_eq_getElem?_getD] at hv
        have : a.tmps.toList[d]? = some v := by simpa using hx
        rw [this] at hv
        simp only [Option.getD_some] at hv
        subst hv; rfl
    · cases hb
  · cases hg

theorem quietK_al {op : Op} (h : quietK op = true) : allocs Y op = false := by
  unfold quietK at h
  split at h <;> first | rfl | cases h
theorem stripT_ok {c : Cx} {g : Bool} {t : T} {v : Value} (hg : g = true) (h : RV c t v) : RV c (stripT g t) v := by
  subst hg
  unfold stripT
  split
  · exact h
  · exact h.1 rfl
  · exact h

theorem leaf_tg {res : T} (h : leafT res = true) (own : Nat) : thawA own (res.tg dnT) 0 = (res, []) := by
  cases res <;> simp [leafT] at h <;> rfl
theorem leaf_clo {res : T} (h : leafT res = true) : resClo res = true := by
  cases res <;> simp [leafT] at h <;> rfl
theorem pass1_lend : ∀ (ts : List T) (H : Heap), pass1 [] ts H = some (ts.map fun t => (true, t), [], H)
  | [], H => rfl
  | t :: ts, H => by simp only [pass1, pass1_lend ts H, List.map_cons]

theorem vpure_soundL {F : Fr} {c : Cx} {s : S} {a : Act} {bs : List Nat} {o : Oper} {K : S → Prop} {next : Act → World → Prop} {Q : Exit → Act → World → Prop} {ρ : Operand → T} (h : Inv F c s a bs) (hρ : ∀ x, RV c (ρ x) (a.eval x))
    (hK : ∀ s' c' v bs', c.Le c' → Inv F c' s' (a.put o.dst v) bs' → K s' → next (a.put o.dst v) c'.w) (hv : vpure P ρ true o K s) : o.wp P a c.w next Q := by
  unfold vpure at hv
  split at hv
  case h_2 => exact hv.elim
  rename_i x hct
  obtain ⟨f, ts⟩ := x
  obtain ⟨args, res, hleaf, hg, hk⟩ := hv
  obtain ⟨hp2, hcr⟩ := hg rfl
  obtain ⟨fn, hf, hb, hn⟩ := hcr.1
  have ⟨x, as', ats, hop⟩ : ∃ x as' ats, o.op = .call { callee := .value x, args := as', argTypes := ats } := by
    unfold callT at hct
    split at hct
    · rename_i x as' ats heq; exact ⟨_, _, _, heq⟩
    · cases hct
  rw [hop] at hct
  simp only [callT] at hct
  split at hct
  case h_2 => cases hct
  rename_i f' first caps hx
  simp only [Option.some.injEq, Prod.mk.injEq] at hct
  obtain ⟨rfl, rfl⟩ := hct
  have hxv := hρ x
  rw [hx] at hxv
  obtain ⟨xs, ys, hxe, r1, r2⟩ := hxv
  have hargs : RVL c (first ++ as'.toList.map ρ ++ caps) (xs ++ as'.map a.eval ++ ys).toList := by
    simp only [Array.toList_append, Array.toList_map]
    exact RVL_app (RVL_app r1 (RVL_map hρ _)) r2
  have hcall := call_ok h.h.ext (own_ext s.hp) hargs (pass1_lend _ _) hp2 hcr (leaf_clo hleaf) (H2 := s.hp ++ [[]]) rfl
  unfold Oper.wp
  rw [run_enter hop hxe hf hn hb]
  simp only [Oper.upon]
  rw [show xs ++ Array.map a.eval as' ++ ys = (xs ++ Array.map a.eval as' ++ ys).toList.toArray by simp]
  refine Calls.mono hcall ?_
  rintro e w' ⟨r, c', bs', rfl, rfl, hle, hinv, hr⟩
  simp only
  rw [leaf_tg hleaf] at hr hinv
  have e1 : (s.hp ++ [[]]).set s.hp.length [] = s.hp ++ [[]] := by simp
  rw [e1] at hinv
  exact hK _ c' _ bs' hle (Inv.next (t := mkOpt true res) hinv (RVL.mono hle s.tm h.tm) hr h.df fun j i e => hle.mu _ _ _ (h.pin j i e)) hk

include hY in
theorem vgop_soundL {F : Fr} {c : Cx} {s : S} {a : Act} {bs : List Nat} {ops : Array Oper} {i : Nat} {o : Oper} {K : S → Prop} {next : Act → World → Prop} {Q : Exit → Act → World → Prop} (h : Inv F c s a bs)
    (ho : ops[i]? = some o) (hK : ∀ s' c' v bs', c.Le c' → Inv F c' s' (a.put o.dst v) bs' → K s' → next (a.put o.dst v) c'.w) (hv : vgop P Y ops o K s) : wpOp P ops Q i next a c.w := by
  unfold wpOp
  simp only [ho]
  unfold vgop at hv
  split at hv
  · rename_i hg
    simp only [Region.wanted, hg, if_true]
    exact .inl (vopR_soundL hY h (ev_ok h) hK hv)
  · rename_i g want hg
    split at hv
    case h_2 => exact hv.elim
    rename_i b hb
    have hy := guardC_ok h hb
    simp only [Region.wanted, hg, hy]
    split at hv
    · rename_i hq
      have hal := quietK_al (Y := Y) hq
      unfold vquiet at hv
      split at hv
      case h_2 =>
        simp only [hv.1, Bool.false_eq_true, if_false]
        exact hK _ c _ bs (.refl c) (Inv.next (t := .opt false .undef) (v := undef) h.h h.tm ⟨fun e => (by cases e), fun _ => rfl⟩ h.df h.pin) hv.2
      rename_i out hout
      obtain ⟨hups, hk⟩ := hv
      cases b with
      | true =>
        simp only [if_true]
        refine .inl ?_
        obtain ⟨c', bs', hle, hinv, hr⟩ := op_ok hY h.h (ν := a.eval) (fun x => stripT_ok rfl (ev_ok h x)) (fun ha => by rw [hal] at ha; cases ha) hout
        rw [hal] at hinv
        have hH : s.hp.after false s.hp.length out = s.hp := by simp [Heap.after, hups, Heap.ups]
        rw [hH] at hinv
        unfold Oper.wp
        rcases hr with ⟨x, hx, hxv⟩ | ⟨hx, hu⟩
        · rw [hx]
          exact hK _ c' _ bs' hle (Inv.next (t := mkOpt true out.v) hinv (RVL.mono hle s.tm h.tm) hxv h.df fun j i e => hle.mu _ _ _ (h.pin j i e)) hk
        · rw [hx]
          exact hK _ c' _ bs' hle (Inv.next (t := mkOpt true out.v) (v := undef) hinv (RVL.mono hle s.tm h.tm) (by rw [hu]; trivial) h.df fun j i e => hle.mu _ _ _ (h.pin j i e)) hk
      | false =>
        simp only [Bool.false_eq_true, if_false]
        exact hK _ c _ bs (.refl c) (Inv.next (t := mkOpt false out.v) (v := undef) h.h h.tm ⟨fun e => (by cases e), fun _ => rfl⟩ h.df h.pin) hk
    cases b with
    | true =>
      simp only [if_true]
      rcases hv with hv | hv
      · exact .inl (vopR_soundL hY h (ev_ok h) hK (hv.1 rfl))
      · exact .inl (vpure_soundL h (fun x => stripT_ok rfl (ev_ok h x)) hK hv)
    | false =>
      simp only [Bool.false_eq_true, if_false]
      rcases hv with hv | hv
      · exact hK _ c _ bs (.refl c) (Inv.next (t := .opt false .undef) (v := undef) h.h h.tm ⟨fun e => (by cases e), fun _ => rfl⟩ h.df h.pin) (hv.2 rfl)
      · unfold vpure at hv
        split at hv
        case h_2 => exact hv.elim
        obtain ⟨args, res, hleaf, _, hk⟩ := hv
        exact hK _ c _ bs (.refl c) (Inv.next (t := mkOpt false res) (v := undef) h.h.ext h.tm ⟨fun e => (by cases e), fun _ => rfl⟩ h.df h.pin) hk

include hY in
theorem vopR_sound {F : Fr} {c : Cx} {s : S} {a : Act} {bs : List Nat} {o : Oper} {K : S → Prop} {next : Act → World → Prop} {Q : Exit → Act → World → Prop} {ρ : Operand → T} (h : Inv F c s a bs) (hρ : ∀ x, RV c (ρ x) (a.eval x))
    (hK : ∀ s' c' a' bs', Inv F c' s' a' bs' → K s' → next a' c'.w) (hv : vopR P Y ρ o K s) : o.wp P a c.w next Q :=
  vopR_soundL hY h hρ (fun s' c' v bs' _ h1 h2 => hK s' c' _ bs' h1 h2) hv

include hY in
theorem vgop_sound {F : Fr} {c : Cx} {s : S} {a : Act} {bs : List Nat} {ops : Array Oper} {i : Nat} {o : Oper} {K : S → Prop} {next : Act → World → Prop} {Q : Exit → Act → World → Prop} (h : Inv F c s a bs)
    (ho : ops[i]? = some o) (hK : ∀ s' c' a' bs', Inv F c' s' a' bs' → K s' → next a' c'.w) (hv : vgop P Y ops o K s) : wpOp P ops Q i next a c.w :=
  vgop_soundL hY h ho (fun s' c' v bs' _ h1 h2 => hK s' c' _ bs' h1 h2) hv

include hY in
theorem vops_sound {F : Fr} {ops : Array Oper} {K : S → Prop} {Q : Exit → Act → World → Prop}
    (hK : ∀ s' c' a' bs', Inv F c' s' a' bs' → K s' → Q .normal a' c'.w) : ∀ (l : List Nat) {c : Cx} {s : S} {a : Act} {bs : List Nat}, Inv F c s a bs → vops P Y ops K l s → wpOps P ops Q l a c.w
  | [], c, s, a, bs, h, hv => hK s c a bs h hv
  | i :: rest, c, s, a, bs, h, hv => by
    rw [wpOps_cons]
    simp only [vops] at hv
    cases ho : ops[i]? with
    | none =>
      simp only [ho] at hv
      unfold wpOp; simp only [ho]
      exact vops_sound hK rest h hv
    | some o =>
      simp only [ho] at hv
      exact vgop_sound hY h ho (fun s' c' a' bs' h' hk => vops_sound hK rest h' hk) hv
end
/-! what is picked -/
theorem pick_bb (x y c : Bool) : pickT (.bool x) (.bool y) c = some (.bool (if c then x else y)) := rfl
theorem pick_l (h x y c : Bool) : pickT (mkOpt h (.bool x)) (.bool y) c = if (!c || h) = true then some (.bool (if c then x else y)) else none := by cases h <;> cases c <;> rfl
theorem pick_r (h x y c : Bool) : pickT (.bool x) (mkOpt h (.bool y)) c = if (c || h) = true then some (.bool (if c then x else y)) else none := by cases h <;> cases c <;> rfl
theorem st_int (g : Bool) (k : IntKind) (n : Int) : stripT g (.int k n) = .int k n := rfl
theorem st_bool (g : Bool) (b : Bool) : stripT g (.bool b) = .bool b := rfl
theorem st_str (g : Bool) (x : ByteArray) : stripT g (.str x) = .str x := rfl
theorem st_nd (g : Bool) (l : List T) : stripT g (.nd l) = .nd l := rfl
theorem st_sl (g : Bool) (t : Tag) (l : List T) : stripT g (.sl t l) = .sl t l := rfl
theorem st_nils (g : Bool) (e : Nat) : stripT g (.nils e) = .nils e := rfl
theorem st_ref (g : Bool) (a b c d : Nat) : stripT g (.ref a b c d) = .ref a b c d := rfl
theorem st_vr (g : Bool) (e j : Nat) (p : List Nat) (o es off len : Nat) : stripT g (.vr e j p o es off len) = .vr e j p o es off len := rfl
theorem st_ptr (g : Bool) (e j : Nat) (p : List Nat) (o : Nat) : stripT g (.ptr e j p o) = .ptr e j p o := rfl
theorem st_fp (g : Bool) (t : T) : stripT g (.fp t) = .fp t := rfl
theorem st_fn (g : Bool) (f : FuncId) (a b : List T) : stripT g (.fn f a b) = .fn f a b := rfl
theorem st_nilI (g : Bool)  : stripT g (.nilI) = .nilI := rfl
theorem st_nilP (g : Bool)  : stripT g (.nilP) = .nilP := rfl
theorem st_err (g : Bool)  : stripT g (.err) = .err := rfl
theorem st_any (g : Bool)  : stripT g (.any) = .any := rfl
theorem st_tup (g : Bool) (l : List T) : stripT g (.tup l) = .tup l := rfl
theorem st_undef (g : Bool)  : stripT g (.undef) = .undef := rfl
theorem st_ow (g : Bool) (e : Nat) (l : List T) : stripT g (.ow e l) = .ow e l := rfl
theorem st_io (g : Bool) (t : T) : stripT g (.io t) = .io t := rfl
theorem st_opt (g : Bool) (t : T) : stripT g (.opt false t) = mkOpt (!g) t := rfl
theorem ite_and (c x : Bool) : (if c = true then x else false) = (c && x) := by cases c <;> rfl
theorem ite_or (c y : Bool) : (if c = true then true else y) = (c || y) := by cases c <;> rfl
theorem tt1 (g b : Bool) : (!(g && b) || g) = true := by cases g <;> cases b <;> rfl
theorem tt2 (g b : Bool) : (!(g && b) || b) = true := by cases g <;> cases b <;> rfl
theorem tt3 (g b : Bool) : (!b || (!g || (g && b))) = true := by cases g <;> cases b <;> rfl
theorem tt4 (g b : Bool) : (b || (!g || (g && !b))) = true := by cases g <;> cases b <;> rfl
theorem tt5 (g b c : Bool) : (!(g && b && c) || g) = true := by cases g <;> cases b <;> cases c <;> rfl
theorem stm_int (g h : Bool) (k : IntKind) (n : Int) : stripT g (mkOpt h (.int k n)) = mkOpt (!g || h) (.int k n) := stripT_mk g h rfl
theorem stm_bool (g h : Bool) (b : Bool) : stripT g (mkOpt h (.bool b)) = mkOpt (!g || h) (.bool b) := stripT_mk g h rfl
theorem stm_str (g h : Bool) (x : ByteArray) : stripT g (mkOpt h (.str x)) = mkOpt (!g || h) (.str x) := stripT_mk g h rfl
theorem stm_nd (g h : Bool) (l : List T) : stripT g (mkOpt h (.nd l)) = mkOpt (!g || h) (.nd l) := stripT_mk g h rfl
theorem stm_sl (g h : Bool) (t : Tag) (l : List T) : stripT g (mkOpt h (.sl t l)) = mkOpt (!g || h) (.sl t l) := stripT_mk g h rfl
theorem stm_nils (g h : Bool) (e : Nat) : stripT g (mkOpt h (.nils e)) = mkOpt (!g || h) (.nils e) := stripT_mk g h rfl
theorem stm_ref (g h : Bool) (a b c d : Nat) : stripT g (mkOpt h (.ref a b c d)) = mkOpt (!g || h) (.ref a b c d) := stripT_mk g h rfl
theorem stm_vr (g h : Bool) (e j : Nat) (p : List Nat) (o es off len : Nat) : stripT g (mkOpt h (.vr e j p o es off len)) = mkOpt (!g || h) (.vr e j p o es off len) := stripT_mk g h rfl
theorem stm_ptr (g h : Bool) (e j : Nat) (p : List Nat) (o : Nat) : stripT g (mkOpt h (.ptr e j p o)) = mkOpt (!g || h) (.ptr e j p o) := stripT_mk g h rfl
theorem stm_fp (g h : Bool) (t : T) : stripT g (mkOpt h (.fp t)) = mkOpt (!g || h) (.fp t) := stripT_mk g h rfl
theorem stm_fn (g h : Bool) (f : FuncId) (a b : List T) : stripT g (mkOpt h (.fn f a b)) = mkOpt (!g || h) (.fn f a b) := stripT_mk g h rfl
theorem stm_nilI (g h : Bool)  : stripT g (mkOpt h (.nilI)) = mkOpt (!g || h) (.nilI) := stripT_mk g h rfl
theorem stm_nilP (g h : Bool)  : stripT g (mkOpt h (.nilP)) = mkOpt (!g || h) (.nilP) := stripT_mk g h rfl
theorem stm_err (g h : Bool)  : stripT g (mkOpt h (.err)) = mkOpt (!g || h) (.err) := stripT_mk g h rfl
theorem stm_any (g h : Bool)  : stripT g (mkOpt h (.any)) = mkOpt (!g || h) (.any) := stripT_mk g h rfl
theorem stm_tup (g h : Bool) (l : List T) : stripT g (mkOpt h (.tup l)) = mkOpt (!g || h) (.tup l) := stripT_mk g h rfl
theorem stm_undef (g h : Bool)  : stripT g (mkOpt h (.undef)) = mkOpt (!g || h) (.undef) := stripT_mk g h rfl
theorem stm_ow (g h : Bool) (e : Nat) (l : List T) : stripT g (mkOpt h (.ow e l)) = mkOpt (!g || h) (.ow e l) := stripT_mk g h rfl
theorem stm_io (g h : Bool) (t : T) : stripT g (mkOpt h (.io t)) = mkOpt (!g || h) (.io t) := stripT_mk g h rfl
theorem pick_ul (y : T) (c : Bool) : pickT .undef y c = some .undef := by cases y <;> rfl
theorem pick_ur (x : T) (c : Bool) : pickT x .undef c = some .undef := by cases x <;> rfl
theorem pick_fu (t : T) (y : Bool) : pickT (.opt false t) (.bool y) false = some (.bool y) := by cases t <;> rfl
theorem pick_tu (t : T) (x : Bool) : pickT (.bool x) (.opt false t) true = some (.bool x) := by cases t <;> rfl
end Go.Vm

namespace Go.Vm

/-! ### code -/
/-- what holds where a piece of code is left, over states of the machine of values -/
def liftQ (F : Fr) (Q : Exit → S → Prop) : Exit → Act → World → Prop := fun e a w => ∃ s c bs, c.w = w ∧ Inv F c s a bs ∧ Q e s

def SW (P : Program) (F : Fr) (Q : Exit → S → Prop) (k : Code) (s : S) : Prop := ∀ (c : Cx) (a : Act) (bs : List Nat), Inv F c s a bs → k.wp P (liftQ F Q) a c.w

/-- states that stand for the same memory -/
def Norm (s s' : S) : Prop := ∀ (F : Fr) (c : Cx) (a : Act) (bs : List Nat), Inv F c s a bs → ∃ c' bs', c'.w = c.w ∧ Inv F c' s' a bs'

def thenS (K : S → Prop) (Q : Exit → S → Prop) : Exit → S → Prop
  | .normal, s => K s
  | e, s => Q e s
def blockS (id : Nat) (Q : Exit → S → Prop) : Exit → S → Prop
  | .exit id', s => if id' = id then Q .normal s else Q (.exit id') s
  | e, s => Q e s

theorem Norm.refl (s : S) : Norm s s := fun F c a bs h => ⟨c, bs, rfl, h⟩
theorem Norm.trans {s s' s'' : S} (h : Norm s s') (h' : Norm s' s'') : Norm s s'' := fun F c a bs hi =>
  let ⟨c1, b1, e1, i1⟩ := h F c a bs hi
  let ⟨c2, b2, e2, i2⟩ := h' F c1 a b1 i1
  ⟨c2, b2, e2.trans e1, i2⟩

section
variable {P : Program} {Y : TypeId → TyI} {F : Fr} {Q : Exit → S → Prop} {s : S}

theorem SW.norm {k : Code} {s' : S} (h : Norm s s') (h' : SW P F Q k s') : SW P F Q k s := fun c a bs hi => by
  obtain ⟨c', bs', e, hi'⟩ := h F c a bs hi
  rw [← e]; exact h' c' a bs' hi'

theorem SW.mono {k : Code} {Q' : Exit → S → Prop} (h : ∀ e s, Q e s → Q' e s) (h' : SW P F Q k s) : SW P F Q' k s := fun c a bs hi =>
  wp_mono (h' c a bs hi) fun e a w ⟨s, c, bs, e1, h1, h2⟩ => ⟨s, c, bs, e1, h1, h _ _ h2⟩

theorem SW.skip (h : Q .normal s) : SW P F Q .skip s := fun c a bs hi => wp_skip ⟨s, c, bs, rfl, hi, h⟩
theorem SW.label {l : Nat} (h : Q .normal s) : SW P F Q (.label l) s := fun c a bs hi => wp_label ⟨s, c, bs, rfl, hi, h⟩
theorem SW.exit {id : Nat} (h : Q (.exit id) s) : SW P F Q (.exit id) s := fun c a bs hi => wp_exit ⟨s, c, bs, rfl, hi, h⟩
theorem SW.ret (h : Q .ret s) : SW P F Q .ret s := fun c a bs hi => wp_ret ⟨s, c, bs, rfl, hi, h⟩

theorem SW.seq {x y : Code} (h : SW P F (thenS (SW P F Q y) Q) x s) : SW P F Q (.seq x y) s := fun c a bs hi =>
  wp_seq (wp_mono (h c a bs hi) fun e a w ⟨s, c, bs, e1, h1, h2⟩ => by
    subst e1
    cases e with
    | normal => exact h2 c a bs h1
    | _ => exact ⟨s, c, bs, rfl, h1, h2⟩)

theorem SW.cond {x : Operand} {k l : Code} {t : Bool} (hc : s.ev x = .bool t) (h1 : t = true → SW P F Q k s) (h2 : t = false → SW P F Q l s) : SW P F Q (.cond x k l) s := fun c a bs hi => by
  have hv := ev_ok hi x
  rw [hc] at hv
  exact wp_cond_split hv (fun h => h1 h c a bs hi) (fun h => h2 h c a bs hi)

theorem SW.block {id : Nat} {k : Code} (h : SW P F (blockS id Q) k s) : SW P F Q (.block id k) s := fun c a bs hi =>
  wp_block (wp_mono (h c a bs hi) fun e a w ⟨s, c, bs, e1, h1, h2⟩ => by
    subst e1
    cases e with
    | exit id' =>
      simp only [Exit.inBlock, blockS] at h2 ⊢
      split
      · rename_i he; simp only [he, if_true] at h2; exact ⟨s, c, bs, rfl, h1, h2⟩
      · rename_i he; simp only [he, if_false] at h2; exact ⟨s, c, bs, rfl, h1, h2⟩
    | _ => exact ⟨s, c, bs, rfl, h1, h2⟩)

theorem wp_loop_by {k : Code} {R : Exit → Act → World → Prop} (I : Nat → Act → World → Prop) (round : ∀ n a w, I n a w → k.wp P (Exit.then (fun a' w' => ∃ m, m < n ∧ I m a' w') R) a w) {n : Nat} {a : Act} {w : World}
    (h₀ : I n a w) : (Code.loop k).wp P R a w := by
  intro b kk cs
  have key : ∀ n a w, I n a w → ∃ e a' w', R e a' w' ∧ Arrives P (lone (b.at a (.code k :: .inLoop k :: kk)) cs w) b kk cs e a' w' := by
    intro n
    induction n using Nat.strongRecOn with
    | _ n ih =>
      intro a w hI
      obtain ⟨e, a₁, w₁, hq, harr⟩ := round n a w hI b (.inLoop k :: kk) cs
      cases e with
      | normal =>
        obtain ⟨m, hlt, hI₁⟩ := hq
        obtain ⟨e₂, a₂, w₂, hq₂, harr₂⟩ := ih m hlt a₁ w₁ hI₁
        exact ⟨e₂, a₂, w₂, hq₂, .of_steps (Steps.trans harr (.one step_inLoop)) harr₂⟩
      | exit id => exact ⟨_, a₁, w₁, hq, .pass (x := .inLoop k) rfl (fun _ _ => .inl (by simp)) harr⟩
      | goto l => exact ⟨_, a₁, w₁, hq, .pass (x := .inLoop k) rfl (fun _ _ => .inl (by simp)) harr⟩
      | ret => exact ⟨_, a₁, w₁, hq, .pass (x := .inLoop k) rfl (fun _ _ => .inl (by simp)) harr⟩
      | panic ch => exact ⟨_, a₁, w₁, hq, .pass (x := .inLoop k) rfl (fun _ _ => .inl (by simp)) harr⟩
      | outgrown => exact ⟨_, a₁, w₁, hq, .pass (x := .inLoop k) rfl (fun _ _ => .inl (by simp)) harr⟩
  obtain ⟨e, a', w', hq, harr⟩ := key n a w h₀
  exact ⟨e, a', w', hq, .of_steps (.one step_loop) harr⟩

/-- A LOOP: 'st x' is the state at its head; 'I n x': so many rounds may still come -/
theorem SW.loop {α : Type} {k : Code} (st : α → S) (I : Nat → α → Prop) {n : Nat} {x : α} (hs : Norm s (st x)) (h0 : I n x)
    (round : ∀ n x, I n x → SW P F (thenS (fun s' => ∃ m y, m < n ∧ I m y ∧ Norm s' (st y)) Q) k (st x)) : SW P F Q (.loop k) s := fun c a bs hi => by
  obtain ⟨c', bs', e, hi'⟩ := hs F c a bs hi
  rw [← e]
  refine wp_loop_by (fun n a w => ∃ x c bs, I n x ∧ c.w = w ∧ Inv F c (st x) a bs) ?_ (n := n) ⟨x, c', bs', h0, rfl, hi'⟩
  rintro n a w ⟨x, c, bs, hx, rfl, hi⟩
  refine wp_mono (round n x hx c a bs hi) fun e a w ⟨s, c, bs, e1, h1, h2⟩ => ?_
  subst e1
  cases e with
  | normal =>
    obtain ⟨m, y, hlt, hy, hn⟩ := h2
    obtain ⟨c', bs', e, hi'⟩ := hn F c a bs h1
    exact ⟨m, hlt, y, c', bs', hy, e, hi'⟩
  | _ => exact ⟨s, c, bs, rfl, h1, h2⟩

/-- A REGION that draws no order -/
theorem SW.region (hY : TysW P Y) {id : Nat} {ops : Array Oper} (h : vops P Y ops (Q .normal) (List.range ops.size) s) : SW P F Q (.region id ops false) s := fun c a bs hi =>
  wp_region (vops_sound hY (K := Q .normal) (fun s' c' a' bs' h1 h2 => ⟨s', c', bs', rfl, h1, h2⟩) _ hi h)

/-- A REGION that draws its order, seen one operation at a time in every order: dear, but for few operations -/
def vany (P : Program) (Y : TypeId → TyI) (ops : Array Oper) (K : S → Prop) : Nat → Array Bool → S → Prop
  | 0, listed, s => Region.ready .any ops listed = [] ∧ K s
  | fuel + 1, listed, s => (Region.ready .any ops listed = [] → K s) ∧ ∀ i ∈ Region.ready .any ops listed, match ops[i]? with
    | some o => vgop P Y ops o (vany P Y ops K fuel (listed.setIfInBounds i true)) s
    | none => False

theorem vany_sound (hY : TysW P Y) {ops : Array Oper} {K : S → Prop} {R : Exit → Act → World → Prop}
    (hK : ∀ s' c' a' bs', Inv F c' s' a' bs' → K s' → R .normal a' c'.w) : ∀ (fuel : Nat) (listed : Array Bool) {c : Cx} {s : S} {a : Act} {bs : List Nat}, Inv F c s a bs → vany P Y ops K fuel listed s →
      wpAny P .any ops R fuel listed a c.w
  | 0, listed, c, s, a, bs, h, hv => ⟨hv.1, hK s c a bs h hv.2⟩
  | fuel + 1, listed, c, s, a, bs, h, hv => ⟨fun hr => hK s c a bs h (hv.1 hr), fun i hi => by
      have := hv.2 i hi
      split at this
      · rename_i o ho
        exact vgop_sound hY h ho (fun s' c' a' bs' h' hk => vany_sound hY hK fuel _ h' hk) this
      · exact this.elim⟩

theorem SW.region_any (hY : TysW P Y) (hm : P.follows .mixedOrders = true) {id : Nat} {ops : Array Oper} (h : vany P Y ops (Q .normal) ops.size (Array.replicate ops.size false) s) :
    SW P F Q (.region id ops true) s := fun c a bs hi =>
  wp_region_any hm (by
    have hi' : Inv F { c with w := { c.w with drawn := c.w.drawn + 1 } } s a bs := by
      have hle : c.Le { c with w := { c.w with drawn := c.w.drawn + 1 } } := ⟨fun _ h => h, fun _ h => h, fun _ _ => rfl, fun _ _ => rfl, fun _ _ _ h => h, fun _ _ h => h⟩
      exact ⟨⟨HR.mono hle (fun _ _ => rfl) hi.h.hp, hi.h.nd, hi.h.dz, hi.h.zz, hi.h.zl, hi.h.bl, hi.h.mu, hi.h.fs, hi.h.ff, hi.h.fb, hi.h.fz, hi.h.fZ, hi.h.kp.trans ⟨rfl, rfl⟩, hi.h.rr⟩, RVL.mono hle _ hi.tm, hi.df, hi.pin⟩
    exact vany_sound hY (K := Q .normal) (fun s' c' a' bs' h1 h2 => ⟨s', c', bs', rfl, h1, h2⟩) _ _ hi' h)
end
end Go.Vm

namespace Go.Vm

/-! ### the contract of a function that has a body -/
def entryS (n : Nat) (args : List T) : S := { tm := (thawAL 0 args 0).1 ++ List.replicate (n - args.length) .undef, hp := [(thawAL 0 args 0).2] }

mutual
def ioAtT : T → Nat → List Nat
  | .io _, j => [j]
  | .nd l, j => ioAt l j
  | _, _ => []
def ioAt : List T → Nat → List Nat
  | [], _ => []
  | t :: l, j => ioAtT t j ++ ioAt l (j + (thawA 0 t j).2.length)
end
mutual
def ioKT : T → List Bool
  | .io u => [u.asArr.isSome]
  | .nd l => ioKs l
  | _ => []
def ioKs : List T → List Bool
  | [] => []
  | t :: l => ioKT t ++ ioKs l
end
theorem ioAt_io (u : T) (l : List T) (j : Nat) : ioAt (.io u :: l) j = j :: ioAt l (j + (thawA 0 (.io u) j).2.length) := rfl
theorem ioKs_io (u : T) (l : List T) : ioKs (.io u :: l) = u.asArr.isSome :: ioKs l := rfl
mutual
theorem ioAt_no : ∀ (t : T) (j : Nat), t.hasIo = false → ioAtT t j = []
  | .nd l, j, h => ioAtL_no l j h
  | .io _, j, h => by simp [T.hasIo] at h
  | .int .., _, _ | .bool _, _, _ | .str _, _, _ | .nilI, _, _ | .nilP, _, _ | .err, _, _ | .any, _, _ | .nils _, _, _ | .sl .., _, _ | .ow .., _, _ | .ref .., _, _ | .vr .., _, _ | .ptr .., _, _ | .fp _, _, _ | .fn .., _, _ | .tup _, _, _ | .undef, _, _ | .opt .., _, _ => rfl
theorem ioAtL_no : ∀ (l : List T) (j : Nat), hasIoL l = false → ioAt l j = []
  | [], _, _ => rfl
  | t :: l, j, h => by
    simp only [hasIoL, Bool.or_eq_false_iff] at h
    simp only [ioAt, ioAt_no t j h.1, ioAtL_no l _ h.2, List.append_nil]
end
def ioM : Bool → Mode
  | true => .ios
  | false => .io
def ioT (H : Heap) : Nat → Bool → T
  | j, false => .ptr 0 j [] 0
  | j, true => match H.at 0 j with
    | some (.arr _ l false) => .ref 0 j 0 l.length
    | _ => .undef

def somes : List (Option Info) → List Info
  | [] => []
  | none :: l => somes l
  | some i :: l => i :: somes l

def retM (Y : TypeId → TyI) (s : S) : List ResultVar → RM (List T)
  | [] => .pure []
  | .tmp t :: l => (retM Y s l).bind fun r => .pure (s.tm.getD t .undef :: r)
  | .cell a ty :: l => (loadM Y ty (s.tm.getD a .undef)).bind fun o => (retM Y s l).bind fun r => .pure (o.v :: r)

def tupOf : List T → T
  | [t] => t
  | l => .tup l

structure Rets (Y : TypeId → TyI) (rs : List ResultVar) (args outs : List T) (res : T) (s : S) (ts : List T) (es : List Nat) (us : List T) (H1 : Heap) : Prop where
  rn : (retM Y s rs).run s.hp = some ts
  gv : pass1 (es.map modeOf ++ (ioKs args).map ioM) (ts ++ List.zipWith (ioT s.hp) (ioAt args 0) (ioKs args)) s.hp =
    some (us.map (fun u => (false, u)) ++ outs.map (fun u => (false, .io u)), (ioAt args 0).map (fun j => ⟨0, j⟩), H1)
  le : us.length = ts.length
  cu : clPL us = true
  co : cloOL outs = true
  re : res = tupOf us

def RetQ (Y : TypeId → TyI) (rs : List ResultVar) (args outs : List T) (res : T) : Exit → S → Prop := fun e s => (e = .normal ∨ e = .ret) ∧ ∃ ts es us H1, Rets Y rs args outs res s ts es us H1

theorem ROuts_of {c : Cx} : ∀ (is js : List (Option Info)) (outs : List T) {bs : List Nat}, somes is = somes js → ROuts c outs is bs → ROuts c outs js bs := by
  -- both say the same of the infos alone
  have key : ∀ (is : List (Option Info)) (outs : List T) {bs : List Nat}, ROuts c outs is bs ↔ ROuts c outs ((somes is).map some) bs := by
    intro is
    induction is with
    | nil => intro outs bs; rfl
    | cons i is ih =>
      intro outs bs
      cases i with
      | none =>
        simp only [somes]
        rw [← ih]
        cases outs with
        | nil => simp [ROuts]
        | cons t l => simp only [ROuts]
      | some i =>
        simp only [somes, List.map_cons]
        cases outs with
        | nil =>
          simp [ROuts]
        | cons t l =>
          simp only [ROuts]
          constructor
          · rintro ⟨b1, b2, e, h1, h2⟩; exact ⟨b1, b2, e, h1, (ih l).1 h2⟩
          · rintro ⟨b1, b2, e, h1, h2⟩; exact ⟨b1, b2, e, h1, (ih l).2 h2⟩
  intro is js outs bs he h
  rw [key] at h ⊢
  rw [← he]; exact h

/-! #### the arguments become objects of entry 0 -/
def T.isTup : T → Bool
  | .tup _ => true
  | _ => false
def noTup : List T → Bool
  | [] => true
  | t :: l => !t.isTup && noTup l

theorem RX.thawIn {c : Cx} {t : T} {i : Option Info} {v : Value} {b : List Nat} (hc : t.isTup = false) (j : Nat) (r : RX c t i v b) :
    ∃ is : List Info, is.length = (thawA 0 t j).2.length ∧ ∀ c' : Cx, c.Le c' → (∀ x ∈ b, c'.w.heap[x]? = c.w.heap[x]?) → Has c' 0 j is →
      RV c' (thawA 0 t j).1 v ∧ HRow c' 0 j (thawA 0 t j).2 b ∧ (∀ u, t = .io u → i = c'.μ 0 j) ∧ ((∀ u, t ≠ .io u) → i = none) := by
  cases t with
  | io u =>
    obtain ⟨i', rfl, r⟩ := r
    cases ha : u.asArr with
    | some y =>
      simp only [RIo, ha] at r
      obtain ⟨⟨A, rfl, hA⟩, harr⟩ := r
      refine ⟨[i'], by simp [thawA, ha], fun c' hle hag hs => ?_⟩
      have h0 : c'.μ 0 j = some i' := by simpa using hs 0 i' rfl
      simp only [thawA, ha]
      refine ⟨⟨A, i'.cap, i', rfl, harr.2.2.1, h0, by simp, ?_⟩, ⟨b, [], by simp, ⟨i', h0, harr.mono hle hag⟩, rfl⟩, fun u' _ => h0.symm, fun h => absurd rfl (h u)⟩
      rcases hA with h | h
      · exact .inl h
      · right; rw [h]; simp [Info.addr]
    | none =>
      simp only [RIo, ha] at r
      obtain ⟨rfl, cs, bs', arr, rfl, hr, hrest⟩ := r
      obtain ⟨is, hl, hh⟩ := thaw_rc (own := 0) u (j := j + 1) hr
      refine ⟨i' :: is, by simp [thawA, ha, hl], fun c' hle hag hs => ?_⟩
      simp only [thawA, ha]
      have h0 : c'.μ 0 j = some i' := by simpa using hs 0 i' rfl
      obtain ⟨g1, g2⟩ := hh c' hle (fun x hx => hag x (by simp [hx])) (fun k z hk => by have := hs (k + 1) z (by simpa using hk); rw [show j + 1 + k = j + (k + 1) by omega]; exact this)
      refine ⟨⟨i', h0, rfl⟩, ⟨[i'.blk], bs', by simp, ⟨i', h0, cs, [], arr, rfl, g1, ?_⟩, g2⟩, fun u' _ => h0.symm, fun h => absurd rfl (h u)⟩
      rw [hag i'.blk (by simp)]; exact hrest
  | nd l =>
    obtain ⟨hi, cs, rfl, r⟩ := r
    obtain ⟨is, hl, hh⟩ := thawL_rc (own := 0) l (j := j) r
    refine ⟨is, hl, fun c' hle hag hs => ?_⟩
    obtain ⟨g1, g2⟩ := hh c' hle hag hs
    exact ⟨⟨cs, rfl, g1⟩, g2, fun u e => (by cases e), fun _ => hi⟩
  | ow es l =>
    obtain ⟨hi, r⟩ := r
    obtain ⟨is, hl, hh⟩ := thaw_rc (own := 0) (.ow es l) (j := j) r
    refine ⟨is, hl, fun c' hle hag hs => ?_⟩
    obtain ⟨g1, g2⟩ := hh c' hle hag hs
    refine ⟨?_, g2, fun u e => (by cases e), fun _ => hi⟩
    obtain ⟨_, A, k, i, e, g⟩ := g1
    simp only [List.cons.injEq, and_true] at e
    exact ⟨A, k, i, e, g⟩
  | tup l => simp [T.isTup] at hc
  | fp u =>
    cases u with
    | io w =>
      obtain ⟨hi, i', rfl, cs, bs', arr, rfl, hr, hrest⟩ := r
      obtain ⟨is, hl, hh⟩ := thaw_rc (own := 0) w (j := j + 1) hr
      refine ⟨i' :: is, by simp [thawA, hl], fun c' hle hag hs => ?_⟩
      have h0 : c'.μ 0 j = some i' := by simpa using hs 0 i' rfl
      obtain ⟨g1, g2⟩ := hh c' hle (fun x hx => hag x (by simp [hx])) (fun k z hk => by have := hs (k + 1) z (by simpa using hk); rw [show j + 1 + k = j + (k + 1) by omega]; exact this)
      refine ⟨⟨i', h0, rfl⟩, ⟨[i'.blk], bs', by simp, ⟨i', h0, cs, [], arr, rfl, g1, ?_⟩, g2⟩, fun u e => (by cases e), fun _ => hi⟩
      rw [hag i'.blk (by simp)]; exact hrest
    | _ => obtain ⟨hi, rfl, r⟩ := r; exact ⟨[], rfl, fun c' hle hag hs => ⟨r.mono hle, rfl, fun u e => (by cases e), fun _ => hi⟩⟩
  | _ => obtain ⟨hi, rfl, r⟩ := r; exact ⟨[], rfl, fun c' hle hag hs => ⟨r.mono hle, rfl, fun u e => (by cases e), fun _ => hi⟩⟩


theorem somes_app0 : ∀ (a b : List (Option Info)), somes (a ++ b) = somes a ++ somes b
  | [], b => rfl
  | none :: a, b => somes_app0 a b
  | some i :: a, b => by simp only [List.cons_append, somes, somes_app0 a b]
theorem RN.plain {c : Cx} {t : T} (hn : t.hasIo = false) {is0 : List (Option Info)} {cs : List Value} {b : List Nat} (j : Nat) (r : is0 = [] ∧ RC c t cs b) :
    ∃ is : List Info, is.length = (thawA 0 t j).2.length ∧ ∀ c' : Cx, c.Le c' → (∀ x ∈ b, c'.w.heap[x]? = c.w.heap[x]?) → Has c' 0 j is →
      RC c' (thawA 0 t j).1 cs [] ∧ HRow c' 0 j (thawA 0 t j).2 b ∧ (somes is0).map some = (ioAtT t j).map fun q => c'.μ 0 q := by
  obtain ⟨rfl, r⟩ := r
  obtain ⟨is, hl, hh⟩ := thaw_rc (own := 0) t (j := j) r
  refine ⟨is, hl, fun c' hle hag hs => ?_⟩
  obtain ⟨g1, g2⟩ := hh c' hle hag hs
  exact ⟨g1, g2, by rw [ioAt_no t j hn]; rfl⟩
mutual
theorem RN.thawIn {c : Cx} : ∀ (t : T) {is0 : List (Option Info)} {cs : List Value} {b : List Nat} (j : Nat), RN c t is0 cs b →
    ∃ is : List Info, is.length = (thawA 0 t j).2.length ∧ ∀ c' : Cx, c.Le c' → (∀ x ∈ b, c'.w.heap[x]? = c.w.heap[x]?) → Has c' 0 j is →
      RC c' (thawA 0 t j).1 cs [] ∧ HRow c' 0 j (thawA 0 t j).2 b ∧ (somes is0).map some = (ioAtT t j).map fun q => c'.μ 0 q
  | .io u, is0, cs, b, j, r => by
    obtain ⟨i', v, rfl, rfl, hs, r⟩ := r
    cases ha : u.asArr with
    | none => rw [ha] at hs; cases hs
    | some y =>
      simp only [RIo, ha] at r
      obtain ⟨⟨A, rfl, hA⟩, harr⟩ := r
      refine ⟨[i'], by simp [thawA, ha], fun c' hle hag hs => ?_⟩
      have h0 : c'.μ 0 j = some i' := by simpa using hs 0 i' rfl
      simp only [thawA, ha]
      refine ⟨⟨rfl, A, i'.cap, i', rfl, harr.2.2.1, h0, by simp, ?_⟩, ⟨b, [], by simp, ⟨i', h0, harr.mono hle hag⟩, rfl⟩, by simp [somes, ioAtT, h0]⟩
      rcases hA with h | h
      · exact .inl h
      · right; rw [h]; simp [Info.addr]
  | .nd l, is0, cs, b, j, r => RNL.thawIn l j r
  | .int k n, is0, cs, b, j, r => RN.plain (t := .int k n) rfl j r
  | .bool x, is0, cs, b, j, r => RN.plain (t := .bool x) rfl j r
  | .str x, is0, cs, b, j, r => RN.plain (t := .str x) rfl j r
  | .nilI, is0, cs, b, j, r => RN.plain (t := .nilI) rfl j r
  | .nilP, is0, cs, b, j, r => RN.plain (t := .nilP) rfl j r
  | .err, is0, cs, b, j, r => RN.plain (t := .err) rfl j r
  | .any, is0, cs, b, j, r => RN.plain (t := .any) rfl j r
  | .nils x, is0, cs, b, j, r => RN.plain (t := .nils x) rfl j r
  | .sl x y, is0, cs, b, j, r => RN.plain (t := .sl x y) rfl j r
  | .ow x y, is0, cs, b, j, r => RN.plain (t := .ow x y) rfl j r
  | .ref x y z w, is0, cs, b, j, r => RN.plain (t := .ref x y z w) rfl j r
  | .vr x y z w u v s, is0, cs, b, j, r => RN.plain (t := .vr x y z w u v s) rfl j r
  | .ptr x y z w, is0, cs, b, j, r => RN.plain (t := .ptr x y z w) rfl j r
  | .fp x, is0, cs, b, j, r => RN.plain (t := .fp x) rfl j r
  | .fn x y z, is0, cs, b, j, r => RN.plain (t := .fn x y z) rfl j r
  | .tup _, is0, cs, b, j, r => by simp [RN, RC] at r
  | .undef, is0, cs, b, j, r => by simp [RN, RC] at r
  | .opt .., is0, cs, b, j, r => by simp [RN, RC] at r
theorem RNL.thawIn {c : Cx} : ∀ (l : List T) {is0 : List (Option Info)} {cs : List Value} {b : List Nat} (j : Nat), RNL c l is0 cs b →
    ∃ is : List Info, is.length = (thawAL 0 l j).2.length ∧ ∀ c' : Cx, c.Le c' → (∀ x ∈ b, c'.w.heap[x]? = c.w.heap[x]?) → Has c' 0 j is →
      RCL c' (thawAL 0 l j).1 cs [] ∧ HRow c' 0 j (thawAL 0 l j).2 b ∧ (somes is0).map some = (ioAt l j).map fun q => c'.μ 0 q
  | [], is0, cs, b, j, r => by obtain ⟨rfl, rfl, rfl⟩ := r; exact ⟨[], rfl, fun c' _ _ _ => ⟨⟨rfl, rfl⟩, rfl, rfl⟩⟩
  | t :: l, is0, cs, b, j, r => by
    obtain ⟨i1, i2, c1, c2, b1, b2, rfl, rfl, rfl, r1, r2⟩ := r
    obtain ⟨is1, hl1, h1⟩ := RN.thawIn t j r1
    obtain ⟨is2, hl2, h2⟩ := RNL.thawIn l (j + (thawA 0 t j).2.length) r2
    refine ⟨is1 ++ is2, by simp [thawAL, hl1, hl2], fun c' hle hag hh => ?_⟩
    obtain ⟨ha, hb⟩ := hh.app
    obtain ⟨g1, g2, g5⟩ := h1 c' hle (fun x hx => hag x (by simp [hx])) ha
    rw [hl1] at hb
    obtain ⟨g3, g4, g6⟩ := h2 c' hle (fun x hx => hag x (by simp [hx])) hb
    refine ⟨⟨c1, c2, [], [], rfl, rfl, g1, g3⟩, HRow_app g2 g4, ?_⟩
    rw [somes_app0, List.map_append, g5, g6]; simp only [ioAt, List.map_append]
end

theorem RAL.thawIn {c : Cx} : ∀ (l : List T) {is0 : List (Option Info)} {vs : List Value} {b : List Nat} (j : Nat), noTup l = true → RAL c l is0 vs b →
    ∃ is : List Info, is.length = (thawAL 0 l j).2.length ∧ ∀ c' : Cx, c.Le c' → (∀ x ∈ b, c'.w.heap[x]? = c.w.heap[x]?) → Has c' 0 j is →
      RVL c' (thawAL 0 l j).1 vs ∧ HRow c' 0 j (thawAL 0 l j).2 b ∧ (somes is0).map some = (ioAt l j).map fun q => c'.μ 0 q
  | [], is0, vs, b, j, _, r => by obtain ⟨rfl, rfl, rfl⟩ := r; exact ⟨[], rfl, fun c' _ _ _ => ⟨rfl, rfl, rfl⟩⟩
  | t :: l, is0, vs, b, j, hc, r => by
    simp only [noTup, Bool.and_eq_true, Bool.not_eq_true'] at hc
    obtain ⟨i1, is', v, vs', b1, b2, rfl, rfl, rfl, r1, r2⟩ := r
    obtain ⟨is2, hl2, h2⟩ := RAL.thawIn l (j + (thawA 0 t j).2.length) hc.2 r2
    have one : ∃ is : List Info, is.length = (thawA 0 t j).2.length ∧ ∀ c' : Cx, c.Le c' → (∀ x ∈ b1, c'.w.heap[x]? = c.w.heap[x]?) → Has c' 0 j is →
        RV c' (thawA 0 t j).1 v ∧ HRow c' 0 j (thawA 0 t j).2 b1 ∧ (somes i1).map some = (ioAtT t j).map fun q => c'.μ 0 q := by
      rcases r1 with ⟨i, rfl, r1⟩ | ⟨m, cs, rfl, rfl, r1, _⟩
      · obtain ⟨is1, hl1, h1⟩ := r1.thawIn hc.1 j
        refine ⟨is1, hl1, fun c' hle hag hh => ?_⟩
        obtain ⟨g1, g2, g5, g6⟩ := h1 c' hle hag hh
        refine ⟨g1, g2, ?_⟩
        by_cases hio : ∃ u, t = .io u
        · obtain ⟨u, rfl⟩ := hio
          have h0 := g5 u rfl
          obtain ⟨i', rfl, _⟩ := r1
          simp only [somes, List.map_cons, ioAtT, List.map_nil, h0]
        · have h0 := g6 (fun u e => hio ⟨u, e⟩)
          subst h0
          have hn : t.hasIo = false := by
            cases t with
            | io u => exact absurd ⟨u, rfl⟩ hio
            | nd m => obtain ⟨_, cs, _, r1⟩ := r1; exact RCL_noIo r1
            | _ => rfl
          rw [ioAt_no t j hn]; rfl
      · obtain ⟨is1, hl1, h1⟩ := RNL.thawIn m j r1
        refine ⟨is1, hl1, fun c' hle hag hh => ?_⟩
        obtain ⟨g1, g2, g5⟩ := h1 c' hle hag hh
        exact ⟨⟨cs, rfl, g1⟩, g2, g5⟩
    obtain ⟨is1, hl1, h1⟩ := one
    refine ⟨is1 ++ is2, by simp [thawAL, hl1, hl2], fun c' hle hag hh => ?_⟩
    obtain ⟨ha, hb⟩ := hh.app
    obtain ⟨g1, g2, g5⟩ := h1 c' hle (fun x hx => hag x (by simp [hx])) ha
    rw [hl1] at hb
    obtain ⟨g3, g4, g7⟩ := h2 c' hle (fun x hx => hag x (by simp [hx])) hb
    refine ⟨⟨v, vs', rfl, g1, g3⟩, HRow_app g2 g4, ?_⟩
    rw [somes_app0, List.map_append, g5, g7]; simp only [ioAt, List.map_append]

theorem RXL_len {c : Cx} : ∀ {l : List T} {is : List (Option Info)} {vs : List Value} {b : List Nat}, RXL c l is vs b → vs.length = l.length
  | [], _, _, _, ⟨_, h, _⟩ => by subst h; rfl
  | _ :: _, _, _, _, ⟨_, _, _, _, _, _, _, rfl, _, _, h⟩ => by simp [RXL_len h]
theorem RAL_len {c : Cx} : ∀ {l : List T} {is : List (Option Info)} {vs : List Value} {b : List Nat}, RAL c l is vs b → vs.length = l.length
  | [], _, _, _, ⟨_, h, _⟩ => by subst h; rfl
  | _ :: _, _, _, _, ⟨_, _, _, _, _, _, _, rfl, _, _, h⟩ => by simp [RAL_len h]

theorem RVL_undef {c : Cx} : ∀ n : Nat, RVL c (List.replicate n .undef) (List.replicate n undef)
  | 0 => rfl
  | n + 1 => ⟨undef, _, rfl, trivial, RVL_undef n⟩

/-- where an activation begins -/
theorem entry_ok {c : Cx} {args : List T} {is : List (Option Info)} {vs : List Value} {bs : List Nat} (n : Nat) (hp : Pre c bs) (hx : RAL c args is vs bs) (ht : noTup args = true) :
    ∃ (F : Fr) (c0 : Cx), F.w = c.w ∧ F.own = (· ∈ bs) ∧ F.Z = c.Z ∧ F.Zs = c.Zs ∧ F.R = c.R ∧ c0.w = c.w ∧ (somes is).map some = (ioAt args 0).map F.pin ∧
      Inv F c0 (entryS n args) { tmps := vs.toArray ++ Array.replicate (n - vs.toArray.size) undef, defers := [] } bs := by
  obtain ⟨zs, hl, hh⟩ := RAL.thawIn args 0 ht hx
  let c0 : Cx := { c with μ := fun e j => if e = 0 then zs[j]? else none }
  have hle : c.Le c0 := ⟨fun _ h => h, fun _ h => h, fun _ _ => rfl, fun _ _ => rfl, fun e j i h => (by rw [hp.mu] at h; cases h), fun _ _ h => h⟩
  obtain ⟨g1, g2, g3⟩ := hh c0 hle (fun _ _ => rfl) (fun k i hk => by simp [c0, hk])
  refine ⟨{ w := c.w, own := (· ∈ bs), Z := c.Z, Zs := c.Zs, pin := c0.μ 0, R := c.R }, c0, rfl, rfl, rfl, rfl, rfl, rfl, g3, ?_, ?_, rfl, fun j i h => h⟩
  · exact { hp := ⟨bs, [], by simp, g2, rfl⟩
            nd := hp.nd
            dz := hp.dz
            zz := hp.zz
            zl := hp.zl
            bl := hp.bl
            mu := fun e j i h => by
              simp only [c0] at h
              split at h
              · rename_i he; subst he
                have hlt : j < (thawAL 0 args 0).2.length := by rw [← hl]; exact (List.getElem?_eq_some_iff.1 h).1
                exact ⟨(thawAL 0 args 0).2[j], by simp [entryS, Heap.at, hlt]⟩
              · cases h
            fs := Nat.le_refl _
            ff := fun _ _ _ => rfl
            fb := fun b hb => .inl hb
            fz := fun b hb => .inl hb
            fZ := fun b hb => .inl hb
            kp := .refl _
            rr := rfl }
  · have := RAL_len hx
    simp only [entryS, Array.toList_append, Array.toList_replicate, List.size_toArray, this]
    exact RVL_app g1 (RVL_undef _)
end Go.Vm

namespace Go.Vm

section
variable {P : Program} {Y : TypeId → TyI} (hY : TysOk P Y)
include hY

theorem load_same {F : Fr} {c : Cx} {H : Heap} {bs : List Nat} {ty : TypeId} {t : T} {v : Value} {out : Out} (h : InvH F c H bs) (hv : RV c t v)
    (hm : (loadM Y ty t).run H = some out) : ∃ x, (do loadVar ty (← asAddr v) : Sem Value).run P c.w = .ok x c.w ∧ RV c out.v x := by
  have fin : ∀ (u : T) (y : List Value) (b2 : List Nat) (a : Addr), RC c u y b2 → CellsAt c.w a y → a.spot = none →
      (u.nw = true ∧ u.isNd = (Y ty).agg ∧ u.size = (Y ty).cells ∧ 0 < (Y ty).cells) → ∃ x, (loadVar ty a).run P c.w = .ok x c.w ∧ RV c u x := by
    intro u y b2 a hr hc ha ⟨h1, h2, h3, hty⟩
    rw [run_loadVar (t := u) (hY ty hty) hc ha (by rw [RC_len u hr, h3]) h2 (fun hn => by rw [RC_len u hr]; cases u <;> first | rfl | simp [T.isNd] at hn)]
    exact ⟨_, rfl, hr.val h1⟩
  cases t with
  | ptr e j p o =>
    obtain ⟨i, hi, rfl⟩ := hv
    simp only [loadM, RM.run] at hm
    cases ha : H.at e j with
    | none => simp [ha] at hm
    | some ob =>
      simp only [ha, RM.run_bind] at hm
      cases hs : (subM p o ob).run H with
      | none => simp [hs] at hm
      | some u =>
        simp only [hs] at hm
        split at hm
        · rename_i hc
          simp [RM.run] at hm; subst hm
          obtain ⟨i', y, b2, hi', hr, hcell, _⟩ := sub_ok h ha hs
          rw [hi] at hi'; cases hi'
          simp only [asAddr, Sem.run_bind, Sem.run_pure, Result.andThen]
          exact fin u y b2 _ hr hcell rfl hc
        · simp [RM.run] at hm
  | fp u =>
    obtain ⟨a, row, rfl, ha, hr, hc, _⟩ := hv
    simp only [loadM] at hm
    split at hm
    · rename_i hcond
      simp [RM.run] at hm; subst hm
      simp only [asAddr, Sem.run_bind, Sem.run_pure, Result.andThen]
      exact fin u row [] a hr hc ha hcond
    · simp [RM.run] at hm
  | _ => simp [loadM, RM.run] at hm

theorem retM_ok {F : Fr} {c : Cx} {s : S} {a : Act} {bs : List Nat} (h : Inv F c s a bs) (f : ResultVar → Sem Value) (hf : ∀ u, f (.tmp u) = pure (a.tmps.getD u undef))
    (hc : ∀ x t, f (.cell x t) = (do loadVar t (← asAddr (a.tmps.getD x undef)))) : ∀ (l : List ResultVar) {ts : List T}, (retM Y s l).run s.hp = some ts →
      ∃ vs, (l.mapM f).run P c.w = .ok vs c.w ∧ RVL c ts vs
  | [], ts, hm => by
    have := RM.pure_some hm; subst this
    exact ⟨[], by simp, rfl⟩
  | .tmp u :: l, ts, hm => by
    obtain ⟨r, h1, hm⟩ := RM.bind_some hm
    have := RM.pure_some hm; subst this
    obtain ⟨vs, hr, hv⟩ := retM_ok h f hf hc l h1
    exact ⟨a.tmps.getD u undef :: vs, by simp [List.mapM_cons, hf, hr, Result.andThen], _, _, rfl, ev_ok h (.tmp u), hv⟩
  | .cell x ty :: l, ts, hm => by
    obtain ⟨o, h0, hm⟩ := RM.bind_some hm
    obtain ⟨r, h1, hm⟩ := RM.bind_some hm
    have := RM.pure_some hm; subst this
    obtain ⟨vs, hr, hv⟩ := retM_ok h f hf hc l h1
    obtain ⟨y, hy, hyv⟩ := load_same hY h.h (ev_ok h (.tmp x)) h0
    refine ⟨y :: vs, ?_, _, _, rfl, hyv, hv⟩
    rw [List.mapM_cons, hc, Sem.run_bind, show a.tmps.getD x undef = a.eval (.tmp x) from rfl, hy]
    simp [hr, Result.andThen]

theorem results_ok {F : Fr} {c : Cx} {s : S} {a : Act} {bs : List Nat} (h : Inv F c s a bs) {fn : Func} {ts : List T} (hm : (retM Y s fn.results.toList).run s.hp = some ts) :
    ∃ vs : List Value, RVL c ts vs ∧ (results fn a.tmps).run P c.w = .ok (if h : vs.length = 1 then vs[0] else .tuple vs.toArray) c.w := by
  unfold results
  rw [show fn.results = fn.results.toList.toArray by simp, List.mapM_toArray]
  simp only [Sem.run_bind, Sem.run_map]
  obtain ⟨vs, hr, hv⟩ := retM_ok hY h (fun
    | .tmp t => pure (a.tmps.getD t undef)
    | .cell x t => do loadVar t (← asAddr (a.tmps.getD x undef))) (fun _ => rfl) (fun _ _ => rfl) fn.results.toList hm
  refine ⟨vs, hv, ?_⟩
  erw [hr]
  by_cases hl : vs.length = 1
  · simp [hl]
  · simp [hl]
end

theorem PA_app {c : Cx} : ∀ (l m : List (Bool × T)) {is : List (Option Info)} {vs : List Value} {b : List Nat}, PA c (l ++ m) is vs b →
    ∃ i1 i2 v1 v2 b1 b2, is = i1 ++ i2 ∧ vs = v1 ++ v2 ∧ b = b1 ++ b2 ∧ PA c l i1 v1 b1 ∧ PA c m i2 v2 b2
  | [], m, is, vs, b, h => ⟨[], is, [], vs, [], b, rfl, rfl, rfl, ⟨rfl, rfl, rfl⟩, h⟩
  | (true, t) :: l, m, is, vs, b, h => by
    obtain ⟨is', v, vs', rfl, rfl, h1, h⟩ := h
    obtain ⟨i1, i2, v1, v2, b1, b2, rfl, rfl, rfl, h2, h3⟩ := PA_app l m h
    exact ⟨none :: i1, i2, v :: v1, v2, b1, b2, rfl, rfl, rfl, ⟨i1, v, v1, rfl, rfl, h1, h2⟩, h3⟩
  | (false, t) :: l, m, is, vs, b, h => by
    obtain ⟨i0, is', v, vs', ba, bb, rfl, rfl, rfl, h1, h⟩ := h
    obtain ⟨i1, i2, v1, v2, b1, b2, rfl, rfl, rfl, h2, h3⟩ := PA_app l m h
    exact ⟨i0 ++ i1, i2, v :: v1, v2, ba ++ b1, b2, by simp, rfl, by simp, ⟨i0, i1, v, v1, ba, b1, rfl, rfl, rfl, h1, h2⟩, h3⟩

theorem PA_us {c : Cx} : ∀ (us : List T) {is : List (Option Info)} {vs : List Value} {b : List Nat}, clPL us = true → PA c (us.map fun u => (false, u)) is vs b → RXL c us is vs b
  | [], is, vs, b, _, h => h
  | t :: l, is, vs, b, hc, h => by
    simp only [clPL, Bool.and_eq_true] at hc
    obtain ⟨i1, is', v, vs', b1, b2, e1, e2, e3, h1, h2⟩ := h
    rcases h1 with ⟨i, rfl, h1⟩ | ⟨m, cs, rfl, _, _, hio⟩
    · exact ⟨i, is', v, vs', b1, b2, e1, e2, e3, h1, PA_us l hc.2 h2⟩
    · rw [cloL_noIo m hc.1] at hio; cases hio

theorem PA_outs {c : Cx} : ∀ (us : List T) {is : List (Option Info)} {vs : List Value} {b : List Nat}, PA c (us.map fun u => (false, .io u)) is vs b → ROuts c us is b
  | [], is, vs, b, h => by
    obtain ⟨rfl, rfl, rfl⟩ := h
    exact ⟨by simp, rfl⟩
  | t :: l, is, vs, b, h => by
    obtain ⟨i1, is', v, vs', b1, b2, rfl, rfl, rfl, h1, h2⟩ := h
    rcases h1 with ⟨i, rfl, h1⟩ | ⟨m, cs, hm, _⟩
    · obtain ⟨i', rfl, h1⟩ := h1
      exact ⟨b1, b2, rfl, RIo_out h1, PA_outs l h2⟩
    · cases hm

theorem RXL_nones {c : Cx} : ∀ {us : List T} {is : List (Option Info)} {vs : List Value} {b : List Nat}, clPL us = true → RXL c us is vs b → somes is = []
  | [], is, vs, b, _, h => by obtain ⟨rfl, _⟩ := h; rfl
  | t :: l, is, vs, b, hc, h => by
    simp only [clPL, Bool.and_eq_true] at hc
    obtain ⟨i, is', v, vs', b1, b2, rfl, rfl, rfl, h1, h2⟩ := h
    have : i = none := by
      cases t with
      | fp u =>
        cases u with
        | io w => exact h1.1
        | _ => exact h1.1
      | io u => simp [T.clP, T.clo] at hc
      | _ => exact h1.1
    subst this
    show somes is' = []
    exact RXL_nones hc.2 h2

theorem somes_app : ∀ (a b : List (Option Info)), somes (a ++ b) = somes a ++ somes b
  | [], b => rfl
  | none :: a, b => by simp only [List.cons_append, somes]; exact somes_app a b
  | some i :: a, b => by simp only [List.cons_append, somes]; rw [somes_app a b]

theorem BackOk_somes {c : Cx} {H : Heap} : ∀ (is : List (Option Info)) (backs : List Back), BackOk c H backs is → (somes is).map some = backs.map fun b => c.μ b.e b.j
  | [], [], _ => rfl
  | [], b :: l, h => by simp [BackOk] at h
  | none :: is, [], h => by
    have h' : BackOk c H [] is := by
      simp only [BackOk] at h ⊢
      intro i hi; exact h i (by simp [hi])
    show (somes is).map some = _
    exact BackOk_somes is [] h'
  | some i :: is, [], h => by
    simp only [BackOk] at h
    have := h (some i) (by simp); cases this
  | none :: is, b :: l, h => by simp only [BackOk] at h; simp only [somes]; exact BackOk_somes is (b :: l) h
  | some i :: is, b :: l, h => by
    simp only [BackOk] at h
    simp only [somes, List.map_cons]
    rw [BackOk_somes is l h.2.2, h.1]

theorem RXR_of {c : Cx} {us : List T} {is : List (Option Info)} {vs : List Value} {b : List Nat} (hc : clPL us = true) (h : RXL c us is vs b) :
    RXR c (tupOf us) is (if h : vs.length = 1 then vs[0] else .tuple vs.toArray) b := by
  have hl := RXL_len h
  match us, hc, h, hl with
  | [], hc, h, hl =>
    have hn : ¬ vs.length = 1 := by simp [hl]
    rw [dif_neg hn]; exact ⟨vs.toArray, rfl, h⟩
  | [t], hc, h, hl =>
    obtain ⟨i, is', v, vs', b1, b2, rfl, rfl, rfl, h1, h2⟩ := h
    obtain ⟨rfl, rfl, rfl⟩ := h2
    have : RXR c t [i] v b1 := by
      cases t with
      | tup l => simp [clPL, T.clP, T.clo] at hc
      | _ => exact ⟨i, rfl, h1⟩
    simpa [tupOf] using this
  | t :: u :: l, hc, h, hl =>
    have hn : ¬ vs.length = 1 := by rw [hl]; simp
    rw [dif_neg hn]; exact ⟨vs.toArray, rfl, h⟩


/-- A FUNCTION THAT HAS A BODY -/
theorem CallR.of_body {P : Program} {Y : TypeId → TyI} (hY : TysOk P Y) {f : FuncId} {fn : Func} {k : Code} {rs : List ResultVar} {n : Nat} {args outs : List T} {res : T} (hf : P.funcs[f]? = some fn) (hb : fn.body = some k)
    (hn : fn.name ≠ "runtime.NumGoroutine") (hsz : outs.map T.size = ioSizes args) (ht : noTup args = true) (hrs : fn.results.toList = rs) (hnt : fn.ntmps = n)
    (hs : ∀ F, SW P F (RetQ Y rs args outs res) k (entryS n args)) : CallR P f args outs res := by
  subst hrs; subst hnt
  refine ⟨⟨fn, hf, by simp [hb], hn⟩, hsz, fun c is vs bs hp hx => ?_⟩
  obtain ⟨F, c0, hFw, hFo, hFZ, hFs, hFR, h0w, hpin, hinv⟩ := entry_ok fn.ntmps hp hx ht
  refine calls_of_wp hf hb ?_
  rw [← h0w]
  refine wp_mono (hs F c0 _ bs hinv) fun e a w ⟨s, c1, b1, e1, h1, he, ts, es, us, H1, hr⟩ => ?_
  subst e1
  have hfin : a.defers = [] ∧ ∃ v, (results fn a.tmps).run P c1.w = .ok v c1.w ∧ ∃ r c' ris q1 q2, Ending.returned v = .returned r ∧ c'.w = c1.w ∧ (∀ e j, c'.μ e j = none) ∧
      Post c bs c' (q1 ++ q2) ∧ RXR c' res ris r q1 ∧ ROuts c' outs is q2 := by
    obtain ⟨vs', hv, hres⟩ := results_ok hY h1 hr.rn
    refine ⟨h1.df, _, hres, ?_⟩
    -- the variables that were handed over
    have hios : ∃ us', RVL c1 (List.zipWith (ioT s.hp) (ioAt args 0) (ioKs args)) us' := by
      have : ∀ (l : List Nat) (ks : List Bool) (is : List Info), is.map some = l.map F.pin → ∃ us', RVL c1 (List.zipWith (ioT s.hp) l ks) us' := by
        intro l
        induction l with
        | nil => intro ks is _; exact ⟨[], by simp [RVL]⟩
        | cons j l ih =>
          intro ks is hi
          cases ks with
          | nil => exact ⟨[], by simp [RVL]⟩
          | cons k ks =>
          cases is with
          | nil => simp at hi
          | cons i is =>
            simp only [List.map_cons, List.cons.injEq] at hi
            obtain ⟨us', hu⟩ := ih ks is hi.2
            have hmu := h1.pin j i hi.1.symm
            have one : ∃ v, RV c1 (ioT s.hp j k) v := by
              cases k with
              | false => exact ⟨_, i, hmu, rfl⟩
              | true =>
                simp only [ioT]
                split
                · rename_i es l' ha
                  obtain ⟨_, q, _, _, ho, _⟩ := h1.h.hp.at ha
                  obtain ⟨i', hi', harr⟩ := ho
                  rw [hmu] at hi'; cases hi'
                  exact ⟨_, some i.addr, i.cap, i, rfl, harr.2.2.1, hmu, by simp, .inr (by simp [Info.addr])⟩
                · exact ⟨undef, trivial⟩
            obtain ⟨v, hv1⟩ := one
            exact ⟨v :: us', v, us', rfl, hv1, hu⟩
      exact this _ _ _ hpin
    obtain ⟨ios, hio⟩ := hios
    obtain ⟨js, bx, bE, hg, hpa, hback, hcl, _, _⟩ := pass1_ok _ _ h1.h (RVL_app hv hio) hr.gv
    obtain ⟨i1, i2, v1, v2, q1, q2, rfl, hvs, rfl, p1, p2⟩ := PA_app _ _ hpa
    have x1 := PA_us us hr.cu p1
    have x2 := PA_outs outs p2
    have hlen : v1.length = vs'.length := by rw [RXL_len x1, hr.le, RVL_len hv]
    obtain ⟨rfl, rfl⟩ := List.append_inj hvs.symm hlen
    let c' : Cx := { w := c1.w, Z := fun b => c1.Z b ∨ F.Z b, Zs := fun b => c1.Zs b ∨ F.Zs b, μ := fun _ _ => none, R := c1.R }
    have hhand : c1.Hand id nb c' := ⟨fun g b _ hz => by
      cases g with
      | b => exact .inl hz
      | s => exact .inl hz
      | r k => exact ⟨hz.1, .inl hz.2⟩, fun _ _ _ _ => rfl⟩
    have hsom : somes i2 = somes is := by
      have hb1 := BackOk_somes _ _ hback
      rw [somes_app, RXL_nones hr.cu x1, List.nil_append, List.map_map] at hb1
      have hb2 : ((ioAt args 0).map ((fun b : Back => c1.μ b.e b.j) ∘ fun j => (⟨0, j⟩ : Back))) = (ioAt args 0).map F.pin := by
        have : ∀ (l : List Nat) (is : List Info), is.map some = l.map F.pin → l.map ((fun b : Back => c1.μ b.e b.j) ∘ fun j => (⟨0, j⟩ : Back)) = l.map F.pin := by
          intro l
          induction l with
          | nil => intro is _; rfl
          | cons j l ih =>
            intro is hi
            cases is with
            | nil => simp at hi
            | cons i is =>
              simp only [List.map_cons, List.cons.injEq] at hi ⊢
              refine ⟨?_, ih is hi.2⟩
              rw [← hi.1]; exact h1.pin j i hi.1.symm
        exact this _ _ hpin
      rw [hb2, ← hpin] at hb1
      exact (List.map_inj_right (fun a b h => by simpa using h)).1 hb1
    have hbx : ∀ x ∈ q1 ++ q2, x ∈ b1 ∧ x ∉ bE := hg.sub
    refine ⟨_, c', i1, q1, q2, rfl, rfl, fun _ _ => rfl, ?_, ?_, ?_⟩
    · constructor
      · exact hg.nd
      · rintro b hb (hz | hz)
        · exact h1.h.dz b (hbx b hb).1 hz
        · rw [hFZ] at hz
          rcases h1.h.fb b (hbx b hb).1 with h' | h'
          · rw [hFo] at h'; exact hp.dz b h' hz
          · rw [hFw] at h'; have := hp.zl b hz; omega
      · rintro b (hz | hz)
        · exact .inl (h1.h.zz b hz)
        · right; rw [hFZ]; rw [hFs] at hz; exact hp.zz b hz
      · rintro b (hz | hz)
        · exact h1.h.zl b hz
        · rw [hFZ] at hz; have := hp.zl b hz; have := h1.h.fs; rw [hFw] at this; show b < c1.w.heap.size; omega
      · exact fun b hb => h1.h.bl b (hbx b hb).1
      · have := h1.h.fs; rw [hFw] at this; exact this
      · intro b hb hn
        have := h1.h.ff b (by rw [hFw]; exact hb) (by rw [hFo]; exact hn)
        rw [hFw] at this; exact this
      · intro b hb
        have := h1.h.fb b (hbx b hb).1
        rw [hFo, hFw] at this; exact this
      · rintro b (hz | hz)
        · have := h1.h.fz b hz
          rw [hFs, hFo, hFw] at this; exact this
        · rw [hFs] at hz; exact .inl hz
      · rintro b (hz | hz)
        · have := h1.h.fZ b hz
          rw [hFZ] at this; exact this.imp id .inl
        · rw [hFZ] at hz; exact .inl hz
      · intro b hb; right; rw [hFZ]; exact hb
      · intro b hb; right; rw [hFs]; exact hb
      · have := h1.h.kp; rw [hFw] at this; exact this
      · show c1.R = c.R; rw [h1.h.rr, hFR]
    · rw [hr.re]
      exact RXR_of hr.cu (by have := RXL.hand hhand us hr.cu (fun _ _ => rfl) x1; rwa [tgL_id] at this)
    · exact ROuts_of i2 is outs hsom (by have := ROuts.hand hhand i2 outs hr.co (fun _ _ => rfl) x2; rwa [tgL_id] at this)
  rcases he with rfl | rfl
  · exact hfin
  · exact hfin

end Go.Vm

namespace Go.Vm

/-! ### a table of types, checked -/
def tyMB (d : TypeDesc) : Ty → Bool
  | .int k => match d with | .int k' => k' == k | _ => false
  | .bool => match d with | .bool => true | _ => false
  | .str => match d with | .string => true | _ => false
  | .sl e => match d with | .slice e' => e' == e | _ => false
  | .ptr e => match d with | .pointer e' => e' == e | _ => false
  | .fn => match d with | .func .. => true | _ => false
  | .ifc => match d with | .interface _ => true | _ => false
  | .st fs => match d with | .struct fields => fields.toList.map (fun f => (f.type, f.offset)) == fs | _ => false
  | .ar n e => match d with | .array n' e' => n' == n && e' == e | _ => false
  | .bad => false

def eqZ : Value → Value → Bool
  | .int k n, .int k' n' => k == k' && n == n'
  | .bool b, .bool b' => b == b'
  | .string s, .string s' => decide (s = s')
  | .slice none 0 0, .slice none 0 0 => true
  | .nilIface, .nilIface => true
  | .pointer none, .pointer none => true
  | _, _ => false
def eqZL : List Value → List Value → Bool
  | [], [] => true
  | a :: l, b :: m => eqZ a b && eqZL l m
  | _, _ => false

theorem tyMB_ok {P : Program} {d : TypeDesc} {k : Ty} (h : tyMB d k = true) : TyM P d k := by
  cases k <;> simp only [tyMB] at h <;> first
    | (cases h; done)
    | (split at h
       · unfold TyM
         first
           | (simp only [beq_iff_eq] at h; subst h; rfl)
           | rfl
           | exact ⟨_, _, _, rfl⟩
           | exact ⟨_, rfl⟩
           | (simp only [Bool.and_eq_true, beq_iff_eq] at h; obtain ⟨rfl, rfl⟩ := h; rfl)
           | (exact ⟨_, rfl, by simpa using h⟩)
       · cases h)

theorem eqZ_ok {a b : Value} (h : eqZ a b = true) : a = b := by
  unfold eqZ at h
  split at h <;> simp_all
theorem eqZL_ok : ∀ {a b : List Value}, eqZL a b = true → a = b
  | [], [], _ => rfl
  | a :: l, b :: m, h => by
    simp only [eqZL, Bool.and_eq_true] at h
    rw [eqZ_ok h.1, eqZL_ok h.2]
  | [], _ :: _, h => by simp [eqZL] at h
  | _ :: _, [], h => by simp [eqZL] at h

def tblY (tbl : List TyI) (t : TypeId) : TyI := (tbl[t]?).getD ⟨.bad, 0, 0⟩

def tyOkB (P : Program) (Y : TypeId → TyI) (t : TypeId) : Bool :=
  match (Y t).k with
  | .bad => (Y t).cells == 0
  | k => match P.info? t, P.underlying t with
    | some i, some d => i.size == (Y t).cells && i.bytes == (Y t).bytes && tyMB d k && (k.isFn || match i.zero with
      | some z => eqZL z.cells.toList (zc (zeroT Y 9 t)) && zl (zeroT Y 9 t) && (zeroT Y 9 t).size == (Y t).cells
      | none => false) && decide (0 < (Y t).cells) && (match k with
        | .sl e => decide (0 < (Y e).cells)
        | .ar _ e => decide (0 < (Y e).cells)
        | .st fs => fs.all fun f => decide (0 < (Y f.1).cells)
        | _ => true)
    | _, _ => false

theorem tysW_of {P : Program} {tbl : List TyI} (h : (List.range tbl.length).all (tyOkB P (tblY tbl)) = true) : TysW P (tblY tbl) := by
  have hin : ∀ t, t < tbl.length → tyOkB P (tblY tbl) t = true := fun t ht => List.all_eq_true.1 h t (List.mem_range.2 ht)
  have hout : ∀ t, ¬ t < tbl.length → tblY tbl t = ⟨.bad, 0, 0⟩ := fun t ht => by unfold tblY; rw [List.getElem?_eq_none (by omega)]; rfl
  refine ⟨fun t hc => ?_, fun t => ?_⟩
  · by_cases ht : t < tbl.length
    · have := hin t ht
      generalize tblY tbl = Y at *
      unfold tyOkB at this
      split at this
      · simp only [beq_iff_eq] at this; omega
      · rename_i hbad
        split at this
        · rename_i i d hi hd
          simp only [Bool.and_eq_true, beq_iff_eq] at this
          obtain ⟨⟨⟨⟨⟨h1, h2⟩, h3⟩, h4⟩, h5⟩, h6⟩ := this
          refine ⟨⟨i, d, hi, hd, h1, h2, tyMB_ok h3⟩, ?_⟩
          rw [Bool.or_eq_true] at h4
          rcases h4 with h4 | h4
          · left
            cases hk : (Y t).k <;> rw [hk] at h4 <;> first | rfl | cases h4
          · right
            split at h4
            · rename_i z hz
              simp only [Bool.and_eq_true, beq_iff_eq] at h4
              exact ⟨i, z, hi, hz, eqZL_ok h4.1.1, h4.1.2, h4.2⟩
            · cases h4
        · cases this
    · rw [hout t ht] at hc; simp at hc
  · by_cases ht : t < tbl.length
    · have := hin t ht
      generalize tblY tbl = Y at *
      unfold tyOkB at this
      split at this
      · rename_i hb; rw [hb]; trivial
      · rename_i hbad
        split at this
        · simp only [Bool.and_eq_true, beq_iff_eq] at this
          obtain ⟨⟨⟨⟨⟨h1, h2⟩, h3⟩, h4⟩, h5⟩, h6⟩ := this
          have h5 : 0 < (Y t).cells := of_decide_eq_true h5
          cases hk : (Y t).k <;> rw [hk] at h6 <;> first
            | trivial
            | exact h5
            | exact ⟨h5, of_decide_eq_true h6⟩
            | exact ⟨h5, fun f hf => of_decide_eq_true (List.all_eq_true.1 h6 f hf)⟩
        · cases this
    · rw [hout t ht]; trivial

end Go.Vm

namespace Go.Vm

/-! ### walking: the operations of a region one by one -/
def vopl (P : Program) (Y : TypeId → TyI) (ops : Array Oper) (K : S → Prop) : List Oper → S → Prop
  | [], s => K s
  | o :: l, s => vgop P Y ops o (vopl P Y ops K l) s

theorem vopR_mono {P : Program} {Y : TypeId → TyI} {ρ : Operand → T} {o : Oper} {K K' : S → Prop} {s : S} (hK : ∀ s, K s → K' s) (h : vopR P Y ρ o K s) : vopR P Y ρ o K' s := by
  unfold vopR at *
  split
  · rename_i hc
    rw [if_pos hc] at h
    unfold vcall vcallF at *
    cases hct : callT ρ o.op with
    | none => simp [hct] at h
    | some x =>
      simp only [hct] at h ⊢
      obtain ⟨ms, as, backs, H1, args, outs, res, H2, h1, h2, h3, h4, h5, h6⟩ := h
      exact ⟨ms, as, backs, H1, args, outs, res, H2, h1, h2, h3, h4, h5, hK _ h6⟩
  · rename_i hc
    rw [if_neg hc] at h
    unfold vprim at *
    cases ho : (opM Y ρ s.hp.length o.type o.op).run (s.grown (allocs Y o.op)) with
    | none => simp [ho] at h
    | some out => simp only [ho] at h ⊢; exact hK _ h

theorem vgop_mono {P : Program} {Y : TypeId → TyI} {ops : Array Oper} {o : Oper} {K K' : S → Prop} {s : S} (hK : ∀ s, K s → K' s) (h : vgop P Y ops o K s) : vgop P Y ops o K' s := by
  unfold vgop at *
  cases hg : o.guard with
  | none => simp only [hg] at h ⊢; exact vopR_mono hK h
  | some x =>
    simp only [hg] at h ⊢
    cases hb : guardC x.2 (guardT ops s.tm x.1) with
    | none => simp [hb] at h
    | some b =>
      simp only [hb] at h ⊢
      split
      · rename_i hq
        rw [if_pos hq] at h
        unfold vquiet at *
        cases ho : (opM Y (fun y => stripT b (s.ev y)) s.hp.length o.type o.op).run s.hp with
        | none => simp only [ho] at h ⊢; exact ⟨h.1, hK _ h.2⟩
        | some out => simp only [ho] at h ⊢; exact ⟨h.1, hK _ h.2⟩
      · rename_i hq
        rw [if_neg hq] at h
        refine h.imp (fun h => ⟨fun e => vopR_mono hK (h.1 e), fun e => hK _ (h.2 e)⟩) fun h => ?_
        unfold vpure at *
        split at h
        · obtain ⟨args, res, h1, h2, h3⟩ := h
          exact ⟨args, res, h1, h2, hK _ h3⟩
        · exact h

theorem vops_of_vopl {P : Program} {Y : TypeId → TyI} {ops : Array Oper} {K : S → Prop} : ∀ (l : List Oper) (k : Nat) (s : S), (∀ j, l[j]? = ops[k + j]?) → vopl P Y ops K l s → vops P Y ops K (List.range' k l.length) s
  | [], k, s, _, h => h
  | o :: l, k, s, hj, h => by
    have h0 := hj 0
    simp only [List.getElem?_cons_zero, Nat.add_zero] at h0
    simp only [List.length_cons, List.range'_succ, vops, ← h0]
    simp only [vopl] at h
    have hrest : ∀ s', vopl P Y ops K l s' → vops P Y ops K (List.range' (k + 1) l.length) s' := fun s' h' =>
      vops_of_vopl l (k + 1) s' (fun j => by have := hj (j + 1); simpa [Nat.add_assoc, Nat.add_comm 1 j] using this) h'
    exact vgop_mono hrest h

theorem SW.ops {P : Program} {Y : TypeId → TyI} {F : Fr} {Q : Exit → S → Prop} {s : S} (hY : TysW P Y) {id : Nat} {ops : Array Oper} (h : vopl P Y ops (Q .normal) ops.toList s) : SW P F Q (.region id ops false) s := by
  refine SW.region hY ?_
  have := vops_of_vopl ops.toList 0 s (fun j => by simp) h
  rwa [Array.length_toList, ← List.range_eq_range'] at this

theorem SW.seq_g {P : Program} {F : Fr} {Q : Exit → S → Prop} {s : S} {x y : Code} (h : ∀ y', y' = y → SW P F (thenS (SW P F Q y') Q) x s) : SW P F Q (.seq x y) s := SW.seq (h y rfl)
/-- a region, the rest behind it -/
theorem SW.ops_seq {P : Program} {Y : TypeId → TyI} {F : Fr} {Q : Exit → S → Prop} {s : S} (hY : TysW P Y) {id : Nat} {ops : Array Oper} {y : Code} (h : ∀ y', y' = y → vopl P Y ops (SW P F Q y') ops.toList s) :
    SW P F Q (.seq (.region id ops false) y) s := SW.seq (SW.ops hY (h y rfl))

/-- a call, its passage worked out -/
theorem vcall_to {P : Program} {f : FuncId} {ts : List T} {dst : Option Tmp} {K : S → Prop} {s : S} (ms : List Mode) {args outs : List T} {res : T} {as : List (Bool × T)} {backs : List Back} {H1 H2 : Heap}
    (hc : CallR P f args outs res) (h1 : pass1 ms ts (s.hp ++ [[]]) = some (as, backs, H1)) (h2 : (pass2 as).run H1 = some args) (hr : resClo res = true) (h3 : fillB backs outs H1 = some H2)
    (hK : K ({ s with hp := H2.set s.hp.length (thawA s.hp.length (res.tg dnT) 0).2 }.put dst (thawA s.hp.length (res.tg dnT) 0).1)) : vcallF P f ts dst K s :=
  ⟨ms, as, backs, H1, args, outs, res, H2, h1, h2, hc, hr, h3, hK⟩

end Go.Vm

namespace Go.Vm

/-! ### walking by equations: nothing is looked into before it is known -/
section
variable (P : Program) (Y : TypeId → TyI) (ops : Array Oper) (K : S → Prop) (l : List Oper) (s : S) (o : Oper)

def kPut (d : Option Tmp) (t : T) : Prop := vopl P Y ops K l (s.put d t)
def kOut (d : Option Tmp) (al : Bool) (H : Heap) : Option Out → Prop
  | some out => vopl P Y ops K l ({ s with hp := H.after al s.hp.length out }.put d out.v)
  | none => False
def kQuiet (d : Option Tmp) (g : Bool) : Option Out → Prop
  | some out => out.ups = [] ∧ vopl P Y ops K l (s.put d (mkOpt g out.v))
  | none => g = false ∧ vopl P Y ops K l (s.put d (.opt false .undef))
def kCall (d : Option Tmp) : Option (FuncId × List T) → Prop
  | some x => vcallF P x.1 x.2 d (vopl P Y ops K l) s
  | none => False
/-- the rest, as one word -/
def kRest (ρ : Operand → T) (b : Bool) : Prop := if b then kCall P Y ops K l s o.dst (callT ρ o.op) else kOut P Y ops K l s o.dst (allocs Y o.op) (s.grown (allocs Y o.op)) ((opM Y ρ s.hp.length o.type o.op).run (s.grown (allocs Y o.op)))
def kGuard (q : Bool) : Option Bool → Prop
  | some c => if q then kQuiet P Y ops K l s o.dst c ((opM Y (fun x => stripT c (s.ev x)) s.hp.length o.type o.op).run s.hp)
    else (c = true → kRest P Y ops K l s o s.ev (isCall o.op)) ∧ (c = false → kPut P Y ops K l s o.dst (.opt false .undef)) ∨ vpure P (fun x => stripT c (s.ev x)) c o (vopl P Y ops K l) s
  | none => False
def kOp : Option (Nat × Bool) → Prop
  | none => kRest P Y ops K l s o s.ev (isCall o.op)
  | some x => kGuard P Y ops K l s o (quietK o.op) (guardC x.2 (guardT ops s.tm x.1))

theorem kRest_eq (ρ : Operand → T) : kRest P Y ops K l s o ρ (isCall o.op) = vopR P Y ρ o (vopl P Y ops K l) s := by
  unfold kRest vopR vcall vprim kCall kOut
  split
  · cases callT ρ o.op with
    | none => rfl
    | some x => rfl
  · rfl

theorem vopl_cons : vopl P Y ops K (o :: l) s = kOp P Y ops K l s o o.guard := by
  show vgop P Y ops o (vopl P Y ops K l) s = _
  unfold vgop kOp
  split
  · rename_i hg; rw [hg]; exact (kRest_eq P Y ops K l s o s.ev).symm
  · rename_i g want hg
    rw [hg]
    simp only
    unfold kGuard
    cases guardC want (guardT ops s.tm g) with
    | none => rfl
    | some b =>
      simp only
      split
      · unfold vquiet kQuiet
        cases (opM Y (fun x => stripT b (s.ev x)) s.hp.length o.type o.op).run s.hp <;> rfl
      · rw [kRest_eq]; rfl
theorem vopl_nil : vopl P Y ops K [] s = K s := rfl

variable {d : Option Tmp} {op : Op} {ty : TypeId} {pos : String} {aft : Array Edge}
theorem k0 {g : Option (Nat × Bool)} : vopl P Y ops K (⟨d, op, ty, pos, aft, g⟩ :: l) s = kOp P Y ops K l s ⟨d, op, ty, pos, aft, g⟩ g := vopl_cons ..
theorem k1 : kOp P Y ops K l s ⟨d, op, ty, pos, aft, none⟩ none = kRest P Y ops K l s ⟨d, op, ty, pos, aft, none⟩ s.ev (isCall op) := rfl
theorem k2 {g : Nat} {w : Bool} {G : Option (Nat × Bool)} : kOp P Y ops K l s ⟨d, op, ty, pos, aft, G⟩ (some (g, w)) = kGuard P Y ops K l s ⟨d, op, ty, pos, aft, G⟩ (quietK op) (guardC w (guardT ops s.tm g)) := rfl
theorem k3 {G : Option (Nat × Bool)} {ρ : Operand → T} : kRest P Y ops K l s ⟨d, op, ty, pos, aft, G⟩ ρ true = kCall P Y ops K l s d (callT ρ op) := rfl
theorem k4 {G : Option (Nat × Bool)} {ρ : Operand → T} : kRest P Y ops K l s ⟨d, op, ty, pos, aft, G⟩ ρ false = kOut P Y ops K l s d (allocs Y op) (s.grown (allocs Y op)) ((opM Y ρ s.hp.length ty op).run (s.grown (allocs Y op))) := rfl
theorem k5 {al : Bool} {H : Heap} {out : Out} : kOut P Y ops K l s d al H (some out) = vopl P Y ops K l ({ s with hp := H.after al s.hp.length out }.put d out.v) := rfl
theorem k6 {g : Bool} {out : Out} : kQuiet P Y ops K l s d g (some out) = (out.ups = [] ∧ vopl P Y ops K l (s.put d (mkOpt g out.v))) := rfl
theorem k11 {g : Bool} : kQuiet P Y ops K l s d g none = (g = false ∧ vopl P Y ops K l (s.put d (.opt false .undef))) := rfl
theorem k7 {c : Bool} {G : Option (Nat × Bool)} : kGuard P Y ops K l s ⟨d, op, ty, pos, aft, G⟩ true (some c) = kQuiet P Y ops K l s d c ((opM Y (fun x => stripT c (s.ev x)) s.hp.length ty op).run s.hp) := rfl
theorem k8 {c : Bool} {G : Option (Nat × Bool)} : kGuard P Y ops K l s ⟨d, op, ty, pos, aft, G⟩ false (some c) =
    ((c = true → kRest P Y ops K l s ⟨d, op, ty, pos, aft, G⟩ s.ev (isCall op)) ∧ (c = false → kPut P Y ops K l s d (.opt false .undef)) ∨ vpure P (fun x => stripT c (s.ev x)) c ⟨d, op, ty, pos, aft, G⟩ (vopl P Y ops K l) s) := rfl
theorem kgt {G : Option (Nat × Bool)} (h : kRest P Y ops K l s ⟨d, op, ty, pos, aft, G⟩ s.ev (isCall op)) : kGuard P Y ops K l s ⟨d, op, ty, pos, aft, G⟩ false (some true) := .inl ⟨fun _ => h, fun e => (by cases e)⟩
theorem kgf {G : Option (Nat × Bool)} (h : kPut P Y ops K l s d (.opt false .undef)) : kGuard P Y ops K l s ⟨d, op, ty, pos, aft, G⟩ false (some false) := .inl ⟨fun e => (by cases e), fun _ => h⟩
theorem k9 {t : T} : kPut P Y ops K l s d t = vopl P Y ops K l (s.put d t) := rfl
theorem k10 {f : FuncId} {ts : List T} : kCall P Y ops K l s d (some (f, ts)) = vcallF P f ts d (vopl P Y ops K l) s := rfl
theorem grown_t {tm : List T} {H : Heap} : S.grown ⟨tm, H⟩ true = H ++ [[]] := rfl
theorem grown_f {tm : List T} {H : Heap} : S.grown ⟨tm, H⟩ false = H := rfl
theorem after_f {H : Heap} {own : Nat} {v : T} {news : List Ob} : Heap.after H false own ⟨v, [], news⟩ = H := rfl
theorem after_t {H : Heap} {own : Nat} {v : T} {ups : List (Nat × Nat × Ob)} {news : List Ob} : Heap.after H true own ⟨v, ups, news⟩ = (H.ups ups).set own news := rfl
theorem after_u {H : Heap} {own : Nat} {v : T} {ups : List (Nat × Nat × Ob)} {news : List Ob} : Heap.after H false own ⟨v, ups, news⟩ = H.ups ups := rfl
end
end Go.Vm

namespace Go.Vm

/-! ### what may be forgotten -/
def weakL : List T → List T → Prop
  | [], [] => True
  | t :: l, u :: m => (u = .undef ∨ u = t) ∧ weakL l m
  | _, _ => False

theorem weakL_ok {c : Cx} : ∀ {l m : List T} {vs : List Value}, weakL l m → RVL c l vs → RVL c m vs
  | [], [], vs, _, h => h
  | t :: l, u :: m, vs, ⟨h1, h2⟩, ⟨v, vs', e, r1, r2⟩ => by
    refine ⟨v, vs', e, ?_, weakL_ok h2 r2⟩
    rcases h1 with rfl | rfl
    · trivial
    · exact r1
  | [], _ :: _, _, h, _ => h.elim
  | _ :: _, [], _, h, _ => h.elim

theorem Norm.weak {tm tm' : List T} {H : Heap} (h : weakL tm tm') : Norm ⟨tm, H⟩ ⟨tm', H⟩ := fun F c a bs hi =>
  ⟨c, bs, rfl, hi.h, weakL_ok h hi.tm, hi.df, hi.pin⟩

theorem HR_trim {c : Cx} : ∀ {H : Heap} {e : Nat} {bs : List Nat}, HR c e (H ++ [[]]) bs → HR c e H bs
  | [], e, bs, ⟨b1, b2, e1, h1, h2⟩ => by
    simp only [HRow] at h1
    simp only [HR] at h2
    subst h1; subst h2; subst e1; rfl
  | r :: H, e, bs, ⟨b1, b2, e1, h1, h2⟩ => ⟨b1, b2, e1, h1, HR_trim h2⟩

theorem Norm.trim1 {tm : List T} {H : Heap} : Norm ⟨tm, H ++ [[]]⟩ ⟨tm, H⟩ := fun F c a bs hi => by
  refine ⟨c, bs, rfl, ⟨HR_trim hi.h.hp, hi.h.nd, hi.h.dz, hi.h.zz, hi.h.zl, hi.h.bl, fun e j i h => ?_, hi.h.fs, hi.h.ff, hi.h.fb, hi.h.fz, hi.h.fZ, hi.h.kp, hi.h.rr⟩, hi.tm, hi.df, hi.pin⟩
  obtain ⟨ob, ho⟩ := hi.h.mu e j i h
  unfold Heap.at at *
  by_cases he : e < H.length
  · simp only at ho ⊢
    rw [List.getElem?_append_left he] at ho; exact ⟨ob, ho⟩
  · simp only at ho
    rw [List.getElem?_append_right (by omega)] at ho
    cases hx : ([[]] : Heap)[e - H.length]? with
    | none => simp [hx] at ho
    | some r =>
      have : r = [] := by
        have := List.mem_of_getElem? hx
        simpa using this
      subst this
      simp [hx] at ho

/-- empty entries at the end go -/
theorem Norm.trim {tm : List T} {H : Heap} : ∀ n : Nat, Norm ⟨tm, H ++ List.replicate n []⟩ ⟨tm, H⟩
  | 0 => by simpa using Norm.refl _
  | n + 1 => by
    rw [show H ++ List.replicate (n + 1) ([] : List Ob) = (H ++ List.replicate n []) ++ [[]] by simp [List.replicate_succ', ← List.append_assoc]]
    exact Norm.trans Norm.trim1 (Norm.trim n)

theorem Norm.to {tm tm' : List T} {H H' : Heap} (n : Nat) (hH : H = H' ++ List.replicate n []) (h : weakL tm tm') : Norm ⟨tm, H⟩ ⟨tm', H'⟩ := by
  subst hH; exact Norm.trans (Norm.trim n) (Norm.weak h)

theorem wrap64 (n : Int) (h0 : -9223372036854775808 ≤ n) (h1 : n < 9223372036854775808) : IntKind.i64.wrap n = n := by
  simp [IntKind.wrap, IntKind.bits, IntKind.signed]; omega
end Go.Vm

namespace Go.Vm

/-! ### regions that draw: first what leaves the heap alone, in any order; then the rest -/
def cnt (l : Array Bool) : Nat → Nat
  | 0 => 0
  | n + 1 => cnt l n + if l.getD n true = false then 1 else 0

theorem cnt_set {l : Array Bool} {i : Nat} (h : l.getD i true = false) : ∀ n, cnt (l.setIfInBounds i true) n + (if i < n then 1 else 0) = cnt l n
  | 0 => by simp [cnt]
  | n + 1 => by
    have ih := cnt_set h n
    simp only [cnt]
    by_cases hin : i = n
    · subst hin
      have hlt : i < l.size := by
        rcases Nat.lt_or_ge i l.size with h' | h'
        · exact h'
        · simp [Array.getElem?_eq_none h'] at h
      have e1 : (l.setIfInBounds i true).getD i true = true := by simp [hlt]
      rw [e1, h]
      simp only [Nat.lt_irrefl, if_false] at ih
      simp; omega
    · rw [getD_set_ne true hin]
      by_cases hlt : i < n
      · have : i < n + 1 := by omega
        simp only [hlt, this, if_true] at ih ⊢; omega
      · have : ¬ i < n + 1 := by omega
        simp only [hlt, this, if_false] at ih ⊢; omega

theorem cnt_zero {l : Array Bool} : ∀ {n : Nat}, cnt l n = 0 → ∀ k, k < n → l.getD k true = true
  | n + 1, h, k, hk => by
    simp only [cnt] at h
    by_cases he : k = n
    · subst he
      cases hx : l.getD k true with
      | true => rfl
      | false => rw [hx] at h; simp at h
    · exact cnt_zero (n := n) (by omega) k (by omega)

theorem cnt_pos {l : Array Bool} : ∀ {n : Nat}, 0 < cnt l n → ∃ k, k < n ∧ l.getD k true = false ∧ ∀ j, j < k → l.getD j true = true
  | n + 1, h => by
    by_cases h0 : 0 < cnt l n
    · obtain ⟨k, h1, h2, h3⟩ := cnt_pos h0
      exact ⟨k, by omega, h2, h3⟩
    · simp only [cnt] at h
      have hz : cnt l n = 0 := by omega
      refine ⟨n, by omega, ?_, fun j hj => cnt_zero hz j hj⟩
      rw [hz] at h
      by_cases hx : l.getD n true = false
      · exact hx
      · rw [if_neg hx] at h; omega

/-- which of the first operations writes a temporary -/
def who (n : Nat) (ops : Array Oper) (t : Tmp) : Option Nat := (List.range n).find? fun k => ((ops[k]?).bind (·.dst)) == some t

def val (n : Nat) (ops : Array Oper) (tm r : List T) (L : Nat → Bool) (t : Tmp) : T :=
  match who n ops t with
  | some k => if L k then r.getD k .undef else .undef
  | none => tm.getD t .undef

def rho (n : Nat) (ops : Array Oper) (tm r : List T) (L : Nat → Bool) : Operand → T
  | .tmp t => val n ops tm r L t
  | .const v => ofConst v
  | .func f => .fn f [] []
  | .global _ => .undef

def edgesOf (ops : Array Oper) (i : Nat) : List Nat := match ops[i]? with | some o => (o.after.toList.filter (Region.binds .any)).map (·.on) | none => []
def anc (ops : Array Oper) : Nat → List Nat → List Nat
  | 0, l => l
  | n + 1, l => anc ops n (l ++ l.flatMap (edgesOf ops))

structure FlowOk (Y : TypeId → TyI) (ops : Array Oper) (n : Nat) (tm r : List T) (H : Heap) : Prop where
  le : n ≤ ops.size
  op : ∀ i, i < n → ∃ o d, ops[i]? = some o ∧ o.guard = none ∧ o.dst = some d ∧ who n ops d = some i ∧ d < tm.length ∧ isCall o.op = false ∧ allocs Y o.op = false ∧
    (opM Y (rho n ops tm r fun k => (edgesOf ops i).contains k) H.length o.type o.op).run H = some { v := r.getD i .undef }
  ed : ∀ i, i < n → ∀ k ∈ edgesOf ops i, k < i
  tl : ∀ j, n ≤ j → j < ops.size → ∀ k, k < n → ∃ f, k ∈ anc ops f (edgesOf ops j)


theorem RVL_of {c : Cx} : ∀ {l : List T} {vs : List Value}, l.length = vs.length → (∀ t, RV c (l.getD t .undef) (vs.getD t undef)) → RVL c l vs
  | [], [], _, _ => rfl
  | t :: l, v :: vs, hl, h => ⟨v, vs, rfl, by simpa using h 0, RVL_of (by simpa using hl) fun k => by simpa using h (k + 1)⟩
  | [], _ :: _, hl, _ => by simp at hl
  | _ :: _, [], hl, _ => by simp at hl

theorem who_some {n : Nat} {ops : Array Oper} {t : Tmp} {k : Nat} (h : who n ops t = some k) : ((ops[k]?).bind (·.dst)) = some t := by
  have := List.find?_some h
  simpa using this

def Closed (ops : Array Oper) (l : Array Bool) : Prop := ∀ j, l.getD j false = true → ∀ k ∈ edgesOf ops j, l.getD k false = true

theorem anc_in {ops : Array Oper} {l : Array Bool} (hc : Closed ops l) : ∀ (n : Nat) {x : List Nat}, (∀ k ∈ x, l.getD k false = true) → ∀ k ∈ anc ops n x, l.getD k false = true
  | 0, x, h => h
  | n + 1, x, h => anc_in hc n fun k hk => by
    rcases List.mem_append.1 hk with hk | hk
    · exact h k hk
    · obtain ⟨j, hj, hk⟩ := List.mem_flatMap.1 hk
      exact hc j (h j hj) k hk

theorem edges_of {ops : Array Oper} {i : Nat} {o : Oper} (ho : ops[i]? = some o) {l : Array Bool} (h : ∀ e ∈ o.after, Region.binds .any e = true → l.getD e.on false = true) : ∀ k ∈ edgesOf ops i, l.getD k false = true := by
  intro k hk
  simp only [edgesOf, ho, List.mem_map, List.mem_filter] at hk
  obtain ⟨e, ⟨he, hb⟩, rfl⟩ := hk
  exact h e (by simpa using he) hb

structure J (F : Fr) (c : Cx) (n : Nat) (ops : Array Oper) (tm r : List T) (L : Nat → Bool) (a : Act) : Prop where
  df : a.defers = []
  sz : a.tmps.size = tm.length
  vl : ∀ t, RV c (val n ops tm r L t) (a.tmps.getD t undef)
  pin : ∀ j i, F.pin j = some i → c.μ 0 j = some i

theorem rho_ok {F : Fr} {c : Cx} {n : Nat} {ops : Array Oper} {tm r : List T} {L D : Nat → Bool} {a : Act} (h : J F c n ops tm r L a) (hd : ∀ k, D k = true → L k = true) (x : Operand) :
    RV c (rho n ops tm r D x) (a.eval x) := by
  cases x with
  | tmp t =>
    have := h.vl t
    show RV c (val n ops tm r D t) (a.tmps.getD t undef)
    unfold val at *
    split
    · rename_i k hk
      simp only [hk] at this
      split
      · rename_i hD; rw [if_pos (hd k hD)] at this; exact this
      · trivial
    · rename_i hk; simp only [hk] at this; exact this
  | const v => exact RV_const v
  | func f => exact ⟨#[], #[], rfl, rfl, rfl⟩
  | global g => trivial

section
variable {P : Program} {Y : TypeId → TyI} (hY : TysW P Y)
include hY

theorem flow_sound {F : Fr} {ops : Array Oper} {n ft : Nat} {tm r : List T} {H : Heap} {K : S → Prop} {R : Exit → Act → World → Prop} (hf : FlowOk Y ops n tm r H)
    (hK : ∀ s' c' a' bs', Inv F c' s' a' bs' → K s' → R .normal a' c'.w)
    (ht : vany P Y ops K ft ((List.range ops.size).map (fun k => decide (k < n))).toArray ⟨(List.range tm.length).map (val n ops tm r fun _ => true), H⟩) :
    ∀ (m : Nat) (l : Array Bool) (c : Cx) (a : Act) (bs : List Nat), cnt l n = m → l.size = ops.size → Closed ops l → (∀ j, n ≤ j → j < ops.size → l.getD j true = false) →
      J F c n ops tm r (fun k => l.getD k false) a → InvH F c H bs → wpAny P .any ops R (m + ft) l a c.w := by
  intro m
  induction m with
  | zero =>
    intro l c a bs hm hsz hcl htl hj hi
    have hall := cnt_zero hm
    have hl : l = ((List.range ops.size).map (fun k => decide (k < n))).toArray := by
      apply Array.ext
      · simp [hsz]
      · intro k h1 h2
        by_cases hk : k < n
        · have := hall k hk; simp [h1] at this; simp [this, hk]
        · have := htl k (by omega) (by omega); simp [h1] at this; simp [this, hk]
    rw [Nat.zero_add, hl]
    refine vany_sound hY hK ft _ (s := ⟨(List.range tm.length).map (val n ops tm r fun _ => true), H⟩) (bs := bs) ⟨hi, ?_, hj.df, hj.pin⟩ ht
    refine RVL_of (by simp [hj.sz]) fun t => ?_
    by_cases htt : t < tm.length
    · have := hj.vl t
      have e : ((List.range tm.length).map (val n ops tm r fun _ => true)).getD t .undef = val n ops tm r (fun _ => true) t := by simp [htt]
      rw [e]
      have e2 : a.tmps.toList.getD t undef = a.tmps.getD t undef := by simp [Array.getD_eq_getD_getElem?]
      rw [e2]
      unfold val at *
      split
      · rename_i k hk
        simp only [hk] at this
        have hkn : k < n := by
          have := List.mem_of_find?_eq_some hk
          simpa using this
        have : l.getD k false = true := by
          have h1 := hall k hkn
          have hks : k < l.size := by rw [hsz]; have := hf.le; omega
          simp [hks] at h1 ⊢; exact h1
        rename_i hold
        rw [if_pos this] at hold
        simpa using hold
      · rename_i hk; simp only [hk] at this; exact this
    · have e : ((List.range tm.length).map (val n ops tm r fun _ => true)).getD t .undef = .undef := by simp [htt]
      rw [e]; trivial
  | succ m ih =>
    intro l c a bs hm hsz hcl htl hj hi
    have hlt : ∀ k, l.getD k true = true → k < l.size → l.getD k false = true := fun k h hk => by simp [hk] at h ⊢; exact h
    obtain ⟨k0, hk0, hk1, hk2⟩ := cnt_pos (l := l) (n := n) (by omega)
    have hfirst : k0 ∈ Region.ready .any ops l := by
      obtain ⟨o, d, ho, _⟩ := hf.op k0 hk0
      refine mem_ready.2 ⟨hk1, o, ho, fun e he hb => ?_⟩
      have hk := hf.ed k0 hk0 e.on (by simp only [edgesOf, ho, List.mem_map, List.mem_filter]; exact ⟨e, ⟨by simpa using he, hb⟩, rfl⟩)
      exact hlt _ (hk2 _ hk) (by rw [hsz]; have := hf.le; omega)
    rw [show m + 1 + ft = (m + ft) + 1 by omega]
    refine ⟨fun h0 => (by rw [h0] at hfirst; cases hfirst), fun i hi' => ?_⟩
    obtain ⟨hil, o', ho', hall⟩ := mem_ready.1 hi'
    have hE := edges_of ho' hall
    by_cases hin : i < n
    · obtain ⟨o, d, ho, hg, hd, hw, hdl, hcall, hal, hrun⟩ := hf.op i hin
      rw [ho] at ho'; cases ho'
      unfold wpOp
      simp only [ho, Region.wanted, hg, if_true]
      refine .inl ?_
      obtain ⟨c', bs', hle, hinv, hr⟩ := op_ok hY hi (own := H.length) (ν := a.eval) (ρ := rho n ops tm r fun k => (edgesOf ops i).contains k) (rho_ok hj fun k hk => hE k (by simpa using hk)) (fun ha => by rw [hal] at ha; cases ha) hrun
      rw [hal] at hinv
      have hH : H.after false H.length { v := r.getD i .undef } = H := rfl
      rw [hH] at hinv
      have next : ∀ x, RV c' (r.getD i .undef) x → wpAny P .any ops R (m + ft) (l.setIfInBounds i true) (a.put o'.dst x) c'.w := by
        intro x hx
        have his : i < l.size := by rw [hsz]; have := hf.le; omega
        have hset : ∀ k, k ≠ i → (l.setIfInBounds i true).getD k false = l.getD k false := fun k hk => getD_set_ne false (Ne.symm hk)
        refine ih (l.setIfInBounds i true) c' (a.put o'.dst x) bs' ?_ (by simp [hsz]) ?_ ?_ ?_ hinv
        · have := cnt_set hil n
          rw [if_pos hin] at this; omega
        · intro j hj' k hk
          by_cases hji : j = i
          · subst hji; exact getD_set_true (hE k hk)
          · rw [hset j hji] at hj'
            exact getD_set_true (hcl j hj' k hk)
        · intro j h1 h2
          rw [getD_set_ne true (by omega)]; exact htl j h1 h2
        · refine ⟨by rw [put_df]; exact hj.df, by rw [hd]; simp [Act.put, hj.sz], fun t => ?_, fun j i e => hle.mu _ _ _ (hj.pin j i e)⟩
          rw [hd]
          by_cases htd : t = d
          · subst htd
            have e1 : (a.put (some t) x).tmps.getD t undef = x := by simp [Act.put, hj.sz, hdl]
            rw [e1]
            unfold val
            simp only [hw]
            have : (l.setIfInBounds i true).getD i false = true := by simp [his]
            rw [if_pos this]; exact hx
          · have e1 : (a.put (some d) x).tmps.getD t undef = a.tmps.getD t undef := by
              simp [Act.put, Array.getElem?_setIfInBounds_ne (Ne.symm htd)]
            rw [e1]
            have h1 := RV.mono hle _ (hj.vl t)
            unfold val at *
            split
            · rename_i k hk
              simp only [hk] at h1
              have hki : k ≠ i := fun e => by
                subst e
                have := who_some hk
                rw [ho] at this
                simp [hd] at this
                exact htd this.symm
              simp only [hset k hki]; exact h1
            · rename_i hk; simp only [hk] at h1; exact h1
      unfold Oper.wp
      rcases hr with ⟨x, hx, hxv⟩ | ⟨hx, hu⟩
      · rw [hx]; exact next x hxv
      · rw [hx]; exact next undef (by simp only at hu; rw [hu]; trivial)
    · exfalso
      have hio : i < ops.size := (Array.getElem?_eq_some_iff.1 ho').1
      obtain ⟨f, hff⟩ := hf.tl i (by omega) hio k0 hk0
      have := anc_in hcl f hE k0 hff
      have hks : k0 < l.size := by rw [hsz]; have := hf.le; omega
      simp [hks] at hk1 this; rw [hk1] at this; cases this
end
end Go.Vm

namespace Go.Vm

def lst (ops : Array Oper) (k : Nat) : Array Bool := ((List.range ops.size).map (fun j => decide (j < k))).toArray

theorem lst_set {ops : Array Oper} {k : Nat} (h : k < ops.size) : (lst ops k).setIfInBounds k true = lst ops (k + 1) := by
  apply Array.ext
  · simp [lst]
  · intro j h1 h2
    have hj : j < ops.size := by simpa [lst] using h2
    by_cases hjk : k = j
    · subst hjk; simp [lst]
    · rw [Array.getElem_setIfInBounds_ne (by simpa [lst] using hj) hjk]
      simp [lst]; omega

theorem vany_tail {P : Program} {Y : TypeId → TyI} {ops : Array Oper} {K : S → Prop} (h0 : Region.ready .any ops (lst ops ops.size) = []) : ∀ (l : List Oper) (k : Nat) (s : S), (∀ j, l[j]? = ops[k + j]?) → k + l.length = ops.size →
    (∀ j, k ≤ j → j < ops.size → Region.ready .any ops (lst ops j) = [j]) → vopl P Y ops K l s → vany P Y ops K l.length (lst ops k) s
  | [], k, s, _, hk, _, h => by
    have : k = ops.size := by simpa using hk
    subst this
    exact ⟨h0, h⟩
  | o :: l, k, s, hj, hk, hr, h => by
    have ho := hj 0
    simp only [List.getElem?_cons_zero, Nat.add_zero] at ho
    have hks : k < ops.size := by simp at hk; omega
    have hrk := hr k (Nat.le_refl _) hks
    refine ⟨fun e => (by rw [hrk] at e; cases e), fun i hi => ?_⟩
    rw [hrk] at hi
    have : i = k := by simpa using hi
    subst this
    rw [← ho]
    simp only
    refine vgop_mono (fun s' h' => ?_) h
    rw [lst_set hks]
    exact vany_tail h0 l (i + 1) s' (fun j => by have := hj (j + 1); simpa [Nat.add_assoc, Nat.add_comm 1 j] using this) (by simp at hk ⊢; omega) (fun j h1 h2 => hr j (by omega) h2) h'

/-- A REGION THAT DRAWS ITS ORDER: its first n operations leave the heap alone, the others come one behind the other -/
theorem SW.flow {P : Program} {Y : TypeId → TyI} {F : Fr} {Q : Exit → S → Prop} {tm : List T} {H : Heap} (hY : TysW P Y) (hm : P.follows .mixedOrders = true) {id : Nat} {ops : Array Oper} (n : Nat) (r : List T)
    (hf : FlowOk Y ops n tm r H) (hs : (List.range ops.size).all (fun j => decide (j < n) || Region.ready .any ops (lst ops j) == [j]) = true) (h0 : Region.ready .any ops (lst ops ops.size) = [])
    (ht : vopl P Y ops (Q .normal) (ops.toList.drop n) ⟨(List.range tm.length).map (val n ops tm r fun _ => true), H⟩) : SW P F Q (.region id ops true) ⟨tm, H⟩ := fun c a bs hi =>
  wp_region_any hm (by
    have hle : c.Le { c with w := { c.w with drawn := c.w.drawn + 1 } } := ⟨fun _ h => h, fun _ h => h, fun _ _ => rfl, fun _ _ => rfl, fun _ _ _ h => h, fun _ _ h => h⟩
    have hi' : InvH F { c with w := { c.w with drawn := c.w.drawn + 1 } } H bs :=
      ⟨HR.mono hle (fun _ _ => rfl) hi.h.hp, hi.h.nd, hi.h.dz, hi.h.zz, hi.h.zl, hi.h.bl, hi.h.mu, hi.h.fs, hi.h.ff, hi.h.fb, hi.h.fz, hi.h.fZ, hi.h.kp.trans ⟨rfl, rfl⟩, hi.h.rr⟩
    have htm := RVL.mono hle _ hi.tm
    have hrd : ∀ j, n ≤ j → j < ops.size → Region.ready .any ops (lst ops j) = [j] := fun j h1 h2 => by
      have := List.all_eq_true.1 hs j (List.mem_range.2 h2)
      simp only [Bool.or_eq_true, decide_eq_true_eq, beq_iff_eq] at this
      rcases this with h | h
      · omega
      · exact h
    have hln : n + (ops.toList.drop n).length = ops.size := by simp; have := hf.le; omega
    have htail := vany_tail (P := P) (Y := Y) (K := Q .normal) h0 (ops.toList.drop n) n _ (fun j => by simp) hln hrd ht
    have hcnt : ∀ (k : Nat), k ≤ ops.size → cnt (Array.replicate ops.size false) k = k := by
      intro k
      induction k with
      | zero => intro _; rfl
      | succ k ih => intro hk; simp only [cnt]; rw [ih (by omega)]; simp [show k < ops.size by omega]
    have := flow_sound hY hf (K := Q .normal) (R := liftQ F Q) (fun s' c' a' bs' h1 h2 => ⟨s', c', bs', rfl, h1, h2⟩) htail n (Array.replicate ops.size false) { c with w := { c.w with drawn := c.w.drawn + 1 } } a bs
      (hcnt n hf.le) (by simp) (fun j hj => by rw [Array.getD_eq_getD_getElem?, Array.getElem?_replicate] at hj; split at hj <;> cases hj) (fun j h1 h2 => by simp [h2])
      ⟨hi.df, by have := RVL_len hi.tm; simpa using this, fun t => by
        unfold val
        split
        · rename_i k hk
          have hz : (Array.replicate ops.size false).getD k false = false := by
            rw [Array.getD_eq_getD_getElem?, Array.getElem?_replicate]; split <;> rfl
          rw [if_neg (by simp only [hz]; simp)]; trivial
        · have := RVL_getD t htm
          simpa [Array.getD_eq_getD_getElem?] using this, hi.pin⟩ hi'
    rwa [hln] at this)
end Go.Vm
