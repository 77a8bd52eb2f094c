/- Shows what the parts of the program do that the claim reaches: a machine of values over the model, and the contracts of functions, for all arguments within the lengths that each theorem names. -/
import Derived.Test.YtjodaapkfknfnaaXViewV3
import Derived.Deep.Slices
import Derived.ChangeArms
import Derived.OpenShut
import Derived.ProofKit
import Derived.WideKeyArgs
import Derived.Test.YtjodaapkfknfnaaXViewV2
set_option linter.all false

namespace Go.Vm

/-! ### references within an object: what they point to moves into it -/
mutual
def soakS : T → Heap → T × Heap
  | .nd l, H => (.nd (soakL l H).1, (soakL l H).2)
  | .ref e j off len, H => match H.at e j with
    | some (.arr es l false) => if off = 0 ∧ len = l.length then (.ow es l, H.put e j .gone) else (.ref e j off len, H)
    | _ => (.ref e j off len, H)
  | t, H => (t, H)
def soakL : List T → Heap → List T × Heap
  | [], H => ([], H)
  | t :: l, H => ((soakS t H).1 :: (soakL l (soakS t H).2).1, (soakL l (soakS t H).2).2)
end

theorem at_gone {H : Heap} {e j e' j' : Nat} (h : H.at e j = some .gone) : (H.put e' j' .gone).at e j = some .gone := by
  unfold Heap.at Heap.put at *
  cases hl : H[e']? with
  | none => exact h
  | some l =>
    simp only
    by_cases he : e' = e
    · subst he
      simp only [hl] at h
      rw [List.getElem?_set_self (List.getElem?_eq_some_iff.1 hl).1]
      simp only
      by_cases hj : j' = j
      · subst hj; exact List.getElem?_set_self (List.getElem?_eq_some_iff.1 h).1
      · rw [List.getElem?_set_ne hj]; exact h
    · rw [List.getElem?_set_ne he]; exact h

mutual
theorem soak_gone {e j : Nat} : ∀ (t : T) {H : Heap}, H.at e j = some .gone → (soakS t H).2.at e j = some .gone
  | .nd l, H, h => by simp only [soakS]; exact soakL_gone l h
  | .ref e' j' off len, H, h => by
    simp only [soakS]
    split
    · split
      · exact at_gone h
      · exact h
    · exact h
  | .int .., H, h => h
  | .bool .., H, h => h
  | .str .., H, h => h
  | .nilI, H, h => h
  | .nilP, H, h => h
  | .err, H, h => h
  | .any, H, h => h
  | .nils es, H, h => h
  | .sl .., H, h => h
  | .ow .., H, h => h
  | .vr .., H, h => h
  | .ptr .., H, h => h
  | .fp .., H, h => h
  | .fn .., H, h => h
  | .tup _, H, h => h
  | .io _, H, h => h
  | .undef, H, h => h
  | .opt _ _, H, h => h
theorem soakL_gone {e j : Nat} : ∀ (l : List T) {H : Heap}, H.at e j = some .gone → (soakL l H).2.at e j = some .gone
  | [], H, h => h
  | t :: l, H, h => soakL_gone l (soak_gone t h)
end

mutual
theorem soak_rc {F : Fr} {c : Cx} : ∀ (t : T) {H : Heap} {bs b0 : List Nat} {cs : List Value}, InvH F c H bs → RC c t cs b0 →
    ∃ bu bs', Given F c bs (soakS t H).2 bu bs' ∧ ∃ bx, RC c (soakS t H).1 cs bx ∧ (∀ x, x ∈ bx ↔ x ∈ b0 ∨ x ∈ bu) ∧ (b0.Nodup → (∀ x ∈ b0, x ∉ bs) → bx.Nodup)
  | .int .., H, bs, b0, cs, h, r => ⟨[], bs, .refl h, b0, r, by simp, fun hn _ => hn⟩
  | .bool .., H, bs, b0, cs, h, r => ⟨[], bs, .refl h, b0, r, by simp, fun hn _ => hn⟩
  | .str .., H, bs, b0, cs, h, r => ⟨[], bs, .refl h, b0, r, by simp, fun hn _ => hn⟩
  | .nilI, H, bs, b0, cs, h, r => ⟨[], bs, .refl h, b0, r, by simp, fun hn _ => hn⟩
  | .nilP, H, bs, b0, cs, h, r => ⟨[], bs, .refl h, b0, r, by simp, fun hn _ => hn⟩
  | .err, H, bs, b0, cs, h, r => ⟨[], bs, .refl h, b0, r, by simp, fun hn _ => hn⟩
  | .any, H, bs, b0, cs, h, r => ⟨[], bs, .refl h, b0, r, by simp, fun hn _ => hn⟩
  | .nils es, H, bs, b0, cs, h, r => ⟨[], bs, .refl h, b0, r, by simp, fun hn _ => hn⟩
  | .sl .., H, bs, b0, cs, h, r => ⟨[], bs, .refl h, b0, r, by simp, fun hn _ => hn⟩
  | .ow .., H, bs, b0, cs, h, r => ⟨[], bs, .refl h, b0, r, by simp, fun hn _ => hn⟩
  | .vr .., H, bs, b0, cs, h, r => ⟨[], bs, .refl h, b0, r, by simp, fun hn _ => hn⟩
  | .ptr .., H, bs, b0, cs, h, r => ⟨[], bs, .refl h, b0, r, by simp, fun hn _ => hn⟩
  | .fp .., H, bs, b0, cs, h, r => ⟨[], bs, .refl h, b0, r, by simp, fun hn _ => hn⟩
  | .fn .., H, bs, b0, cs, h, r => ⟨[], bs, .refl h, b0, r, by simp, fun hn _ => hn⟩
  | .tup _, H, bs, b0, cs, h, r => ⟨[], bs, .refl h, b0, r, by simp, fun hn _ => hn⟩
  | .io _, H, bs, b0, cs, h, r => ⟨[], bs, .refl h, b0, r, by simp, fun hn _ => hn⟩
  | .undef, H, bs, b0, cs, h, r => ⟨[], bs, .refl h, b0, r, by simp, fun hn _ => hn⟩
  | .opt _ _, H, bs, b0, cs, h, r => ⟨[], bs, .refl h, b0, r, by simp, fun hn _ => hn⟩
  | .nd l, H, bs, b0, cs, h, r => by
    simp only [soakS]
    obtain ⟨bu, bs', hg, bx, hr, hmem⟩ := soakL_rc l h r
    exact ⟨bu, bs', hg, bx, hr, hmem⟩
  | .ref e j off len, H, bs, b0, cs, h, r => by
    simp only [soakS]
    split
    · rename_i es l ha
      split
      · rename_i hc
        obtain ⟨rfl, A, k, i, rfl, hr⟩ := r
        obtain ⟨bu, bs', hg, hrc⟩ := give_ref h ha hc.1 hc.2 ⟨A, k, i, rfl, hr⟩
        exact ⟨bu, bs', hg, bu, hrc, by simp, fun _ _ => hg.nd⟩
      · exact ⟨[], bs, .refl h, b0, r, by simp, fun hn _ => hn⟩
    · exact ⟨[], bs, .refl h, b0, r, by simp, fun hn _ => hn⟩
theorem soakL_rc {F : Fr} {c : Cx} : ∀ (l : List T) {H : Heap} {bs b0 : List Nat} {cs : List Value}, InvH F c H bs → RCL c l cs b0 →
    ∃ bu bs', Given F c bs (soakL l H).2 bu bs' ∧ ∃ bx, RCL c (soakL l H).1 cs bx ∧ (∀ x, x ∈ bx ↔ x ∈ b0 ∨ x ∈ bu) ∧ (b0.Nodup → (∀ x ∈ b0, x ∉ bs) → bx.Nodup)
  | [], H, bs, b0, cs, h, r => ⟨[], bs, .refl h, b0, r, by simp, fun hn _ => hn⟩
  | t :: l, H, bs, b0, cs, h, r => by
    obtain ⟨c1, c2, b1, b2, rfl, rfl, r1, r2⟩ := r
    obtain ⟨bu1, bs1, hg1, bx1, hr1, hm1, hn1⟩ := soak_rc t h r1
    obtain ⟨bu2, bs2, hg2, bx2, hr2, hm2, hn2⟩ := soakL_rc l hg1.inv r2
    refine ⟨bu1 ++ bu2, bs2, hg1.trans hg2, bx1 ++ bx2, ⟨c1, c2, bx1, bx2, rfl, rfl, hr1, hr2⟩, fun z => ?_, fun hn hd => ?_⟩
    · simp only [List.mem_append, hm1, hm2]
      constructor <;> (intro hz; rcases hz with (hz | hz) | (hz | hz) <;> simp [hz])
    · rw [List.nodup_append] at hn
      refine List.nodup_append.2 ⟨hn1 hn.1 (fun z hz => hd z (by simp [hz])), hn2 hn.2.1 (fun z hz hb => hd z (by simp [hz]) (hg1.rest z hb)), fun a ha b hb e => ?_⟩
      subst e
      rcases (hm1 a).1 ha with ha | ha <;> rcases (hm2 a).1 hb with hb | hb
      · exact hn.2.2 a ha a hb rfl
      · exact hd a (by simp [ha]) (hg1.rest a (hg2.sub a hb).1)
      · exact hd a (by simp [hb]) (hg1.sub a ha).1
      · exact (hg1.sub a ha).2 (hg2.sub a hb).1
end

theorem InvH.fillOb {F : Fr} {c : Cx} {H : Heap} {bs q : List Nat} {e j : Nat} {ob : Ob} (h : InvH F c H bs) (ha : H.at e j = some .gone) (hv : HOb c e j ob q)
    (hq : ∀ x ∈ q, x ∉ bs ∧ ¬ c.Z x ∧ x < c.w.heap.size ∧ (F.own x ∨ F.w.heap.size ≤ x)) (hnq : q.Nodup) :
    ∃ bs', InvH F c (H.put e j ob) bs' := by
  obtain ⟨p, q0, r, rfl, ho, hput⟩ := h.hp.at ha
  simp only [HOb] at ho; subst ho
  refine ⟨p ++ (q ++ r), ?_⟩
  have hlt : ∃ l, H[e]? = some l ∧ j < l.length := by
    unfold Heap.at at ha
    cases hl : H[e]? with
    | none => simp [hl] at ha
    | some l => simp only [hl] at ha; exact ⟨l, rfl, (List.getElem?_eq_some_iff.1 ha).1⟩
  obtain ⟨l, hl, hj⟩ := hlt
  constructor
  · exact hput c ob q (.refl c) (fun _ _ => rfl) (fun _ _ => rfl) hv
  · have hn := h.nd
    simp only [List.nil_append] at hn
    rw [List.nodup_append] at hn
    rw [List.nodup_append, List.nodup_append]
    refine ⟨hn.1, ⟨hnq, hn.2.1, fun a ha b hb e => ?_⟩, fun a ha b hb e => ?_⟩
    · subst e; exact (hq a ha).1 (by simp [hb])
    · rcases List.mem_append.1 hb with hb | hb
      · subst e; exact (hq a hb).1 (by simp [ha])
      · exact hn.2.2 a ha b hb e
  · intro b hb hz
    simp only [List.mem_append] at hb
    rcases hb with hb | hb | hb
    · exact h.dz b (by simp [hb]) hz
    · exact (hq b hb).2.1 hz
    · exact h.dz b (by simp [hb]) hz
  · exact h.zz
  · exact h.zl
  · intro b hb
    simp only [List.mem_append] at hb
    rcases hb with hb | hb | hb
    · exact h.bl b (by simp [hb])
    · exact (hq b hb).2.2.1
    · exact h.bl b (by simp [hb])
  · intro e' j' x hx
    obtain ⟨ob', ho'⟩ := h.mu e' j' x hx
    unfold Heap.at Heap.put at *
    simp only [hl]
    by_cases he : e = e'
    · subst he
      simp only [hl] at ho'
      simp only [List.getElem?_set_self (List.getElem?_eq_some_iff.1 hl).1]
      by_cases hjj : j = j'
      · subst hjj; exact ⟨_, List.getElem?_set_self hj⟩
      · exact ⟨ob', by rw [List.getElem?_set_ne hjj]; exact ho'⟩
    · simp only [List.getElem?_set_ne he]; exact ⟨ob', ho'⟩
  · exact h.fs
  · exact h.ff
  · intro b hb
    simp only [List.mem_append] at hb
    rcases hb with hb | hb | hb
    · exact h.fb b (by simp [hb])
    · exact (hq b hb).2.2.2
    · exact h.fb b (by simp [hb])
  · exact h.fz
  · exact h.fZ
  · exact h.kp
  · exact h.rr

theorem at_put {H : Heap} {e j : Nat} {ob x : Ob} (h : H.at e j = some ob) : (H.put e j x).at e j = some x := by
  unfold Heap.at Heap.put at *
  cases hl : H[e]? with
  | none => simp [hl] at h
  | some l =>
    simp only [hl] at h ⊢
    rw [List.getElem?_set_self (List.getElem?_eq_some_iff.1 hl).1]
    exact List.getElem?_set_self (List.getElem?_eq_some_iff.1 h).1

/-- the blocks of an object that was taken out, and those that it soaks up -/
theorem soak_back {F : Fr} {c : Cx} {H H1 : Heap} {bs p q r bu bs1 q' : List Nat} {e j : Nat} {ob : Ob} (h : InvH F c H bs) (hb : bs = p ++ (q ++ r)) (hg : Given F c (p ++ r) H1 bu bs1) (ha : H1.at e j = some .gone)
    (ho : HOb c e j ob q') (hm : ∀ x ∈ q', x ∈ q ∨ x ∈ bu) (hn : q'.Nodup) : ∃ bs', InvH F c (H1.put e j ob) bs' := by
  subst hb
  refine InvH.fillOb hg.inv ha ho (fun x hx => ?_) hn
  have hnd := h.nd
  rw [List.nodup_append, List.nodup_append] at hnd
  have hin : x ∈ p ++ (q ++ r) ∧ x ∉ bs1 := by
    rcases hm x hx with hx | hx
    · refine ⟨by simp [hx], fun hb => ?_⟩
      rcases List.mem_append.1 (hg.rest x hb) with h1 | h1
      · exact hnd.2.2 x h1 x (by simp [hx]) rfl
      · exact hnd.2.1.2.2 x hx x h1 rfl
    · have := hg.sub x hx
      refine ⟨?_, this.2⟩
      rcases List.mem_append.1 this.1 with h1 | h1 <;> simp [h1]
  exact ⟨hin.2, h.dz x hin.1, h.bl x hin.1, h.fb x hin.1⟩

theorem Norm.soakVar {tm : List T} {H : Heap} (e j : Nat) {t : T} (ha : H.at e j = some (.var t)) :
    Norm ⟨tm, H⟩ ⟨tm, (soakS t (H.put e j .gone)).2.put e j (.var (soakS t (H.put e j .gone)).1)⟩ := fun F c a bs hi => by
  obtain ⟨p, q, r, hb, ho, hinv⟩ := HR.drop hi.h ha
  obtain ⟨i, hmu, cs, bs', arr, hq, hrc, hh, hsz, hfree, hle, h1, h2⟩ := ho
  obtain ⟨bu, bs1, hg, bx, hr, hm, hn⟩ := soak_rc t hinv hrc
  have hgone := soak_gone (e := e) (j := j) t (at_put (x := .gone) ha)
  have hnd := hi.h.nd
  rw [hb, List.nodup_append, List.nodup_append] at hnd
  have hqn := hnd.2.1.1
  rw [hq, List.nodup_cons] at hqn
  have hnotin : ∀ x ∈ q, x ∉ p ++ r := fun x hx hx' => by
    rcases List.mem_append.1 hx' with h' | h'
    · exact hnd.2.2 x h' x (by simp [hx]) rfl
    · exact hnd.2.1.2.2 x hx x h' rfl
  have hbxn := hn hqn.2 fun x hx => hnotin x (by rw [hq]; simp [hx])
  have hblk : i.blk ∉ bx := fun hx => by
    rcases (hm _).1 hx with h' | h'
    · exact hqn.1 h'
    · exact hnotin i.blk (by rw [hq]; simp) (hg.sub _ h').1
  obtain ⟨bs2, hfin⟩ := soak_back (q' := i.blk :: bx) (ob := .var (soakS t (H.put e j .gone)).1) hi.h hb hg hgone
    ⟨i, hmu, cs, bx, arr, rfl, hr, hh, hsz, hfree, hle, h1, h2⟩
    (fun x hx => by
      rcases List.mem_cons.1 hx with rfl | hx
      · left; rw [hq]; simp
      · rcases (hm x).1 hx with h' | h'
        · left; rw [hq]; simp [h']
        · exact .inr h') (List.nodup_cons.2 ⟨hblk, hbxn⟩)
  exact ⟨c, bs2, rfl, hfin, hi.tm, hi.df, hi.pin⟩

theorem RRows_at {c : Cx} {es : Nat} : ∀ {l : List T} {cs : List Value} {bs : List Nat} {i : Nat} {t : T}, RRows c es l cs bs → l[i]? = some t →
    ∃ ct b1 b2 b3, bs = b1 ++ (b2 ++ b3) ∧ RC c t ct b2 ∧ ∀ u b2', RC c u ct b2' → RRows c es (l.set i u) cs (b1 ++ (b2' ++ b3))
  | [], _, _, _, _, _, h => by simp at h
  | x :: l, _, _, 0, t, ⟨c1, c2, b1, b2, rfl, rfl, hl, h1, h2⟩, h => by
    simp at h; subst h
    exact ⟨c1, [], b1, b2, rfl, h1, fun u b2' hu => ⟨c1, c2, b2', b2, rfl, by simp, hl, hu, h2⟩⟩
  | x :: l, _, _, i + 1, t, ⟨c1, c2, b1, b2, rfl, rfl, hl, h1, h2⟩, h => by
    obtain ⟨ct, d1, d2, d3, rfl, hr, hs⟩ := RRows_at h2 (by simpa using h)
    exact ⟨ct, b1 ++ d1, d2, d3, by simp, hr, fun u b2' hu => ⟨c1, c2, b1, d1 ++ (b2' ++ d3), rfl, by simp, hl, h1, hs u b2' hu⟩⟩

theorem Norm.soakArr {tm : List T} {H : Heap} (e j k : Nat) {es : Nat} {l : List T} {t : T} (ha : H.at e j = some (.arr es l false)) (hk : l[k]? = some t) :
    Norm ⟨tm, H⟩ ⟨tm, (soakS t (H.put e j .gone)).2.put e j (.arr es (l.set k (soakS t (H.put e j .gone)).1) false)⟩ := fun F c a bs hi => by
  obtain ⟨p, q, r, hb, ho, hinv⟩ := HR.drop hi.h ha
  obtain ⟨i, hmu, e1, e2, e3, ho⟩ := ho
  rcases ho with ⟨h0, _⟩ | ⟨rows, bs', hq, hrows, hcell, hoa⟩
  · have : l = [] := List.length_eq_zero_iff.1 (by omega)
    subst this; simp at hk
  obtain ⟨ct, b1, b2, b3, hbs, hrc, hset⟩ := RRows_at hrows hk
  obtain ⟨bu, bs1, hg, bx, hr, hm, hn⟩ := soak_rc t hinv hrc
  have hgone := soak_gone (e := e) (j := j) t (at_put (x := .gone) ha)
  have hnd := hi.h.nd
  rw [hb, List.nodup_append, List.nodup_append] at hnd
  have hqn := hnd.2.1.1
  rw [hq, List.nodup_cons] at hqn
  have hnotin : ∀ x ∈ q, x ∉ p ++ r := fun x hx hx' => by
    rcases List.mem_append.1 hx' with h' | h'
    · exact hnd.2.2 x h' x (by simp [hx]) rfl
    · exact hnd.2.1.2.2 x hx x h' rfl
  have hbn := hqn.2
  rw [hbs, List.nodup_append, List.nodup_append] at hbn
  have hin : ∀ x, x ∈ b1 ∨ x ∈ b2 ∨ x ∈ b3 → x ∈ q := fun x hx => by rw [hq, hbs]; simp [hx]
  have hbxn := hn hbn.2.1.1 fun x hx => hnotin x (hin x (.inr (.inl hx)))
  have hblk0 : i.blk ∉ bx := fun hx => by
    rcases (hm _).1 hx with h' | h'
    · exact hqn.1 (by rw [hbs]; simp [h'])
    · exact hnotin i.blk (by rw [hq]; simp) (hg.sub _ h').1
  have hbu : ∀ x, x ∈ b1 ∨ x ∈ b3 → x ∉ bx := fun x hx hx' => by
    rcases (hm _).1 hx' with h' | h'
    · rcases hx with hx | hx
      · exact hbn.2.2 x hx x (by simp [h']) rfl
      · exact hbn.2.1.2.2 x h' x hx rfl
    · exact hnotin x (hin x (hx.imp id .inr)) (hg.sub _ h').1
  obtain ⟨bs2, hfin⟩ := soak_back (q' := i.blk :: (b1 ++ (bx ++ b3))) (ob := .arr es (l.set k (soakS t (H.put e j .gone)).1) false) hi.h hb hg hgone
    ⟨i, hmu, e1, e2, by simpa using e3, .inr ⟨rows, _, rfl, hset _ _ hr, hcell, hoa⟩⟩
    (fun x hx => by
      simp only [List.mem_cons, List.mem_append] at hx
      rcases hx with rfl | hx | hx | hx
      · left; rw [hq]; simp
      · exact .inl (hin x (.inl hx))
      · rcases (hm x).1 hx with h' | h'
        · exact .inl (hin x (.inr (.inl h')))
        · exact .inr h'
      · exact .inl (hin x (.inr (.inr hx)))) (by
      refine List.nodup_cons.2 ⟨fun hx => ?_, ?_⟩
      · simp only [List.mem_append] at hx
        rcases hx with hx | hx | hx
        · exact hqn.1 (by rw [hbs]; simp [hx])
        · exact hblk0 hx
        · exact hqn.1 (by rw [hbs]; simp [hx])
      · rw [List.nodup_append, List.nodup_append]
        refine ⟨hbn.1, ⟨hbxn, hbn.2.1.2.1, fun a ha b hb e => ?_⟩, fun a ha b hb e => ?_⟩
        · subst e; exact hbu a (.inr hb) ha
        · subst e
          rcases List.mem_append.1 hb with hb | hb
          · exact hbu a (.inl ha) hb
          · exact hbn.2.2 a ha a (by simp [hb]) rfl)
  exact ⟨c, bs2, rfl, hfin, hi.tm, hi.df, hi.pin⟩
end Go.Vm

namespace Go.Vm

/-! ### entries renamed, dropped -/
mutual
def T.ren (π : List Nat) : T → T
  | .nd l => .nd (renL π l)
  | .sl g l => .sl g (renL π l)
  | .ow es l => .ow es (renL π l)
  | .ref e j off len => match π[e]? with | some e0 => .ref e0 j off len | none => .io .undef
  | .vr e j p o es off len => match π[e]? with | some e0 => .vr e0 j p o es off len | none => .io .undef
  | .ptr e j p o => match π[e]? with | some e0 => .ptr e0 j p o | none => .io .undef
  | .fp t => .fp (t.ren π)
  | .fn f a b => .fn f (renL π a) (renL π b)
  | .tup l => .tup (renL π l)
  | .opt g t => .opt g (t.ren π)
  | t => t
def renL (π : List Nat) : List T → List T
  | [] => []
  | t :: l => t.ren π :: renL π l
end

theorem renL_len (π : List Nat) : ∀ l : List T, (renL π l).length = l.length
  | [] => rfl
  | t :: l => by simp [renL, renL_len π l]

def Cx.re (c : Cx) (π : List Nat) : Cx := { c with μ := fun e j => match π[e]? with | some e0 => c.μ e0 j | none => none }

theorem re_mu {c : Cx} {π : List Nat} {e e0 j : Nat} (h : π[e]? = some e0) : (c.re π).μ e j = c.μ e0 j := by simp [Cx.re, h]

mutual
theorem RC.re {c : Cx} {π : List Nat} : ∀ (t : T) {cs : List Value} {bs : List Nat}, RC c (t.ren π) cs bs → RC (c.re π) t cs bs
  | .int .., _, _, r => r
  | .bool .., _, _, r => r
  | .str .., _, _, r => r
  | .nd l, _, _, r => by
    simp only [T.ren, RC] at r ⊢; exact RCL.re l r
  | .sl g l, _, _, r => by
    simp only [T.ren] at r
    obtain ⟨e, A, k, e1, hk, r⟩ := r
    rw [renL_len] at e1 hk
    refine ⟨e, A, k, e1, hk, ?_⟩
    rcases r with h0 | ⟨a, es, rows, e2, e3, e4, r1, r2, r3⟩
    · left; have := congrArg List.length h0; rw [renL_len] at this; exact List.length_eq_zero_iff.1 this
    · exact .inr ⟨a, es, rows, e2, e3, e4, RRows.re es l r1, r2, by cases g <;> exact r3⟩
  | .ow es l, _, _, r => by
    simp only [T.ren] at r
    obtain ⟨A, k, e1, r⟩ := r
    rw [renL_len] at e1
    refine ⟨A, k, e1, ?_⟩
    rcases r with ⟨h1, h0, h2⟩ | ⟨a, rows, bs', e2, o, r1, r2, r3, rfl⟩
    · left; have := congrArg List.length h0; rw [renL_len] at this; exact ⟨h1, List.length_eq_zero_iff.1 this, h2⟩
    · rw [renL_len] at r3; exact .inr ⟨a, rows, bs', e2, o, RRows.re es l r1, r2, r3, rfl⟩
  | .nils _, _, _, r => r
  | .ref e j off len, _, _, r => by
    simp only [T.ren] at r
    split at r
    · rename_i e0 he
      obtain ⟨e', A, k, i, e1, e2, e3, e4⟩ := r
      exact ⟨e', A, k, i, e1, e2, by rw [re_mu he]; exact e3, e4⟩
    · exact r.elim
  | .vr e j p o es off len, _, _, r => by
    simp only [T.ren] at r
    split at r
    · rename_i e0 he
      obtain ⟨e', k, i, e1, e2⟩ := r
      exact ⟨e', k, i, by rw [re_mu he]; exact e1, e2⟩
    · exact r.elim
  | .ptr e j p o, _, _, r => by
    simp only [T.ren] at r
    split at r
    · rename_i e0 he
      obtain ⟨e', i, e1, e2⟩ := r
      exact ⟨e', i, by rw [re_mu he]; exact e1, e2⟩
    · exact r.elim
  | .fp t, _, _, r => by
    simp only [T.ren] at r
    obtain ⟨e, a, row, e1, e2, r1, r2, r3⟩ := r
    exact ⟨e, a, row, e1, e2, RC.re t r1, r2, r3⟩
  | .fn f x y, _, _, r => by
    simp only [T.ren] at r
    obtain ⟨e, xs, ys, e1, r1, r2⟩ := r
    exact ⟨e, xs, ys, e1, RVL.re x r1, RVL.re y r2⟩
  | .nilI, _, _, r => r
  | .nilP, _, _, r => r
  | .err, _, _, r => r
  | .any, _, _, r => r
  | .tup _, _, _, r => r.elim
  | .io _, _, _, r => r
  | .undef, _, _, r => r
  | .opt _ _, _, _, r => r.elim
theorem RCL.re {c : Cx} {π : List Nat} : ∀ (l : List T) {cs : List Value} {bs : List Nat}, RCL c (renL π l) cs bs → RCL (c.re π) l cs bs
  | [], _, _, r => r
  | t :: l, _, _, r => by
    obtain ⟨c1, c2, b1, b2, e1, rfl, r1, r2⟩ := r
    exact ⟨c1, c2, b1, b2, e1, rfl, RC.re t r1, RCL.re l r2⟩
theorem RRows.re {c : Cx} {π : List Nat} (es : Nat) : ∀ (l : List T) {cs : List Value} {bs : List Nat}, RRows c es (renL π l) cs bs → RRows (c.re π) es l cs bs
  | [], _, _, r => r
  | t :: l, _, _, r => by
    obtain ⟨c1, c2, b1, b2, e1, rfl, e2, r1, r2⟩ := r
    exact ⟨c1, c2, b1, b2, e1, rfl, e2, RC.re t r1, RRows.re es l r2⟩
theorem RV.re {c : Cx} {π : List Nat} : ∀ (t : T) {v : Value}, RV c (t.ren π) v → RV (c.re π) t v
  | .nd l, _, r => by
    simp only [T.ren] at r
    obtain ⟨cs, e, r⟩ := r
    exact ⟨cs, e, RCL.re l r⟩
  | .tup l, _, r => by
    simp only [T.ren] at r
    obtain ⟨cs, e, r⟩ := r
    exact ⟨cs, e, RVL.re l r⟩
  | .undef, _, _ => trivial
  | .opt g t, _, r => by
    simp only [T.ren] at r
    exact ⟨fun e => RV.re t (r.1 e), r.2⟩
  | .int .., _, r => r
  | .bool .., _, r => r
  | .str .., _, r => r
  | .sl g l, _, r => by
    simp only [T.ren] at r
    obtain ⟨A, k, e1, hk, r⟩ := r
    rw [renL_len] at e1 hk
    refine ⟨A, k, e1, hk, ?_⟩
    rcases r with h0 | ⟨a, es, rows, e2, e3, e4, r1, r2, r3⟩
    · left; have := congrArg List.length h0; rw [renL_len] at this; exact List.length_eq_zero_iff.1 this
    · exact .inr ⟨a, es, rows, e2, e3, e4, RRows.re es l r1, r2, by cases g <;> exact r3⟩
  | .ow _ _, _, r => by simp only [T.ren] at r; exact r.elim
  | .nils _, _, r => r
  | .ref e j off len, _, r => by
    simp only [T.ren] at r
    split at r
    · rename_i e0 he
      obtain ⟨A, k, i, e1, e2, e3, e4⟩ := r
      exact ⟨A, k, i, e1, e2, by rw [re_mu he]; exact e3, e4⟩
    · exact r.elim
  | .vr e j p o es off len, _, r => by
    simp only [T.ren] at r
    split at r
    · rename_i e0 he
      obtain ⟨k, i, e1, e2⟩ := r
      exact ⟨k, i, by rw [re_mu he]; exact e1, e2⟩
    · exact r.elim
  | .ptr e j p o, _, r => by
    simp only [T.ren] at r
    split at r
    · rename_i e0 he
      obtain ⟨i, e1, e2⟩ := r
      exact ⟨i, by rw [re_mu he]; exact e1, e2⟩
    · exact r.elim
  | .fp t, _, r => by
    simp only [T.ren] at r
    obtain ⟨a, row, e1, e2, r1, r2, r3⟩ := r
    exact ⟨a, row, e1, e2, RC.re t r1, r2, r3⟩
  | .fn f x y, _, r => by
    simp only [T.ren] at r
    obtain ⟨xs, ys, e1, r1, r2⟩ := r
    exact ⟨xs, ys, e1, RVL.re x r1, RVL.re y r2⟩
  | .nilI, _, r => r
  | .nilP, _, r => r
  | .err, _, r => r
  | .any, _, r => r
  | .io _, _, r => r.elim
theorem RVL.re {c : Cx} {π : List Nat} : ∀ (l : List T) {vs : List Value}, RVL c (renL π l) vs → RVL (c.re π) l vs
  | [], _, r => r
  | t :: l, _, r => by
    obtain ⟨v, vs', e, r1, r2⟩ := r
    exact ⟨v, vs', e, RV.re t r1, RVL.re l r2⟩
end

/-- the object that is to be, and the one that is -/
def obFits (π : List Nat) : Ob → Ob → Prop
  | .gone, _ => True
  | .var t, .var u => t.ren π = u
  | .arr es l fz, .arr es' l' fz' => es = es' ∧ fz = fz' ∧ renL π l = l'
  | _, _ => False
def rowFits (π : List Nat) : List Ob → List Ob → Prop
  | [], [] => True
  | a :: l, b :: m => obFits π a b ∧ rowFits π l m
  | _, _ => False
def heapFits (π : List Nat) (H : Heap) : List Nat → Heap → Prop
  | [], [] => True
  | e :: p, r :: H' => (match H[e]? with | some r0 => rowFits π r r0 | none => False) ∧ heapFits π H p H'
  | _, _ => False
def tmFits (π : List Nat) : List T → List T → Prop
  | [], [] => True
  | t :: l, u :: m => (t = .undef ∨ t.ren π = u) ∧ tmFits π l m
  | _, _ => False

theorem tmFits_ok {c : Cx} {π : List Nat} : ∀ {l m : List T} {vs : List Value}, tmFits π l m → RVL c m vs → RVL (c.re π) l vs
  | [], [], _, _, h => h
  | t :: l, u :: m, vs, ⟨h1, h2⟩, ⟨v, vs', e, r1, r2⟩ => by
    refine ⟨v, vs', e, ?_, tmFits_ok h2 r2⟩
    rcases h1 with rfl | rfl
    · trivial
    · exact RV.re t r1
  | [], _ :: _, _, h, _ => h.elim
  | _ :: _, [], _, h, _ => h.elim

theorem obFits_ok {c : Cx} {π : List Nat} {e e0 j : Nat} (he : π[e]? = some e0) : ∀ {a b : Ob} {bs : List Nat}, obFits π a b → HOb c e0 j b bs → ∃ bs', HOb (c.re π) e j a bs' ∧ (bs' = bs ∨ bs' = [])
  | .gone, _, _, _, _ => ⟨[], rfl, .inr rfl⟩
  | .var t, .var u, bs, h, ⟨i, hmu, cs, bs', arr, h0, hr, h1⟩ => by
    simp only [obFits] at h; subst h
    exact ⟨bs, ⟨i, by rw [re_mu he]; exact hmu, cs, bs', arr, h0, RC.re t hr, h1⟩, .inl rfl⟩
  | .arr es l false, .arr es' l' fz', bs, h, ho => by
    simp only [obFits] at h; obtain ⟨rfl, rfl, rfl⟩ := h
    obtain ⟨i, hmu, h1, h2, h3, h4⟩ := ho
    refine ⟨bs, ⟨i, by rw [re_mu he]; exact hmu, h1, h2, by rwa [renL_len] at h3, ?_⟩, .inl rfl⟩
    rcases h4 with h4 | ⟨rows, bs', hb, hr, hc⟩
    · exact .inl h4
    · exact .inr ⟨rows, bs', hb, RRows.re es l hr, hc⟩
  | .arr es l true, .arr es' l' fz', bs, h, ho => by
    simp only [obFits] at h; obtain ⟨rfl, rfl, rfl⟩ := h
    obtain ⟨i, hmu, h0, h1, h2, h3, h4⟩ := ho
    refine ⟨bs, ⟨i, by rw [re_mu he]; exact hmu, h0, h1, h2, by rwa [renL_len] at h3, ?_⟩, .inl rfl⟩
    rcases h4 with h4 | ⟨rows, hr, hc⟩
    · exact .inl h4
    · exact .inr ⟨rows, RRows.re es l hr, hc⟩
  | .var _, .arr _ _ _, _, h, _ => h.elim
  | .var _, .gone, _, h, _ => h.elim
  | .arr _ _ _, .var _, _, h, _ => h.elim
  | .arr _ _ _, .gone, _, h, _ => h.elim

theorem rowFits_ok {c : Cx} {π : List Nat} {e e0 : Nat} (he : π[e]? = some e0) : ∀ {l m : List Ob} {j : Nat} {bs : List Nat}, rowFits π l m → HRow c e0 j m bs → ∃ bs', HRow (c.re π) e j l bs' ∧ List.Sublist bs' bs
  | [], [], _, _, _, h => ⟨[], rfl, by simp⟩
  | a :: l, b :: m, j, bs, ⟨h1, h2⟩, ⟨b1, b2, e1, r1, r2⟩ => by
    obtain ⟨x, hx, hx'⟩ := obFits_ok he h1 r1
    obtain ⟨y, hy, hy'⟩ := rowFits_ok he h2 r2
    refine ⟨x ++ y, ⟨x, y, rfl, hx, hy⟩, ?_⟩
    subst e1
    refine List.Sublist.append ?_ hy'
    rcases hx' with rfl | rfl
    · exact List.Sublist.refl _
    · exact List.nil_sublist _
  | [], _ :: _, _, _, h, _ => h.elim
  | _ :: _, [], _, _, h, _ => h.elim

theorem HR.parts {c : Cx} : ∀ {H : Heap} {e : Nat} {bs : List Nat}, HR c e H bs → ∃ f : Nat → List Nat, bs = (List.range H.length).flatMap f ∧ ∀ k r, H[k]? = some r → HRow c (e + k) 0 r (f k)
  | [], _, _, h => ⟨fun _ => [], by simpa [HR] using h, by simp⟩
  | r :: H, e, bs, ⟨b1, b2, e1, h1, h2⟩ => by
    obtain ⟨f, hf, hr⟩ := HR.parts h2
    refine ⟨fun k => match k with | 0 => b1 | k + 1 => f k, ?_, fun k r' hk => ?_⟩
    · rw [List.length_cons, List.range_succ_eq_map, List.flatMap_cons, List.flatMap_map, e1, hf]
    · cases k with
      | zero => simp at hk; subst hk; exact h1
      | succ k =>
        have := hr k r' (by simpa using hk)
        rw [show e + (k + 1) = e + 1 + k by omega]; exact this

theorem HR.mk {c : Cx} : ∀ {H : Heap} {e : Nat} (f : Nat → List Nat), (∀ k r, H[k]? = some r → HRow c (e + k) 0 r (f k)) → HR c e H ((List.range H.length).flatMap f)
  | [], _, _, _ => rfl
  | r :: H, e, f, h => by
    rw [List.length_cons, List.range_succ_eq_map, List.flatMap_cons, List.flatMap_map]
    refine ⟨f 0, _, rfl, h 0 r rfl, HR.mk (fun k => f (k + 1)) fun k r' hk => ?_⟩
    have := h (k + 1) r' (by simpa using hk)
    rw [show e + 1 + k = e + (k + 1) by omega]; exact this

theorem heapFits_get {π : List Nat} {H : Heap} : ∀ {p : List Nat} {H' : Heap}, heapFits π H p H' → H'.length = p.length ∧ ∀ (k : Nat) (r : List Ob), H'[k]? = some r → ∃ (e : Nat) (r0 : List Ob), p[k]? = some e ∧ H[e]? = some r0 ∧ rowFits π r r0
  | [], [], _ => ⟨rfl, by simp⟩
  | e :: p, r :: H', ⟨h1, h2⟩ => by
    obtain ⟨l1, l2⟩ := heapFits_get h2
    refine ⟨by simp [l1], fun k r' hk => ?_⟩
    cases k with
    | zero =>
      simp at hk; subst hk
      split at h1
      · rename_i r0 h0; exact ⟨e, r0, rfl, h0, h1⟩
      · exact h1.elim
    | succ k => obtain ⟨e', r0, q⟩ := l2 k r' (by simpa using hk); exact ⟨e', r0, by simpa using q⟩
  | [], _ :: _, h => h.elim
  | _ :: _, [], h => h.elim

theorem nodup_parts {f : Nat → List Nat} {n : Nat} (h : ((List.range n).flatMap f).Nodup) : (∀ k, k < n → (f k).Nodup) ∧ ∀ i j x, i < n → j < n → i ≠ j → x ∈ f i → x ∉ f j := by
  unfold List.Nodup at h
  rw [List.pairwise_flatMap] at h
  refine ⟨fun k hk => h.1 k (by simpa using hk), fun i j x hi hj hne h1 h2 => ?_⟩
  have key : ∀ i j, i < j → j < n → ∀ x ∈ f i, x ∉ f j := fun i j hij hj x h1 h2 => by
    have := List.pairwise_iff_getElem.1 h.2 i j (by simp; omega) (by simpa using hj) hij
    simp only [List.getElem_range] at this
    exact this x h1 x h2 rfl
  rcases Nat.lt_or_gt_of_ne hne with h' | h'
  · exact key i j h' hj x h1 h2
  · exact key j i h' hi x h2 h1

/-- THE STATE LAID ANEW: the entries that are kept, in what order; the rest goes -/
theorem Norm.re (π : List Nat) {tm tm' : List T} {H H' : Heap} (hp : π.Nodup) (h0 : π[0]? = some 0) (hH : heapFits π H π H') (ht : tmFits π tm' tm) : Norm ⟨tm, H⟩ ⟨tm', H'⟩ := fun F c a bs hi => by
  obtain ⟨f, hf, hr⟩ := HR.parts hi.h.hp
  obtain ⟨hlen, hget⟩ := heapFits_get hH
  have row : ∀ k, ∃ g : List Nat, k < H'.length → (∀ r, H'[k]? = some r → HRow (c.re π) (0 + k) 0 r g) ∧ ∃ e, π[k]? = some e ∧ e < H.length ∧ List.Sublist g (f e) := fun k => by
    by_cases hk : k < H'.length
    · obtain ⟨e, r0, h1, h2, h3⟩ := hget k _ (List.getElem?_eq_getElem hk)
      have := hr e r0 h2
      rw [Nat.zero_add] at this
      obtain ⟨g, hg, hs⟩ := rowFits_ok h1 h3 this
      refine ⟨g, fun _ => ⟨fun r hr' => ?_, e, h1, (List.getElem?_eq_some_iff.1 h2).1, hs⟩⟩
      rw [List.getElem?_eq_getElem hk] at hr'; cases hr'
      rw [Nat.zero_add]; exact hg
    · exact ⟨[], fun h => absurd h hk⟩
  have ⟨g, hg⟩ : ∃ g : Nat → List Nat, ∀ k, k < H'.length → (∀ r, H'[k]? = some r → HRow (c.re π) (0 + k) 0 r (g k)) ∧ ∃ e, π[k]? = some e ∧ e < H.length ∧ List.Sublist (g k) (f e) :=
    ⟨fun k => (row k).choose, fun k => (row k).choose_spec⟩
  have hn := hi.h.nd
  rw [hf] at hn
  obtain ⟨n1, n2⟩ := nodup_parts hn
  have sub : ∀ b ∈ (List.range H'.length).flatMap g, b ∈ bs := fun b hb => by
    obtain ⟨k, hk, hb⟩ := List.mem_flatMap.1 hb
    obtain ⟨_, e, h1, h2, h3⟩ := hg k (by simpa using hk)
    rw [hf]
    exact List.mem_flatMap.2 ⟨e, by simpa using h2, h3.subset hb⟩
  refine ⟨c.re π, (List.range H'.length).flatMap g, rfl, ⟨?_, tmFits_ok ht hi.tm, hi.df, fun j i hj => ?_⟩⟩
  · constructor
    · exact HR.mk g fun k r hk => (hg k (List.getElem?_eq_some_iff.1 hk).1).1 r hk
    · unfold List.Nodup
      rw [List.pairwise_flatMap]
      refine ⟨fun k hk => ?_, List.pairwise_iff_getElem.2 fun i j hi' hj' hij => ?_⟩
      · obtain ⟨_, e, h1, h2, h3⟩ := hg k (by simpa using hk)
        exact (n1 e h2).sublist h3
      · simp only [List.getElem_range]
        simp only [List.length_range] at hi' hj'
        obtain ⟨_, e, h1, h2, h3⟩ := hg i hi'
        obtain ⟨_, e', h1', h2', h3'⟩ := hg j hj'
        have hne : e ≠ e' := fun heq => by
          subst heq
          have q1 := List.getElem?_eq_some_iff.1 h1
          have q2 := List.getElem?_eq_some_iff.1 h1'
          obtain ⟨q3, q4⟩ := q1
          obtain ⟨q5, q6⟩ := q2
          exact List.pairwise_iff_getElem.1 hp i j q3 q5 hij (q4.trans q6.symm)
        exact fun x hx y hy hxy => n2 e e' x h2 h2' hne (h3.subset hx) (hxy ▸ h3'.subset hy)
    · exact fun b hb => hi.h.dz b (sub b hb)
    · exact hi.h.zz
    · exact hi.h.zl
    · exact fun b hb => hi.h.bl b (sub b hb)
    · intro e j i hx
      simp only [Cx.re] at hx
      split at hx
      · rename_i e0 he
        obtain ⟨ob, ho⟩ := hi.h.mu e0 j i hx
        have hlt : e < H'.length := by rw [hlen]; exact (List.getElem?_eq_some_iff.1 he).1
        obtain ⟨e1, r0, h1, h2, h3⟩ := hget e _ (List.getElem?_eq_getElem hlt)
        rw [he] at h1; cases h1
        simp only [Heap.at, h2] at ho
        have rl : ∀ {l m : List Ob}, rowFits π l m → l.length = m.length := by
          intro l
          induction l with
          | nil => intro m h; cases m with | nil => rfl | cons _ _ => exact h.elim
          | cons a l ih => intro m h; cases m with | nil => exact h.elim | cons b m => simp [ih h.2]
        have hj := (List.getElem?_eq_some_iff.1 ho).1
        rw [← rl h3] at hj
        exact ⟨_, by simp only [Heap.at, List.getElem?_eq_getElem hlt]; exact List.getElem?_eq_getElem hj⟩
      · cases hx
    · exact hi.h.fs
    · exact hi.h.ff
    · exact fun b hb => hi.h.fb b (sub b hb)
    · exact hi.h.fz
    · exact hi.h.fZ
    · exact hi.h.kp
    · exact hi.h.rr
  · rw [re_mu h0]; exact hi.pin j i hj
end Go.Vm

namespace Go.Vm
open Go.ChangeShapes

/-! ### what a row's argument is, as a tree -/
def offsOk (Y : TypeId → TyI) : Nat → List (TypeId × Nat) → Option Nat
  | o, [] => some o
  | o, (t, off) :: l => if off = o then offsOk Y (o + (Y t).cells) l else none

def plainT (Y : TypeId → TyI) : Nat → TypeId → Bool
  | 0, _ => false
  | n + 1, t => match (Y t).k with
    | .int _ | .bool | .str => true
    | .sl e => plainT Y n e
    | .st fs => fs.all (fun f => plainT Y n f.1) && offsOk Y 0 fs == some (Y t).cells
    | .ar m e => plainT Y n e && (Y t).cells == m * (Y e).cells
    | _ => false

def Typed (Y : TypeId → TyI) : Nat → TypeId → T → Prop
  | 0, _, _ => False
  | n + 1, t, u => match (Y t).k with
    | .int k => ∃ v, u = .int k v ∧ (Lit.int k v).wf = true
    | .bool => ∃ b, u = .bool b
    | .str => ∃ s : ByteArray, u = .str s ∧ s.size ≤ maxLen
    | .sl e => ∃ l, u = .sl .b l ∧ l.length ≤ maxLen ∧ ∀ x ∈ l, Typed Y n e x
    | .st fs => ∃ l : List T, u = .nd l ∧ l.length = fs.length ∧ ∀ (i : Nat) f x, fs[i]? = some f → l[i]? = some x → Typed Y n f.1 x
    | .ar m e => ∃ l, u = .nd l ∧ l.length = m ∧ ∀ x ∈ l, Typed Y n e x
    | _ => False

theorem rows_of {c : Cx} {es : Nat} : ∀ (m : Nat) (f : Nat → List Value) (g : Nat → T), (∀ i, i < m → (f i).length = es ∧ RC c (g i) (f i) []) →
    RRows c es ((List.range m).map g) ((List.range m).flatMap f) []
  | 0, f, g, _ => ⟨rfl, rfl⟩
  | m + 1, f, g, h => by
    rw [List.range_succ_eq_map]
    simp only [List.map_cons, List.map_map, List.flatMap_cons, List.flatMap_map]
    have := rows_of m (fun i => f (i + 1)) (fun i => g (i + 1)) fun i hi => h (i + 1) (by omega)
    exact ⟨f 0, _, [], [], rfl, rfl, (h 0 (by omega)).1, (h 0 (by omega)).2, this⟩

theorem list_of {c : Cx} {es : Nat} : ∀ (m : Nat) (f : Nat → List Value) (g : Nat → T), (∀ i, i < m → RC c (g i) (f i) []) →
    RCL c ((List.range m).map g) ((List.range m).flatMap f) []
  | 0, f, g, _ => ⟨rfl, rfl⟩
  | m + 1, f, g, h => by
    rw [List.range_succ_eq_map]
    simp only [List.map_cons, List.map_map, List.flatMap_cons, List.flatMap_map]
    have := list_of (es := es) m (fun i => f (i + 1)) (fun i => g (i + 1)) fun i hi => h (i + 1) (by omega)
    exact ⟨f 0, _, [], [], rfl, rfl, h 0 (by omega), this⟩

/-- equal parts laid end to end -/
theorem flat_get {es : Nat} (he : 0 < es) : ∀ (m : Nat) (f : Nat → List Value), (∀ i, i < m → (f i).length = es) → ∀ (i j : Nat), i < m → j < es → ((List.range m).flatMap f)[i * es + j]? = (f i)[j]?
  | 0, f, _, i, j, hi, _ => by omega
  | m + 1, f, h, i, j, hi, hj => by
    rw [List.range_succ_eq_map]
    simp only [List.flatMap_cons, List.flatMap_map]
    have h0 := h 0 (by omega)
    cases i with
    | zero => rw [List.getElem?_append_left (by omega)]; simp
    | succ i =>
      rw [List.getElem?_append_right (by rw [h0, Nat.add_mul]; omega), h0, show (i + 1) * es + j - es = i * es + j by rw [Nat.add_mul]; omega]
      exact flat_get he m (fun i => f (i + 1)) (fun i hi => h (i + 1) (by omega)) i j (by omega) hj
theorem flat_len {es : Nat} : ∀ (m : Nat) (f : Nat → List Value), (∀ i, i < m → (f i).length = es) → ((List.range m).flatMap f).length = m * es
  | 0, f, _ => by simp
  | m + 1, f, h => by
    rw [List.range_succ_eq_map]
    simp only [List.flatMap_cons, List.flatMap_map, List.length_append, h 0 (by omega)]
    rw [flat_len m (fun i => f (i + 1)) fun i hi => h (i + 1) (by omega), Nat.add_mul]; omega

end Go.Vm

namespace Go.Vm
open Go.ChangeShapes

theorem cellsOf_eq {P : Program} {Y : TypeId → TyI} (hY : TysOk P Y) {t : TypeId} (h : 0 < (Y t).cells) : P.cellsOf t = (Y t).cells := by
  obtain ⟨i, d, hi, _, hs, _⟩ := (hY t h).ex
  simp [Program.cellsOf, hi, hs]

theorem under_eq {P : Program} {Y : TypeId → TyI} (hY : TysOk P Y) {t : TypeId} (h : 0 < (Y t).cells) : ∃ d, P.underlying t = some d ∧ TyM P d (Y t).k := by
  obtain ⟨i, d, hi, hd, _, _, hm⟩ := (hY t h).ex
  exact ⟨d, hd, hm⟩

/-- the parts of a struct, end to end -/
theorem offs_split {c : Cx} {Y : TypeId → TyI} : ∀ (fs : List (TypeId × Nat)) (o m : Nat) (cs : List Value) (g : Nat → T), offsOk Y o fs = some m → o ≤ cs.length → m = cs.length →
    (∀ (i : Nat) (f : TypeId × Nat), fs[i]? = some f → ((cs.drop f.2).take (Y f.1).cells).length = (Y f.1).cells → RC c (g i) ((cs.drop f.2).take (Y f.1).cells) []) →
    (∀ (i : Nat) (f : TypeId × Nat), fs[i]? = some f → f.2 + (Y f.1).cells ≤ cs.length) →
    RCL c ((List.range fs.length).map g) (cs.drop o) []
  | [], o, m, cs, g, ho, hl, hm, _, _ => by
    simp only [offsOk, Option.some.injEq] at ho
    have : cs.drop o = [] := List.drop_eq_nil_of_le (by omega)
    rw [this]; exact ⟨rfl, rfl⟩
  | (t, off) :: l, o, m, cs, g, ho, hl, hm, hr, hb => by
    simp only [offsOk] at ho
    split at ho
    case isFalse => cases ho
    rename_i hoo
    subst hoo
    have hb0 := hb 0 (t, off) rfl
    simp only at hb0
    have hlen : ((cs.drop off).take (Y t).cells).length = (Y t).cells := by simp; omega
    have h0 := hr 0 (t, off) rfl hlen
    have hrest := offs_split l (off + (Y t).cells) m cs (fun i => g (i + 1)) ho hb0 hm (fun i f hf => hr (i + 1) f (by simpa using hf)) (fun i f hf => hb (i + 1) f (by simpa using hf))
    rw [List.length_cons, List.range_succ_eq_map]
    simp only [List.map_cons, List.map_map]
    refine ⟨(cs.drop off).take (Y t).cells, cs.drop (off + (Y t).cells), [], [], ?_, rfl, h0, hrest⟩
    rw [← List.drop_drop, List.take_append_drop]

end Go.Vm

namespace Go.Vm
open Go.ChangeShapes

theorem offs_le {Y : TypeId → TyI} : ∀ (fs : List (TypeId × Nat)) (o m : Nat), offsOk Y o fs = some m → o ≤ m ∧ ∀ (i : Nat) (f : TypeId × Nat), fs[i]? = some f → f.2 + (Y f.1).cells ≤ m
  | [], o, m, h => by simp only [offsOk, Option.some.injEq] at h; subst h; exact ⟨Nat.le_refl _, fun i f hf => by simp at hf⟩
  | (t, off) :: l, o, m, h => by
    simp only [offsOk] at h
    split at h
    case isFalse => cases h
    rename_i ho
    subst ho
    obtain ⟨h1, h2⟩ := offs_le l _ _ h
    refine ⟨by omega, fun i f hf => ?_⟩
    cases i with
    | zero => simp at hf; subst hf; exact h1
    | succ i => exact h2 i f (by simpa using hf)

theorem chunks (k : Nat) : ∀ (m : Nat) (cs : List Value), cs.length = m * k → ((List.range m).flatMap fun i => (cs.drop (i * k)).take k) = cs
  | 0, cs, h => by
    have : cs = [] := by cases cs with | nil => rfl | cons _ _ => simp at h
    subst this; rfl
  | m + 1, cs, h => by
    rw [List.range_succ_eq_map]
    simp only [List.flatMap_cons, List.flatMap_map, Nat.zero_mul, List.drop_zero]
    have ih := chunks k m (cs.drop k) (by rw [List.length_drop, h, Nat.add_mul]; omega)
    have e : ∀ i, (List.drop ((i + 1) * k) cs).take k = ((cs.drop k).drop (i * k)).take k := fun i => by
      rw [List.drop_drop, Nat.add_mul]; congr 2; omega
    simp only [Nat.succ_eq_add_one, e]
    rw [ih, List.take_append_drop]

section
variable {H : Type} {enc : TypeId × Value → H} {P : Program} {Y : TypeId → TyI} {c : Cx} {base : Nat} {spare : Nat → Bool} {held : Bool} (hY : TysW P Y) (hZ : ∀ b, b < c.w.heap.size → c.Z b)
include hY hZ

theorem trod_tree : ∀ (n : Nat) (t : TypeId) (fuel : Nat) (cs : List Value) (x : DataW H × List MemPlace), plainT Y n t = true → DataW.trod enc P c.w base spare held fuel t cs = some x →
    ∃ u, RC c u cs [] ∧ Typed Y n t u
  | 0, t, fuel, cs, x, hp, _ => by simp [plainT] at hp
  | n + 1, t, fuel, cs, x, hp, h => by
    have hpos : 0 < (Y t).cells := by
      by_cases h0 : (Y t).k = .bad
      · simp [plainT, h0] at hp
      · exact hY.pos rfl h0
    obtain ⟨d, hd, hm⟩ := under_eq hY.ok hpos
    simp only [plainT] at hp
    simp only [Typed]
    cases hk : (Y t).k with
    | int k =>
      rw [hk] at hm; simp only [TyM] at hm; subst hm
      obtain ⟨v, rfl, _, hw⟩ := DataW.trod_int hd h
      exact ⟨.int k v, ⟨rfl, rfl⟩, v, rfl, hw⟩
    | bool =>
      rw [hk] at hm; simp only [TyM] at hm; subst hm
      obtain ⟨b, rfl, _⟩ := DataW.trod_bool hd h
      exact ⟨.bool b, ⟨rfl, rfl⟩, b, rfl⟩
    | str =>
      rw [hk] at hm; simp only [TyM] at hm; subst hm
      obtain ⟨s, rfl, _, hs⟩ := DataW.trod_string hd h
      exact ⟨.str s, ⟨rfl, rfl⟩, s, rfl, hs⟩
    | sl e =>
      rw [hk] at hm hp; simp only [TyM] at hm; subst hm
      have hepos : 0 < (Y e).cells := hY.el (.inl hk)
      have hce := cellsOf_eq hY.ok hepos
      rcases Go.Deep.open_slice hd h with ⟨rfl, _⟩ | ⟨a, len, cap, m, n', D, Pl, rfl, _, hlc, hcm, hmm, _, hx⟩
      · exact ⟨.sl .b [], ⟨rfl, none, 0, rfl, Nat.le_refl _, .inl rfl⟩, [], rfl, Nat.zero_le _, by simp⟩
      · have hlm : len ≤ m := by rw [hmm]; split <;> omega
        have each : ∀ i, i < len → ∃ q : List Value × T, c.w.cells? base (a.add (i * P.cellsOf e)) (P.cellsOf e) = some q.1 ∧ RC c q.2 q.1 [] ∧ Typed Y n e q.2 := by
          intro i hi
          obtain ⟨cs', h1, h2⟩ := hx i (by omega)
          obtain ⟨u, hu, ht⟩ := trod_tree n e n' cs' (D i, Pl i) hp h2
          exact ⟨(cs', u), h1, hu, ht⟩
        obtain ⟨q, hq⟩ := Go.Deep.choose_lt each
        refine ⟨.sl .b ((List.range len).map fun i => (q i).2), ?_, _, rfl, by simp; omega, ?_⟩
        · refine ⟨rfl, some a, cap, by simp, by simpa using hlc, ?_⟩
          by_cases h0 : len = 0
          · left; subst h0; rfl
          · right
            have hlens : ∀ i, i < len → ((q i).1).length = (Y e).cells := fun i hi => by
              obtain ⟨_, hl, _⟩ := World.cells?_some (hq i hi).1
              rw [hl, hce]
            have hspot : a.spot = none := by
              obtain ⟨_, hl, hc⟩ := World.cells?_some (hq 0 (by omega)).1
              have h1 := hc 0 (by omega)
              have hl' := hlens 0 (by omega)
              cases hv : (q 0).1[0]? with
              | none => rw [List.getElem?_eq_none_iff] at hv; omega
              | some v =>
                rw [hv] at h1
                have := World.cell?_spot h1
                simpa [Addr.add] using this
            refine ⟨a, (Y e).cells, (List.range len).flatMap fun i => (q i).1, rfl, hspot, hepos, rows_of len (fun i => (q i).1) (fun i => (q i).2) fun i hi => ⟨hlens i hi, (hq i hi).2.1⟩, ?_, ?_⟩
            · have hcell : ∀ i, i < len → ∀ j v, (q i).1[j]? = some v → c.w.cell? ⟨a.block, a.off + (i * (Y e).cells + j), none⟩ = some v := fun i hi j v hv => by
                obtain ⟨_, hl, hc⟩ := World.cells?_some (hq i hi).1
                have hj : j < (q i).1.length := (List.getElem?_eq_some_iff.1 hv).1
                have := hc j (by omega)
                rw [hv, Addr_add' a _ hspot, Addr_add, hce] at this
                rw [← Nat.add_assoc]; exact this
              obtain ⟨v0, hv0⟩ : ∃ v, (q 0).1[0]? = some v := ⟨_, List.getElem?_eq_getElem (by rw [hlens 0 (by omega)]; exact hepos)⟩
              have h00 := hcell 0 (by omega) 0 v0 hv0
              unfold World.cell? at h00
              cases hh : c.w.heap[a.block]? with
              | none => simp [hh] at h00
              | some ob =>
                cases ob with
                | cells arr ty fr =>
                  refine ⟨arr, ty, fr, hh, fun i v hv => ?_⟩
                  have hi : i < len * (Y e).cells := by
                    have := (List.getElem?_eq_some_iff.1 hv).1
                    rwa [flat_len len _ hlens] at this
                  have hq1 : i / (Y e).cells < len := Nat.div_lt_of_lt_mul (by rw [Nat.mul_comm]; exact hi)
                  have hr1 : i % (Y e).cells < (Y e).cells := Nat.mod_lt _ hepos
                  have hdm : i / (Y e).cells * (Y e).cells + i % (Y e).cells = i := by rw [Nat.mul_comm]; exact Nat.div_add_mod i _
                  rw [← hdm, flat_get hepos len _ hlens _ _ hq1 hr1] at hv
                  have := hcell _ hq1 _ v hv
                  rw [hdm] at this
                  simp only [World.cell?, hh] at this
                  simpa using this
                | _ => simp [hh] at h00
            · obtain ⟨_, hl, hc⟩ := World.cells?_some (hq 0 (by omega)).1
              have h1 := hc 0 (by rw [hce]; exact hepos)
              obtain ⟨v0, hv0⟩ : ∃ v, (q 0).1[0]? = some v := ⟨_, List.getElem?_eq_getElem (by rw [hlens 0 (by omega)]; exact hepos)⟩
              rw [hv0, Addr_add' a _ hspot, Addr_add] at h1
              refine hZ _ ?_
              rcases Nat.lt_or_ge a.block c.w.heap.size with h' | h'
              · exact h'
              · simp [World.cell?, Array.getElem?_eq_none h'] at h1
        · intro u hu
          obtain ⟨i, hi, rfl⟩ := List.mem_map.1 hu
          exact (hq i (by simpa using hi)).2.2
    | st fs =>
      rw [hk] at hm hp; simp only [TyM] at hm
      obtain ⟨fields, rfl, hfs⟩ := hm
      simp only [Bool.and_eq_true, beq_iff_eq] at hp
      obtain ⟨xs, n', rfl, _, hlen, hxl, hf⟩ := DataW.trod_struct hd h
      have hcl := cellsOf_eq hY.ok hpos
      have hle := offs_le fs 0 _ hp.2
      have each : ∀ i, i < fs.length → ∃ u : T, ∀ f, fs[i]? = some f → RC c u ((cs.drop f.2).take (Y f.1).cells) [] ∧ Typed Y n f.1 u := by
        intro i hi
        have hfi : fs[i]? = some fs[i] := List.getElem?_eq_getElem hi
        have hmem : fs[i] ∈ fs := List.getElem_mem hi
        have hft : ∃ F : Field, fields[i]? = some F ∧ (F.type, F.offset) = fs[i] := by
          have : (fields.toList.map fun f => (f.type, f.offset))[i]? = some fs[i] := by rw [hfs]; exact hfi
          rw [List.getElem?_map] at this
          cases hF : fields.toList[i]? with
          | none => simp [hF] at this
          | some F => simp only [hF, Option.map_some, Option.some.injEq] at this; exact ⟨F, by simpa using hF, this⟩
        obtain ⟨F, hF, hFe⟩ := hft
        have hg := hf i F hF
        have hpl : plainT Y n fs[i].1 = true := by simpa using List.all_eq_true.1 hp.1 fs[i] hmem
        have hfpos : 0 < (Y fs[i].1).cells := hY.fld hk _ hmem
        rw [show F.type = fs[i].1 by rw [← hFe], show F.offset = fs[i].2 by rw [← hFe], cellsOf_eq hY.ok hfpos] at hg
        have hxi : i < xs.length := by
          rw [hxl, ← Array.length_toList]
          have := congrArg List.length hfs
          simp at this ⊢; omega
        rw [List.getElem?_eq_getElem hxi] at hg
        obtain ⟨u, hu, ht⟩ := trod_tree n _ _ _ _ hpl hg
        exact ⟨u, fun f hf => by rw [hfi] at hf; cases hf; exact ⟨hu, ht⟩⟩
      obtain ⟨g, hg⟩ := Go.Deep.choose_lt each
      refine ⟨.nd ((List.range fs.length).map g), ?_, _, rfl, by simp, fun i f x hfi hxi => ?_⟩
      · have := offs_split (c := c) fs 0 _ cs g hp.2 (Nat.zero_le _) (by rw [hlen, hcl]) (fun i f hfi _ => (hg i (List.getElem?_eq_some_iff.1 hfi).1 f hfi).1) (fun i f hfi => by rw [hlen, hcl]; exact hle.2 i f hfi)
        simpa only [RC, List.drop_zero] using this
      · have hi := (List.getElem?_eq_some_iff.1 hfi).1
        simp [hi] at hxi; subst hxi
        exact (hg i hi f hfi).2
    | ar m e =>
      rw [hk] at hm hp; simp only [TyM] at hm; subst hm
      simp only [Bool.and_eq_true, beq_iff_eq] at hp
      obtain ⟨xs, n', rfl, _, hlen, hxl, hf⟩ := DataW.trod_array hd h
      have hepos : 0 < (Y e).cells := hY.el (.inr ⟨m, hk⟩)
      have hce := cellsOf_eq hY.ok hepos
      have hcl := cellsOf_eq hY.ok hpos
      rw [hcl, hp.2] at hlen
      have each : ∀ i, i < m → ∃ u : T, RC c u ((cs.drop (i * (Y e).cells)).take (Y e).cells) [] ∧ Typed Y n e u := by
        intro i hi
        have hg := hf i hi
        rw [hce, List.getElem?_eq_getElem (by rw [hxl]; exact hi)] at hg
        exact trod_tree n _ _ _ _ hp.1 hg
      obtain ⟨g, hg⟩ := Go.Deep.choose_lt each
      refine ⟨.nd ((List.range m).map g), ?_, _, rfl, by simp, fun x hx => ?_⟩
      · have := list_of (c := c) (es := (Y e).cells) m (fun i => (cs.drop (i * (Y e).cells)).take (Y e).cells) g fun i hi => (hg i hi).1
        rw [chunks (Y e).cells m cs hlen] at this
        exact this
      · obtain ⟨i, hi, rfl⟩ := List.mem_map.1 hx
        exact (hg i (by simpa using hi)).2
    | _ => simp [hk] at hp
end
end Go.Vm

namespace Go.Vm
open Go.ChangeShapes Go.WideShapes Go.ChangeAt Go.RowKit

theorem leaf_cells {v x : Value} (h1 : ∀ cs, v ≠ .agg cs) (h2 : v.cells.toList = [x]) : v = x := by
  cases v with
  | agg cs => exact absurd rfl (h1 cs)
  | _ => simpa [Value.cells] using h2

/-- a plain argument, as what a contract takes -/
theorem RX_of {P : Program} {Y : TypeId → TyI} {c : Cx} (hY : TysW P Y) {n : Nat} {t : TypeId} {u : T} {v : Value} {W : World} {base : Nat}
    (hp : plainT Y n t = true) (ht : Typed Y n t u) (hc : RC c u v.cells.toList []) (hv : Value.okWide P W .any base t v) : RX c u none v [] := by
  cases n with
  | zero => simp [plainT] at hp
  | succ n =>
    have hpos : 0 < (Y t).cells := by
      by_cases h0 : (Y t).k = .bad
      · simp [plainT, h0] at hp
      · exact hY.pos rfl h0
    obtain ⟨d, hd, hm⟩ := under_eq hY.ok hpos
    simp only [Typed] at ht
    simp only [plainT] at hp
    simp only [Value.okWide, hd] at hv
    cases hk : (Y t).k with
    | int k =>
      rw [hk] at ht hm; simp only [TyM] at hm; subst hm
      obtain ⟨z, rfl, _⟩ := ht
      refine ⟨rfl, rfl, leaf_cells (fun cs h => ?_) hc.1⟩
      subst h; simp [Cell.okWide, Cell.ok, hd] at hv
    | bool =>
      rw [hk] at ht hm; simp only [TyM] at hm; subst hm
      obtain ⟨z, rfl⟩ := ht
      refine ⟨rfl, rfl, leaf_cells (fun cs h => ?_) hc.1⟩
      subst h; simp [Cell.okWide, Cell.ok, hd] at hv
    | str =>
      rw [hk] at ht hm; simp only [TyM] at hm; subst hm
      obtain ⟨z, rfl, _⟩ := ht
      refine ⟨rfl, rfl, leaf_cells (fun cs h => ?_) hc.1⟩
      subst h; simp [Cell.okWide, Cell.ok, hd] at hv
    | sl e =>
      rw [hk] at ht hm; simp only [TyM] at hm; subst hm
      obtain ⟨l, rfl, _⟩ := ht
      obtain ⟨_, A, k, h1, h2, h3⟩ := hc
      refine ⟨rfl, rfl, A, k, leaf_cells (fun cs h => ?_) h1, h2, h3⟩
      subst h; simp [Cell.okWide, Cell.ok, hd] at hv
    | st fs =>
      rw [hk] at ht hm; simp only [TyM] at hm
      obtain ⟨fields, rfl, _⟩ := hm
      obtain ⟨l, rfl, _⟩ := ht
      obtain ⟨cs, rfl, _⟩ := hv
      exact ⟨rfl, cs, rfl, hc⟩
    | ar m e =>
      rw [hk] at ht hm; simp only [TyM] at hm; subst hm
      obtain ⟨l, rfl, _⟩ := ht
      obtain ⟨cs, rfl, _⟩ := hv
      exact ⟨rfl, cs, rfl, hc⟩
    | _ => simp [hk] at hp

theorem RXL_of {H : Type} {enc : TypeId × Value → H} {P : Program} {Y : TypeId → TyI} {c : Cx} {base b0 : Nat} {spare : Nat → Bool} {held : Bool} (hY : TysW P Y) (hZ : ∀ b, b < c.w.heap.size → c.Z b) (n : Nat) :
    ∀ (ts : List TypeId) (vs : List Value) (ds : List (DataW H)) (p : List MemPlace), (∀ t ∈ ts, plainT Y n t = true) →
    DataW.TrodAll enc P c.w base spare held ts vs ds p → (∀ (j : Nat) t v, ts[j]? = some t → vs[j]? = some v → Value.okWide P c.w .any b0 t v) →
    ∃ us : List T, RXL c us (ts.map fun _ => none) vs [] ∧ us.length = ts.length ∧ ∀ (i : Nat) t u, ts[i]? = some t → us[i]? = some u → Typed Y n t u
  | [], vs, ds, p, _, h, _ => by
    obtain ⟨rfl, rfl, rfl⟩ := trodAll_nil h
    exact ⟨[], ⟨rfl, rfl, rfl⟩, rfl, by simp⟩
  | t :: ts, vs, ds, p, hp, h, hv => by
    obtain ⟨v, vs1, d, ds1, a, b, rfl, rfl, rfl, h1, h2⟩ := trodAll_cons h
    obtain ⟨us, r1, r2, r3⟩ := RXL_of hY hZ n ts vs1 ds1 b (fun t ht => hp t (by simp [ht])) h2 fun j t v h1 h2 => hv (j + 1) t v (by simpa using h1) (by simpa using h2)
    obtain ⟨fuel, hf⟩ := h1
    obtain ⟨u, q1, q2⟩ := trod_tree hY hZ n t fuel _ _ (hp t (by simp)) hf
    refine ⟨u :: us, ⟨none, _, v, vs1, [], [], rfl, rfl, rfl, RX_of hY (hp t (by simp)) q2 q1 (hv 0 t v rfl rfl), r1⟩, by simp [r2], fun i t' u' h1 h2 => ?_⟩
    cases i with
    | zero => simp at h1 h2; subst h1; subst h2; exact q2
    | succ i => exact r3 i t' u' (by simpa using h1) (by simpa using h2)
end Go.Vm

namespace Go.Vm
open Go.ChangeShapes Go.WideShapes Go.ChangeAt Go.RowKit

theorem sameAt_old {W W' : World} (hold : ∀ b, b < W.heap.size → W'.heap[b]? = W.heap[b]?) {p : MemPlace} (hp : p.block < W.heap.size) : W.sameAt W' p := by
  cases p with
  | cell b off => simp only [World.sameAt, World.cell?]; rw [hold b hp]
  | map b => exact hold b hp

theorem all_stays {H : Type} {enc : TypeId × Value → H} {P : Program} {W W' : World} {sp : Nat → Bool} (hl : laidOutB P = true) :
    ∀ (ts : List TypeId) (vs : List Value) (ds : List (DataW H)) (p : List MemPlace), (∀ t ∈ ts, P.readableRec t = true ∧ t < P.types.size) →
    DataW.TrodAll enc P W 0 (fun _ => true) true ts vs ds p → (∀ x ∈ p, W.sameAt W' x) → (∀ x ∈ p, sp x.block = true) → DataW.TrodAll enc P W' 0 sp true ts vs ds p
  | [], vs, ds, p, _, h, _, _ => by
    obtain ⟨rfl, rfl, rfl⟩ := trodAll_nil h
    rfl
  | t :: ts, vs, ds, p, hr, h, hs, hsp => by
    obtain ⟨v, vs1, d, ds1, a, b, rfl, rfl, rfl, h1, h2⟩ := trodAll_cons h
    obtain ⟨q1, q2⟩ := hr t (by simp)
    exact ⟨a, b, WideElems.Trod_stays hl q1 q2 h1 (fun x hx => hs x (by simp [hx])) (fun x hx => hsp x (by simp [hx])),
      all_stays hl ts vs1 ds1 b (fun t ht => hr t (by simp [ht])) h2 (fun x hx => hs x (by simp [hx])) (fun x hx => hsp x (by simp [hx])), rfl⟩

theorem kept_old {W W' : World} (may : MemPlace → Prop) (hold : ∀ b, b < W.heap.size → W'.heap[b]? = W.heap[b]?) (hk : Keep W W') : W.keptBut W' may := by
  refine ⟨hk.os, hk.out, fun i hi => ?_⟩
  have := hold i hi
  have h2 := (World.keptBut_refl W may).2.2 i hi
  rw [this]; exact h2

/-- THE POST of a law that answers true and leaves all that was there as it was -/
theorem post_true {H : Type} {enc : TypeId × Value → H} {P : Program} {f : Func} {s : ChangeSpec} {W W' : World} {args : Array Value} {ds gs : List (DataW H)} {before : List MemPlace} {tb : TypeId}
    (hl : laidOutB P = true) (hr : ∀ t ∈ f.params.toList, P.readableRec t = true ∧ t < P.types.size) (hv0 : s.vars = [])
    (hW : DataW.Whole enc P f.params.toList s.vars false W args.toList ds gs before)
    (hres : (s.fn H (ds ++ gs)).results = [.lit (.bool true)]) (hargs : (s.fn H (ds ++ gs)).args = ds) (hvs : (s.fn H (ds ++ gs)).vars = [])
    (hrt : f.resultTypes = #[tb]) (hb : P.underlying tb = some .bool)
    (hold : ∀ b, b < W.heap.size → W'.heap[b]? = W.heap[b]?) (hk : Keep W W') : s.post enc P f false true false false W args (.bool true) W' := by
  have hlt : ∀ p ∈ before, p.block < W.heap.size := fun p hp => hW.lt p hp
  have hsp : ∀ p ∈ before, (fun b => decide (b < W.heap.size)) p.block = true := fun p hp => by simpa using hlt p hp
  have hW0 := hW
  obtain ⟨p, q, hA, hV, rfl, _⟩ := hW
  rw [hv0] at hV
  obtain ⟨rfl, rfl⟩ := trodVars_none hV
  simp only [List.append_nil] at *
  refine ⟨ds, [], p, [], p, [], by simpa using hW0, ?_, ?_, ?_, ?_, fun h => by cases h⟩
  · simp only [List.append_nil]
    rw [hres, hrt]
    exact trodAll_mk1 (shut_bool hb true)
  · simp only [List.append_nil]
    rw [hargs]
    exact all_stays hl _ _ _ _ hr hA (fun x hx => sameAt_old hold (hlt x hx)) hsp
  · simp only [List.append_nil]
    rw [hvs, hv0]; rfl
  · exact World.keptBut_mono (fun _ hp => hp) (kept_old _ hold hk)

/-- FROM A CONTRACT TO A CALL: the law is given any lent arguments and answers true -/
theorem calls_of {H : Type} {enc : TypeId × Value → H} {P : Program} {Y : TypeId → TyI} (hY : TysW P Y) (n : Nat) {fid : FuncId} {W : World} {base : Nat} {ts : List TypeId} {args : Array Value} {ds : List (DataW H)} {p : List MemPlace}
    (hp : ∀ t ∈ ts, plainT Y n t = true) (hA : DataW.TrodAll enc P W 0 (fun _ => true) true ts args.toList ds p)
    (hval : ∀ (j : Nat) t v, ts[j]? = some t → args.toList[j]? = some v → Value.okWide P W .any base t v)
    (law : ∀ us : List T, us.length = ts.length → (∀ (i : Nat) t u, ts[i]? = some t → us[i]? = some u → Typed Y n t u) → CallR P fid us [] (.bool true)) :
    Calls P fid args W fun e W' => e = .returned (.bool true) ∧ (∀ b, b < W.heap.size → W'.heap[b]? = W.heap[b]?) ∧ Keep W W' := by
  let c : Cx := { w := W, Z := fun b => b < W.heap.size, Zs := fun _ => False, μ := fun _ _ => none, R := fun _ _ => False }
  obtain ⟨us, h1, h2, h3⟩ := RXL_of (c := c) hY (fun b hb => hb) n ts args.toList ds p hp hA hval
  have pre : Pre c [] := ⟨fun _ _ => rfl, List.nodup_nil, by simp, fun _ h => h.elim, fun _ h => h, by simp⟩
  have := (law us h2 h3).2.2 c _ args.toList [] pre (RAL_of h1)
  simp only [Array.toArray_toList] at this
  refine this.mono ?_
  rintro e W' ⟨r, c', ris, b1, b2, rfl, rfl, _, hpost, hr, _⟩
  refine ⟨?_, fun b hb => hpost.ff b hb (by simp), hpost.kp⟩
  obtain ⟨i, _, _, _, h⟩ := hr
  simp only [RV] at h
  rw [h]
end Go.Vm
namespace Go.Vm
/-! ### reading 'Typed' -/
section
variable {Y : TypeId → TyI} {n : Nat} {t : TypeId} {u : T}
theorem typed_int {k : IntKind} (h : Typed Y (n + 1) t u) (hk : (Y t).k = .int k) : ∃ v, u = .int k v ∧ (Lit.int k v).wf = true := by
  simpa only [Typed, hk] using h
theorem typed_bool (h : Typed Y (n + 1) t u) (hk : (Y t).k = .bool) : ∃ b, u = .bool b := by
  simpa only [Typed, hk] using h
theorem typed_str (h : Typed Y (n + 1) t u) (hk : (Y t).k = .str) : ∃ s : ByteArray, u = .str s ∧ s.size ≤ maxLen := by
  simpa only [Typed, hk] using h
theorem typed_sl {e : TypeId} (h : Typed Y (n + 1) t u) (hk : (Y t).k = .sl e) : ∃ l, u = .sl .b l ∧ l.length ≤ maxLen ∧ ∀ x ∈ l, Typed Y n e x := by
  simpa only [Typed, hk] using h
theorem typed_ar {m : Nat} {e : TypeId} (h : Typed Y (n + 1) t u) (hk : (Y t).k = .ar m e) : ∃ l, u = .nd l ∧ l.length = m ∧ ∀ x ∈ l, Typed Y n e x := by
  simpa only [Typed, hk] using h
def TypedL (Y : TypeId → TyI) (n : Nat) : List (TypeId × Nat) → List T → Prop
  | [], l => l = []
  | f :: fs, l => ∃ x l', l = x :: l' ∧ Typed Y n f.1 x ∧ TypedL Y n fs l'
theorem typedL_of : ∀ (fs : List (TypeId × Nat)) (l : List T), l.length = fs.length → (∀ (i : Nat) f x, fs[i]? = some f → l[i]? = some x → Typed Y n f.1 x) → TypedL Y n fs l
  | [], [], _, _ => rfl
  | [], _ :: _, h, _ => by simp at h
  | _ :: _, [], h, _ => by simp at h
  | f :: fs, x :: l, h, hh => ⟨x, l, rfl, hh 0 f x rfl rfl, typedL_of fs l (by simpa using h) fun i f x h1 h2 => hh (i + 1) f x (by simpa using h1) (by simpa using h2)⟩
theorem typed_st {fs : List (TypeId × Nat)} (h : Typed Y (n + 1) t u) (hk : (Y t).k = .st fs) : ∃ l, u = .nd l ∧ TypedL Y n fs l := by
  simp only [Typed, hk] at h
  obtain ⟨l, rfl, h1, h2⟩ := h
  exact ⟨l, rfl, typedL_of fs l h1 h2⟩
theorem exists_map {α β : Type} {f : β → α} : ∀ (l : List α), (∀ x ∈ l, ∃ b, x = f b) → ∃ l' : List β, l = l'.map f
  | [], _ => ⟨[], rfl⟩
  | x :: l, h => by
    obtain ⟨b, rfl⟩ := h x (by simp)
    obtain ⟨l', rfl⟩ := exists_map l fun y hy => h y (by simp [hy])
    exact ⟨b :: l', rfl⟩
end
end Go.Vm

namespace Go.Vm

/-! ### Go's plain types as Lean's, lent (b) and owned (o) -/
class Enc (α : Type) where
  b : α → T
  o : α → T
  es : Nat
  lim : Nat → α → Prop
  flat : Bool
  sz : α → Int → Int
  tyOk : (TypeId → TyI) → Nat → TypeId → Bool
  lendB : ∀ k a, lendA k (b a) = .pure (b a)
  lendO : ∀ k a, lendA k (o a) = .pure (b a)
  cloO : ∀ a, (o a).clo = true
  renB : ∀ π a, (b a).ren π = b a
  renO : ∀ π a, (o a).ren π = o a
  tgO : ∀ τ a, (o a).tg τ = o a
  szB : ∀ a, (b a).size = es
  szO : ∀ a, (o a).size = es
  celB : ∀ a, (b a).cel = true
  nwB : ∀ a, (b a).nw = true
  ndO : ∀ a, (o a).isNd = (b a).isNd
  dec : ∀ Y n t u, tyOk Y n t = true → Typed Y n t u → ∃ a, u = b a ∧ lim maxLen a
  flatLim : flat = true → ∀ n a, lim n a
  flatSz : flat = true → ∀ a x, sz a x = x
  szLe : ∀ a (x : Int), 0 ≤ x → sz a x ≤ x
  szNeg : ∀ a (x : Int), x < 0 → sz a x < 0
  szLim : ∀ a (x : Int), 0 ≤ sz a x → x ≤ 1048576 → lim 1048576 a
  limUp : ∀ n m a, n ≤ m → lim n a → lim m a

class EncL (α : Type) where
  bl : α → List T
  ol : α → List T
  es : Nat
  lim : Nat → α → Prop
  sz : α → Int → Int
  tyOk : (TypeId → TyI) → Nat → List (TypeId × Nat) → Bool
  lendB : ∀ k a, lendAL k (bl a) = .pure (bl a)
  lendO : ∀ k a, lendAL k (ol a) = .pure (bl a)
  cloO : ∀ a, cloL (ol a) = true
  renB : ∀ π a, renL π (bl a) = bl a
  renO : ∀ π a, renL π (ol a) = ol a
  tgO : ∀ τ a, tgL τ (ol a) = ol a
  szB : ∀ a, sizeL (bl a) = es
  szO : ∀ a, sizeL (ol a) = es
  nwB : ∀ a, nwL (bl a) = true
  dec : ∀ Y n fs u, tyOk Y n fs = true → TypedL Y n fs u → ∃ a, u = bl a ∧ lim maxLen a
  szLe : ∀ a (x : Int), 0 ≤ x → sz a x ≤ x
  szNeg : ∀ a (x : Int), x < 0 → sz a x < 0
  szLim : ∀ a (x : Int), 0 ≤ sz a x → x ≤ 1048576 → lim 1048576 a
  limUp : ∀ n m a, n ≤ m → lim n a → lim m a
  flat : Bool
  flatLim : flat = true → ∀ n a, lim n a
  flatSz : flat = true → ∀ a x, sz a x = x

attribute [simp] Enc.lendB Enc.lendO Enc.cloO Enc.renB Enc.renO Enc.tgO Enc.szB Enc.szO Enc.celB Enc.nwB

instance : Enc Int where
  b n := .int .i64 n
  o n := .int .i64 n
  es := 1
  lim _ _ := True
  flat := true
  sz _ x := x
  tyOk Y n t := match n with | 0 => false | _ + 1 => match (Y t).k with | .int .i64 => true | _ => false
  lendB _ _ := rfl
  lendO _ _ := rfl
  cloO _ := rfl
  renB _ _ := rfl
  renO _ _ := rfl
  tgO _ _ := rfl
  szB _ := rfl
  szO _ := rfl
  celB _ := rfl
  nwB _ := rfl
  ndO _ := rfl
  dec Y n t u h ht := by
    cases n with
    | zero => simp at h
    | succ n =>
      simp only at h
      split at h
      · rename_i hk
        obtain ⟨v, rfl, _⟩ := typed_int ht hk
        exact ⟨v, rfl, trivial⟩
      · cases h
  flatLim _ _ _ := trivial
  flatSz _ _ _ := rfl
  szLe _ _ _ := Int.le_refl _
  szNeg _ _ h := h
  szLim _ _ _ _ := trivial
  limUp _ _ _ _ _ := trivial

instance : Enc Bool where
  b n := .bool n
  o n := .bool n
  es := 1
  lim _ _ := True
  flat := true
  sz _ x := x
  tyOk Y n t := match n with | 0 => false | _ + 1 => match (Y t).k with | .bool => true | _ => false
  lendB _ _ := rfl
  lendO _ _ := rfl
  cloO _ := rfl
  renB _ _ := rfl
  renO _ _ := rfl
  tgO _ _ := rfl
  szB _ := rfl
  szO _ := rfl
  celB _ := rfl
  nwB _ := rfl
  ndO _ := rfl
  dec Y n t u h ht := by
    cases n with
    | zero => simp at h
    | succ n =>
      simp only at h
      split at h
      · rename_i hk
        obtain ⟨v, rfl⟩ := typed_bool ht hk
        exact ⟨v, rfl, trivial⟩
      · cases h
  flatLim _ _ _ := trivial
  flatSz _ _ _ := rfl
  szLe _ _ _ := Int.le_refl _
  szNeg _ _ h := h
  szLim _ _ _ _ := trivial
  limUp _ _ _ _ _ := trivial

section
variable {α : Type} [Enc α]
@[simp] theorem lendAL_b (k : T → RM T) : ∀ l : List α, lendAL k (l.map Enc.b) = .pure (l.map Enc.b)
  | [] => rfl
  | x :: l => by simp [lendAL, RM.bind, lendAL_b k l]
@[simp] theorem lendAL_o (k : T → RM T) : ∀ l : List α, lendAL k (l.map Enc.o) = .pure (l.map Enc.b)
  | [] => rfl
  | x :: l => by simp [lendAL, RM.bind, lendAL_o k l]
@[simp] theorem lendKL_b (k : T → RM T) : ∀ l : List α, lendKL (lendA k) (l.map Enc.b) = .pure (l.map Enc.b)
  | [] => rfl
  | x :: l => by simp [lendKL, RM.bind, lendKL_b k l]
@[simp] theorem lendKL_o (k : T → RM T) : ∀ l : List α, lendKL (lendA k) (l.map Enc.o) = .pure (l.map Enc.b)
  | [] => rfl
  | x :: l => by simp [lendKL, RM.bind, lendKL_o k l]
@[simp] theorem cloL_o : ∀ l : List α, cloL (l.map Enc.o) = true
  | [] => rfl
  | x :: l => by simp [cloL, cloL_o l]
@[simp] theorem renL_b (π : List Nat) : ∀ l : List α, renL π (l.map Enc.b) = l.map Enc.b
  | [] => rfl
  | x :: l => by simp [renL, renL_b π l]
@[simp] theorem renL_o (π : List Nat) : ∀ l : List α, renL π (l.map Enc.o) = l.map Enc.o
  | [] => rfl
  | x :: l => by simp [renL, renL_o π l]
@[simp] theorem tgL_o (τ : Tag → Tag) : ∀ l : List α, tgL τ (l.map Enc.o) = l.map Enc.o
  | [] => rfl
  | x :: l => by simp [tgL, tgL_o τ l]
@[simp] theorem cloAL_o : ∀ l : List α, cloAL (l.map Enc.o) = true
  | [] => rfl
  | x :: l => by simp [cloAL, clo_A _ (Enc.cloO x), cloAL_o l]
omit [Enc α] in
theorem map_get {β : Type} (f : α → β) (l : List α) (i : Nat) (h : i < l.length) : (l.map f)[i]? = some (f l[i]) := by simp [h]

def szFold : List α → Int → Int
  | [], x => x
  | a :: l, x => if Enc.sz a x < 0 then -1 else szFold l (Enc.sz a x)
theorem szFold_le : ∀ (l : List α) (x : Int), 0 ≤ x → szFold l x ≤ x
  | [], x, _ => Int.le_refl _
  | a :: l, x, h => by
    unfold szFold
    have := Enc.szLe a x h
    split
    · omega
    · have := szFold_le l (Enc.sz a x) (by omega); omega
theorem szFold_lim : ∀ (l : List α) (x : Int), 0 ≤ szFold l x → 0 ≤ x → x ≤ 1048576 → ∀ a ∈ l, Enc.lim 1048576 a
  | [], _, _, _, _, a, ha => by simp at ha
  | c :: l, x, h, h0, hx, a, ha => by
    unfold szFold at h
    split at h
    · omega
    · have h1 := Enc.szLe c x h0
      rcases List.mem_cons.1 ha with rfl | ha
      · exact Enc.szLim a x (by omega) hx
      · exact szFold_lim l (Enc.sz c x) h (by omega) (by omega) a ha

instance : Enc (List α) where
  b l := .sl .b (l.map Enc.b)
  o l := .ow (Enc.es α) (l.map Enc.o)
  es := 1
  lim n l := l.length ≤ n ∧ ∀ a ∈ l, Enc.lim n a
  flat := false
  sz l x := if x - l.length < 0 then -1 else if Enc.flat α then x - l.length else szFold l (x - l.length)
  tyOk Y n t := match n with | 0 => false | n + 1 => match (Y t).k with | .sl e => Enc.tyOk α Y n e | _ => false
  lendB k l := by simp [lendA, RM.bind]
  lendO k l := by simp [lendA, RM.bind]
  cloO l := by simp [T.clo]
  renB π l := by simp [T.ren]
  renO π l := by simp [T.ren]
  tgO τ l := by simp [T.tg]
  szB _ := rfl
  szO _ := rfl
  celB _ := rfl
  nwB _ := rfl
  ndO _ := rfl
  dec Y n t u h ht := by
    cases n with
    | zero => simp at h
    | succ n =>
      simp only at h
      split at h
      · rename_i e hk
        obtain ⟨l, rfl, hl, he⟩ := typed_sl ht hk
        have : ∃ l' : List α, l = l'.map Enc.b ∧ ∀ a ∈ l', Enc.lim maxLen a := by
          clear hl ht
          induction l with
          | nil => exact ⟨[], rfl, by simp⟩
          | cons x l ih =>
            obtain ⟨a, rfl, ha⟩ := Enc.dec Y n e x h (he x (by simp))
            obtain ⟨l', rfl, hl'⟩ := ih fun y hy => he y (by simp [hy])
            exact ⟨a :: l', rfl, by simpa using ⟨ha, hl'⟩⟩
        obtain ⟨l', rfl, hl'⟩ := this
        exact ⟨l', rfl, by simpa using hl, hl'⟩
      · cases h
  flatLim h := by cases h
  flatSz h := by cases h
  szLe l x h := by
    split
    · omega
    · split
      · omega
      · have := szFold_le l (x - l.length) (by omega); omega
  szNeg l x h := by rw [if_pos (by omega)]; omega
  szLim l x h hx := by
    split at h
    · omega
    · split at h
      · rename_i hf
        refine ⟨by omega, fun a _ => ?_⟩
        exact Enc.flatLim hf _ a
      · refine ⟨by omega, szFold_lim l _ h (by omega) (by omega)⟩
  limUp n m l h := fun ⟨h1, h2⟩ => ⟨by omega, fun a ha => Enc.limUp n m a h (h2 a ha)⟩
end

instance : EncL Unit where
  bl _ := []
  ol _ := []
  es := 0
  lim _ _ := True
  sz _ x := x
  tyOk _ _ fs := match fs with | [] => true | _ => false
  lendB _ _ := rfl
  lendO _ _ := rfl
  cloO _ := rfl
  renB _ _ := rfl
  renO _ _ := rfl
  tgO _ _ := rfl
  szB _ := rfl
  szO _ := rfl
  nwB _ := rfl
  dec Y n fs u h ht := by
    cases fs with
    | nil => exact ⟨(), ht, trivial⟩
    | cons _ _ => simp at h
  szLe _ _ _ := Int.le_refl _
  szNeg _ _ h := h
  szLim _ _ _ _ := trivial
  limUp _ _ _ _ _ := trivial
  flat := true
  flatLim _ _ _ := trivial
  flatSz _ _ _ := rfl

instance {α β : Type} [Enc α] [EncL β] : EncL (α × β) where
  bl x := Enc.b x.1 :: EncL.bl x.2
  ol x := Enc.o x.1 :: EncL.ol x.2
  es := Enc.es α + EncL.es β
  lim n x := Enc.lim n x.1 ∧ EncL.lim n x.2
  sz a x := if Enc.flat α then EncL.sz a.2 x else if Enc.sz a.1 x < 0 then -1 else EncL.sz a.2 (Enc.sz a.1 x)
  tyOk Y n fs := match fs with | [] => false | f :: fs => Enc.tyOk α Y n f.1 && EncL.tyOk β Y n fs
  lendB k x := by simp [lendAL, RM.bind, EncL.lendB]
  lendO k x := by simp [lendAL, RM.bind, EncL.lendO]
  cloO x := by simp [cloL, EncL.cloO]
  renB π x := by simp [renL, EncL.renB]
  renO π x := by simp [renL, EncL.renO]
  tgO τ x := by simp [tgL, EncL.tgO]
  szB x := by simp [sizeL, EncL.szB]
  szO x := by simp [sizeL, EncL.szO]
  nwB x := by simp [nwL, EncL.nwB]
  dec Y n fs u h ht := by
    cases fs with
    | nil => simp at h
    | cons f fs =>
      simp only [Bool.and_eq_true] at h
      obtain ⟨x, l', rfl, h1, h2⟩ := ht
      obtain ⟨a, rfl, ha⟩ := Enc.dec Y n f.1 x h.1 h1
      obtain ⟨b, rfl, hb⟩ := EncL.dec Y n fs l' h.2 h2
      exact ⟨(a, b), rfl, ha, hb⟩
  szLe a x h := by
    split
    · exact EncL.szLe _ _ h
    · split
      · omega
      · have h1 := Enc.szLe a.1 x h
        have h2 := EncL.szLe a.2 (Enc.sz a.1 x) (by omega); omega
  szNeg a x h := by
    split
    · exact EncL.szNeg _ _ h
    · rw [if_pos (Enc.szNeg a.1 x h)]; omega
  szLim a x h hx := by
    split at h
    · rename_i hf
      exact ⟨Enc.flatLim hf _ _, EncL.szLim a.2 x h hx⟩
    · split at h
      · omega
      · by_cases h0 : 0 ≤ x
        · have h1 := Enc.szLe a.1 x h0
          exact ⟨Enc.szLim a.1 x (by omega) hx, EncL.szLim a.2 _ h (by omega)⟩
        · have := Enc.szNeg a.1 x (by omega); omega
  limUp n m a h := fun ⟨h1, h2⟩ => ⟨Enc.limUp n m _ h h1, EncL.limUp n m _ h h2⟩
  flat := Enc.flat α && EncL.flat β
  flatLim h n a := by
    simp only [Bool.and_eq_true] at h
    exact ⟨Enc.flatLim h.1 n _, EncL.flatLim h.2 n _⟩
  flatSz h a x := by
    simp only [Bool.and_eq_true] at h
    simp [h.1, EncL.flatSz h.2]

instance {α β : Type} [Enc α] [EncL β] : Enc (α × β) where
  b x := .nd (EncL.bl x)
  o x := .nd (EncL.ol x)
  es := EncL.es (α × β)
  lim := EncL.lim
  flat := EncL.flat (α × β)
  sz := EncL.sz
  tyOk Y n t := match n with | 0 => false | n + 1 => match (Y t).k with | .st fs => EncL.tyOk (α × β) Y n fs | _ => false
  lendB k x := by simp [lendA, RM.bind, EncL.lendB]
  lendO k x := by simp [lendA, RM.bind, EncL.lendO]
  cloO x := by simp [T.clo, EncL.cloO]
  renB π x := by simp [T.ren, EncL.renB]
  renO π x := by simp [T.ren, EncL.renO]
  tgO τ x := by simp [T.tg, EncL.tgO]
  szB x := by simp [T.size, EncL.szB]
  szO x := by simp [T.size, EncL.szO]
  celB _ := rfl
  nwB x := by simp [T.nw, EncL.nwB]
  ndO _ := rfl
  dec Y n t u h ht := by
    cases n with
    | zero => simp at h
    | succ n =>
      simp only at h
      split at h
      · rename_i fs hk
        obtain ⟨l, rfl, hl⟩ := typed_st ht hk
        obtain ⟨a, rfl, ha⟩ := EncL.dec Y n fs l h hl
        exact ⟨a, rfl, ha⟩
      · cases h
  szLe := EncL.szLe
  szNeg := EncL.szNeg
  szLim := EncL.szLim
  limUp := EncL.limUp
  flatLim := EncL.flatLim
  flatSz := EncL.flatSz

/-! ### an array that is filled from the front -/
section
variable {α : Type} [Enc α]
def fillG (z : T) (l : List α) (i : Nat) : List T := (l.take i).map Enc.o ++ List.replicate (l.length - i) z
theorem fill_zero (z : T) (l : List α) : fillG z l 0 = List.replicate l.length z := by simp [fillG]
theorem fill_all (z : T) (l : List α) : fillG z l l.length = l.map Enc.o := by simp [fillG]
theorem fill_len (z : T) (l : List α) (i : Nat) (h : i ≤ l.length) : (fillG z l i).length = l.length := by simp [fillG]; omega
theorem fill_get (z : T) (l : List α) (i : Nat) (h : i < l.length) : (fillG z l i)[i]? = some z := by
  unfold fillG
  rw [List.getElem?_append_right (by simp; omega)]
  simp [List.getElem?_replicate]; omega
theorem fill_set (z : T) (l : List α) (i : Nat) (h : i < l.length) : (fillG z l i).set i (Enc.o l[i]) = fillG z l (i + 1) := by
  unfold fillG
  rw [List.set_append_right _ _ (by simp; omega)]
  have e1 : l.length - i = (l.length - (i + 1)) + 1 := by omega
  rw [e1, List.replicate_succ]
  have e2 : i - ((l.take i).map (Enc.o (α := α))).length = 0 := by simp; omega
  have e3 : (l.take (i + 1)).map Enc.o = (l.take i).map Enc.o ++ [Enc.o l[i]] := by
    rw [List.take_succ_eq_append_getElem h, List.map_append]; rfl
  rw [e2, List.set_cons_zero, e3]
  simp

/-- a round of filling: what was stored soaks up what it refers to -/
theorem Norm.fill {tm : List T} {H : Heap} (e j : Nat) {z : T} {l : List α} {i es : Nat} {X : T} (ha : H.at e j = some (.arr es ((fillG z l i).set i X) false)) (hi : i < l.length)
    (hs : (soakS X (H.put e j .gone)).1 = Enc.o l[i]) : Norm ⟨tm, H⟩ ⟨tm, (soakS X (H.put e j .gone)).2.put e j (.arr es (fillG z l (i + 1)) false)⟩ := by
  have := Norm.soakArr (tm := tm) e j i (t := X) ha (List.getElem?_set_self (by rw [fill_len z l i (by omega)]; exact hi))
  rw [hs] at this
  simp only [List.set_set] at this
  rwa [fill_set z l i hi] at this
end

theorem mk_fill {α : Type} [Enc α] {Y : TypeId → TyI} (own ty : Nat) (l : List α) (hl : l.length ≤ 1048576) {e : TypeId} (z : T) (es by' : Nat) (k : Ty) (h1 : Y ty = ⟨.sl e, 1, 24⟩) (h2 : Y e = ⟨k, es, by'⟩) (h3 : k.isFn = false) (hz : zeroT Y 9 e = z)
    (hb : 0 < es ∧ by' ≤ 1000000) : makeSliceM Y own ty (.int .i64 l.length) (.int .i64 l.length) = .pure { v := .ref own 0 0 l.length, news := [.arr es (fillG z l 0) false] } := by
  rw [fill_zero]
  have hp : (by' : Int) * l.length ≤ 2 ^ 47 := by
    have h5 : by' * l.length ≤ 1000000 * 1048576 := Nat.mul_le_mul hb.2 hl
    have h6 : ((by' * l.length : Nat) : Int) ≤ (1000000 * 1048576 : Nat) := Int.ofNat_le.2 h5
    rw [Int.natCast_mul] at h6; omega
  have hq : (l.length : Int) < 2 ^ 62 := by omega
  simp only [makeSliceM, h1, h2, h3]
  rw [if_pos ⟨trivial, Int.natCast_nonneg _, hb.1, hp, hq, trivial⟩]
  simp [hz]
end Go.Vm
namespace Go.Vm
theorem renL_app (π : List Nat) : ∀ l m : List T, renL π (l ++ m) = renL π l ++ renL π m
  | [], m => rfl
  | t :: l, m => by simp [renL, renL_app π l m]
theorem renL_rep (π : List Nat) (z : T) (hz : z.ren π = z) : ∀ n, renL π (List.replicate n z) = List.replicate n z
  | 0 => rfl
  | n + 1 => by simp [List.replicate_succ, renL, hz, renL_rep π z hz n]
section
variable {α : Type} [Enc α]
theorem renL_fill (π : List Nat) (z : T) (l : List α) (i : Nat) (hz : z.ren π = z) : renL π (fillG z l i) = fillG z l i := by
  simp only [fillG, renL_app, renL_o, renL_rep π z hz]
theorem sz_list (l : List α) (x : Int) : Enc.sz l x = if x - l.length < 0 then -1 else if Enc.flat α then x - l.length else szFold l (x - l.length) := rfl
end
/-- slices.IndexFunc -/
def idxOf {α : Type} (p : α → Bool) (l : List α) : Int := match l.findIdx? p with | some i => i | none => -1
theorem idxOf_eq {α : Type} (p : α → Bool) (l : List α) {i : Nat} (hi : i < l.length) (h : p l[i] = true) (hp : ∀ j (hj : j < i), p (l[j]'(by omega)) = false) : idxOf p l = i := by
  have hf : l.findIdx? p = some i := List.findIdx?_eq_some_iff_getElem.2 ⟨hi, h, fun j hj => by simp [hp j hj]⟩
  simp [idxOf, hf]
theorem idxOf_none {α : Type} (p : α → Bool) (l : List α) (hp : ∀ j (hj : j < l.length), p l[j] = false) : idxOf p l = -1 := by
  have hf : l.findIdx? p = none := by
    rw [List.findIdx?_eq_none_iff]
    intro x hx
    obtain ⟨j, hj, rfl⟩ := List.getElem_of_mem hx
    exact hp j hj
  simp [idxOf, hf]
theorem idx_any {α : Type} (p : α → Bool) (l : List α) : decide (0 ≤ idxOf p l) = l.any p := by
  unfold idxOf
  cases h : l.findIdx? p with
  | none =>
    rw [List.findIdx?_eq_none_iff] at h
    have : l.any p = false := by rw [List.any_eq_false]; intro x hx; simp [h x hx]
    rw [this]; decide
  | some i =>
    obtain ⟨hlt, h1, _⟩ := List.findIdx?_eq_some_iff_getElem.1 h
    have : l.any p = true := List.any_eq_true.2 ⟨l[i], List.getElem_mem hlt, h1⟩
    rw [this]; simp
end Go.Vm
namespace Go.Vm
theorem flat_int : Enc.flat Int = true := rfl
theorem flat_bool : Enc.flat Bool = true := rfl
section
variable {α β : Type} [Enc α] [EncL β]
theorem flat_list : Enc.flat (List α) = false := rfl
theorem flat_prod : Enc.flat (α × β) = (Enc.flat α && EncL.flat β) := rfl
theorem flatl_prod : EncL.flat (α × β) = (Enc.flat α && EncL.flat β) := rfl
theorem szl_prod (x : α × β) (b : Int) : EncL.sz x b = if Enc.flat α then EncL.sz x.2 b else if Enc.sz x.1 b < 0 then -1 else EncL.sz x.2 (Enc.sz x.1 b) := rfl
end
theorem flatl_unit : EncL.flat Unit = true := rfl
theorem szl_unit (x : Unit) (b : Int) : EncL.sz x b = b := rfl
theorem ren_int {π : List Nat} {k : IntKind} {n : Int} : (T.int k n).ren π = .int k n := rfl
theorem ren_bool {π : List Nat} {n : Bool} : (T.bool n).ren π = .bool n := rfl
theorem ren_str {π : List Nat} {n : ByteArray} : (T.str n).ren π = .str n := rfl
theorem ren_nils {π : List Nat} {n : Nat} : (T.nils n).ren π = .nils n := rfl
theorem ren_nilI {π : List Nat} : (T.nilI).ren π = .nilI := rfl
theorem ren_nilP {π : List Nat} : (T.nilP).ren π = .nilP := rfl
theorem ren_nd {π : List Nat} {l : List T} : (T.nd l).ren π = .nd (renL π l) := rfl
theorem renL_nil {π : List Nat} : renL π [] = [] := rfl
theorem renL_cons {π : List Nat} {t : T} {l : List T} : renL π (t :: l) = t.ren π :: renL π l := rfl
end Go.Vm
namespace Go.Vm
theorem all_of {α : Type} (p : α → Bool) (l : List α) (h : ∀ j (hj : j < l.length), p l[j] = true) : l.all p = true := by
  rw [List.all_eq_true]
  intro x hx
  obtain ⟨j, hj, rfl⟩ := List.getElem_of_mem hx
  exact h j hj
theorem all_not {α : Type} (p : α → Bool) (l : List α) (i : Nat) (hi : i < l.length) (h : p l[i] = false) : l.all p = false := by
  rw [List.all_eq_false]
  exact ⟨l[i], List.getElem_mem hi, by simp [h]⟩
theorem not_any_not {α : Type} (p : α → Bool) (l : List α) : (!l.any fun x => !p x) = l.all p := by
  induction l with
  | nil => rfl
  | cons x l ih => simp only [List.any_cons, List.all_cons, Bool.not_or, Bool.not_not, ih]
theorem any_not {α : Type} (p : α → Bool) (l : List α) : (l.any fun x => !p x) = !l.all p := by rw [← not_any_not, Bool.not_not]
end Go.Vm
namespace Go.Vm
@[simp] theorem take_map_len {α β : Type} (f : α → β) (l : List α) : (l.map f).take l.length = l.map f := by rw [List.take_of_length_le]; simp
end Go.Vm

namespace Go.Vm

/-! ### what an object holds becomes objects of a new entry -/
theorem RRows_open {c : Cx} {es : Nat} : ∀ {l : List T} {cs : List Value} {bs : List Nat} {i : Nat} {t : T}, RRows c es l cs bs → l[i]? = some t →
    ∃ ct b1 b2 b3, bs = b1 ++ (b2 ++ b3) ∧ RC c t ct b2 ∧ ∀ (c' : Cx) (u : T) (b2' : List Nat), c.Le c' → (∀ b : Nat, c'.w.heap[b]? = c.w.heap[b]?) → RC c' u ct b2' → RRows c' es (l.set i u) cs (b1 ++ (b2' ++ b3))
  | [], _, _, _, _, _, h => by simp at h
  | x :: l, _, _, 0, t, ⟨c1, c2, b1, b2, rfl, rfl, hl, h1, h2⟩, h => by
    simp at h; subst h
    exact ⟨c1, [], b1, b2, rfl, h1, fun c' u b2' hle hag hu => ⟨c1, c2, b2', b2, rfl, by simp, hl, hu, h2.mono hle es l (fun b _ => hag b)⟩⟩
  | x :: l, _, _, i + 1, t, ⟨c1, c2, b1, b2, rfl, rfl, hl, h1, h2⟩, h => by
    obtain ⟨ct, d1, d2, d3, rfl, hr, hs⟩ := RRows_open h2 (by simpa using h)
    exact ⟨ct, b1 ++ d1, d2, d3, by simp, hr, fun c' u b2' hle hag hu => ⟨c1, c2, b1, d1 ++ (b2' ++ d3), rfl, by simp, hl, h1.mono hle x (fun b _ => hag b), hs c' u b2' hle hag hu⟩⟩

theorem at_app {H : Heap} {e j : Nat} {ob : Ob} (h : H.at e j = some ob) (x : List Ob) : Heap.at (H ++ [x]) e j = some ob := by
  unfold Heap.at at *
  cases hl : H[e]? with
  | none => simp [hl] at h
  | some l =>
    rw [List.getElem?_append_left (List.getElem?_eq_some_iff.1 hl).1, hl]
    simpa [hl] using h

theorem put_app {H : Heap} {e j : Nat} {ob x : Ob} (h : H.at e j = some ob) (r : List Ob) : Heap.put (H ++ [r]) e j x = H.put e j x ++ [r] := by
  unfold Heap.at Heap.put at *
  cases hl : H[e]? with
  | none => simp [hl] at h
  | some l =>
    have hlt := (List.getElem?_eq_some_iff.1 hl).1
    rw [List.getElem?_append_left hlt, hl]
    simp only [List.set_append_left _ _ hlt]

theorem put_len (H : Heap) (e j : Nat) (x : Ob) : (H.put e j x).length = H.length := by
  unfold Heap.put; split <;> simp

theorem put_put (H : Heap) (e j : Nat) (x y : Ob) : (H.put e j x).put e j y = H.put e j y := by
  unfold Heap.put
  cases hl : H[e]? with
  | none => simp [hl]
  | some l => simp [List.getElem?_set_self (List.getElem?_eq_some_iff.1 hl).1, List.set_set]

/-- the element of an array opens: its slices become objects of a new entry -/
theorem Norm.expel {tm : List T} {H : Heap} (e j k : Nat) {es : Nat} {l : List T} {t : T} (ha : H.at e j = some (.arr es l false)) (hk : l[k]? = some t) :
    Norm ⟨tm, H⟩ ⟨tm, H.put e j (.arr es (l.set k (thawA H.length t 0).1) false) ++ [(thawA H.length t 0).2]⟩ := fun F c a bs hi => by
  have hext := hi.h.ext
  obtain ⟨p, q, r, hb, ho, hinv⟩ := HR.drop hext (at_app ha [])
  obtain ⟨i, hmu, e1, e2, e3, ho⟩ := ho
  rcases ho with ⟨h0, _⟩ | ⟨rows, bs', hq, hrows, hcell, hoa⟩
  · have : l = [] := List.length_eq_zero_iff.1 (by omega)
    subst this; simp at hk
  obtain ⟨ct, b1, b2, b3, hbs, hrc, hset⟩ := RRows_open hrows hk
  obtain ⟨is, hl, hth⟩ := thaw_rc (own := H.length) t (j := 0) hrc
  have hown : (Heap.put (H ++ [[]]) e j .gone)[H.length]? = some [] := by
    rw [put_app ha]
    rw [List.getElem?_append_right (by rw [put_len]; exact Nat.le_refl _), put_len]; simp
  have hnd := hi.h.nd
  rw [hb, List.nodup_append, List.nodup_append] at hnd
  have hqn := hnd.2.1.1
  rw [hq, List.nodup_cons] at hqn
  have hbn := hqn.2
  rw [hbs, List.nodup_append, List.nodup_append] at hbn
  have hin : ∀ x, x ∈ b1 ∨ x ∈ b2 ∨ x ∈ b3 → x ∈ q := fun x hx => by rw [hq, hbs]; simp [hx]
  have hqout : ∀ x ∈ q, x ∉ p ++ r := fun x hx hx' => by
    rcases List.mem_append.1 hx' with h' | h'
    · exact hnd.2.2 x h' x (by simp [hx]) rfl
    · exact hnd.2.1.2.2 x hx x h' rfl
  have hqb : ∀ x ∈ q, x ∈ bs := fun x hx => by rw [hb]; simp [hx]
  have hle := Le_row (is := is) hinv hown
  obtain ⟨g1, g2⟩ := hth _ hle (fun _ _ => rfl) (fun k i hk => by simp [Cx.rowAt, hk])
  obtain ⟨bs1, hinv1, hm1⟩ := hinv.row hown (q := b2) (is := is) (obs := (thawA H.length t 0).2) (fun x hx => ⟨hqout x (hin x (.inr (.inl hx))), hext.dz x (hqb x (hin x (.inr (.inl hx)))), hext.bl x (hqb x (hin x (.inr (.inl hx)))), hext.fb x (hqb x (hin x (.inr (.inl hx))))⟩)
    hbn.2.1.1 hl g2
  have hat : Heap.at ((Heap.put (H ++ [[]]) e j .gone).set H.length (thawA H.length t 0).2) e j = some .gone := by
    have h1 := at_put (x := .gone) ha
    rw [put_app ha, List.set_append_right _ _ (by rw [put_len]; exact Nat.le_refl _), put_len, Nat.sub_self]
    exact at_app h1 _
  have hmu' : (c.rowAt H.length is).μ e j = some i := by
    have : e ≠ H.length := fun he => by
      subst he
      unfold Heap.at at ha
      rw [List.getElem?_eq_none (Nat.le_refl _)] at ha; cases ha
    simp [Cx.rowAt, this, hmu]
  obtain ⟨bs2, hfin⟩ := InvH.fillOb (q := i.blk :: (b1 ++ ([] ++ b3))) (ob := .arr es (l.set k (thawA H.length t 0).1) false) hinv1 hat
    ⟨i, hmu', e1, e2, by simpa using e3, .inr ⟨rows, _, rfl, hset _ _ _ hle (fun _ => rfl) g1, hcell, hoa⟩⟩
    (fun x hx => by
      have hxq : x ∈ q := by
        simp only [List.nil_append, List.mem_cons, List.mem_append] at hx
        rcases hx with rfl | hx | hx
        · rw [hq]; simp
        · exact hin x (.inl hx)
        · exact hin x (.inr (.inr hx))
      refine ⟨fun hb1 => ?_, hext.dz x (hqb x hxq), hext.bl x (hqb x hxq), hext.fb x (hqb x hxq)⟩
      rcases hm1 x hb1 with h' | h'
      · exact hqout x hxq h'
      · simp only [List.nil_append, List.mem_cons, List.mem_append] at hx
        rcases hx with rfl | hx | hx
        · exact hqn.1 (by rw [hbs]; simp [h'])
        · exact hbn.2.2 x hx x (by simp [h']) rfl
        · exact hbn.2.1.2.2 x h' x hx rfl) (by
      refine List.nodup_cons.2 ⟨fun hx => hqn.1 ?_, ?_⟩
      · simp only [List.nil_append, List.mem_append] at hx
        rw [hbs]; rcases hx with hx | hx <;> simp [hx]
      · simp only [List.nil_append]
        rw [List.nodup_append]
        exact ⟨hbn.1, hbn.2.1.2.1, fun a ha b hb => hbn.2.2 a ha b (by simp [hb])⟩)
  have hheap : Heap.put ((Heap.put (H ++ [[]]) e j .gone).set H.length (thawA H.length t 0).2) e j (.arr es (l.set k (thawA H.length t 0).1) false) = H.put e j (.arr es (l.set k (thawA H.length t 0).1) false) ++ [(thawA H.length t 0).2] := by
    rw [put_app ha, List.set_append_right _ _ (by rw [put_len]; exact Nat.le_refl _), put_len, Nat.sub_self]
    simp only [List.set_cons_zero]
    rw [put_app (at_put (x := .gone) ha), put_put]
  rw [hheap] at hfin
  refine ⟨c.rowAt H.length is, bs2, rfl, hfin, RVL.mono hle _ hi.tm, hi.df, fun j i hj => hle.mu _ _ _ (hi.pin j i hj)⟩
end Go.Vm

namespace Go.Vm

/-! ### append -/
theorem append_run {Y : TypeId → TyI} {own t u e j off n el es by' : Nat} {k : Ty} {g : Tag} {f ys : List T} {H : Heap} (h1 : Y t = ⟨.sl el, 1, 24⟩) (hu : Y u = ⟨.sl el, 1, 24⟩) (h2 : Y el = ⟨k, es, by'⟩) (h3 : k.isFn = false) (h4 : 0 < es ∧ 0 < by' ∧ by' ≤ 2 ^ 16)
    (hH : H.at e j = some (.arr es f false)) (hn : off + n ≤ f.length) (hl : n + ys.length ≤ 2 ^ 30) (hnw : nwL ys = true) (hz : ∀ z ∈ ys.take 1, z.size = es) :
    (appendM Y own t u (.ref e j off n) (.sl g ys)).run H = some { v := .ref own 0 0 (n + ys.length), ups := [(e, j, .gone)], news := [.arr es ((f.drop off).take n ++ ys) false] } := by
  have hlen : ((f.drop off).take n).length = n := by rw [List.length_take, List.length_drop]; omega
  simp only [appendM, h1, h2, hu, mayGrow, srcM, elemsM, RM.bind, RM.run, hH]
  rw [if_pos ⟨hn, trivial⟩]
  simp only [RM.bind]
  rw [if_pos ⟨h4.1, h3, h4.2.1, h4.2.2, by rw [hlen]; exact hl, hnw, hz⟩]
  simp only [RM.run, hlen, kill]

theorem append_run1 {Y : TypeId → TyI} {own t u e j off n e2 j2 el es by' : Nat} {k : Ty} {f : List T} {x : T} {H : Heap} (h1 : Y t = ⟨.sl el, 1, 24⟩) (hu : Y u = ⟨.sl el, 1, 24⟩) (h2 : Y el = ⟨k, es, by'⟩) (h3 : k.isFn = false) (h4 : 0 < es ∧ 0 < by' ∧ by' ≤ 2 ^ 16)
    (hH : H.at e j = some (.arr es f false)) (hH2 : H.at e2 j2 = some (.arr es [x] false)) (hn : off + n ≤ f.length) (hl : n + 1 ≤ 2 ^ 30) (hnw : x.nw = true) (hz : x.size = es) :
    (appendM Y own t u (.ref e j off n) (.ref e2 j2 0 1)).run H = some { v := .ref own 0 0 (n + 1), ups := [(e, j, .gone)], news := [.arr es ((f.drop off).take n ++ [x]) false] } := by
  have hlen : ((f.drop off).take n).length = n := by rw [List.length_take, List.length_drop]; omega
  simp only [appendM, h1, h2, hu, mayGrow, srcM, elemsM, RM.bind, RM.run, hH]
  rw [if_pos ⟨hn, trivial⟩]
  simp only [RM.bind, RM.run, hH2]
  simp only [List.length_cons, List.length_nil, Nat.zero_add, Nat.le_refl, if_true, List.drop_zero, List.take_succ_cons, List.take_zero]
  simp only [RM.bind]
  rw [if_pos ⟨h4.1, h3, h4.2.1, h4.2.2, by rw [hlen]; simpa using hl, by simp [nwL, hnw], by simp [hz]⟩]
  simp only [RM.run, hlen, kill, List.length_cons, List.length_nil, Nat.zero_add]

theorem take_all {α : Type} (l : List α) (n : Nat) (h : l.length ≤ n) : l.take n = l := List.take_of_length_le h

/-- the numbers below n that have a property, ascending -/
def idxs (p : Nat → Bool) (n : Nat) : List Int := ((List.range n).filter p).map Int.ofNat
theorem idxs_zero (p : Nat → Bool) : idxs p 0 = [] := rfl
theorem idxs_yes {p : Nat → Bool} {n : Nat} (h : p n = true) : idxs p (n + 1) = idxs p n ++ [(n : Int)] := by simp [idxs, List.range_succ, List.filter_append, h]
theorem idxs_no {p : Nat → Bool} {n : Nat} (h : p n = false) : idxs p (n + 1) = idxs p n := by simp [idxs, List.range_succ, List.filter_append, h]
theorem idxs_len (p : Nat → Bool) (n : Nat) : (idxs p n).length ≤ n := by
  simp only [idxs, List.length_map]
  exact Nat.le_trans (List.length_filter_le _ _) (by simp)
theorem nwL_b {α : Type} [Enc α] : ∀ l : List α, nwL (l.map Enc.b) = true
  | [] => rfl
  | x :: l => by simp [nwL, nwL_b l]
theorem b_int : (Enc.b : Int → T) = Enc.o := rfl
theorem b_bool : (Enc.b : Bool → T) = Enc.o := rfl
theorem o_int (n : Int) : Enc.o n = T.int .i64 n := rfl
theorem o_bool (n : Bool) : Enc.o n = T.bool n := rfl
end Go.Vm
namespace Go.Vm
theorem build1 {Y : TypeId → TyI} {own t el es by' : Nat} {k : Ty} {v : T} (h1 : Y t = ⟨.sl el, 1, 24⟩) (h2 : Y el = ⟨k, es, by'⟩) (h3 : k.isFn = false) (h4 : 0 < es ∧ es ≤ 2 ^ 20) (hv : v.cel = true) (hs : v.size = es) (hz : (zeroT Y 9 el).size = es) :
    buildSliceM Y own t 1 [(0, v)] = .pure { v := .ref own 0 0 1, news := [.arr es [v] false] } := by
  simp only [buildSliceM, h1, h2, h3]
  rw [if_pos ⟨h4.1, by omega, trivial⟩]
  simp [setAll, plAr, hv, hs, hz, sizeL]
theorem build0 {Y : TypeId → TyI} {own t el es by' : Nat} {k : Ty} (h1 : Y t = ⟨.sl el, 1, 24⟩) (h2 : Y el = ⟨k, es, by'⟩) (h3 : k.isFn = false) (h4 : 0 < es) :
    buildSliceM Y own t 0 [] = .pure { v := .ref own 0 0 0, news := [.arr es [] false] } := by
  simp only [buildSliceM, h1, h2, h3]
  rw [if_pos ⟨h4, by simp, trivial⟩]
  simp [setAll]
end Go.Vm

namespace Go.Vm
/-! ### marks -/
def marks (n : Nat) (k : Int) : List Int := (List.range n).map fun j : Nat => k + (j : Int)
def mixM (l : List Int) (k : Int) (i : Nat) : List Int := marks i k ++ l.drop i
theorem marks_len (n : Nat) (k : Int) : (marks n k).length = n := by simp [marks]
theorem marks_get (n : Nat) (k : Int) (i : Nat) (h : i < n) : (marks n k)[i]'(by rw [marks_len]; exact h) = k + i := by simp [marks]
theorem mix_zero (l : List Int) (k : Int) : mixM l k 0 = l := by simp [mixM, marks]
theorem mix_all (l : List Int) (k : Int) : mixM l k l.length = marks l.length k := by simp [mixM]
theorem mix_len (l : List Int) (k : Int) (i : Nat) (h : i ≤ l.length) : (mixM l k i).length = l.length := by simp [mixM, marks]; omega
theorem mix_get (l : List Int) (k : Int) (i : Nat) (h : i < l.length) : ((mixM l k i).map Enc.o)[i]? = some (T.int .i64 l[i]) := by
  have : (mixM l k i)[i]? = some l[i] := by
    unfold mixM
    rw [List.getElem?_append_right (by rw [marks_len]; exact Nat.le_refl _), marks_len, Nat.sub_self, List.getElem?_drop, Nat.add_zero, List.getElem?_eq_getElem h]
  rw [List.getElem?_map, this]; rfl
theorem mix_set (l : List Int) (k : Int) (i : Nat) (h : i < l.length) : ((mixM l k i).map Enc.o).set i (T.int .i64 (k + i)) = (mixM l k (i + 1)).map Enc.o := by
  have e : T.int .i64 (k + i) = Enc.o (k + i : Int) := rfl
  rw [e, ← List.map_set]
  congr 1
  unfold mixM
  rw [List.set_append_right _ _ (by rw [marks_len]; exact Nat.le_refl _), marks_len, Nat.sub_self, List.drop_eq_getElem_cons h, List.set_cons_zero]
  have : marks (i + 1) k = marks i k ++ [k + i] := by simp [marks, List.range_succ]
  rw [this]; simp
end Go.Vm
namespace Go.Vm
@[simp] theorem take_marks {β : Type} (f : Int → β) (n : Nat) (k : Int) : ((marks n k).map f).take n = (marks n k).map f := by
  rw [List.take_of_length_le]; simp [marks_len]
end Go.Vm

namespace Go.Vm

/-! ### an array's tail may be forgotten -/
theorem RRows_take {c : Cx} {es : Nat} (n : Nat) {l : List T} {cs : List Value} {bs : List Nat} (h : RRows c es l cs bs) :
    ∃ c1 c2 b1 b2, cs = c1 ++ c2 ∧ bs = b1 ++ b2 ∧ RRows c es (l.take n) c1 b1 := by
  rw [← List.take_append_drop n l] at h
  obtain ⟨c1, c2, b1, b2, e1, e2, r1, _⟩ := RRows_app h
  exact ⟨c1, c2, b1, b2, e1, e2, r1⟩

theorem CellsAt.pre {w : World} {a : Addr} {c1 c2 : List Value} (h : CellsAt w a (c1 ++ c2)) : CellsAt w a c1 := by
  obtain ⟨arr, ty, fr, h1, h2⟩ := h
  refine ⟨arr, ty, fr, h1, fun i v hv => h2 i v ?_⟩
  rw [List.getElem?_append_left (List.getElem?_eq_some_iff.1 hv).1]; exact hv

theorem Norm.trunc {tm : List T} {H : Heap} (e j n : Nat) {es : Nat} {l : List T} (ha : H.at e j = some (.arr es l false)) :
    Norm ⟨tm, H⟩ ⟨tm, H.put e j (.arr es (l.take n) false)⟩ := fun F c a bs hi => by
  obtain ⟨p, q, r, hb, ho, hinv⟩ := HR.drop hi.h ha
  obtain ⟨i, hmu, e1, e2, e3, ho⟩ := ho
  have hgone : (H.put e j .gone).at e j = some .gone := at_put (x := .gone) ha
  have hlen : (l.take n).length ≤ i.cap := Nat.le_trans (by rw [List.length_take]; omega) e3
  rcases ho with ⟨h0, hq⟩ | ⟨rows, bs', hq, hrows, hcell, hoa⟩
  · obtain ⟨bs2, hfin⟩ := soak_back (q' := []) (ob := .arr es (l.take n) false) hi.h hb (.refl hinv) hgone ⟨i, hmu, e1, e2, hlen, .inl ⟨h0, rfl⟩⟩ (by simp) (by simp)
    rw [put_put] at hfin
    exact ⟨c, bs2, rfl, hfin, hi.tm, hi.df, hi.pin⟩
  · obtain ⟨c1, c2, b1, b2, rfl, rfl, r1⟩ := RRows_take n hrows
    have hnd := hi.h.nd
    rw [hb, List.nodup_append, List.nodup_append] at hnd
    have hqn := hnd.2.1.1
    rw [hq, List.nodup_cons, List.nodup_append] at hqn
    obtain ⟨bs2, hfin⟩ := soak_back (q' := i.blk :: b1) (ob := .arr es (l.take n) false) hi.h hb (.refl hinv) hgone ⟨i, hmu, e1, e2, hlen, .inr ⟨c1, b1, rfl, r1, hcell.pre, hoa⟩⟩
      (fun x hx => by
        left; rw [hq]
        rcases List.mem_cons.1 hx with rfl | hx
        · simp
        · simp [hx]) (List.nodup_cons.2 ⟨fun hx => hqn.1 (by simp [hx]), hqn.2.1⟩)
    rw [put_put] at hfin
    exact ⟨c, bs2, rfl, hfin, hi.tm, hi.df, hi.pin⟩

/-! ### 's == nil' of a lent slice: of an empty one nobody knows -/
theorem run_equal_slice {P : Program} {t e : TypeId} {w : World} {A : Option Addr} {n k : Nat} (hd : (underlying t).run P w = .ok (.slice e) w) :
    (Op.equal t (.slice A n k) (.slice none 0 0)).run P w = .ok A.isNone w := by
  rw [equal_succ, Op.equalIn]
  simp only [Sem.run_bind, hd, Result.andThen]
  cases A <;> rfl

theorem SW.nilq {P : Program} {Y : TypeId → TyI} (hY : TysW P Y) {F : Fr} {Q : Exit → S → Prop} {tm : List T} {H : Heap} {id : Nat} {x d1 d2 : Nat} {t t1 t2 e : TypeId} {p1 p2 : String} {f1 f2 : Array Edge} {yt : TypeId} {g : Tag} {l : List T}
    (hx : tm.getD x .undef = .sl g l) (ht : (Y t).k = .sl e) (ht0 : 0 < (Y t).cells) (hd : d1 < tm.length)
    (h : ∀ b, (l ≠ [] → b = false) → Q .normal ⟨(tm.set d1 (.sl g l)).set d2 (.bool b), H⟩) :
    SW P F Q (.region id #[⟨some d1, .move (.tmp x), t1, p1, f1, none⟩, ⟨some d2, .binOp .eql t (.tmp d1) (.const (.slice none 0 0)) yt, t2, p2, f2, none⟩] false) ⟨tm, H⟩ := fun c a bs hi => by
  refine wp_region ?_
  show wpOps P _ _ [0, 1] a c.w
  rw [wpOps_cons]
  refine vgop_sound hY (K := fun s' => s' = ⟨tm.set d1 (.sl g l), H⟩) hi (o := ⟨some d1, .move (.tmp x), t1, p1, f1, none⟩) rfl (fun s' c' a' bs' h' hk => ?_) ?_
  · subst hk
    rw [wpOps_cons]
    unfold wpOp
    obtain ⟨d, hdd, htm, _⟩ := (hY.ok t ht0).run_under c'.w
    rw [ht] at htm; simp only [TyM] at htm; subst htm
    have hv := ev_ok h' (.tmp d1)
    have hg1 : (⟨tm.set d1 (.sl g l), H⟩ : S).ev (.tmp d1) = .sl g l := by simp [S.ev, List.getD, hd]
    rw [hg1] at hv
    obtain ⟨A, k, hv1, _, hA⟩ := hv
    simp only [List.getElem?_toArray, List.getElem?_cons_succ, List.getElem?_cons_zero, Region.wanted, if_true]
    refine .inl ?_
    unfold Oper.wp
    have he : (execOp a'.eval ⟨some d2, .binOp .eql t (.tmp d1) (.const (.slice none 0 0)) yt, t2, p2, f2, none⟩).run P c'.w = .ok (.value (.bool A.isNone)) c'.w := by
      have h1 : a'.eval (.tmp d1) = .slice A l.length k := hv1
      unfold execOp
      simp only [eqGuard, binOp, Sem.run_bind, Result.andThen, Sem.run_pure]
      rw [h1, show a'.eval (.const (.slice none 0 0)) = .slice none 0 0 from rfl]
      simp [Sem.run_bind, Result.andThen, run_equal_slice hdd, Sem.run_pure]
    rw [he]
    exact ⟨_, c', bs', rfl, Inv.next (t := .bool A.isNone) h'.h h'.tm rfl h'.df h'.pin, h _ fun hl => by
      rcases hA with rfl | ⟨a0, _, _, rfl, _⟩
      · exact absurd rfl hl
      · rfl⟩
  · show vop P Y _ _ _
    unfold vop vopR vprim
    simp only [isCall, Bool.false_eq_true, if_false, opM, S.ev, hx, allocs, RM.run, S.put, S.grown]
    rfl
end Go.Vm

namespace Go.Vm
set_option linter.unusedSimpArgs false

/-! ### a step, seen from its end -/
def evT (tm : List T) : Operand → T
  | .tmp t => tm.getD t .undef
  | .const v => ofConst v
  | .func f => .fn f [] []
  | .global _ => .undef
theorem ev_evT (s : S) : s.ev = evT s.tm := by funext x; cases x <;> rfl

def grownH (H : Heap) (b : Bool) : Heap := if b then H ++ [[]] else H

section
variable (P : Program) (Y : TypeId → TyI)

def LStep (ρ : Operand → T) (o : Oper) (H H' : Heap) (v : T) : Prop :=
  if isCall o.op = true then ∃ f ts ms as backs H1 args outs res H2, callT ρ o.op = some (f, ts) ∧ pass1 ms ts (H ++ [[]]) = some (as, backs, H1) ∧ (pass2 as).run H1 = some args ∧ CallR P f args outs res ∧
    resClo res = true ∧ fillB backs outs H1 = some H2 ∧ H' = H2.set H.length (thawA H.length (res.tg dnT) 0).2 ∧ v = (thawA H.length (res.tg dnT) 0).1
  else ∃ out, (opM Y ρ H.length o.type o.op).run (grownH H (allocs Y o.op)) = some out ∧ H' = (grownH H (allocs Y o.op)).after (allocs Y o.op) H.length out ∧ v = out.v

def PStep (ρ : Operand → T) (g : Bool) (o : Oper) (H H' : Heap) (v : T) : Prop :=
  ∃ x args res, callT ρ o.op = some x ∧ leafT res = true ∧ (g = true → (pass2 (x.2.map fun t => (true, t))).run (H ++ [[]]) = some args ∧ CallR P x.1 args [] res) ∧ H' = H ++ [[]] ∧ v = mkOpt g res

def GStep (ops : Array Oper) (tm : List T) (o : Oper) (H H' : Heap) (v : T) : Prop :=
  match o.guard with
  | none => LStep P Y (evT tm) o H H' v
  | some (g, w) => ∃ c, guardC w (guardT ops tm g) = some c ∧
    if quietK o.op = true then H' = H ∧ ((∃ out, (opM Y (fun x => stripT c (evT tm x)) H.length o.type o.op).run H = some out ∧ out.ups = [] ∧ v = mkOpt c out.v) ∨
      ((opM Y (fun x => stripT c (evT tm x)) H.length o.type o.op).run H = none ∧ c = false ∧ v = .opt false .undef))
    else (c = true ∧ LStep P Y (evT tm) o H H' v) ∨ (c = false ∧ H' = H ∧ v = .opt false .undef) ∨ PStep P (fun x => stripT c (evT tm x)) c o H H' v
end

section
variable {P : Program} {Y : TypeId → TyI}

theorem LStep.of {ρ : Operand → T} {o : Oper} {K : S → Prop} {s : S} (h : vopR P Y ρ o K s) : ∃ H' v, LStep P Y ρ o s.hp H' v ∧ K ((⟨s.tm, H'⟩ : S).put o.dst v) := by
  unfold vopR at h
  unfold LStep
  split at h
  · rename_i hc
    simp only [hc, if_true]
    unfold vcall at h
    split at h
    case h_2 => exact h.elim
    rename_i f ts hct
    obtain ⟨ms, as, backs, H1, args, outs, res, H2, h1, h2, h3, h4, h5, h6⟩ := h
    exact ⟨_, _, ⟨f, ts, ms, as, backs, H1, args, outs, res, H2, hct, h1, h2, h3, h4, h5, rfl, rfl⟩, h6⟩
  · rename_i hc
    simp only [hc, if_false]
    unfold vprim at h
    split at h
    case h_2 => exact h.elim
    rename_i out ho
    exact ⟨_, _, ⟨out, ho, rfl, rfl⟩, h⟩

theorem LStep.to {ρ : Operand → T} {o : Oper} {K : S → Prop} {tm : List T} {H H' : Heap} {v : T} (h : LStep P Y ρ o H H' v) (hk : K ((⟨tm, H'⟩ : S).put o.dst v)) : vopR P Y ρ o K ⟨tm, H⟩ := by
  unfold LStep at h
  unfold vopR
  split at h
  · rename_i hc
    simp only [hc, if_true]
    obtain ⟨f, ts, ms, as, backs, H1, args, outs, res, H2, hct, h1, h2, h3, h4, h5, rfl, rfl⟩ := h
    unfold vcall
    simp only [hct]
    exact ⟨ms, as, backs, H1, args, outs, res, H2, h1, h2, h3, h4, h5, hk⟩
  · rename_i hc
    simp only [hc, if_false]
    obtain ⟨out, ho, rfl, rfl⟩ := h
    unfold vprim
    rw [show (opM Y ρ (S.hp ⟨tm, H⟩).length o.type o.op).run (S.grown ⟨tm, H⟩ (allocs Y o.op)) = some out from ho]
    exact hk

theorem GStep.of {ops : Array Oper} {o : Oper} {K : S → Prop} {s : S} (h : vgop P Y ops o K s) : ∃ H' v, GStep P Y ops s.tm o s.hp H' v ∧ K ((⟨s.tm, H'⟩ : S).put o.dst v) := by
  unfold vgop at h
  unfold GStep
  cases hg : o.guard with
  | none =>
    simp only [hg] at h ⊢
    have := LStep.of h
    rwa [ev_evT] at this
  | some x =>
    simp only [hg] at h ⊢
    cases hb : guardC x.2 (guardT ops s.tm x.1) with
    | none => simp [hb] at h
    | some b =>
      simp only [hb] at h
      by_cases hq : quietK o.op = true
      · simp only [hq, if_true] at h
        unfold vquiet at h
        simp only [ev_evT] at h
        cases ho : (opM Y (fun y => stripT b (evT s.tm y)) s.hp.length o.type o.op).run s.hp with
        | none =>
          simp only [ho] at h
          exact ⟨s.hp, _, ⟨b, rfl, by rw [if_pos hq]; exact ⟨rfl, .inr ⟨ho, h.1, rfl⟩⟩⟩, h.2⟩
        | some out =>
          simp only [ho] at h
          exact ⟨s.hp, _, ⟨b, rfl, by rw [if_pos hq]; exact ⟨rfl, .inl ⟨out, ho, h.1, rfl⟩⟩⟩, h.2⟩
      · rw [if_neg hq] at h
        simp only [hq, if_false]
        rcases h with h | h
        · cases b with
          | true =>
            obtain ⟨H', v, h1, h2⟩ := LStep.of (h.1 rfl)
            simp only [ev_evT] at h1
            exact ⟨H', v, ⟨true, rfl, .inl ⟨rfl, h1⟩⟩, h2⟩
          | false => exact ⟨s.hp, _, ⟨false, rfl, .inr (.inl ⟨rfl, rfl, rfl⟩)⟩, h.2 rfl⟩
        · unfold vpure at h
          split at h
          case h_2 => exact h.elim
          rename_i y hct
          obtain ⟨args, res, hl, hg2, hk⟩ := h
          simp only [ev_evT] at hct
          exact ⟨_, _, ⟨b, rfl, .inr (.inr ⟨y, args, res, hct, hl, hg2, rfl, rfl⟩)⟩, hk⟩

theorem GStep.to {ops : Array Oper} {o : Oper} {K : S → Prop} {tm : List T} {H H' : Heap} {v : T} (h : GStep P Y ops tm o H H' v) (hk : K ((⟨tm, H'⟩ : S).put o.dst v)) : vgop P Y ops o K ⟨tm, H⟩ := by
  unfold GStep at h
  unfold vgop
  cases hg : o.guard with
  | none =>
    simp only [hg] at h ⊢
    unfold vop
    rw [ev_evT]
    exact h.to hk
  | some x =>
    simp only [hg] at h ⊢
    obtain ⟨b, hb, h⟩ := h
    simp only [hb]
    by_cases hq : quietK o.op = true
    · simp only [hq, if_true] at h ⊢
      unfold vquiet
      simp only [ev_evT]
      obtain ⟨rfl, ⟨out, ho, hu, rfl⟩ | ⟨ho, hbw, rfl⟩⟩ := h
      · simp only [ho]; exact ⟨hu, hk⟩
      · simp only [ho]; exact ⟨hbw, hk⟩
    · simp only [hq, if_false] at h ⊢
      rcases h with ⟨rfl, h⟩ | ⟨rfl, rfl, rfl⟩ | ⟨y, args, res, hct, hl, hg2, rfl, rfl⟩
      · refine .inl ⟨fun _ => ?_, fun e => (by cases e)⟩
        rw [ev_evT]
        exact h.to hk
      · exact .inl ⟨fun e => (by cases e), fun _ => hk⟩
      · refine .inr ?_
        unfold vpure
        simp only [ev_evT, hct]
        exact ⟨args, res, hl, hg2, hk⟩

/-! ### what an operation looks at -/
def opds : Op → List Operand
  | .move x | .assign x | .nilCheck x => [x]
  | .pick c a b => [c, a, b]
  | .box _ x => [x]
  | .build _ ps => ps.toList.map (·.2)
  | .buildSlice _ _ ps => ps.toList.map (·.2)
  | .load _ a => [a]
  | .store _ a v => [a, v]
  | .fieldAddr _ x _ => [x]
  | .field _ x _ => [x]
  | .indexAddr _ x i => [x, i]
  | .index _ x i => [x, i]
  | .binOp _ _ x y _ => [x, y]
  | .unOp _ _ x => [x]
  | .convert _ _ x => [x]
  | .slice _ x lo hi mx => x :: (lo.toList ++ hi.toList ++ mx.toList)
  | .makeSlice _ n m => [n, m]
  | .makeFunc _ a b => a.toList ++ b.toList
  | .extract x _ => [x]
  | .call { callee := .value x, args, .. } => x :: args.toList
  | .call { args, .. } => args.toList
  | _ => []

theorem opM_congr {ρ ρ' : Operand → T} {own : Nat} {ty : TypeId} {op : Op} (h : ∀ x ∈ opds op, ρ x = ρ' x) : opM Y ρ own ty op = opM Y ρ' own ty op := by
  have hmap : ∀ l : List Operand, (∀ x ∈ l, ρ x = ρ' x) → l.map ρ = l.map ρ' := fun l hl => List.map_congr_left hl
  have hmap2 : ∀ l : List (Nat × Operand), (∀ x ∈ l.map (·.2), ρ x = ρ' x) → l.map (fun x => (x.1, ρ x.2)) = l.map (fun x => (x.1, ρ' x.2)) := fun l hl =>
    List.map_congr_left fun x hx => by rw [hl x.2 (List.mem_map_of_mem hx)]
  have hopt : ∀ a : Option Operand, (∀ x ∈ a.toList, ρ x = ρ' x) → a.map ρ = a.map ρ' := fun a ha => by
    cases a with
    | none => rfl
    | some x => simp [ha x (by simp)]
  cases op
  case call c =>
    obtain ⟨callee, args, ats⟩ := c
    cases callee
    case builtin b =>
      have ha : ∀ x ∈ args.toList, ρ x = ρ' x := h
      simp only [opM]
      cases hl : args.toList with
      | nil => cases b <;> rfl
      | cons x l =>
        rw [hl] at ha
        cases l with
        | nil =>
          have hx := ha x (by simp)
          generalize ats.toList = tl
          rcases tl with _ | ⟨t, _ | ⟨u, _ | _⟩⟩ <;> cases b <;> first | rfl | simp [hx]
        | cons y l =>
          cases l with
          | nil =>
            have hx := ha x (by simp)
            have hy := ha y (by simp)
            generalize ats.toList = tl
            rcases tl with _ | ⟨t, _ | ⟨u, _ | _⟩⟩ <;> cases b <;> first | rfl | simp [hx, hy]
          | cons z l => cases b <;> rfl
    all_goals rfl
  case build t ps => simp only [opM]; rw [hmap2 _ h]
  case buildSlice t n ps => simp only [opM]; rw [hmap2 _ h]
  case slice t x lo hi mx =>
    simp only [opds] at h
    simp only [opM]
    rw [h x (by simp), hopt lo (fun y hy => h y (List.mem_cons_of_mem _ (List.mem_append_left _ (List.mem_append_left _ hy)))), hopt hi (fun y hy => h y (List.mem_cons_of_mem _ (List.mem_append_left _ (List.mem_append_right _ hy)))), hopt mx (fun y hy => h y (List.mem_cons_of_mem _ (List.mem_append_right _ hy)))]
  case makeFunc f a b =>
    simp only [opds] at h
    simp only [opM]
    rw [hmap a.toList (fun y hy => h y (by simp [hy])), hmap b.toList (fun y hy => h y (by simp [hy]))]
  all_goals first
    | rfl
    | (simp only [opds, List.mem_cons, List.not_mem_nil, or_false, forall_eq_or_imp, forall_eq] at h; simp only [opM, h])

theorem callT_no {ρ : Operand → T} {op : Op} (h : isCall op = false) : callT ρ op = none := by
  unfold callT
  split
  · simp [isCall] at h
  · rfl
theorem callT_congr {ρ ρ' : Operand → T} {op : Op} (h : ∀ x ∈ opds op, ρ x = ρ' x) : callT ρ op = callT ρ' op := by
  cases op
  case call c =>
    obtain ⟨callee, args, ats⟩ := c
    cases callee
    case value x =>
      simp only [opds] at h
      simp only [callT]
      rw [h x (by simp), List.map_congr_left (l := args.toList) (fun y hy => h y (by simp [hy]))]
    all_goals rfl
  all_goals rfl

theorem LStep.congr {ρ ρ' : Operand → T} {o : Oper} {H H' : Heap} {v : T} (h : ∀ x ∈ opds o.op, ρ x = ρ' x) (hs : LStep P Y ρ o H H' v) : LStep P Y ρ' o H H' v := by
  unfold LStep at *
  rw [opM_congr h, callT_congr h] at hs
  exact hs

theorem GStep.congr {ops : Array Oper} {tm tm' : List T} {o : Oper} {H H' : Heap} {v : T} (h : ∀ x ∈ opds o.op, evT tm x = evT tm' x) (hg : ∀ g w, o.guard = some (g, w) → guardT ops tm g = guardT ops tm' g)
    (hs : GStep P Y ops tm o H H' v) : GStep P Y ops tm' o H H' v := by
  unfold GStep at *
  cases hgd : o.guard with
  | none => simp only [hgd] at hs ⊢; exact hs.congr h
  | some x =>
    simp only [hgd] at hs ⊢
    obtain ⟨b, hb, hs⟩ := hs
    refine ⟨b, by rw [← hg x.1 x.2 hgd]; exact hb, ?_⟩
    have h1 : ∀ y ∈ opds o.op, stripT b (evT tm y) = stripT b (evT tm' y) := fun y hy => by rw [h y hy]
    split
    · rename_i hq
      rw [if_pos hq] at hs
      rw [opM_congr h1] at hs
      exact hs
    · rename_i hq
      rw [if_neg hq] at hs
      refine hs.imp (fun hs => ⟨hs.1, hs.2.congr h⟩) (Or.imp id ?_)
      rintro ⟨y, args, res, hct, hr⟩
      exact ⟨y, args, res, by rw [← callT_congr h1]; exact hct, hr⟩

/-! ### what leaves the heap alone -/
def freeK : Op → Bool
  | .move _ | .assign _ | .nilCheck _ | .fieldAddr .. | .field .. | .binOp .. | .unOp .. | .extract .. | .pick .. | .makeFunc .. | .index .. => true
  | .call { callee := .builtin .len, .. } => true
  | _ => false
def readK : Op → Bool
  | .load .. | .indexAddr .. | .slice .. => true
  | _ => false

inductive PureR : RM Out → Prop
  | pure (v : T) : PureR (.pure { v })
  | fail : PureR .fail
theorem PureR.ofOpt (x : Option T) : PureR (RM.ofOpt (x.map fun v => ({ v } : Out))) := by cases x; exact .fail; exact .pure _

theorem free_pure {ρ : Operand → T} {own : Nat} {ty : TypeId} {op : Op} (h : freeK op = true) : PureR (opM Y ρ own ty op) ∧ ∀ own', opM Y ρ own' ty op = opM Y ρ own ty op := by
  cases op
  case move x => exact ⟨.pure _, fun _ => rfl⟩
  case assign x => exact ⟨.pure _, fun _ => rfl⟩
  case nilCheck x => refine ⟨?_, fun _ => rfl⟩; simp only [opM]; split <;> constructor
  case fieldAddr st x f =>
    refine ⟨?_, fun _ => rfl⟩
    simp only [opM]; unfold fieldAddrM
    repeat' split
    all_goals constructor
  case field t x f =>
    refine ⟨?_, fun _ => rfl⟩
    simp only [opM]; unfold fieldM
    repeat' split
    all_goals constructor
  case index t x i =>
    refine ⟨?_, fun _ => rfl⟩
    simp only [opM]; unfold indexM
    repeat' split
    all_goals constructor
  case binOp op t x y yt =>
    refine ⟨?_, fun _ => rfl⟩
    simp only [opM]
    repeat' split
    all_goals first | exact .ofOpt _ | constructor
  case unOp op t x => exact ⟨.ofOpt _, fun _ => rfl⟩
  case extract x i => exact ⟨.ofOpt _, fun _ => rfl⟩
  case pick c a b =>
    refine ⟨?_, fun _ => rfl⟩
    simp only [opM]
    split
    · exact .ofOpt _
    · constructor
  case makeFunc f a b =>
    refine ⟨?_, fun _ => rfl⟩
    simp only [opM]
    split <;> constructor
  case call c =>
    obtain ⟨callee, args, ats⟩ := c
    cases callee
    case builtin b =>
      cases b <;> first | (cases h; done) | skip
      refine ⟨?_, fun own' => ?_⟩
      · simp only [opM]
        split
        all_goals first | exact .ofOpt _ | (constructor; done) | contradiction
      · simp only [opM]
        generalize args.toList = al
        generalize ats.toList = tl
        rcases al with _ | ⟨x, _ | ⟨y, _ | _⟩⟩ <;> rcases tl with _ | ⟨t, _ | ⟨u, _ | _⟩⟩ <;> rfl
    all_goals cases h
  all_goals cases h

theorem free_al {op : Op} (h : freeK op = true) : allocs Y op = false ∧ isCall op = false := by
  cases op
  case call c =>
    obtain ⟨callee, args, ats⟩ := c
    cases callee
    case builtin b => cases b <;> first | (cases h; done) | exact ⟨rfl, rfl⟩
    all_goals cases h
  all_goals first | (cases h; done) | exact ⟨rfl, rfl⟩
theorem read_al {op : Op} (h : readK op = true) : allocs Y op = false ∧ isCall op = false := by
  cases op <;> first | (cases h; done) | exact ⟨rfl, rfl⟩

theorem ups_nil {H : Heap} {own : Nat} {out : Out} (h : out.ups = []) : H.after false own out = H := by simp [Heap.after, h, Heap.ups]

theorem PureR.run {r : RM Out} (h : PureR r) {H : Heap} {out : Out} (hr : r.run H = some out) : out.ups = [] ∧ ∀ H2, r.run H2 = some out := by
  cases h with
  | pure v => simp only [RM.run, Option.some.injEq] at hr; subst hr; exact ⟨rfl, fun _ => rfl⟩
  | fail => cases hr
theorem PureR.run_none {r : RM Out} (h : PureR r) {H : Heap} (hr : r.run H = none) : ∀ H2, r.run H2 = none := by
  cases h with
  | pure v => cases hr
  | fail => exact fun _ => rfl

theorem LStep.free {ρ : Operand → T} {o : Oper} {H H' : Heap} {v : T} (hf : freeK o.op = true) (h : LStep P Y ρ o H H' v) : H' = H ∧ ∀ H2, LStep P Y ρ o H2 H2 v := by
  unfold LStep at *
  obtain ⟨ha, hc⟩ := free_al (Y := Y) hf
  simp only [ha, hc, Bool.false_eq_true, if_false] at h ⊢
  obtain ⟨out, ho, h1, rfl⟩ := h
  obtain ⟨hp, hown⟩ := free_pure (Y := Y) (ρ := ρ) (own := H.length) (ty := o.type) hf
  obtain ⟨hu, hall⟩ := hp.run ho
  rw [ups_nil hu] at h1
  exact ⟨h1, fun H2 => ⟨out, by rw [hown]; exact hall _, by rw [ups_nil hu]; rfl, rfl⟩⟩

theorem GStep.free {ops : Array Oper} {tm : List T} {o : Oper} {H H' : Heap} {v : T} (hf : freeK o.op = true) (h : GStep P Y ops tm o H H' v) : H' = H ∧ ∀ H2, GStep P Y ops tm o H2 H2 v := by
  unfold GStep at *
  cases hg : o.guard with
  | none => simp only [hg] at h ⊢; exact h.free hf
  | some x =>
    simp only [hg] at h ⊢
    obtain ⟨b, hb, h⟩ := h
    by_cases hq : quietK o.op = true
    · simp only [hq, if_true] at h ⊢
      obtain ⟨rfl, h⟩ := h
      refine ⟨rfl, fun H2 => ⟨b, hb, trivial, ?_⟩⟩
      obtain ⟨hp, hown⟩ := free_pure (Y := Y) (ρ := fun y => stripT b (evT tm y)) (own := H'.length) (ty := o.type) hf
      rcases h with ⟨out, ho, hu, rfl⟩ | ⟨ho, hbw, rfl⟩
      · exact .inl ⟨out, by rw [hown]; exact (hp.run ho).2 _, hu, rfl⟩
      · exact .inr ⟨by rw [hown]; exact hp.run_none ho _, hbw, rfl⟩
    · simp only [hq, if_false] at h ⊢
      rcases h with ⟨hbw, h⟩ | ⟨hbw, rfl, rfl⟩ | ⟨y, args, res, hct, _⟩
      · obtain ⟨h1, h2⟩ := h.free hf
        exact ⟨h1, fun H2 => ⟨b, hb, .inl ⟨hbw, h2 H2⟩⟩⟩
      · exact ⟨rfl, fun H2 => ⟨b, hb, .inr (.inl ⟨hbw, trivial, rfl⟩)⟩⟩
      · rw [callT_no (free_al (Y := Y) hf).2] at hct; cases hct

def NoUps (r : RM Out) : Prop := ∀ H out, r.run H = some out → out.ups = []
theorem NoUps.pure (v : T) : NoUps (.pure { v }) := fun H out h => by simp only [RM.run, Option.some.injEq] at h; subst h; rfl
theorem NoUps.fail : NoUps .fail := fun H out h => by cases h
theorem NoUps.get {e j : Nat} {k : Ob → RM Out} (h : ∀ ob, NoUps (k ob)) : NoUps (.get e j k) := fun H out hr => by
  simp only [RM.run] at hr
  split at hr
  · exact h _ H out hr
  · cases hr
theorem NoUps.bind {α : Type} {m : RM α} {f : α → RM Out} (h : ∀ a, NoUps (f a)) : NoUps (m.bind f) := fun H out hr => by
  rw [RM.run_bind] at hr
  split at hr
  · exact h _ H out hr
  · cases hr
theorem read_ups {ρ : Operand → T} {own : Nat} {ty : TypeId} {op : Op} (h : readK op = true) : NoUps (opM Y ρ own ty op) := by
  cases op
  case load t a =>
    simp only [opM]; unfold loadM
    split
    · refine .get fun ob => .bind fun u => ?_
      split
      · exact .pure _
      · exact .fail
    · split
      · exact .pure _
      · exact .fail
    · exact .fail
  case indexAddr t x i =>
    simp only [opM]; unfold indexAddrM
    repeat' first | exact .pure _ | exact .fail | (refine .get fun ob => ?_) | split
  case slice t x lo hi mx =>
    simp only [opM]; unfold sliceM
    repeat' first | exact .pure _ | exact .fail | (refine .get fun ob => ?_) | split
  all_goals cases h

theorem LStep.read {ρ : Operand → T} {o : Oper} {H H' : Heap} {v : T} (hf : readK o.op = true) (h : LStep P Y ρ o H H' v) : H' = H := by
  unfold LStep at h
  obtain ⟨ha, hc⟩ := read_al (Y := Y) hf
  simp only [ha, hc, Bool.false_eq_true, if_false] at h
  obtain ⟨out, ho, h1, rfl⟩ := h
  rw [ups_nil (read_ups hf _ _ ho)] at h1
  exact h1

theorem GStep.read {ops : Array Oper} {tm : List T} {o : Oper} {H H' : Heap} {v : T} (hf : readK o.op = true) (h : GStep P Y ops tm o H H' v) : H' = H := by
  unfold GStep at h
  cases hg : o.guard with
  | none => simp only [hg] at h; exact h.read hf
  | some x =>
    simp only [hg] at h
    obtain ⟨b, hb, h⟩ := h
    by_cases hq : quietK o.op = true
    · simp only [hq, if_true] at h; exact h.1
    · simp only [hq, if_false] at h
      rcases h with ⟨hbw, h⟩ | ⟨hbw, rfl, rfl⟩ | ⟨y, args, res, hct, _⟩
      · exact h.read hf
      · rfl
      · rw [callT_no (read_al (Y := Y) hf).2] at hct; cases hct
end
end Go.Vm

namespace Go.Vm
set_option linter.unusedSimpArgs false

/-! ### regions that draw: the order in which they are written stands for all -/
def mk1 (M : List Nat) (es : List Nat) : Nat := es.foldr (fun e m => (m ||| (1 <<< e)) ||| M.getD e 0) 0
def msk (ops : Array Oper) : List Nat := (List.range ops.size).foldl (fun M i => M ++ [mk1 M (edgesOf ops i)]) []

def whoA (ops : Array Oper) (t : Tmp) : Option Nat := who ops.size ops t
def opT (l : List Operand) : List Tmp := l.filterMap fun | .tmp t => some t | _ => none
def loudK (op : Op) : Bool := !(freeK op || readK op)
def loudAt (ops : Array Oper) (j : Nat) : Bool := match ops[j]? with | some o => loudK o.op | none => false
def readAt (ops : Array Oper) (j : Nat) : Bool := match ops[j]? with | some o => readK o.op | none => false

/-- operations that only make something new: they may come early -/
def floatK : Op → Bool
  | .alloc _ | .buildSlice .. => true
  | _ => false
def floatAt (ops : Array Oper) (j : Nat) : Bool := match ops[j]? with | some o => floatK o.op | none => false
def early (ops : Array Oper) (M : List Nat) (k : Nat) : Bool := floatAt ops k && (List.range k).any fun j => loudAt ops j && !(M.getD k 0).testBit j
/-- what holds of one operation -/
def opOk (ops : Array Oper) (M : List Nat) (i : Nat) : Bool := match ops[i]? with
  | none => false
  | some o => (edgesOf ops i).all (fun e => decide (e < i)) && (M.getD i 0 == mk1 M (edgesOf ops i)) &&
    (match o.dst with | none => true | some d => whoA ops d == some i) &&
    (opT (opds o.op)).all (fun t => match whoA ops t with | none => true | some k => (M.getD i 0).testBit k || ((M.getD k 0).testBit i && !early ops M k)) && -- earlyAt
   
    (match o.guard with | none => true | some (g, _) => (M.getD i 0).testBit g && (match (ops[g]?).bind (·.dst) with | some d => whoA ops d == some g | none => false)) &&
    (!loudK o.op || (floatK o.op && o.guard.isNone && o.dst.isSome) || (List.range i).all fun j => !loudAt ops j || (M.getD i 0).testBit j)

/-- where a reading operation may stand: behind so many operations that change the heap -/
def may (ops : Array Oper) (M : List Nat) (i p : Nat) : Bool := (List.range ops.size).all fun j => !loudAt ops j || ((!(M.getD i 0).testBit j || decide (j < p)) && (!(M.getD j 0).testBit i || decide (p ≤ j)))
def same (ops : Array Oper) (p q : Nat) : Bool := (List.range ops.size).all fun j => !loudAt ops j || (decide (j < p) == decide (j < q))
def cuts (ops : Array Oper) : List Nat := 0 :: ((List.range ops.size).filter (loudAt ops)).map (· + 1)
/-- 'cs': operation and the cut where it is looked at again -/
def readsOk (ops : Array Oper) (M : List Nat) (cs : List (Nat × Nat)) : Bool := (List.range ops.size).all fun i => !readAt ops i || (cuts ops).all fun p => !may ops M i p || same ops i p || cs.contains (i, p)
def floatsOk (ops : Array Oper) (M : List Nat) : Bool := (List.range ops.size).all fun k => !early ops M k || (List.range ops.size).all fun i => !(M.getD i 0).testBit k || (List.range k).all fun j => !loudAt ops j || (M.getD i 0).testBit j
def flowB (ops : Array Oper) (M : List Nat) (cs : List (Nat × Nat)) : Bool := (List.range ops.size).all (opOk ops M) && floatsOk ops M && readsOk ops M cs

theorem mk1_bit {M : List Nat} {k : Nat} : ∀ {es : List Nat}, (mk1 M es).testBit k = true → ∃ e ∈ es, k = e ∨ (M.getD e 0).testBit k = true
  | [], h => by simp [mk1] at h
  | e :: es, h => by
    simp only [mk1, List.foldr_cons, Nat.testBit_or, Bool.or_eq_true] at h
    rcases h with (h | h) | h
    · obtain ⟨e', h1, h2⟩ := mk1_bit (es := es) h
      exact ⟨e', by simp [h1], h2⟩
    · refine ⟨e, by simp, .inl ?_⟩
      rw [Nat.one_shiftLeft] at h
      have := Nat.testBit_two_pow (n := e) (m := k)
      rw [this] at h
      simp at h; exact h.symm
    · exact ⟨e, by simp, .inr h⟩

structure FB (ops : Array Oper) (M : List Nat) : Prop where
  op : ∀ i, i < ops.size → opOk ops M i = true

theorem FB.ed {ops : Array Oper} {M : List Nat} (h : FB ops M) {i : Nat} (hi : i < ops.size) : (∀ k ∈ edgesOf ops i, k < i) ∧ M.getD i 0 = mk1 M (edgesOf ops i) := by
  have := h.op i hi
  unfold opOk at this
  split at this
  · cases this
  · simp only [Bool.and_eq_true, List.all_eq_true, decide_eq_true_eq, beq_iff_eq] at this
    exact ⟨this.1.1.1.1.1, this.1.1.1.1.2⟩

theorem FB.bit_lt {ops : Array Oper} {M : List Nat} (h : FB ops M) : ∀ (i : Nat), i < ops.size → ∀ k, (M.getD i 0).testBit k = true → k < i := by
  intro i
  induction i using Nat.strongRecOn with
  | _ i ih =>
    intro hi k hk
    obtain ⟨h1, h2⟩ := h.ed hi
    rw [h2] at hk
    obtain ⟨e, he, hke⟩ := mk1_bit hk
    have hei := h1 e he
    rcases hke with rfl | hke
    · exact hei
    · have := ih e hei (by omega) k hke; omega

theorem FB.bit_in {ops : Array Oper} {M : List Nat} (h : FB ops M) {l : Array Bool} (hc : Closed ops l) : ∀ (i : Nat), i < ops.size → (∀ k ∈ edgesOf ops i, l.getD k false = true) → ∀ k, (M.getD i 0).testBit k = true → l.getD k false = true := by
  intro i
  induction i using Nat.strongRecOn with
  | _ i ih =>
    intro hi hE k hk
    obtain ⟨h1, h2⟩ := h.ed hi
    rw [h2] at hk
    obtain ⟨e, he, hke⟩ := mk1_bit hk
    have hei := h1 e he
    rcases hke with rfl | hke
    · exact hE _ he
    · exact ih e hei (by omega) (hc e (hE e he)) k hke

theorem FB.dst {ops : Array Oper} {M : List Nat} (h : FB ops M) {i : Nat} {o : Oper} (ho : ops[i]? = some o) {d : Tmp} (hd : o.dst = some d) : whoA ops d = some i := by
  have := h.op i (Array.getElem?_eq_some_iff.1 ho).1
  unfold opOk at this
  simp only [ho, hd, Bool.and_eq_true, beq_iff_eq] at this
  exact this.1.1.1.2

theorem FB.opd {ops : Array Oper} {M : List Nat} (h : FB ops M) {i : Nat} {o : Oper} (ho : ops[i]? = some o) {t : Tmp} (ht : .tmp t ∈ opds o.op) {k : Nat} (hk : whoA ops t = some k) : (M.getD i 0).testBit k = true ∨ ((M.getD k 0).testBit i = true ∧ early ops M k = false) := by
  have := h.op i (Array.getElem?_eq_some_iff.1 ho).1
  unfold opOk at this
  simp only [ho, Bool.and_eq_true, List.all_eq_true] at this
  have := this.1.1.2 t (by simp only [opT, List.mem_filterMap]; exact ⟨_, ht, rfl⟩)
  simp only [hk, Bool.or_eq_true, Bool.and_eq_true, Bool.not_eq_true'] at this
  exact this

theorem FB.gd {ops : Array Oper} {M : List Nat} (h : FB ops M) {i : Nat} {o : Oper} (ho : ops[i]? = some o) {g : Nat} {w : Bool} (hg : o.guard = some (g, w)) : (M.getD i 0).testBit g = true ∧ ∃ d, (ops[g]?).bind (·.dst) = some d ∧ whoA ops d = some g := by
  have := h.op i (Array.getElem?_eq_some_iff.1 ho).1
  unfold opOk at this
  simp only [ho, hg, Bool.and_eq_true] at this
  refine ⟨this.1.2.1, ?_⟩
  have h2 := this.1.2.2
  split at h2
  · rename_i d hd; exact ⟨d, hd, by simpa using h2⟩
  · cases h2

theorem FB.ld {ops : Array Oper} {M : List Nat} (h : FB ops M) {i j : Nat} (hi : loudAt ops i = true) (hj : loudAt ops j = true) (hji : j < i) (hf : floatAt ops i = false) : (M.getD i 0).testBit j = true := by
  unfold loudAt at hi
  unfold floatAt at hf
  cases ho : ops[i]? with
  | none => simp [ho] at hi
  | some o =>
    simp only [ho] at hi hf
    have := h.op i (Array.getElem?_eq_some_iff.1 ho).1
    unfold opOk at this
    simp only [ho, hi, hf, Bool.and_eq_true, Bool.not_true, Bool.false_or, Bool.false_and, List.all_eq_true, List.mem_range] at this
    have := this.2 j hji
    simpa [hj] using this

theorem FB.fl {ops : Array Oper} {M : List Nat} (h : FB ops M) {i j : Nat} {o : Oper} (ho : ops[i]? = some o) (hf : floatK o.op = true) (hl : loudK o.op = true) (hj : loudAt ops j = true) (hji : j < i) (hb : (M.getD i 0).testBit j = false) :
    o.guard = none ∧ ∃ d, o.dst = some d := by
  have := h.op i (Array.getElem?_eq_some_iff.1 ho).1
  unfold opOk at this
  simp only [ho, hl, hf, Bool.and_eq_true, Bool.not_true, Bool.false_or, Bool.true_and, Bool.or_eq_true, List.all_eq_true, List.mem_range, Option.isNone_iff_eq_none, Option.isSome_iff_exists] at this
  rcases this.2 with h1 | h1
  · exact ⟨h1.1, h1.2⟩
  · have := h1 j hji
    simp [hj] at this
    rw [List.getD_eq_getElem?_getD] at hb
    rw [hb] at this; cases this

/-! ### the walk in the order written -/
structure Trk (P : Program) (Y : TypeId → TyI) (ops : Array Oper) (l : List Oper) (st : Nat → S) (rv : Nat → T) : Prop where
  step : ∀ i o, l[i]? = some o → GStep P Y ops (st i).tm o (st i).hp (st (i + 1)).hp (rv i) ∧ (st (i + 1)).tm = ((⟨(st i).tm, []⟩ : S).put o.dst (rv i)).tm

theorem put_tm {tm : List T} {H : Heap} {d : Option Tmp} {v : T} : ((⟨tm, H⟩ : S).put d v).tm = ((⟨tm, []⟩ : S).put d v).tm := by cases d <;> rfl
theorem put_hp' {tm : List T} {H : Heap} {d : Option Tmp} {v : T} : ((⟨tm, H⟩ : S).put d v).hp = H := by cases d <;> rfl

theorem Trk.of {P : Program} {Y : TypeId → TyI} {ops : Array Oper} {K : S → Prop} : ∀ (l : List Oper) (s : S), vopl P Y ops K l s → ∃ st rv, st 0 = s ∧ Trk P Y ops l st rv ∧ K (st l.length)
  | [], s, h => ⟨fun _ => s, fun _ => .undef, rfl, ⟨fun i o h => by simp at h⟩, h⟩
  | o :: l, s, h => by
    obtain ⟨H', v, h1, h2⟩ := GStep.of (show vgop P Y ops o (vopl P Y ops K l) s from h)
    obtain ⟨st, rv, e, ht, hk⟩ := Trk.of l _ h2
    refine ⟨fun i => match i with | 0 => s | i + 1 => st i, fun i => match i with | 0 => v | i + 1 => rv i, rfl, ⟨fun i o' ho' => ?_⟩, hk⟩
    cases i with
    | zero =>
      simp only [List.getElem?_cons_zero, Option.some.injEq] at ho'; subst ho'
      simp only [e]
      exact ⟨by rw [put_hp']; exact h1, put_tm⟩
    | succ i => exact ht.step i o' (by simpa using ho')
end Go.Vm
