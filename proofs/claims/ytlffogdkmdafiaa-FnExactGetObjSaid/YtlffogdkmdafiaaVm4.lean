/- Shows what the parts of the program do that the claim reaches: a machine of values over the model, and the contracts of functions, for all arguments within the lengths that each theorem names. -/
import Derived.Test.YtlffogdkmdafiaaVm3
import Derived.OpenShut
import Derived.ProofKit
import Derived.WideKeyArgs
import Derived.Test.YtlffogdkmdafiaaVm2
set_option linter.all false

namespace Go.Vm
open Go.ChangeShapes

theorem offs_le {Y : TypeId → TyI} : ∀ (fs : List (TypeId × Nat)) (o m : Nat), offsOk Y o fs = some m → o ≤ m ∧ ∀ (i : Nat) (f : TypeId × Nat), fs[i]? = some f → f.2 + (Y f.1).cells ≤ m
  | [], o, m, h => by simp only [offsOk, Option.some.injEq] at h; subst h; exact ⟨Nat.le_refl _, fun i f hf => by simp at hf⟩
  | (t, off) :: l, o, m, h => by
    simp only [offsOk] at h
    split at h
    case isFalse => cases h
    rename_i ho
    subst ho
    obtain ⟨h1, h2⟩ := offs_le l _ _ h
    refine ⟨by omega, fun i f hf => ?_⟩
    cases i with
    | zero => simp at hf; subst hf; exact h1
    | succ i => exact h2 i f (by simpa using hf)

theorem chunks (k : Nat) : ∀ (m : Nat) (cs : List Value), cs.length = m * k → ((List.range m).flatMap fun i => (cs.drop (i * k)).take k) = cs
  | 0, cs, h => by
    have : cs = [] := by cases cs with | nil => rfl | cons _ _ => simp at h
    subst this; rfl
  | m + 1, cs, h => by
    rw [List.range_succ_eq_map]
    simp only [List.flatMap_cons, List.flatMap_map, Nat.zero_mul, List.drop_zero]
    have ih := chunks k m (cs.drop k) (by rw [List.length_drop, h, Nat.add_mul]; omega)
    have e : ∀ i, (List.drop ((i + 1) * k) cs).take k = ((cs.drop k).drop (i * k)).take k := fun i => by
      rw [List.drop_drop, Nat.add_mul]; congr 2; omega
    simp only [Nat.succ_eq_add_one, e]
    rw [ih, List.take_append_drop]

section
variable {H : Type} {enc : TypeId × Value → H} {P : Program} {Y : TypeId → TyI} {c : Cx} {base : Nat} {spare : Nat → Bool} {held : Bool} (hY : TysW P Y) (hZ : ∀ b, b < c.w.heap.size → c.Z b)
include hY hZ

theorem trod_tree : ∀ (n : Nat) (t : TypeId) (fuel : Nat) (cs : List Value) (x : DataW H × List MemPlace), plainT Y n t = true → DataW.trod enc P c.w base spare held fuel t cs = some x →
    ∃ u, RC c u cs [] ∧ Typed Y n t u
  | 0, t, fuel, cs, x, hp, _ => by simp [plainT] at hp
  | n + 1, t, fuel, cs, x, hp, h => by
    have hpos : 0 < (Y t).cells := by
      by_cases h0 : (Y t).k = .bad
      · simp [plainT, h0] at hp
      · exact hY.pos rfl h0
    obtain ⟨d, hd, hm⟩ := under_eq hY.ok hpos
    simp only [plainT] at hp
    simp only [Typed]
    cases hk : (Y t).k with
    | int k =>
      rw [hk] at hm; simp only [TyM] at hm; subst hm
      obtain ⟨v, rfl, _, hw⟩ := DataW.trod_int hd h
      exact ⟨.int k v, ⟨rfl, rfl⟩, v, rfl, hw⟩
    | bool =>
      rw [hk] at hm; simp only [TyM] at hm; subst hm
      obtain ⟨b, rfl, _⟩ := DataW.trod_bool hd h
      exact ⟨.bool b, ⟨rfl, rfl⟩, b, rfl⟩
    | str =>
      rw [hk] at hm; simp only [TyM] at hm; subst hm
      obtain ⟨s, rfl, _, hs⟩ := DataW.trod_string hd h
      exact ⟨.str s, ⟨rfl, rfl⟩, s, rfl, hs⟩
    | sl e =>
      rw [hk] at hm hp; simp only [TyM] at hm; subst hm
      have hepos : 0 < (Y e).cells := hY.el (.inl hk)
      have hce := cellsOf_eq hY.ok hepos
      rcases Go.Deep.open_slice hd h with ⟨rfl, _⟩ | ⟨a, len, cap, m, n', D, Pl, rfl, _, hlc, hcm, hmm, _, hx⟩
      · exact ⟨.sl .b [], ⟨rfl, none, 0, rfl, Nat.le_refl _, .inl rfl⟩, [], rfl, Nat.zero_le _, by simp⟩
      · have hlm : len ≤ m := by rw [hmm]; split <;> omega
        have each : ∀ i, i < len → ∃ q : List Value × T, c.w.cells? base (a.add (i * P.cellsOf e)) (P.cellsOf e) = some q.1 ∧ RC c q.2 q.1 [] ∧ Typed Y n e q.2 := by
          intro i hi
          obtain ⟨cs', h1, h2⟩ := hx i (by omega)
          obtain ⟨u, hu, ht⟩ := trod_tree n e n' cs' (D i, Pl i) hp h2
          exact ⟨(cs', u), h1, hu, ht⟩
        obtain ⟨q, hq⟩ := Go.Deep.choose_lt each
        refine ⟨.sl .b ((List.range len).map fun i => (q i).2), ?_, _, rfl, by simp; omega, ?_⟩
        · refine ⟨rfl, some a, cap, by simp, by simpa using hlc, ?_⟩
          by_cases h0 : len = 0
          · left; subst h0; rfl
          · right
            have hlens : ∀ i, i < len → ((q i).1).length = (Y e).cells := fun i hi => by
              obtain ⟨_, hl, _⟩ := World.cells?_some (hq i hi).1
              rw [hl, hce]
            have hspot : a.spot = none := by
              obtain ⟨_, hl, hc⟩ := World.cells?_some (hq 0 (by omega)).1
              have h1 := hc 0 (by omega)
              have hl' := hlens 0 (by omega)
              cases hv : (q 0).1[0]? with
              | none => rw [List.getElem?_eq_none_iff] at hv; omega
              | some v =>
                rw [hv] at h1
                have := World.cell?_spot h1
                simpa [Addr.add] using this
            refine ⟨a, (Y e).cells, (List.range len).flatMap fun i => (q i).1, rfl, hspot, hepos, rows_of len (fun i => (q i).1) (fun i => (q i).2) fun i hi => ⟨hlens i hi, (hq i hi).2.1⟩, ?_, ?_⟩
            · have hcell : ∀ i, i < len → ∀ j v, (q i).1[j]? = some v → c.w.cell? ⟨a.block, a.off + (i * (Y e).cells + j), none⟩ = some v := fun i hi j v hv => by
                obtain ⟨_, hl, hc⟩ := World.cells?_some (hq i hi).1
                have hj : j < (q i).1.length := (List.getElem?_eq_some_iff.1 hv).1
                have := hc j (by omega)
                rw [hv, Addr_add' a _ hspot, Addr_add, hce] at this
                rw [← Nat.add_assoc]; exact this
              obtain ⟨v0, hv0⟩ : ∃ v, (q 0).1[0]? = some v := ⟨_, List.getElem?_eq_getElem (by rw [hlens 0 (by omega)]; exact hepos)⟩
              have h00 := hcell 0 (by omega) 0 v0 hv0
              unfold World.cell? at h00
              cases hh : c.w.heap[a.block]? with
              | none => simp [hh] at h00
              | some ob =>
                cases ob with
                | cells arr ty fr =>
                  refine ⟨arr, ty, fr, hh, fun i v hv => ?_⟩
                  have hi : i < len * (Y e).cells := by
                    have := (List.getElem?_eq_some_iff.1 hv).1
                    rwa [flat_len len _ hlens] at this
                  have hq1 : i / (Y e).cells < len := Nat.div_lt_of_lt_mul (by rw [Nat.mul_comm]; exact hi)
                  have hr1 : i % (Y e).cells < (Y e).cells := Nat.mod_lt _ hepos
                  have hdm : i / (Y e).cells * (Y e).cells + i % (Y e).cells = i := by rw [Nat.mul_comm]; exact Nat.div_add_mod i _
                  rw [← hdm, flat_get hepos len _ hlens _ _ hq1 hr1] at hv
                  have := hcell _ hq1 _ v hv
                  rw [hdm] at this
                  simp only [World.cell?, hh] at this
                  simpa using this
                | _ => simp [hh] at h00
            · obtain ⟨_, hl, hc⟩ := World.cells?_some (hq 0 (by omega)).1
              have h1 := hc 0 (by rw [hce]; exact hepos)
              obtain ⟨v0, hv0⟩ : ∃ v, (q 0).1[0]? = some v := ⟨_, List.getElem?_eq_getElem (by rw [hlens 0 (by omega)]; exact hepos)⟩
              rw [hv0, Addr_add' a _ hspot, Addr_add] at h1
              refine hZ _ ?_
              rcases Nat.lt_or_ge a.block c.w.heap.size with h' | h'
              · exact h'
              · simp [World.cell?, Array.getElem?_eq_none h'] at h1
        · intro u hu
          obtain ⟨i, hi, rfl⟩ := List.mem_map.1 hu
          exact (hq i (by simpa using hi)).2.2
    | st fs =>
      rw [hk] at hm hp; simp only [TyM] at hm
      obtain ⟨fields, rfl, hfs⟩ := hm
      simp only [Bool.and_eq_true, beq_iff_eq] at hp
      obtain ⟨xs, n', rfl, _, hlen, hxl, hf⟩ := DataW.trod_struct hd h
      have hcl := cellsOf_eq hY.ok hpos
      have hle := offs_le fs 0 _ hp.2
      have each : ∀ i, i < fs.length → ∃ u : T, ∀ f, fs[i]? = some f → RC c u ((cs.drop f.2).take (Y f.1).cells) [] ∧ Typed Y n f.1 u := by
        intro i hi
        have hfi : fs[i]? = some fs[i] := List.getElem?_eq_getElem hi
        have hmem : fs[i] ∈ fs := List.getElem_mem hi
        have hft : ∃ F : Field, fields[i]? = some F ∧ (F.type, F.offset) = fs[i] := by
          have : (fields.toList.map fun f => (f.type, f.offset))[i]? = some fs[i] := by rw [hfs]; exact hfi
          rw [List.getElem?_map] at this
          cases hF : fields.toList[i]? with
          | none => simp [hF] at this
          | some F => simp only [hF, Option.map_some, Option.some.injEq] at this; exact ⟨F, by simpa using hF, this⟩
        obtain ⟨F, hF, hFe⟩ := hft
        have hg := hf i F hF
        have hpl : plainT Y n fs[i].1 = true := by simpa using List.all_eq_true.1 hp.1 fs[i] hmem
        have hfpos : 0 < (Y fs[i].1).cells := hY.fld hk _ hmem
        rw [show F.type = fs[i].1 by rw [← hFe], show F.offset = fs[i].2 by rw [← hFe], cellsOf_eq hY.ok hfpos] at hg
        have hxi : i < xs.length := by
          rw [hxl, ← Array.length_toList]
          have := congrArg List.length hfs
          simp at this ⊢; omega
        rw [List.getElem?_eq_getElem hxi] at hg
        obtain ⟨u, hu, ht⟩ := trod_tree n _ _ _ _ hpl hg
        exact ⟨u, fun f hf => by rw [hfi] at hf; cases hf; exact ⟨hu, ht⟩⟩
      obtain ⟨g, hg⟩ := Go.Deep.choose_lt each
      refine ⟨.nd ((List.range fs.length).map g), ?_, _, rfl, by simp, fun i f x hfi hxi => ?_⟩
      · have := offs_split (c := c) fs 0 _ cs g hp.2 (Nat.zero_le _) (by rw [hlen, hcl]) (fun i f hfi _ => (hg i (List.getElem?_eq_some_iff.1 hfi).1 f hfi).1) (fun i f hfi => by rw [hlen, hcl]; exact hle.2 i f hfi)
        simpa only [RC, List.drop_zero] using this
      · have hi := (List.getElem?_eq_some_iff.1 hfi).1
        simp [hi] at hxi; subst hxi
        exact (hg i hi f hfi).2
    | ar m e =>
      rw [hk] at hm hp; simp only [TyM] at hm; subst hm
      simp only [Bool.and_eq_true, beq_iff_eq] at hp
      obtain ⟨xs, n', rfl, _, hlen, hxl, hf⟩ := DataW.trod_array hd h
      have hepos : 0 < (Y e).cells := hY.el (.inr ⟨m, hk⟩)
      have hce := cellsOf_eq hY.ok hepos
      have hcl := cellsOf_eq hY.ok hpos
      rw [hcl, hp.2] at hlen
      have each : ∀ i, i < m → ∃ u : T, RC c u ((cs.drop (i * (Y e).cells)).take (Y e).cells) [] ∧ Typed Y n e u := by
        intro i hi
        have hg := hf i hi
        rw [hce, List.getElem?_eq_getElem (by rw [hxl]; exact hi)] at hg
        exact trod_tree n _ _ _ _ hp.1 hg
      obtain ⟨g, hg⟩ := Go.Deep.choose_lt each
      refine ⟨.nd ((List.range m).map g), ?_, _, rfl, by simp, fun x hx => ?_⟩
      · have := list_of (c := c) (es := (Y e).cells) m (fun i => (cs.drop (i * (Y e).cells)).take (Y e).cells) g fun i hi => (hg i hi).1
        rw [chunks (Y e).cells m cs hlen] at this
        exact this
      · obtain ⟨i, hi, rfl⟩ := List.mem_map.1 hx
        exact (hg i (by simpa using hi)).2
    | _ => simp [hk] at hp
end
end Go.Vm

namespace Go.Vm
open Go.ChangeShapes Go.WideShapes Go.ChangeAt Go.RowKit

theorem leaf_cells {v x : Value} (h1 : ∀ cs, v ≠ .agg cs) (h2 : v.cells.toList = [x]) : v = x := by
  cases v with
  | agg cs => exact absurd rfl (h1 cs)
  | _ => simpa [Value.cells] using h2

/-- a plain argument, as what a contract takes -/
theorem RX_of {P : Program} {Y : TypeId → TyI} {c : Cx} (hY : TysW P Y) {n : Nat} {t : TypeId} {u : T} {v : Value} {W : World} {base : Nat}
    (hp : plainT Y n t = true) (ht : Typed Y n t u) (hc : RC c u v.cells.toList []) (hv : Value.okWide P W .any base t v) : RX c u none v [] := by
  cases n with
  | zero => simp [plainT] at hp
  | succ n =>
    have hpos : 0 < (Y t).cells := by
      by_cases h0 : (Y t).k = .bad
      · simp [plainT, h0] at hp
      · exact hY.pos rfl h0
    obtain ⟨d, hd, hm⟩ := under_eq hY.ok hpos
    simp only [Typed] at ht
    simp only [plainT] at hp
    simp only [Value.okWide, hd] at hv
    cases hk : (Y t).k with
    | int k =>
      rw [hk] at ht hm; simp only [TyM] at hm; subst hm
      obtain ⟨z, rfl, _⟩ := ht
      refine ⟨rfl, rfl, leaf_cells (fun cs h => ?_) hc.1⟩
      subst h; simp [Cell.okWide, Cell.ok, hd] at hv
    | bool =>
      rw [hk] at ht hm; simp only [TyM] at hm; subst hm
      obtain ⟨z, rfl⟩ := ht
      refine ⟨rfl, rfl, leaf_cells (fun cs h => ?_) hc.1⟩
      subst h; simp [Cell.okWide, Cell.ok, hd] at hv
    | str =>
      rw [hk] at ht hm; simp only [TyM] at hm; subst hm
      obtain ⟨z, rfl, _⟩ := ht
      refine ⟨rfl, rfl, leaf_cells (fun cs h => ?_) hc.1⟩
      subst h; simp [Cell.okWide, Cell.ok, hd] at hv
    | sl e =>
      rw [hk] at ht hm; simp only [TyM] at hm; subst hm
      obtain ⟨l, rfl, _⟩ := ht
      obtain ⟨_, A, k, h1, h2, h3⟩ := hc
      refine ⟨rfl, rfl, A, k, leaf_cells (fun cs h => ?_) h1, h2, h3⟩
      subst h; simp [Cell.okWide, Cell.ok, hd] at hv
    | st fs =>
      rw [hk] at ht hm; simp only [TyM] at hm
      obtain ⟨fields, rfl, _⟩ := hm
      obtain ⟨l, rfl, _⟩ := ht
      obtain ⟨cs, rfl, _⟩ := hv
      exact ⟨rfl, cs, rfl, hc⟩
    | ar m e =>
      rw [hk] at ht hm; simp only [TyM] at hm; subst hm
      obtain ⟨l, rfl, _⟩ := ht
      obtain ⟨cs, rfl, _⟩ := hv
      exact ⟨rfl, cs, rfl, hc⟩
    | _ => simp [hk] at hp

theorem RXL_of {H : Type} {enc : TypeId × Value → H} {P : Program} {Y : TypeId → TyI} {c : Cx} {base b0 : Nat} {spare : Nat → Bool} {held : Bool} (hY : TysW P Y) (hZ : ∀ b, b < c.w.heap.size → c.Z b) (n : Nat) :
    ∀ (ts : List TypeId) (vs : List Value) (ds : List (DataW H)) (p : List MemPlace), (∀ t ∈ ts, plainT Y n t = true) →
    DataW.TrodAll enc P c.w base spare held ts vs ds p → (∀ (j : Nat) t v, ts[j]? = some t → vs[j]? = some v → Value.okWide P c.w .any b0 t v) →
    ∃ us : List T, RXL c us (ts.map fun _ => none) vs [] ∧ us.length = ts.length ∧ ∀ (i : Nat) t u, ts[i]? = some t → us[i]? = some u → Typed Y n t u
  | [], vs, ds, p, _, h, _ => by
    obtain ⟨rfl, rfl, rfl⟩ := trodAll_nil h
    exact ⟨[], ⟨rfl, rfl, rfl⟩, rfl, by simp⟩
  | t :: ts, vs, ds, p, hp, h, hv => by
    obtain ⟨v, vs1, d, ds1, a, b, rfl, rfl, rfl, h1, h2⟩ := trodAll_cons h
    obtain ⟨us, r1, r2, r3⟩ := RXL_of hY hZ n ts vs1 ds1 b (fun t ht => hp t (by simp [ht])) h2 fun j t v h1 h2 => hv (j + 1) t v (by simpa using h1) (by simpa using h2)
    obtain ⟨fuel, hf⟩ := h1
    obtain ⟨u, q1, q2⟩ := trod_tree hY hZ n t fuel _ _ (hp t (by simp)) hf
    refine ⟨u :: us, ⟨none, _, v, vs1, [], [], rfl, rfl, rfl, RX_of hY (hp t (by simp)) q2 q1 (hv 0 t v rfl rfl), r1⟩, by simp [r2], fun i t' u' h1 h2 => ?_⟩
    cases i with
    | zero => simp at h1 h2; subst h1; subst h2; exact q2
    | succ i => exact r3 i t' u' (by simpa using h1) (by simpa using h2)
end Go.Vm

namespace Go.Vm
open Go.ChangeShapes Go.WideShapes Go.ChangeAt Go.RowKit

theorem sameAt_old {W W' : World} (hold : ∀ b, b < W.heap.size → W'.heap[b]? = W.heap[b]?) {p : MemPlace} (hp : p.block < W.heap.size) : W.sameAt W' p := by
  cases p with
  | cell b off => simp only [World.sameAt, World.cell?]; rw [hold b hp]
  | map b => exact hold b hp

theorem all_stays {H : Type} {enc : TypeId × Value → H} {P : Program} {W W' : World} {sp : Nat → Bool} (hl : laidOutB P = true) :
    ∀ (ts : List TypeId) (vs : List Value) (ds : List (DataW H)) (p : List MemPlace), (∀ t ∈ ts, P.readableRec t = true ∧ t < P.types.size) →
    DataW.TrodAll enc P W 0 (fun _ => true) true ts vs ds p → (∀ x ∈ p, W.sameAt W' x) → (∀ x ∈ p, sp x.block = true) → DataW.TrodAll enc P W' 0 sp true ts vs ds p
  | [], vs, ds, p, _, h, _, _ => by
    obtain ⟨rfl, rfl, rfl⟩ := trodAll_nil h
    rfl
  | t :: ts, vs, ds, p, hr, h, hs, hsp => by
    obtain ⟨v, vs1, d, ds1, a, b, rfl, rfl, rfl, h1, h2⟩ := trodAll_cons h
    obtain ⟨q1, q2⟩ := hr t (by simp)
    exact ⟨a, b, WideElems.Trod_stays hl q1 q2 h1 (fun x hx => hs x (by simp [hx])) (fun x hx => hsp x (by simp [hx])),
      all_stays hl ts vs1 ds1 b (fun t ht => hr t (by simp [ht])) h2 (fun x hx => hs x (by simp [hx])) (fun x hx => hsp x (by simp [hx])), rfl⟩

theorem kept_old {W W' : World} (may : MemPlace → Prop) (hold : ∀ b, b < W.heap.size → W'.heap[b]? = W.heap[b]?) (hk : Keep W W') : W.keptBut W' may := by
  refine ⟨hk.os, hk.out, fun i hi => ?_⟩
  have := hold i hi
  have h2 := (World.keptBut_refl W may).2.2 i hi
  rw [this]; exact h2

/-- THE POST of a law that answers true and leaves all that was there as it was -/
theorem post_true {H : Type} {enc : TypeId × Value → H} {P : Program} {f : Func} {s : ChangeSpec} {W W' : World} {args : Array Value} {ds gs : List (DataW H)} {before : List MemPlace} {tb : TypeId}
    (hl : laidOutB P = true) (hr : ∀ t ∈ f.params.toList, P.readableRec t = true ∧ t < P.types.size) (hv0 : s.vars = [])
    (hW : DataW.Whole enc P f.params.toList s.vars false W args.toList ds gs before)
    (hres : (s.fn H (ds ++ gs)).results = [.lit (.bool true)]) (hargs : (s.fn H (ds ++ gs)).args = ds) (hvs : (s.fn H (ds ++ gs)).vars = [])
    (hrt : f.resultTypes = #[tb]) (hb : P.underlying tb = some .bool)
    (hold : ∀ b, b < W.heap.size → W'.heap[b]? = W.heap[b]?) (hk : Keep W W') : s.post enc P f false true false false W args (.bool true) W' := by
  have hlt : ∀ p ∈ before, p.block < W.heap.size := fun p hp => hW.lt p hp
  have hsp : ∀ p ∈ before, (fun b => decide (b < W.heap.size)) p.block = true := fun p hp => by simpa using hlt p hp
  have hW0 := hW
  obtain ⟨p, q, hA, hV, rfl, _⟩ := hW
  rw [hv0] at hV
  obtain ⟨rfl, rfl⟩ := trodVars_none hV
  simp only [List.append_nil] at *
  refine ⟨ds, [], p, [], p, [], by simpa using hW0, ?_, ?_, ?_, ?_, fun h => by cases h⟩
  · simp only [List.append_nil]
    rw [hres, hrt]
    exact trodAll_mk1 (shut_bool hb true)
  · simp only [List.append_nil]
    rw [hargs]
    exact all_stays hl _ _ _ _ hr hA (fun x hx => sameAt_old hold (hlt x hx)) hsp
  · simp only [List.append_nil]
    rw [hvs, hv0]; rfl
  · exact World.keptBut_mono (fun _ hp => hp) (kept_old _ hold hk)

/-- FROM A CONTRACT TO A CALL: the law is given any lent arguments and answers true -/
theorem calls_of {H : Type} {enc : TypeId × Value → H} {P : Program} {Y : TypeId → TyI} (hY : TysW P Y) (n : Nat) {fid : FuncId} {W : World} {base : Nat} {ts : List TypeId} {args : Array Value} {ds : List (DataW H)} {p : List MemPlace}
    (hp : ∀ t ∈ ts, plainT Y n t = true) (hA : DataW.TrodAll enc P W 0 (fun _ => true) true ts args.toList ds p)
    (hval : ∀ (j : Nat) t v, ts[j]? = some t → args.toList[j]? = some v → Value.okWide P W .any base t v)
    (law : ∀ us : List T, us.length = ts.length → (∀ (i : Nat) t u, ts[i]? = some t → us[i]? = some u → Typed Y n t u) → CallR P fid us [] (.bool true)) :
    Calls P fid args W fun e W' => e = .returned (.bool true) ∧ (∀ b, b < W.heap.size → W'.heap[b]? = W.heap[b]?) ∧ Keep W W' := by
  let c : Cx := { w := W, Z := fun b => b < W.heap.size, Zs := fun _ => False, μ := fun _ _ => none, R := fun _ _ => False }
  obtain ⟨us, h1, h2, h3⟩ := RXL_of (c := c) hY (fun b hb => hb) n ts args.toList ds p hp hA hval
  have pre : Pre c [] := ⟨fun _ _ => rfl, List.nodup_nil, by simp, fun _ h => h.elim, fun _ h => h, by simp⟩
  have := (law us h2 h3).2.2 c _ args.toList [] pre (RAL_of h1)
  simp only [Array.toArray_toList] at this
  refine this.mono ?_
  rintro e W' ⟨r, c', ris, b1, b2, rfl, rfl, _, hpost, hr, _⟩
  refine ⟨?_, fun b hb => hpost.ff b hb (by simp), hpost.kp⟩
  obtain ⟨i, _, _, _, h⟩ := hr
  simp only [RV] at h
  rw [h]
end Go.Vm
namespace Go.Vm
/-! ### reading 'Typed' -/
section
variable {Y : TypeId → TyI} {n : Nat} {t : TypeId} {u : T}
theorem typed_int {k : IntKind} (h : Typed Y (n + 1) t u) (hk : (Y t).k = .int k) : ∃ v, u = .int k v ∧ (Lit.int k v).wf = true := by
  simpa only [Typed, hk] using h
theorem typed_bool (h : Typed Y (n + 1) t u) (hk : (Y t).k = .bool) : ∃ b, u = .bool b := by
  simpa only [Typed, hk] using h
theorem typed_str (h : Typed Y (n + 1) t u) (hk : (Y t).k = .str) : ∃ s : ByteArray, u = .str s ∧ s.size ≤ maxLen := by
  simpa only [Typed, hk] using h
theorem typed_sl {e : TypeId} (h : Typed Y (n + 1) t u) (hk : (Y t).k = .sl e) : ∃ l, u = .sl .b l ∧ l.length ≤ maxLen ∧ ∀ x ∈ l, Typed Y n e x := by
  simpa only [Typed, hk] using h
theorem typed_ar {m : Nat} {e : TypeId} (h : Typed Y (n + 1) t u) (hk : (Y t).k = .ar m e) : ∃ l, u = .nd l ∧ l.length = m ∧ ∀ x ∈ l, Typed Y n e x := by
  simpa only [Typed, hk] using h
def TypedL (Y : TypeId → TyI) (n : Nat) : List (TypeId × Nat) → List T → Prop
  | [], l => l = []
  | f :: fs, l => ∃ x l', l = x :: l' ∧ Typed Y n f.1 x ∧ TypedL Y n fs l'
theorem typedL_of : ∀ (fs : List (TypeId × Nat)) (l : List T), l.length = fs.length → (∀ (i : Nat) f x, fs[i]? = some f → l[i]? = some x → Typed Y n f.1 x) → TypedL Y n fs l
  | [], [], _, _ => rfl
  | [], _ :: _, h, _ => by simp at h
  | _ :: _, [], h, _ => by simp at h
  | f :: fs, x :: l, h, hh => ⟨x, l, rfl, hh 0 f x rfl rfl, typedL_of fs l (by simpa using h) fun i f x h1 h2 => hh (i + 1) f x (by simpa using h1) (by simpa using h2)⟩
theorem typed_st {fs : List (TypeId × Nat)} (h : Typed Y (n + 1) t u) (hk : (Y t).k = .st fs) : ∃ l, u = .nd l ∧ TypedL Y n fs l := by
  simp only [Typed, hk] at h
  obtain ⟨l, rfl, h1, h2⟩ := h
  exact ⟨l, rfl, typedL_of fs l h1 h2⟩
theorem exists_map {α β : Type} {f : β → α} : ∀ (l : List α), (∀ x ∈ l, ∃ b, x = f b) → ∃ l' : List β, l = l'.map f
  | [], _ => ⟨[], rfl⟩
  | x :: l, h => by
    obtain ⟨b, rfl⟩ := h x (by simp)
    obtain ⟨l', rfl⟩ := exists_map l fun y hy => h y (by simp [hy])
    exact ⟨b :: l', rfl⟩
end
end Go.Vm

namespace Go.Vm

/-! ### Go's plain types as Lean's, lent (b) and owned (o) -/
class Enc (α : Type) where
  b : α → T
  o : α → T
  es : Nat
  lim : Nat → α → Prop
  flat : Bool
  sz : α → Int → Int
  tyOk : (TypeId → TyI) → Nat → TypeId → Bool
  lendB : ∀ k a, lendA k (b a) = .pure (b a)
  lendO : ∀ k a, lendA k (o a) = .pure (b a)
  cloO : ∀ a, (o a).clo = true
  renB : ∀ π a, (b a).ren π = b a
  renO : ∀ π a, (o a).ren π = o a
  tgO : ∀ τ a, (o a).tg τ = o a
  szB : ∀ a, (b a).size = es
  szO : ∀ a, (o a).size = es
  celB : ∀ a, (b a).cel = true
  nwB : ∀ a, (b a).nw = true
  ndO : ∀ a, (o a).isNd = (b a).isNd
  dec : ∀ Y n t u, tyOk Y n t = true → Typed Y n t u → ∃ a, u = b a ∧ lim maxLen a
  flatLim : flat = true → ∀ n a, lim n a
  flatSz : flat = true → ∀ a x, sz a x = x
  szLe : ∀ a (x : Int), 0 ≤ x → sz a x ≤ x
  szNeg : ∀ a (x : Int), x < 0 → sz a x < 0
  szLim : ∀ a (x : Int), 0 ≤ sz a x → x ≤ 1048576 → lim 1048576 a
  limUp : ∀ n m a, n ≤ m → lim n a → lim m a

class EncL (α : Type) where
  bl : α → List T
  ol : α → List T
  es : Nat
  lim : Nat → α → Prop
  sz : α → Int → Int
  tyOk : (TypeId → TyI) → Nat → List (TypeId × Nat) → Bool
  lendB : ∀ k a, lendAL k (bl a) = .pure (bl a)
  lendO : ∀ k a, lendAL k (ol a) = .pure (bl a)
  cloO : ∀ a, cloL (ol a) = true
  renB : ∀ π a, renL π (bl a) = bl a
  renO : ∀ π a, renL π (ol a) = ol a
  tgO : ∀ τ a, tgL τ (ol a) = ol a
  szB : ∀ a, sizeL (bl a) = es
  szO : ∀ a, sizeL (ol a) = es
  nwB : ∀ a, nwL (bl a) = true
  dec : ∀ Y n fs u, tyOk Y n fs = true → TypedL Y n fs u → ∃ a, u = bl a ∧ lim maxLen a
  szLe : ∀ a (x : Int), 0 ≤ x → sz a x ≤ x
  szNeg : ∀ a (x : Int), x < 0 → sz a x < 0
  szLim : ∀ a (x : Int), 0 ≤ sz a x → x ≤ 1048576 → lim 1048576 a
  limUp : ∀ n m a, n ≤ m → lim n a → lim m a
  flat : Bool
  flatLim : flat = true → ∀ n a, lim n a
  flatSz : flat = true → ∀ a x, sz a x = x

attribute [simp] Enc.lendB Enc.lendO Enc.cloO Enc.renB Enc.renO Enc.tgO Enc.szB Enc.szO Enc.celB Enc.nwB

instance : Enc Int where
  b n := .int .i64 n
  o n := .int .i64 n
  es := 1
  lim _ _ := True
  flat := true
  sz _ x := x
  tyOk Y n t := match n with | 0 => false | _ + 1 => match (Y t).k with | .int .i64 => true | _ => false
  lendB _ _ := rfl
  lendO _ _ := rfl
  cloO _ := rfl
  renB _ _ := rfl
  renO _ _ := rfl
  tgO _ _ := rfl
  szB _ := rfl
  szO _ := rfl
  celB _ := rfl
  nwB _ := rfl
  ndO _ := rfl
  dec Y n t u h ht := by
    cases n with
    | zero => simp at h
    | succ n =>
      simp only at h
      split at h
      · rename_i hk
        obtain ⟨v, rfl, _⟩ := typed_int ht hk
        exact ⟨v, rfl, trivial⟩
      · cases h
  flatLim _ _ _ := trivial
  flatSz _ _ _ := rfl
  szLe _ _ _ := Int.le_refl _
  szNeg _ _ h := h
  szLim _ _ _ _ := trivial
  limUp _ _ _ _ _ := trivial

instance : Enc Bool where
  b n := .bool n
  o n := .bool n
  es := 1
  lim _ _ := True
  flat := true
  sz _ x := x
  tyOk Y n t := match n with | 0 => false | _ + 1 => match (Y t).k with | .bool => true | _ => false
  lendB _ _ := rfl
  lendO _ _ := rfl
  cloO _ := rfl
  renB _ _ := rfl
  renO _ _ := rfl
  tgO _ _ := rfl
  szB _ := rfl
  szO _ := rfl
  celB _ := rfl
  nwB _ := rfl
  ndO _ := rfl
  dec Y n t u h ht := by
    cases n with
    | zero => simp at h
    | succ n =>
      simp only at h
      split at h
      · rename_i hk
        obtain ⟨v, rfl⟩ := typed_bool ht hk
        exact ⟨v, rfl, trivial⟩
      · cases h
  flatLim _ _ _ := trivial
  flatSz _ _ _ := rfl
  szLe _ _ _ := Int.le_refl _
  szNeg _ _ h := h
  szLim _ _ _ _ := trivial
  limUp _ _ _ _ _ := trivial

section
variable {α : Type} [Enc α]
@[simp] theorem lendAL_b (k : T → RM T) : ∀ l : List α, lendAL k (l.map Enc.b) = .pure (l.map Enc.b)
  | [] => rfl
  | x :: l => by simp [lendAL, RM.bind, lendAL_b k l]
@[simp] theorem lendAL_o (k : T → RM T) : ∀ l : List α, lendAL k (l.map Enc.o) = .pure (l.map Enc.b)
  | [] => rfl
  | x :: l => by simp [lendAL, RM.bind, lendAL_o k l]
@[simp] theorem lendKL_b (k : T → RM T) : ∀ l : List α, lendKL (lendA k) (l.map Enc.b) = .pure (l.map Enc.b)
  | [] => rfl
  | x :: l => by simp [lendKL, RM.bind, lendKL_b k l]
@[simp] theorem lendKL_o (k : T → RM T) : ∀ l : List α, lendKL (lendA k) (l.map Enc.o) = .pure (l.map Enc.b)
  | [] => rfl
  | x :: l => by simp [lendKL, RM.bind, lendKL_o k l]
@[simp] theorem cloL_o : ∀ l : List α, cloL (l.map Enc.o) = true
  | [] => rfl
  | x :: l => by simp [cloL, cloL_o l]
@[simp] theorem renL_b (π : List Nat) : ∀ l : List α, renL π (l.map Enc.b) = l.map Enc.b
  | [] => rfl
  | x :: l => by simp [renL, renL_b π l]
@[simp] theorem renL_o (π : List Nat) : ∀ l : List α, renL π (l.map Enc.o) = l.map Enc.o
  | [] => rfl
  | x :: l => by simp [renL, renL_o π l]
@[simp] theorem tgL_o (τ : Tag → Tag) : ∀ l : List α, tgL τ (l.map Enc.o) = l.map Enc.o
  | [] => rfl
  | x :: l => by simp [tgL, tgL_o τ l]
@[simp] theorem cloAL_o : ∀ l : List α, cloAL (l.map Enc.o) = true
  | [] => rfl
  | x :: l => by simp [cloAL, clo_A _ (Enc.cloO x), cloAL_o l]
omit [Enc α] in
theorem map_get {β : Type} (f : α → β) (l : List α) (i : Nat) (h : i < l.length) : (l.map f)[i]? = some (f l[i]) := by simp [h]

def szFold : List α → Int → Int
  | [], x => x
  | a :: l, x => if Enc.sz a x < 0 then -1 else szFold l (Enc.sz a x)
theorem szFold_le : ∀ (l : List α) (x : Int), 0 ≤ x → szFold l x ≤ x
  | [], x, _ => Int.le_refl _
  | a :: l, x, h => by
    unfold szFold
    have := Enc.szLe a x h
    split
    · omega
    · have := szFold_le l (Enc.sz a x) (by omega); omega
theorem szFold_lim : ∀ (l : List α) (x : Int), 0 ≤ szFold l x → 0 ≤ x → x ≤ 1048576 → ∀ a ∈ l, Enc.lim 1048576 a
  | [], _, _, _, _, a, ha => by simp at ha
  | c :: l, x, h, h0, hx, a, ha => by
    unfold szFold at h
    split at h
    · omega
    · have h1 := Enc.szLe c x h0
      rcases List.mem_cons.1 ha with rfl | ha
      · exact Enc.szLim a x (by omega) hx
      · exact szFold_lim l (Enc.sz c x) h (by omega) (by omega) a ha

instance : Enc (List α) where
  b l := .sl .b (l.map Enc.b)
  o l := .ow (Enc.es α) (l.map Enc.o)
  es := 1
  lim n l := l.length ≤ n ∧ ∀ a ∈ l, Enc.lim n a
  flat := false
  sz l x := if x - l.length < 0 then -1 else if Enc.flat α then x - l.length else szFold l (x - l.length)
  tyOk Y n t := match n with | 0 => false | n + 1 => match (Y t).k with | .sl e => Enc.tyOk α Y n e | _ => false
  lendB k l := by simp [lendA, RM.bind]
  lendO k l := by simp [lendA, RM.bind]
  cloO l := by simp [T.clo]
  renB π l := by simp [T.ren]
  renO π l := by simp [T.ren]
  tgO τ l := by simp [T.tg]
  szB _ := rfl
  szO _ := rfl
  celB _ := rfl
  nwB _ := rfl
  ndO _ := rfl
  dec Y n t u h ht := by
    cases n with
    | zero => simp at h
    | succ n =>
      simp only at h
      split at h
      · rename_i e hk
        obtain ⟨l, rfl, hl, he⟩ := typed_sl ht hk
        have : ∃ l' : List α, l = l'.map Enc.b ∧ ∀ a ∈ l', Enc.lim maxLen a := by
          clear hl ht
          induction l with
          | nil => exact ⟨[], rfl, by simp⟩
          | cons x l ih =>
            obtain ⟨a, rfl, ha⟩ := Enc.dec Y n e x h (he x (by simp))
            obtain ⟨l', rfl, hl'⟩ := ih fun y hy => he y (by simp [hy])
            exact ⟨a :: l', rfl, by simpa using ⟨ha, hl'⟩⟩
        obtain ⟨l', rfl, hl'⟩ := this
        exact ⟨l', rfl, by simpa using hl, hl'⟩
      · cases h
  flatLim h := by cases h
  flatSz h := by cases h
  szLe l x h := by
    split
    · omega
    · split
      · omega
      · have := szFold_le l (x - l.length) (by omega); omega
  szNeg l x h := by rw [if_pos (by omega)]; omega
  szLim l x h hx := by
    split at h
    · omega
    · split at h
      · rename_i hf
        refine ⟨by omega, fun a _ => ?_⟩
        exact Enc.flatLim hf _ a
      · refine ⟨by omega, szFold_lim l _ h (by omega) (by omega)⟩
  limUp n m l h := fun ⟨h1, h2⟩ => ⟨by omega, fun a ha => Enc.limUp n m a h (h2 a ha)⟩
end

instance : EncL Unit where
  bl _ := []
  ol _ := []
  es := 0
  lim _ _ := True
  sz _ x := x
  tyOk _ _ fs := match fs with | [] => true | _ => false
  lendB _ _ := rfl
  lendO _ _ := rfl
  cloO _ := rfl
  renB _ _ := rfl
  renO _ _ := rfl
  tgO _ _ := rfl
  szB _ := rfl
  szO _ := rfl
  nwB _ := rfl
  dec Y n fs u h ht := by
    cases fs with
    | nil => exact ⟨(), ht, trivial⟩
    | cons _ _ => simp at h
  szLe _ _ _ := Int.le_refl _
  szNeg _ _ h := h
  szLim _ _ _ _ := trivial
  limUp _ _ _ _ _ := trivial
  flat := true
  flatLim _ _ _ := trivial
  flatSz _ _ _ := rfl

instance {α β : Type} [Enc α] [EncL β] : EncL (α × β) where
  bl x := Enc.b x.1 :: EncL.bl x.2
  ol x := Enc.o x.1 :: EncL.ol x.2
  es := Enc.es α + EncL.es β
  lim n x := Enc.lim n x.1 ∧ EncL.lim n x.2
  sz a x := if Enc.flat α then EncL.sz a.2 x else if Enc.sz a.1 x < 0 then -1 else EncL.sz a.2 (Enc.sz a.1 x)
  tyOk Y n fs := match fs with | [] => false | f :: fs => Enc.tyOk α Y n f.1 && EncL.tyOk β Y n fs
  lendB k x := by simp [lendAL, RM.bind, EncL.lendB]
  lendO k x := by simp [lendAL, RM.bind, EncL.lendO]
  cloO x := by simp [cloL, EncL.cloO]
  renB π x := by simp [renL, EncL.renB]
  renO π x := by simp [renL, EncL.renO]
  tgO τ x := by simp [tgL, EncL.tgO]
  szB x := by simp [sizeL, EncL.szB]
  szO x := by simp [sizeL, EncL.szO]
  nwB x := by simp [nwL, EncL.nwB]
  dec Y n fs u h ht := by
    cases fs with
    | nil => simp at h
    | cons f fs =>
      simp only [Bool.and_eq_true] at h
      obtain ⟨x, l', rfl, h1, h2⟩ := ht
      obtain ⟨a, rfl, ha⟩ := Enc.dec Y n f.1 x h.1 h1
      obtain ⟨b, rfl, hb⟩ := EncL.dec Y n fs l' h.2 h2
      exact ⟨(a, b), rfl, ha, hb⟩
  szLe a x h := by
    split
    · exact EncL.szLe _ _ h
    · split
      · omega
      · have h1 := Enc.szLe a.1 x h
        have h2 := EncL.szLe a.2 (Enc.sz a.1 x) (by omega); omega
  szNeg a x h := by
    split
    · exact EncL.szNeg _ _ h
    · rw [if_pos (Enc.szNeg a.1 x h)]; omega
  szLim a x h hx := by
    split at h
    · rename_i hf
      exact ⟨Enc.flatLim hf _ _, EncL.szLim a.2 x h hx⟩
    · split at h
      · omega
      · by_cases h0 : 0 ≤ x
        · have h1 := Enc.szLe a.1 x h0
          exact ⟨Enc.szLim a.1 x (by omega) hx, EncL.szLim a.2 _ h (by omega)⟩
        · have := Enc.szNeg a.1 x (by omega); omega
  limUp n m a h := fun ⟨h1, h2⟩ => ⟨Enc.limUp n m _ h h1, EncL.limUp n m _ h h2⟩
  flat := Enc.flat α && EncL.flat β
  flatLim h n a := by
    simp only [Bool.and_eq_true] at h
    exact ⟨Enc.flatLim h.1 n _, EncL.flatLim h.2 n _⟩
  flatSz h a x := by
    simp only [Bool.and_eq_true] at h
    simp [h.1, EncL.flatSz h.2]

instance {α β : Type} [Enc α] [EncL β] : Enc (α × β) where
  b x := .nd (EncL.bl x)
  o x := .nd (EncL.ol x)
  es := EncL.es (α × β)
  lim := EncL.lim
  flat := EncL.flat (α × β)
  sz := EncL.sz
  tyOk Y n t := match n with | 0 => false | n + 1 => match (Y t).k with | .st fs => EncL.tyOk (α × β) Y n fs | _ => false
  lendB k x := by simp [lendA, RM.bind, EncL.lendB]
  lendO k x := by simp [lendA, RM.bind, EncL.lendO]
  cloO x := by simp [T.clo, EncL.cloO]
  renB π x := by simp [T.ren, EncL.renB]
  renO π x := by simp [T.ren, EncL.renO]
  tgO τ x := by simp [T.tg, EncL.tgO]
  szB x := by simp [T.size, EncL.szB]
  szO x := by simp [T.size, EncL.szO]
  celB _ := rfl
  nwB x := by simp [T.nw, EncL.nwB]
  ndO _ := rfl
  dec Y n t u h ht := by
    cases n with
    | zero => simp at h
    | succ n =>
      simp only at h
      split at h
      · rename_i fs hk
        obtain ⟨l, rfl, hl⟩ := typed_st ht hk
        obtain ⟨a, rfl, ha⟩ := EncL.dec Y n fs l h hl
        exact ⟨a, rfl, ha⟩
      · cases h
  szLe := EncL.szLe
  szNeg := EncL.szNeg
  szLim := EncL.szLim
  limUp := EncL.limUp
  flatLim := EncL.flatLim
  flatSz := EncL.flatSz

/-! ### an array that is filled from the front -/
section
variable {α : Type} [Enc α]
def fillG (z : T) (l : List α) (i : Nat) : List T := (l.take i).map Enc.o ++ List.replicate (l.length - i) z
theorem fill_zero (z : T) (l : List α) : fillG z l 0 = List.replicate l.length z := by simp [fillG]
theorem fill_all (z : T) (l : List α) : fillG z l l.length = l.map Enc.o := by simp [fillG]
theorem fill_len (z : T) (l : List α) (i : Nat) (h : i ≤ l.length) : (fillG z l i).length = l.length := by simp [fillG]; omega
theorem fill_get (z : T) (l : List α) (i : Nat) (h : i < l.length) : (fillG z l i)[i]? = some z := by
  unfold fillG
  rw [List.getElem?_append_right (by simp; omega)]
  simp [List.getElem?_replicate]; omega
theorem fill_set (z : T) (l : List α) (i : Nat) (h : i < l.length) : (fillG z l i).set i (Enc.o l[i]) = fillG z l (i + 1) := by
  unfold fillG
  rw [List.set_append_right _ _ (by simp; omega)]
  have e1 : l.length - i = (l.length - (i + 1)) + 1 := by omega
  rw [e1, List.replicate_succ]
  have e2 : i - ((l.take i).map (Enc.o (α := α))).length = 0 := by simp; omega
  have e3 : (l.take (i + 1)).map Enc.o = (l.take i).map Enc.o ++ [Enc.o l[i]] := by
    rw [List.take_succ_eq_append_getElem h, List.map_append]; rfl
  rw [e2, List.set_cons_zero, e3]
  simp

/-- a round of filling: what was stored soaks up what it refers to -/
theorem Norm.fill {tm : List T} {H : Heap} (e j : Nat) {z : T} {l : List α} {i es : Nat} {X : T} (ha : H.at e j = some (.arr es ((fillG z l i).set i X) false)) (hi : i < l.length)
    (hs : (soakS X (H.put e j .gone)).1 = Enc.o l[i]) : Norm ⟨tm, H⟩ ⟨tm, (soakS X (H.put e j .gone)).2.put e j (.arr es (fillG z l (i + 1)) false)⟩ := by
  have := Norm.soakArr (tm := tm) e j i (t := X) ha (List.getElem?_set_self (by rw [fill_len z l i (by omega)]; exact hi))
  rw [hs] at this
  simp only [List.set_set] at this
  rwa [fill_set z l i hi] at this
end

theorem mk_fill {α : Type} [Enc α] {Y : TypeId → TyI} (own ty : Nat) (l : List α) (hl : l.length ≤ 1048576) {e : TypeId} (z : T) (es by' : Nat) (k : Ty) (h1 : Y ty = ⟨.sl e, 1, 24⟩) (h2 : Y e = ⟨k, es, by'⟩) (h3 : k.isFn = false) (hz : zeroT Y 9 e = z)
    (hb : 0 < es ∧ by' ≤ 1000000) : makeSliceM Y own ty (.int .i64 l.length) (.int .i64 l.length) = .pure { v := .ref own 0 0 l.length, news := [.arr es (fillG z l 0) false] } := by
  rw [fill_zero]
  have hp : (by' : Int) * l.length ≤ 2 ^ 47 := by
    have h5 : by' * l.length ≤ 1000000 * 1048576 := Nat.mul_le_mul hb.2 hl
    have h6 : ((by' * l.length : Nat) : Int) ≤ (1000000 * 1048576 : Nat) := Int.ofNat_le.2 h5
    rw [Int.natCast_mul] at h6; omega
  have hq : (l.length : Int) < 2 ^ 62 := by omega
  simp only [makeSliceM, h1, h2, h3]
  rw [if_pos ⟨trivial, Int.natCast_nonneg _, hb.1, hp, hq, trivial⟩]
  simp [hz]
end Go.Vm
namespace Go.Vm
theorem renL_app (π : List Nat) : ∀ l m : List T, renL π (l ++ m) = renL π l ++ renL π m
  | [], m => rfl
  | t :: l, m => by simp [renL, renL_app π l m]
theorem renL_rep (π : List Nat) (z : T) (hz : z.ren π = z) : ∀ n, renL π (List.replicate n z) = List.replicate n z
  | 0 => rfl
  | n + 1 => by simp [List.replicate_succ, renL, hz, renL_rep π z hz n]
section
variable {α : Type} [Enc α]
theorem renL_fill (π : List Nat) (z : T) (l : List α) (i : Nat) (hz : z.ren π = z) : renL π (fillG z l i) = fillG z l i := by
  simp only [fillG, renL_app, renL_o, renL_rep π z hz]
theorem sz_list (l : List α) (x : Int) : Enc.sz l x = if x - l.length < 0 then -1 else if Enc.flat α then x - l.length else szFold l (x - l.length) := rfl
end
/-- slices.IndexFunc -/
def idxOf {α : Type} (p : α → Bool) (l : List α) : Int := match l.findIdx? p with | some i => i | none => -1
theorem idxOf_eq {α : Type} (p : α → Bool) (l : List α) {i : Nat} (hi : i < l.length) (h : p l[i] = true) (hp : ∀ j (hj : j < i), p (l[j]'(by omega)) = false) : idxOf p l = i := by
  have hf : l.findIdx? p = some i := List.findIdx?_eq_some_iff_getElem.2 ⟨hi, h, fun j hj => by simp [hp j hj]⟩
  simp [idxOf, hf]
theorem idxOf_none {α : Type} (p : α → Bool) (l : List α) (hp : ∀ j (hj : j < l.length), p l[j] = false) : idxOf p l = -1 := by
  have hf : l.findIdx? p = none := by
    rw [List.findIdx?_eq_none_iff]
    intro x hx
    obtain ⟨j, hj, rfl⟩ := List.getElem_of_mem hx
    exact hp j hj
  simp [idxOf, hf]
theorem idx_any {α : Type} (p : α → Bool) (l : List α) : decide (0 ≤ idxOf p l) = l.any p := by
  unfold idxOf
  cases h : l.findIdx? p with
  | none =>
    rw [List.findIdx?_eq_none_iff] at h
    have : l.any p = false := by rw [List.any_eq_false]; intro x hx; simp [h x hx]
    rw [this]; decide
  | some i =>
    obtain ⟨hlt, h1, _⟩ := List.findIdx?_eq_some_iff_getElem.1 h
    have : l.any p = true := List.any_eq_true.2 ⟨l[i], List.getElem_mem hlt, h1⟩
    rw [this]; simp
end Go.Vm
namespace Go.Vm
theorem flat_int : Enc.flat Int = true := rfl
theorem flat_bool : Enc.flat Bool = true := rfl
section
variable {α β : Type} [Enc α] [EncL β]
theorem flat_list : Enc.flat (List α) = false := rfl
theorem flat_prod : Enc.flat (α × β) = (Enc.flat α && EncL.flat β) := rfl
theorem flatl_prod : EncL.flat (α × β) = (Enc.flat α && EncL.flat β) := rfl
theorem szl_prod (x : α × β) (b : Int) : EncL.sz x b = if Enc.flat α then EncL.sz x.2 b else if Enc.sz x.1 b < 0 then -1 else EncL.sz x.2 (Enc.sz x.1 b) := rfl
end
theorem flatl_unit : EncL.flat Unit = true := rfl
theorem szl_unit (x : Unit) (b : Int) : EncL.sz x b = b := rfl
theorem ren_int {π : List Nat} {k : IntKind} {n : Int} : (T.int k n).ren π = .int k n := rfl
theorem ren_bool {π : List Nat} {n : Bool} : (T.bool n).ren π = .bool n := rfl
theorem ren_str {π : List Nat} {n : ByteArray} : (T.str n).ren π = .str n := rfl
theorem ren_nils {π : List Nat} {n : Nat} : (T.nils n).ren π = .nils n := rfl
theorem ren_nilI {π : List Nat} : (T.nilI).ren π = .nilI := rfl
theorem ren_nilP {π : List Nat} : (T.nilP).ren π = .nilP := rfl
theorem ren_nd {π : List Nat} {l : List T} : (T.nd l).ren π = .nd (renL π l) := rfl
theorem renL_nil {π : List Nat} : renL π [] = [] := rfl
theorem renL_cons {π : List Nat} {t : T} {l : List T} : renL π (t :: l) = t.ren π :: renL π l := rfl
end Go.Vm
namespace Go.Vm
theorem all_of {α : Type} (p : α → Bool) (l : List α) (h : ∀ j (hj : j < l.length), p l[j] = true) : l.all p = true := by
  rw [List.all_eq_true]
  intro x hx
  obtain ⟨j, hj, rfl⟩ := List.getElem_of_mem hx
  exact h j hj
theorem all_not {α : Type} (p : α → Bool) (l : List α) (i : Nat) (hi : i < l.length) (h : p l[i] = false) : l.all p = false := by
  rw [List.all_eq_false]
  exact ⟨l[i], List.getElem_mem hi, by simp [h]⟩
theorem not_any_not {α : Type} (p : α → Bool) (l : List α) : (!l.any fun x => !p x) = l.all p := by
  induction l with
  | nil => rfl
  | cons x l ih => simp only [List.any_cons, List.all_cons, Bool.not_or, Bool.not_not, ih]
theorem any_not {α : Type} (p : α → Bool) (l : List α) : (l.any fun x => !p x) = !l.all p := by rw [← not_any_not, Bool.not_not]
end Go.Vm
namespace Go.Vm
@[simp] theorem take_map_len {α β : Type} (f : α → β) (l : List α) : (l.map f).take l.length = l.map f := by rw [List.take_of_length_le]; simp
end Go.Vm

namespace Go.Vm

/-! ### what an object holds becomes objects of a new entry -/
theorem RRows_open {c : Cx} {es : Nat} : ∀ {l : List T} {cs : List Value} {bs : List Nat} {i : Nat} {t : T}, RRows c es l cs bs → l[i]? = some t →
    ∃ ct b1 b2 b3, bs = b1 ++ (b2 ++ b3) ∧ RC c t ct b2 ∧ ∀ (c' : Cx) (u : T) (b2' : List Nat), c.Le c' → (∀ b : Nat, c'.w.heap[b]? = c.w.heap[b]?) → RC c' u ct b2' → RRows c' es (l.set i u) cs (b1 ++ (b2' ++ b3))
  | [], _, _, _, _, _, h => by simp at h
  | x :: l, _, _, 0, t, ⟨c1, c2, b1, b2, rfl, rfl, hl, h1, h2⟩, h => by
    simp at h; subst h
    exact ⟨c1, [], b1, b2, rfl, h1, fun c' u b2' hle hag hu => ⟨c1, c2, b2', b2, rfl, by simp, hl, hu, h2.mono hle es l (fun b _ => hag b)⟩⟩
  | x :: l, _, _, i + 1, t, ⟨c1, c2, b1, b2, rfl, rfl, hl, h1, h2⟩, h => by
    obtain ⟨ct, d1, d2, d3, rfl, hr, hs⟩ := RRows_open h2 (by simpa using h)
    exact ⟨ct, b1 ++ d1, d2, d3, by simp, hr, fun c' u b2' hle hag hu => ⟨c1, c2, b1, d1 ++ (b2' ++ d3), rfl, by simp, hl, h1.mono hle x (fun b _ => hag b), hs c' u b2' hle hag hu⟩⟩

theorem at_app {H : Heap} {e j : Nat} {ob : Ob} (h : H.at e j = some ob) (x : List Ob) : Heap.at (H ++ [x]) e j = some ob := by
  unfold Heap.at at *
  cases hl : H[e]? with
  | none => simp [hl] at h
  | some l =>
    rw [List.getElem?_append_left (List.getElem?_eq_some_iff.1 hl).1, hl]
    simpa [hl] using h

theorem put_app {H : Heap} {e j : Nat} {ob x : Ob} (h : H.at e j = some ob) (r : List Ob) : Heap.put (H ++ [r]) e j x = H.put e j x ++ [r] := by
  unfold Heap.at Heap.put at *
  cases hl : H[e]? with
  | none => simp [hl] at h
  | some l =>
    have hlt := (List.getElem?_eq_some_iff.1 hl).1
    rw [List.getElem?_append_left hlt, hl]
    simp only [List.set_append_left _ _ hlt]

theorem put_len (H : Heap) (e j : Nat) (x : Ob) : (H.put e j x).length = H.length := by
  unfold Heap.put; split <;> simp

theorem put_put (H : Heap) (e j : Nat) (x y : Ob) : (H.put e j x).put e j y = H.put e j y := by
  unfold Heap.put
  cases hl : H[e]? with
  | none => simp [hl]
  | some l => simp [List.getElem?_set_self (List.getElem?_eq_some_iff.1 hl).1, List.set_set]

/-- the element of an array opens: its slices become objects of a new entry -/
theorem Norm.expel {tm : List T} {H : Heap} (e j k : Nat) {es : Nat} {l : List T} {t : T} (ha : H.at e j = some (.arr es l false)) (hk : l[k]? = some t) :
    Norm ⟨tm, H⟩ ⟨tm, H.put e j (.arr es (l.set k (thawA H.length t 0).1) false) ++ [(thawA H.length t 0).2]⟩ := fun F c a bs hi => by
  have hext := hi.h.ext
  obtain ⟨p, q, r, hb, ho, hinv⟩ := HR.drop hext (at_app ha [])
  obtain ⟨i, hmu, e1, e2, e3, ho⟩ := ho
  rcases ho with ⟨h0, _⟩ | ⟨rows, bs', hq, hrows, hcell, hoa⟩
  · have : l = [] := List.length_eq_zero_iff.1 (by omega)
    subst this; simp at hk
  obtain ⟨ct, b1, b2, b3, hbs, hrc, hset⟩ := RRows_open hrows hk
  obtain ⟨is, hl, hth⟩ := thaw_rc (own := H.length) t (j := 0) hrc
  have hown : (Heap.put (H ++ [[]]) e j .gone)[H.length]? = some [] := by
    rw [put_app ha]
    rw [List.getElem?_append_right (by rw [put_len]; exact Nat.le_refl _), put_len]; simp
  have hnd := hi.h.nd
  rw [hb, List.nodup_append, List.nodup_append] at hnd
  have hqn := hnd.2.1.1
  rw [hq, List.nodup_cons] at hqn
  have hbn := hqn.2
  rw [hbs, List.nodup_append, List.nodup_append] at hbn
  have hin : ∀ x, x ∈ b1 ∨ x ∈ b2 ∨ x ∈ b3 → x ∈ q := fun x hx => by rw [hq, hbs]; simp [hx]
  have hqout : ∀ x ∈ q, x ∉ p ++ r := fun x hx hx' => by
    rcases List.mem_append.1 hx' with h' | h'
    · exact hnd.2.2 x h' x (by simp [hx]) rfl
    · exact hnd.2.1.2.2 x hx x h' rfl
  have hqb : ∀ x ∈ q, x ∈ bs := fun x hx => by rw [hb]; simp [hx]
  have hle := Le_row (is := is) hinv hown
  obtain ⟨g1, g2⟩ := hth _ hle (fun _ _ => rfl) (fun k i hk => by simp [Cx.rowAt, hk])
  obtain ⟨bs1, hinv1, hm1⟩ := hinv.row hown (q := b2) (is := is) (obs := (thawA H.length t 0).2) (fun x hx => ⟨hqout x (hin x (.inr (.inl hx))), hext.dz x (hqb x (hin x (.inr (.inl hx)))), hext.bl x (hqb x (hin x (.inr (.inl hx)))), hext.fb x (hqb x (hin x (.inr (.inl hx))))⟩)
    hbn.2.1.1 hl g2
  have hat : Heap.at ((Heap.put (H ++ [[]]) e j .gone).set H.length (thawA H.length t 0).2) e j = some .gone := by
    have h1 := at_put (x := .gone) ha
    rw [put_app ha, List.set_append_right _ _ (by rw [put_len]; exact Nat.le_refl _), put_len, Nat.sub_self]
    exact at_app h1 _
  have hmu' : (c.rowAt H.length is).μ e j = some i := by
    have : e ≠ H.length := fun he => by
      subst he
      unfold Heap.at at ha
      rw [List.getElem?_eq_none (Nat.le_refl _)] at ha; cases ha
    simp [Cx.rowAt, this, hmu]
  obtain ⟨bs2, hfin⟩ := InvH.fillOb (q := i.blk :: (b1 ++ ([] ++ b3))) (ob := .arr es (l.set k (thawA H.length t 0).1) false) hinv1 hat
    ⟨i, hmu', e1, e2, by simpa using e3, .inr ⟨rows, _, rfl, hset _ _ _ hle (fun _ => rfl) g1, hcell, hoa⟩⟩
    (fun x hx => by
      have hxq : x ∈ q := by
        simp only [List.nil_append, List.mem_cons, List.mem_append] at hx
        rcases hx with rfl | hx | hx
        · rw [hq]; simp
        · exact hin x (.inl hx)
        · exact hin x (.inr (.inr hx))
      refine ⟨fun hb1 => ?_, hext.dz x (hqb x hxq), hext.bl x (hqb x hxq), hext.fb x (hqb x hxq)⟩
      rcases hm1 x hb1 with h' | h'
      · exact hqout x hxq h'
      · simp only [List.nil_append, List.mem_cons, List.mem_append] at hx
        rcases hx with rfl | hx | hx
        · exact hqn.1 (by rw [hbs]; simp [h'])
        · exact hbn.2.2 x hx x (by simp [h']) rfl
        · exact hbn.2.1.2.2 x h' x hx rfl) (by
      refine List.nodup_cons.2 ⟨fun hx => hqn.1 ?_, ?_⟩
      · simp only [List.nil_append, List.mem_append] at hx
        rw [hbs]; rcases hx with hx | hx <;> simp [hx]
      · simp only [List.nil_append]
        rw [List.nodup_append]
        exact ⟨hbn.1, hbn.2.1.2.1, fun a ha b hb => hbn.2.2 a ha b (by simp [hb])⟩)
  have hheap : Heap.put ((Heap.put (H ++ [[]]) e j .gone).set H.length (thawA H.length t 0).2) e j (.arr es (l.set k (thawA H.length t 0).1) false) = H.put e j (.arr es (l.set k (thawA H.length t 0).1) false) ++ [(thawA H.length t 0).2] := by
    rw [put_app ha, List.set_append_right _ _ (by rw [put_len]; exact Nat.le_refl _), put_len, Nat.sub_self]
    simp only [List.set_cons_zero]
    rw [put_app (at_put (x := .gone) ha), put_put]
  rw [hheap] at hfin
  refine ⟨c.rowAt H.length is, bs2, rfl, hfin, RVL.mono hle _ hi.tm, hi.df, fun j i hj => hle.mu _ _ _ (hi.pin j i hj)⟩
end Go.Vm

namespace Go.Vm

/-! ### append -/
theorem append_run {Y : TypeId → TyI} {own t u e j off n el es by' : Nat} {k : Ty} {g : Tag} {f ys : List T} {H : Heap} (h1 : Y t = ⟨.sl el, 1, 24⟩) (hu : Y u = ⟨.sl el, 1, 24⟩) (h2 : Y el = ⟨k, es, by'⟩) (h3 : k.isFn = false) (h4 : 0 < es ∧ 0 < by' ∧ by' ≤ 2 ^ 16)
    (hH : H.at e j = some (.arr es f false)) (hn : off + n ≤ f.length) (hl : n + ys.length ≤ 2 ^ 30) (hnw : nwL ys = true) (hz : ∀ z ∈ ys.take 1, z.size = es) :
    (appendM Y own t u (.ref e j off n) (.sl g ys)).run H = some { v := .ref own 0 0 (n + ys.length), ups := [(e, j, .gone)], news := [.arr es ((f.drop off).take n ++ ys) false] } := by
  have hlen : ((f.drop off).take n).length = n := by rw [List.length_take, List.length_drop]; omega
  simp only [appendM, h1, h2, hu, mayGrow, srcM, elemsM, RM.bind, RM.run, hH]
  rw [if_pos ⟨hn, trivial⟩]
  simp only [RM.bind]
  rw [if_pos ⟨h4.1, h3, h4.2.1, h4.2.2, by rw [hlen]; exact hl, hnw, hz⟩]
  simp only [RM.run, hlen, kill]

theorem append_run1 {Y : TypeId → TyI} {own t u e j off n e2 j2 el es by' : Nat} {k : Ty} {f : List T} {x : T} {H : Heap} (h1 : Y t = ⟨.sl el, 1, 24⟩) (hu : Y u = ⟨.sl el, 1, 24⟩) (h2 : Y el = ⟨k, es, by'⟩) (h3 : k.isFn = false) (h4 : 0 < es ∧ 0 < by' ∧ by' ≤ 2 ^ 16)
    (hH : H.at e j = some (.arr es f false)) (hH2 : H.at e2 j2 = some (.arr es [x] false)) (hn : off + n ≤ f.length) (hl : n + 1 ≤ 2 ^ 30) (hnw : x.nw = true) (hz : x.size = es) :
    (appendM Y own t u (.ref e j off n) (.ref e2 j2 0 1)).run H = some { v := .ref own 0 0 (n + 1), ups := [(e, j, .gone)], news := [.arr es ((f.drop off).take n ++ [x]) false] } := by
  have hlen : ((f.drop off).take n).length = n := by rw [List.length_take, List.length_drop]; omega
  simp only [appendM, h1, h2, hu, mayGrow, srcM, elemsM, RM.bind, RM.run, hH]
  rw [if_pos ⟨hn, trivial⟩]
  simp only [RM.bind, RM.run, hH2]
  simp only [List.length_cons, List.length_nil, Nat.zero_add, Nat.le_refl, if_true, List.drop_zero, List.take_succ_cons, List.take_zero]
  simp only [RM.bind]
  rw [if_pos ⟨h4.1, h3, h4.2.1, h4.2.2, by rw [hlen]; simpa using hl, by simp [nwL, hnw], by simp [hz]⟩]
  simp only [RM.run, hlen, kill, List.length_cons, List.length_nil, Nat.zero_add]

theorem take_all {α : Type} (l : List α) (n : Nat) (h : l.length ≤ n) : l.take n = l := List.take_of_length_le h

/-- the numbers below n that have a property, ascending -/
def idxs (p : Nat → Bool) (n : Nat) : List Int := ((List.range n).filter p).map Int.ofNat
theorem idxs_zero (p : Nat → Bool) : idxs p 0 = [] := rfl
theorem idxs_yes {p : Nat → Bool} {n : Nat} (h : p n = true) : idxs p (n + 1) = idxs p n ++ [(n : Int)] := by simp [idxs, List.range_succ, List.filter_append, h]
theorem idxs_no {p : Nat → Bool} {n : Nat} (h : p n = false) : idxs p (n + 1) = idxs p n := by simp [idxs, List.range_succ, List.filter_append, h]
theorem idxs_len (p : Nat → Bool) (n : Nat) : (idxs p n).length ≤ n := by
  simp only [idxs, List.length_map]
  exact Nat.le_trans (List.length_filter_le _ _) (by simp)
theorem nwL_b {α : Type} [Enc α] : ∀ l : List α, nwL (l.map Enc.b) = true
  | [] => rfl
  | x :: l => by simp [nwL, nwL_b l]
theorem b_int : (Enc.b : Int → T) = Enc.o := rfl
theorem b_bool : (Enc.b : Bool → T) = Enc.o := rfl
theorem o_int (n : Int) : Enc.o n = T.int .i64 n := rfl
theorem o_bool (n : Bool) : Enc.o n = T.bool n := rfl
end Go.Vm
namespace Go.Vm
theorem build1 {Y : TypeId → TyI} {own t el es by' : Nat} {k : Ty} {v : T} (h1 : Y t = ⟨.sl el, 1, 24⟩) (h2 : Y el = ⟨k, es, by'⟩) (h3 : k.isFn = false) (h4 : 0 < es ∧ es ≤ 2 ^ 20) (hv : v.cel = true) (hs : v.size = es) (hz : (zeroT Y 9 el).size = es) :
    buildSliceM Y own t 1 [(0, v)] = .pure { v := .ref own 0 0 1, news := [.arr es [v] false] } := by
  simp only [buildSliceM, h1, h2, h3]
  rw [if_pos ⟨h4.1, by omega, trivial⟩]
  simp [setAll, plAr, hv, hs, hz, sizeL]
theorem build0 {Y : TypeId → TyI} {own t el es by' : Nat} {k : Ty} (h1 : Y t = ⟨.sl el, 1, 24⟩) (h2 : Y el = ⟨k, es, by'⟩) (h3 : k.isFn = false) (h4 : 0 < es) :
    buildSliceM Y own t 0 [] = .pure { v := .ref own 0 0 0, news := [.arr es [] false] } := by
  simp only [buildSliceM, h1, h2, h3]
  rw [if_pos ⟨h4, by simp, trivial⟩]
  simp [setAll]
end Go.Vm

namespace Go.Vm
/-! ### marks -/
def marks (n : Nat) (k : Int) : List Int := (List.range n).map fun j : Nat => k + (j : Int)
def mixM (l : List Int) (k : Int) (i : Nat) : List Int := marks i k ++ l.drop i
theorem marks_len (n : Nat) (k : Int) : (marks n k).length = n := by simp [marks]
theorem marks_get (n : Nat) (k : Int) (i : Nat) (h : i < n) : (marks n k)[i]'(by rw [marks_len]; exact h) = k + i := by simp [marks]
theorem mix_zero (l : List Int) (k : Int) : mixM l k 0 = l := by simp [mixM, marks]
theorem mix_all (l : List Int) (k : Int) : mixM l k l.length = marks l.length k := by simp [mixM]
theorem mix_len (l : List Int) (k : Int) (i : Nat) (h : i ≤ l.length) : (mixM l k i).length = l.length := by simp [mixM, marks]; omega
theorem mix_get (l : List Int) (k : Int) (i : Nat) (h : i < l.length) : ((mixM l k i).map Enc.o)[i]? = some (T.int .i64 l[i]) := by
  have : (mixM l k i)[i]? = some l[i] := by
    unfold mixM
    rw [List.getElem?_append_right (by rw [marks_len]; exact Nat.le_refl _), marks_len, Nat.sub_self, List.getElem?_drop, Nat.add_zero, List.getElem?_eq_getElem h]
  rw [List.getElem?_map, this]; rfl
theorem mix_set (l : List Int) (k : Int) (i : Nat) (h : i < l.length) : ((mixM l k i).map Enc.o).set i (T.int .i64 (k + i)) = (mixM l k (i + 1)).map Enc.o := by
  have e : T.int .i64 (k + i) = Enc.o (k + i : Int) := rfl
  rw [e, ← List.map_set]
  congr 1
  unfold mixM
  rw [List.set_append_right _ _ (by rw [marks_len]; exact Nat.le_refl _), marks_len, Nat.sub_self, List.drop_eq_getElem_cons h, List.set_cons_zero]
  have : marks (i + 1) k = marks i k ++ [k + i] := by simp [marks, List.range_succ]
  rw [this]; simp
end Go.Vm
namespace Go.Vm
@[simp] theorem take_marks {β : Type} (f : Int → β) (n : Nat) (k : Int) : ((marks n k).map f).take n = (marks n k).map f := by
  rw [List.take_of_length_le]; simp [marks_len]
end Go.Vm

namespace Go.Vm

/-! ### an array's tail may be forgotten -/
theorem RRows_take {c : Cx} {es : Nat} (n : Nat) {l : List T} {cs : List Value} {bs : List Nat} (h : RRows c es l cs bs) :
    ∃ c1 c2 b1 b2, cs = c1 ++ c2 ∧ bs = b1 ++ b2 ∧ RRows c es (l.take n) c1 b1 := by
  rw [← List.take_append_drop n l] at h
  obtain ⟨c1, c2, b1, b2, e1, e2, r1, _⟩ := RRows_app h
  exact ⟨c1, c2, b1, b2, e1, e2, r1⟩

theorem CellsAt.pre {w : World} {a : Addr} {c1 c2 : List Value} (h : CellsAt w a (c1 ++ c2)) : CellsAt w a c1 := by
  obtain ⟨arr, ty, fr, h1, h2⟩ := h
  refine ⟨arr, ty, fr, h1, fun i v hv => h2 i v ?_⟩
  rw [List.getElem?_append_left (List.getElem?_eq_some_iff.1 hv).1]; exact hv

theorem Norm.trunc {tm : List T} {H : Heap} (e j n : Nat) {es : Nat} {l : List T} (ha : H.at e j = some (.arr es l false)) :
    Norm ⟨tm, H⟩ ⟨tm, H.put e j (.arr es (l.take n) false)⟩ := fun F c a bs hi => by
  obtain ⟨p, q, r, hb, ho, hinv⟩ := HR.drop hi.h ha
  obtain ⟨i, hmu, e1, e2, e3, ho⟩ := ho
  have hgone : (H.put e j .gone).at e j = some .gone := at_put (x := .gone) ha
  have hlen : (l.take n).length ≤ i.cap := Nat.le_trans (by rw [List.length_take]; omega) e3
  rcases ho with ⟨h0, hq⟩ | ⟨rows, bs', hq, hrows, hcell, hoa⟩
  · obtain ⟨bs2, hfin⟩ := soak_back (q' := []) (ob := .arr es (l.take n) false) hi.h hb (.refl hinv) hgone ⟨i, hmu, e1, e2, hlen, .inl ⟨h0, rfl⟩⟩ (by simp) (by simp)
    rw [put_put] at hfin
    exact ⟨c, bs2, rfl, hfin, hi.tm, hi.df, hi.pin⟩
  · obtain ⟨c1, c2, b1, b2, rfl, rfl, r1⟩ := RRows_take n hrows
    have hnd := hi.h.nd
    rw [hb, List.nodup_append, List.nodup_append] at hnd
    have hqn := hnd.2.1.1
    rw [hq, List.nodup_cons, List.nodup_append] at hqn
    obtain ⟨bs2, hfin⟩ := soak_back (q' := i.blk :: b1) (ob := .arr es (l.take n) false) hi.h hb (.refl hinv) hgone ⟨i, hmu, e1, e2, hlen, .inr ⟨c1, b1, rfl, r1, hcell.pre, hoa⟩⟩
      (fun x hx => by
        left; rw [hq]
        rcases List.mem_cons.1 hx with rfl | hx
        · simp
        · simp [hx]) (List.nodup_cons.2 ⟨fun hx => hqn.1 (by simp [hx]), hqn.2.1⟩)
    rw [put_put] at hfin
    exact ⟨c, bs2, rfl, hfin, hi.tm, hi.df, hi.pin⟩

/-! ### 's == nil' of a lent slice: of an empty one nobody knows -/
theorem run_equal_slice {P : Program} {t e : TypeId} {w : World} {A : Option Addr} {n k : Nat} (hd : (underlying t).run P w = .ok (.slice e) w) :
    (Op.equal t (.slice A n k) (.slice none 0 0)).run P w = .ok A.isNone w := by
  rw [equal_succ, Op.equalIn]
  simp only [Sem.run_bind, hd, Result.andThen]
  cases A <;> rfl

theorem SW.nilq {P : Program} {Y : TypeId → TyI} (hY : TysW P Y) {F : Fr} {Q : Exit → S → Prop} {tm : List T} {H : Heap} {id : Nat} {x d1 d2 : Nat} {t t1 t2 e : TypeId} {p1 p2 : String} {f1 f2 : Array Edge} {yt : TypeId} {g : Tag} {l : List T}
    (hx : tm.getD x .undef = .sl g l) (ht : (Y t).k = .sl e) (ht0 : 0 < (Y t).cells) (hd : d1 < tm.length)
    (h : ∀ b, (l ≠ [] → b = false) → Q .normal ⟨(tm.set d1 (.sl g l)).set d2 (.bool b), H⟩) :
    SW P F Q (.region id #[⟨some d1, .move (.tmp x), t1, p1, f1, none⟩, ⟨some d2, .binOp .eql t (.tmp d1) (.const (.slice none 0 0)) yt, t2, p2, f2, none⟩] false) ⟨tm, H⟩ := fun c a bs hi => by
  refine wp_region ?_
  show wpOps P _ _ [0, 1] a c.w
  rw [wpOps_cons]
  refine vgop_sound hY (K := fun s' => s' = ⟨tm.set d1 (.sl g l), H⟩) hi (o := ⟨some d1, .move (.tmp x), t1, p1, f1, none⟩) rfl (fun s' c' a' bs' h' hk => ?_) ?_
  · subst hk
    rw [wpOps_cons]
    unfold wpOp
    obtain ⟨d, hdd, htm, _⟩ := (hY.ok t ht0).run_under c'.w
    rw [ht] at htm; simp only [TyM] at htm; subst htm
    have hv := ev_ok h' (.tmp d1)
    have hg1 : (⟨tm.set d1 (.sl g l), H⟩ : S).ev (.tmp d1) = .sl g l := by simp [S.ev, List.getD, hd]
    rw [hg1] at hv
    obtain ⟨A, k, hv1, _, hA⟩ := hv
    simp only [List.getElem?_toArray, List.getElem?_cons_succ, List.getElem?_cons_zero, Region.wanted, if_true]
    refine .inl ?_
    unfold Oper.wp
    have he : (execOp a'.eval ⟨some d2, .binOp .eql t (.tmp d1) (.const (.slice none 0 0)) yt, t2, p2, f2, none⟩).run P c'.w = .ok (.value (.bool A.isNone)) c'.w := by
      have h1 : a'.eval (.tmp d1) = .slice A l.length k := hv1
      unfold execOp
      simp only [eqGuard, binOp, Sem.run_bind, Result.andThen, Sem.run_pure]
      rw [h1, show a'.eval (.const (.slice none 0 0)) = .slice none 0 0 from rfl]
      simp [Sem.run_bind, Result.andThen, run_equal_slice hdd, Sem.run_pure]
    rw [he]
    exact ⟨_, c', bs', rfl, Inv.next (t := .bool A.isNone) h'.h h'.tm rfl h'.df h'.pin, h _ fun hl => by
      rcases hA with rfl | ⟨a0, _, _, rfl, _⟩
      · exact absurd rfl hl
      · rfl⟩
  · show vop P Y _ _ _
    unfold vop vopR vprim
    simp only [isCall, Bool.false_eq_true, if_false, opM, S.ev, hx, allocs, RM.run, S.put, S.grown]
    rfl
end Go.Vm

namespace Go.Vm
set_option linter.unusedSimpArgs false

/-! ### a step, seen from its end -/
def evT (tm : List T) : Operand → T
  | .tmp t => tm.getD t .undef
  | .const v => ofConst v
  | .func f => .fn f [] []
  | .global _ => .undef
theorem ev_evT (s : S) : s.ev = evT s.tm := by funext x; cases x <;> rfl

def grownH (H : Heap) (b : Bool) : Heap := if b then H ++ [[]] else H

section
variable (P : Program) (Y : TypeId → TyI)

def LStep (ρ : Operand → T) (o : Oper) (H H' : Heap) (v : T) : Prop :=
  if isCall o.op = true then ∃ f ts ms as backs H1 args outs res H2, callT ρ o.op = some (f, ts) ∧ pass1 ms ts (H ++ [[]]) = some (as, backs, H1) ∧ (pass2 as).run H1 = some args ∧ CallR P f args outs res ∧
    resClo res = true ∧ fillB backs outs H1 = some H2 ∧ H' = H2.set H.length (thawA H.length (res.tg dnT) 0).2 ∧ v = (thawA H.length (res.tg dnT) 0).1
  else ∃ out, (opM Y ρ H.length o.type o.op).run (grownH H (allocs Y o.op)) = some out ∧ H' = (grownH H (allocs Y o.op)).after (allocs Y o.op) H.length out ∧ v = out.v

def GStep (ops : Array Oper) (tm : List T) (o : Oper) (H H' : Heap) (v : T) : Prop :=
  match o.guard with
  | none => LStep P Y (evT tm) o H H' v
  | some (g, w) => ((∃ t, guardT ops tm g = .opt false t) ∧ H' = H ∧ v = .opt false (.bool false)) ∨ ∃ b, guardT ops tm g = .bool b ∧
    if quietK o.op = true then H' = H ∧ ((∃ out, (opM Y (fun x => stripT (b == w) (evT tm x)) H.length o.type o.op).run H = some out ∧ out.ups = [] ∧ v = .opt (b == w) out.v) ∨
      ((opM Y (fun x => stripT (b == w) (evT tm x)) H.length o.type o.op).run H = none ∧ (b == w) = false ∧ v = .undef))
    else (b = w ∧ LStep P Y (fun x => openT (evT tm x)) o H H' v) ∨ (¬ b = w ∧ H' = H ∧ v = .undef)
end

section
variable {P : Program} {Y : TypeId → TyI}

theorem LStep.of {ρ : Operand → T} {o : Oper} {K : S → Prop} {s : S} (h : vopR P Y ρ o K s) : ∃ H' v, LStep P Y ρ o s.hp H' v ∧ K ((⟨s.tm, H'⟩ : S).put o.dst v) := by
  unfold vopR at h
  unfold LStep
  split at h
  · rename_i hc
    simp only [hc, if_true]
    unfold vcall at h
    split at h
    case h_2 => exact h.elim
    rename_i f ts hct
    obtain ⟨ms, as, backs, H1, args, outs, res, H2, h1, h2, h3, h4, h5, h6⟩ := h
    exact ⟨_, _, ⟨f, ts, ms, as, backs, H1, args, outs, res, H2, hct, h1, h2, h3, h4, h5, rfl, rfl⟩, h6⟩
  · rename_i hc
    simp only [hc, if_false]
    unfold vprim at h
    split at h
    case h_2 => exact h.elim
    rename_i out ho
    exact ⟨_, _, ⟨out, ho, rfl, rfl⟩, h⟩

theorem LStep.to {ρ : Operand → T} {o : Oper} {K : S → Prop} {tm : List T} {H H' : Heap} {v : T} (h : LStep P Y ρ o H H' v) (hk : K ((⟨tm, H'⟩ : S).put o.dst v)) : vopR P Y ρ o K ⟨tm, H⟩ := by
  unfold LStep at h
  unfold vopR
  split at h
  · rename_i hc
    simp only [hc, if_true]
    obtain ⟨f, ts, ms, as, backs, H1, args, outs, res, H2, hct, h1, h2, h3, h4, h5, rfl, rfl⟩ := h
    unfold vcall
    simp only [hct]
    exact ⟨ms, as, backs, H1, args, outs, res, H2, h1, h2, h3, h4, h5, hk⟩
  · rename_i hc
    simp only [hc, if_false]
    obtain ⟨out, ho, rfl, rfl⟩ := h
    unfold vprim
    rw [show (opM Y ρ (S.hp ⟨tm, H⟩).length o.type o.op).run (S.grown ⟨tm, H⟩ (allocs Y o.op)) = some out from ho]
    exact hk

theorem GStep.of {ops : Array Oper} {o : Oper} {K : S → Prop} {s : S} (h : vgop P Y ops o K s) : ∃ H' v, GStep P Y ops s.tm o s.hp H' v ∧ K ((⟨s.tm, H'⟩ : S).put o.dst v) := by
  unfold vgop at h
  unfold GStep
  cases hg : o.guard with
  | none =>
    simp only [hg] at h ⊢
    have := LStep.of h
    rwa [ev_evT] at this
  | some x =>
    simp only [hg] at h ⊢
    cases hb : guardT ops s.tm x.1 with
    | bool b =>
      simp only [hb] at h
      by_cases hq : quietK o.op = true
      · simp only [hq, if_true] at h
        unfold vquiet at h
        simp only [ev_evT] at h
        cases ho : (opM Y (fun y => stripT (b == x.2) (evT s.tm y)) s.hp.length o.type o.op).run s.hp with
        | none =>
          simp only [ho] at h
          exact ⟨s.hp, .undef, .inr ⟨b, rfl, by rw [if_pos hq]; exact ⟨rfl, .inr ⟨ho, h.1, rfl⟩⟩⟩, h.2⟩
        | some out =>
          simp only [ho] at h
          exact ⟨s.hp, _, .inr ⟨b, rfl, by rw [if_pos hq]; exact ⟨rfl, .inl ⟨out, ho, h.1, rfl⟩⟩⟩, h.2⟩
      · rw [if_neg hq] at h
        simp only [hq, if_false]
        by_cases hbw : b = x.2
        · obtain ⟨H', v, h1, h2⟩ := LStep.of (h.1 hbw)
          simp only [ev_evT] at h1
          exact ⟨H', v, .inr ⟨b, rfl, .inl ⟨hbw, h1⟩⟩, h2⟩
        · exact ⟨s.hp, .undef, .inr ⟨b, rfl, .inr ⟨hbw, rfl, rfl⟩⟩, h.2 hbw⟩
    | opt g t =>
      cases g with
      | true => simp [hb] at h
      | false => simp only [hb] at h; exact ⟨s.hp, _, .inl ⟨⟨t, rfl⟩, rfl, rfl⟩, h⟩
    | _ => simp [hb] at h

theorem GStep.to {ops : Array Oper} {o : Oper} {K : S → Prop} {tm : List T} {H H' : Heap} {v : T} (h : GStep P Y ops tm o H H' v) (hk : K ((⟨tm, H'⟩ : S).put o.dst v)) : vgop P Y ops o K ⟨tm, H⟩ := by
  unfold GStep at h
  unfold vgop
  cases hg : o.guard with
  | none =>
    simp only [hg] at h ⊢
    unfold vop
    rw [ev_evT]
    exact h.to hk
  | some x =>
    simp only [hg] at h ⊢
    rcases h with ⟨⟨t, hb⟩, rfl, rfl⟩ | ⟨b, hb, h⟩
    · simp only [hb]; exact hk
    simp only [hb]
    by_cases hq : quietK o.op = true
    · simp only [hq, if_true] at h ⊢
      unfold vquiet
      simp only [ev_evT]
      obtain ⟨rfl, ⟨out, ho, hu, rfl⟩ | ⟨ho, hbw, rfl⟩⟩ := h
      · simp only [ho]; exact ⟨hu, hk⟩
      · simp only [ho]; exact ⟨hbw, hk⟩
    · simp only [hq, if_false] at h ⊢
      rcases h with ⟨hbw, h⟩ | ⟨hbw, rfl, rfl⟩
      · refine ⟨fun _ => ?_, fun e => absurd hbw e⟩
        simp only [ev_evT]
        exact h.to hk
      · exact ⟨fun e => absurd e hbw, fun _ => hk⟩

/-! ### what an operation looks at -/
def opds : Op → List Operand
  | .move x | .assign x | .nilCheck x => [x]
  | .pick c a b => [c, a, b]
  | .box _ x => [x]
  | .build _ ps => ps.toList.map (·.2)
  | .buildSlice _ _ ps => ps.toList.map (·.2)
  | .load _ a => [a]
  | .store _ a v => [a, v]
  | .fieldAddr _ x _ => [x]
  | .field _ x _ => [x]
  | .indexAddr _ x i => [x, i]
  | .index _ x i => [x, i]
  | .binOp _ _ x y _ => [x, y]
  | .unOp _ _ x => [x]
  | .convert _ _ x => [x]
  | .slice _ x lo hi mx => x :: (lo.toList ++ hi.toList ++ mx.toList)
  | .makeSlice _ n m => [n, m]
  | .makeFunc _ a b => a.toList ++ b.toList
  | .extract x _ => [x]
  | .call { callee := .value x, args, .. } => x :: args.toList
  | .call { args, .. } => args.toList
  | _ => []

theorem opM_congr {ρ ρ' : Operand → T} {own : Nat} {ty : TypeId} {op : Op} (h : ∀ x ∈ opds op, ρ x = ρ' x) : opM Y ρ own ty op = opM Y ρ' own ty op := by
  have hmap : ∀ l : List Operand, (∀ x ∈ l, ρ x = ρ' x) → l.map ρ = l.map ρ' := fun l hl => List.map_congr_left hl
  have hmap2 : ∀ l : List (Nat × Operand), (∀ x ∈ l.map (·.2), ρ x = ρ' x) → l.map (fun x => (x.1, ρ x.2)) = l.map (fun x => (x.1, ρ' x.2)) := fun l hl =>
    List.map_congr_left fun x hx => by rw [hl x.2 (List.mem_map_of_mem hx)]
  have hopt : ∀ a : Option Operand, (∀ x ∈ a.toList, ρ x = ρ' x) → a.map ρ = a.map ρ' := fun a ha => by
    cases a with
    | none => rfl
    | some x => simp [ha x (by simp)]
  cases op
  case call c =>
    obtain ⟨callee, args, ats⟩ := c
    cases callee
    case builtin b =>
      have ha : ∀ x ∈ args.toList, ρ x = ρ' x := h
      simp only [opM]
      cases hl : args.toList with
      | nil => cases b <;> rfl
      | cons x l =>
        rw [hl] at ha
        cases l with
        | nil =>
          have hx := ha x (by simp)
          generalize ats.toList = tl
          rcases tl with _ | ⟨t, _ | ⟨u, _ | _⟩⟩ <;> cases b <;> first | rfl | simp [hx]
        | cons y l =>
          cases l with
          | nil =>
            have hx := ha x (by simp)
            have hy := ha y (by simp)
            generalize ats.toList = tl
            rcases tl with _ | ⟨t, _ | ⟨u, _ | _⟩⟩ <;> cases b <;> first | rfl | simp [hx, hy]
          | cons z l => cases b <;> rfl
    all_goals rfl
  case build t ps => simp only [opM]; rw [hmap2 _ h]
  case buildSlice t n ps => simp only [opM]; rw [hmap2 _ h]
  case slice t x lo hi mx =>
    simp only [opds] at h
    simp only [opM]
    rw [h x (by simp), hopt lo (fun y hy => h y (List.mem_cons_of_mem _ (List.mem_append_left _ (List.mem_append_left _ hy)))), hopt hi (fun y hy => h y (List.mem_cons_of_mem _ (List.mem_append_left _ (List.mem_append_right _ hy)))), hopt mx (fun y hy => h y (List.mem_cons_of_mem _ (List.mem_append_right _ hy)))]
  case makeFunc f a b =>
    simp only [opds] at h
    simp only [opM]
    rw [hmap a.toList (fun y hy => h y (by simp [hy])), hmap b.toList (fun y hy => h y (by simp [hy]))]
  all_goals first
    | rfl
    | (simp only [opds, List.mem_cons, List.not_mem_nil, or_false, forall_eq_or_imp, forall_eq] at h; simp only [opM, h])

theorem callT_congr {ρ ρ' : Operand → T} {op : Op} (h : ∀ x ∈ opds op, ρ x = ρ' x) : callT ρ op = callT ρ' op := by
  cases op
  case call c =>
    obtain ⟨callee, args, ats⟩ := c
    cases callee
    case value x =>
      simp only [opds] at h
      simp only [callT]
      rw [h x (by simp), List.map_congr_left (l := args.toList) (fun y hy => h y (by simp [hy]))]
    all_goals rfl
  all_goals rfl

theorem LStep.congr {ρ ρ' : Operand → T} {o : Oper} {H H' : Heap} {v : T} (h : ∀ x ∈ opds o.op, ρ x = ρ' x) (hs : LStep P Y ρ o H H' v) : LStep P Y ρ' o H H' v := by
  unfold LStep at *
  rw [opM_congr h, callT_congr h] at hs
  exact hs

theorem GStep.congr {ops : Array Oper} {tm tm' : List T} {o : Oper} {H H' : Heap} {v : T} (h : ∀ x ∈ opds o.op, evT tm x = evT tm' x) (hg : ∀ g w, o.guard = some (g, w) → guardT ops tm g = guardT ops tm' g)
    (hs : GStep P Y ops tm o H H' v) : GStep P Y ops tm' o H H' v := by
  unfold GStep at *
  cases hgd : o.guard with
  | none => simp only [hgd] at hs ⊢; exact hs.congr h
  | some x =>
    simp only [hgd] at hs ⊢
    rcases hs with ⟨⟨t, hb⟩, hs⟩ | ⟨b, hb, hs⟩
    · exact .inl ⟨⟨t, by rw [← hg x.1 x.2 hgd]; exact hb⟩, hs⟩
    refine .inr ⟨b, by rw [← hg x.1 x.2 hgd]; exact hb, ?_⟩
    have h1 : ∀ y ∈ opds o.op, stripT (b == x.2) (evT tm y) = stripT (b == x.2) (evT tm' y) := fun y hy => by rw [h y hy]
    split
    · rename_i hq
      rw [if_pos hq] at hs
      rw [opM_congr h1] at hs
      exact hs
    · rename_i hq
      rw [if_neg hq] at hs
      exact hs.imp (fun hs => ⟨hs.1, hs.2.congr fun y hy => by rw [h y hy]⟩) id

/-! ### what leaves the heap alone -/
def freeK : Op → Bool
  | .move _ | .assign _ | .nilCheck _ | .fieldAddr .. | .field .. | .binOp .. | .unOp .. | .extract .. | .pick .. | .makeFunc .. | .index .. => true
  | .call { callee := .builtin .len, .. } => true
  | _ => false
def readK : Op → Bool
  | .load .. | .indexAddr .. | .slice .. => true
  | _ => false

inductive PureR : RM Out → Prop
  | pure (v : T) : PureR (.pure { v })
  | fail : PureR .fail
theorem PureR.ofOpt (x : Option T) : PureR (RM.ofOpt (x.map fun v => ({ v } : Out))) := by cases x; exact .fail; exact .pure _

theorem free_pure {ρ : Operand → T} {own : Nat} {ty : TypeId} {op : Op} (h : freeK op = true) : PureR (opM Y ρ own ty op) ∧ ∀ own', opM Y ρ own' ty op = opM Y ρ own ty op := by
  cases op
  case move x => exact ⟨.pure _, fun _ => rfl⟩
  case assign x => exact ⟨.pure _, fun _ => rfl⟩
  case nilCheck x => refine ⟨?_, fun _ => rfl⟩; simp only [opM]; split <;> constructor
  case fieldAddr st x f =>
    refine ⟨?_, fun _ => rfl⟩
    simp only [opM]; unfold fieldAddrM
    repeat' split
    all_goals constructor
  case field t x f =>
    refine ⟨?_, fun _ => rfl⟩
    simp only [opM]; unfold fieldM
    repeat' split
    all_goals constructor
  case index t x i =>
    refine ⟨?_, fun _ => rfl⟩
    simp only [opM]; unfold indexM
    repeat' split
    all_goals constructor
  case binOp op t x y yt =>
    refine ⟨?_, fun _ => rfl⟩
    simp only [opM]
    repeat' split
    all_goals first | exact .ofOpt _ | constructor
  case unOp op t x => exact ⟨.ofOpt _, fun _ => rfl⟩
  case extract x i => exact ⟨.ofOpt _, fun _ => rfl⟩
  case pick c a b =>
    refine ⟨?_, fun _ => rfl⟩
    simp only [opM]
    split
    · exact .ofOpt _
    · constructor
  case makeFunc f a b =>
    refine ⟨?_, fun _ => rfl⟩
    simp only [opM]
    split <;> constructor
  case call c =>
    obtain ⟨callee, args, ats⟩ := c
    cases callee
    case builtin b =>
      cases b <;> first | (cases h; done) | skip
      refine ⟨?_, fun own' => ?_⟩
      · simp only [opM]
        split
        all_goals first | exact .ofOpt _ | (constructor; done) | contradiction
      · simp only [opM]
        generalize args.toList = al
        generalize ats.toList = tl
        rcases al with _ | ⟨x, _ | ⟨y, _ | _⟩⟩ <;> rcases tl with _ | ⟨t, _ | ⟨u, _ | _⟩⟩ <;> rfl
    all_goals cases h
  all_goals cases h

theorem free_al {op : Op} (h : freeK op = true) : allocs Y op = false ∧ isCall op = false := by
  cases op
  case call c =>
    obtain ⟨callee, args, ats⟩ := c
    cases callee
    case builtin b => cases b <;> first | (cases h; done) | exact ⟨rfl, rfl⟩
    all_goals cases h
  all_goals first | (cases h; done) | exact ⟨rfl, rfl⟩
theorem read_al {op : Op} (h : readK op = true) : allocs Y op = false ∧ isCall op = false := by
  cases op <;> first | (cases h; done) | exact ⟨rfl, rfl⟩

theorem ups_nil {H : Heap} {own : Nat} {out : Out} (h : out.ups = []) : H.after false own out = H := by simp [Heap.after, h, Heap.ups]

theorem PureR.run {r : RM Out} (h : PureR r) {H : Heap} {out : Out} (hr : r.run H = some out) : out.ups = [] ∧ ∀ H2, r.run H2 = some out := by
  cases h with
  | pure v => simp only [RM.run, Option.some.injEq] at hr; subst hr; exact ⟨rfl, fun _ => rfl⟩
  | fail => cases hr
theorem PureR.run_none {r : RM Out} (h : PureR r) {H : Heap} (hr : r.run H = none) : ∀ H2, r.run H2 = none := by
  cases h with
  | pure v => cases hr
  | fail => exact fun _ => rfl

theorem LStep.free {ρ : Operand → T} {o : Oper} {H H' : Heap} {v : T} (hf : freeK o.op = true) (h : LStep P Y ρ o H H' v) : H' = H ∧ ∀ H2, LStep P Y ρ o H2 H2 v := by
  unfold LStep at *
  obtain ⟨ha, hc⟩ := free_al (Y := Y) hf
  simp only [ha, hc, Bool.false_eq_true, if_false] at h ⊢
  obtain ⟨out, ho, h1, rfl⟩ := h
  obtain ⟨hp, hown⟩ := free_pure (Y := Y) (ρ := ρ) (own := H.length) (ty := o.type) hf
  obtain ⟨hu, hall⟩ := hp.run ho
  rw [ups_nil hu] at h1
  exact ⟨h1, fun H2 => ⟨out, by rw [hown]; exact hall _, by rw [ups_nil hu]; rfl, rfl⟩⟩

theorem GStep.free {ops : Array Oper} {tm : List T} {o : Oper} {H H' : Heap} {v : T} (hf : freeK o.op = true) (h : GStep P Y ops tm o H H' v) : H' = H ∧ ∀ H2, GStep P Y ops tm o H2 H2 v := by
  unfold GStep at *
  cases hg : o.guard with
  | none => simp only [hg] at h ⊢; exact h.free hf
  | some x =>
    simp only [hg] at h ⊢
    rcases h with ⟨ht, rfl, rfl⟩ | ⟨b, hb, h⟩
    · exact ⟨rfl, fun H2 => .inl ⟨ht, trivial, rfl⟩⟩
    by_cases hq : quietK o.op = true
    · simp only [hq, if_true] at h ⊢
      obtain ⟨rfl, h⟩ := h
      refine ⟨rfl, fun H2 => .inr ⟨b, hb, trivial, ?_⟩⟩
      obtain ⟨hp, hown⟩ := free_pure (Y := Y) (ρ := fun y => stripT (b == x.2) (evT tm y)) (own := H'.length) (ty := o.type) hf
      rcases h with ⟨out, ho, hu, rfl⟩ | ⟨ho, hbw, rfl⟩
      · exact .inl ⟨out, by rw [hown]; exact (hp.run ho).2 _, hu, rfl⟩
      · exact .inr ⟨by rw [hown]; exact hp.run_none ho _, hbw, rfl⟩
    · simp only [hq, if_false] at h ⊢
      rcases h with ⟨hbw, h⟩ | ⟨hbw, rfl, rfl⟩
      · obtain ⟨h1, h2⟩ := h.free hf
        exact ⟨h1, fun H2 => .inr ⟨b, hb, .inl ⟨hbw, h2 H2⟩⟩⟩
      · exact ⟨rfl, fun H2 => .inr ⟨b, hb, .inr ⟨hbw, trivial, rfl⟩⟩⟩

def NoUps (r : RM Out) : Prop := ∀ H out, r.run H = some out → out.ups = []
theorem NoUps.pure (v : T) : NoUps (.pure { v }) := fun H out h => by simp only [RM.run, Option.some.injEq] at h; subst h; rfl
theorem NoUps.fail : NoUps .fail := fun H out h => by cases h
theorem NoUps.get {e j : Nat} {k : Ob → RM Out} (h : ∀ ob, NoUps (k ob)) : NoUps (.get e j k) := fun H out hr => by
  simp only [RM.run] at hr
  split at hr
  · exact h _ H out hr
  · cases hr
theorem NoUps.bind {α : Type} {m : RM α} {f : α → RM Out} (h : ∀ a, NoUps (f a)) : NoUps (m.bind f) := fun H out hr => by
  rw [RM.run_bind] at hr
  split at hr
  · exact h _ H out hr
  · cases hr
theorem read_ups {ρ : Operand → T} {own : Nat} {ty : TypeId} {op : Op} (h : readK op = true) : NoUps (opM Y ρ own ty op) := by
  cases op
  case load t a =>
    simp only [opM]; unfold loadM
    split
    · refine .get fun ob => .bind fun u => ?_
      split
      · exact .pure _
      · exact .fail
    · split
      · exact .pure _
      · exact .fail
    · exact .fail
  case indexAddr t x i =>
    simp only [opM]; unfold indexAddrM
    repeat' first | exact .pure _ | exact .fail | (refine .get fun ob => ?_) | split
  case slice t x lo hi mx =>
    simp only [opM]; unfold sliceM
    repeat' first | exact .pure _ | exact .fail | (refine .get fun ob => ?_) | split
  all_goals cases h

theorem LStep.read {ρ : Operand → T} {o : Oper} {H H' : Heap} {v : T} (hf : readK o.op = true) (h : LStep P Y ρ o H H' v) : H' = H := by
  unfold LStep at h
  obtain ⟨ha, hc⟩ := read_al (Y := Y) hf
  simp only [ha, hc, Bool.false_eq_true, if_false] at h
  obtain ⟨out, ho, h1, rfl⟩ := h
  rw [ups_nil (read_ups hf _ _ ho)] at h1
  exact h1

theorem GStep.read {ops : Array Oper} {tm : List T} {o : Oper} {H H' : Heap} {v : T} (hf : readK o.op = true) (h : GStep P Y ops tm o H H' v) : H' = H := by
  unfold GStep at h
  cases hg : o.guard with
  | none => simp only [hg] at h; exact h.read hf
  | some x =>
    simp only [hg] at h
    rcases h with ⟨ht, rfl, rfl⟩ | ⟨b, hb, h⟩
    · rfl
    by_cases hq : quietK o.op = true
    · simp only [hq, if_true] at h; exact h.1
    · simp only [hq, if_false] at h
      rcases h with ⟨hbw, h⟩ | ⟨hbw, rfl, rfl⟩
      · exact h.read hf
      · rfl
end
end Go.Vm

namespace Go.Vm
set_option linter.unusedSimpArgs false

/-! ### regions that draw: the order in which they are written stands for all -/
def mk1 (M : List Nat) (es : List Nat) : Nat := es.foldr (fun e m => (m ||| (1 <<< e)) ||| M.getD e 0) 0
def msk (ops : Array Oper) : List Nat := (List.range ops.size).foldl (fun M i => M ++ [mk1 M (edgesOf ops i)]) []

def whoA (ops : Array Oper) (t : Tmp) : Option Nat := who ops.size ops t
def opT (l : List Operand) : List Tmp := l.filterMap fun | .tmp t => some t | _ => none
def loudK (op : Op) : Bool := !(freeK op || readK op)
def loudAt (ops : Array Oper) (j : Nat) : Bool := match ops[j]? with | some o => loudK o.op | none => false
def readAt (ops : Array Oper) (j : Nat) : Bool := match ops[j]? with | some o => readK o.op | none => false

/-- what holds of one operation -/
def opOk (ops : Array Oper) (M : List Nat) (i : Nat) : Bool := match ops[i]? with
  | none => false
  | some o => (edgesOf ops i).all (fun e => decide (e < i)) && (M.getD i 0 == mk1 M (edgesOf ops i)) &&
    (match o.dst with | none => true | some d => whoA ops d == some i) &&
    (opT (opds o.op)).all (fun t => match whoA ops t with | none => true | some k => (M.getD i 0).testBit k || (M.getD k 0).testBit i) &&
    (match o.guard with | none => true | some (g, _) => (M.getD i 0).testBit g && (match (ops[g]?).bind (·.dst) with | some d => whoA ops d == some g | none => false)) &&
    (!loudK o.op || (List.range i).all fun j => !loudAt ops j || (M.getD i 0).testBit j)

/-- where a reading operation may stand: behind so many operations that change the heap -/
def may (ops : Array Oper) (M : List Nat) (i p : Nat) : Bool := (List.range ops.size).all fun j => !loudAt ops j || ((!(M.getD i 0).testBit j || decide (j < p)) && (!(M.getD j 0).testBit i || decide (p ≤ j)))
def same (ops : Array Oper) (p q : Nat) : Bool := (List.range ops.size).all fun j => !loudAt ops j || (decide (j < p) == decide (j < q))
def cuts (ops : Array Oper) : List Nat := 0 :: ((List.range ops.size).filter (loudAt ops)).map (· + 1)
/-- 'cs': operation and the cut where it is looked at again -/
def readsOk (ops : Array Oper) (M : List Nat) (cs : List (Nat × Nat)) : Bool := (List.range ops.size).all fun i => !readAt ops i || (cuts ops).all fun p => !may ops M i p || same ops i p || cs.contains (i, p)
def flowB (ops : Array Oper) (M : List Nat) (cs : List (Nat × Nat)) : Bool := (List.range ops.size).all (opOk ops M) && readsOk ops M cs

theorem mk1_bit {M : List Nat} {k : Nat} : ∀ {es : List Nat}, (mk1 M es).testBit k = true → ∃ e ∈ es, k = e ∨ (M.getD e 0).testBit k = true
  | [], h => by simp [mk1] at h
  | e :: es, h => by
    simp only [mk1, List.foldr_cons, Nat.testBit_or, Bool.or_eq_true] at h
    rcases h with (h | h) | h
    · obtain ⟨e', h1, h2⟩ := mk1_bit (es := es) h
      exact ⟨e', by simp [h1], h2⟩
    · refine ⟨e, by simp, .inl ?_⟩
      rw [Nat.one_shiftLeft] at h
      have := Nat.testBit_two_pow (n := e) (m := k)
      rw [this] at h
      simp at h; exact h.symm
    · exact ⟨e, by simp, .inr h⟩

structure FB (ops : Array Oper) (M : List Nat) : Prop where
  op : ∀ i, i < ops.size → opOk ops M i = true

theorem FB.ed {ops : Array Oper} {M : List Nat} (h : FB ops M) {i : Nat} (hi : i < ops.size) : (∀ k ∈ edgesOf ops i, k < i) ∧ M.getD i 0 = mk1 M (edgesOf ops i) := by
  have := h.op i hi
  unfold opOk at this
  split at this
  · cases this
  · simp only [Bool.and_eq_true, List.all_eq_true, decide_eq_true_eq, beq_iff_eq] at this
    exact ⟨this.1.1.1.1.1, this.1.1.1.1.2⟩

theorem FB.bit_lt {ops : Array Oper} {M : List Nat} (h : FB ops M) : ∀ (i : Nat), i < ops.size → ∀ k, (M.getD i 0).testBit k = true → k < i := by
  intro i
  induction i using Nat.strongRecOn with
  | _ i ih =>
    intro hi k hk
    obtain ⟨h1, h2⟩ := h.ed hi
    rw [h2] at hk
    obtain ⟨e, he, hke⟩ := mk1_bit hk
    have hei := h1 e he
    rcases hke with rfl | hke
    · exact hei
    · have := ih e hei (by omega) k hke; omega

theorem FB.bit_in {ops : Array Oper} {M : List Nat} (h : FB ops M) {l : Array Bool} (hc : Closed ops l) : ∀ (i : Nat), i < ops.size → (∀ k ∈ edgesOf ops i, l.getD k false = true) → ∀ k, (M.getD i 0).testBit k = true → l.getD k false = true := by
  intro i
  induction i using Nat.strongRecOn with
  | _ i ih =>
    intro hi hE k hk
    obtain ⟨h1, h2⟩ := h.ed hi
    rw [h2] at hk
    obtain ⟨e, he, hke⟩ := mk1_bit hk
    have hei := h1 e he
    rcases hke with rfl | hke
    · exact hE _ he
    · exact ih e hei (by omega) (hc e (hE e he)) k hke

theorem FB.dst {ops : Array Oper} {M : List Nat} (h : FB ops M) {i : Nat} {o : Oper} (ho : ops[i]? = some o) {d : Tmp} (hd : o.dst = some d) : whoA ops d = some i := by
  have := h.op i (Array.getElem?_eq_some_iff.1 ho).1
  unfold opOk at this
  simp only [ho, hd, Bool.and_eq_true, beq_iff_eq] at this
  exact this.1.1.1.2

theorem FB.opd {ops : Array Oper} {M : List Nat} (h : FB ops M) {i : Nat} {o : Oper} (ho : ops[i]? = some o) {t : Tmp} (ht : .tmp t ∈ opds o.op) {k : Nat} (hk : whoA ops t = some k) : (M.getD i 0).testBit k = true ∨ (M.getD k 0).testBit i = true := by
  have := h.op i (Array.getElem?_eq_some_iff.1 ho).1
  unfold opOk at this
  simp only [ho, Bool.and_eq_true, List.all_eq_true] at this
  have := this.1.1.2 t (by simp only [opT, List.mem_filterMap]; exact ⟨_, ht, rfl⟩)
  simp only [hk, Bool.or_eq_true] at this
  exact this

theorem FB.gd {ops : Array Oper} {M : List Nat} (h : FB ops M) {i : Nat} {o : Oper} (ho : ops[i]? = some o) {g : Nat} {w : Bool} (hg : o.guard = some (g, w)) : (M.getD i 0).testBit g = true ∧ ∃ d, (ops[g]?).bind (·.dst) = some d ∧ whoA ops d = some g := by
  have := h.op i (Array.getElem?_eq_some_iff.1 ho).1
  unfold opOk at this
  simp only [ho, hg, Bool.and_eq_true] at this
  refine ⟨this.1.2.1, ?_⟩
  have h2 := this.1.2.2
  split at h2
  · rename_i d hd; exact ⟨d, hd, by simpa using h2⟩
  · cases h2

theorem FB.ld {ops : Array Oper} {M : List Nat} (h : FB ops M) {i j : Nat} (hi : loudAt ops i = true) (hj : loudAt ops j = true) (hji : j < i) : (M.getD i 0).testBit j = true := by
  unfold loudAt at hi
  cases ho : ops[i]? with
  | none => simp [ho] at hi
  | some o =>
    simp only [ho] at hi
    have := h.op i (Array.getElem?_eq_some_iff.1 ho).1
    unfold opOk at this
    simp only [ho, hi, Bool.and_eq_true, Bool.not_true, Bool.false_or, List.all_eq_true, List.mem_range] at this
    have := this.2 j hji
    simpa [hj] using this

/-! ### the walk in the order written -/
structure Trk (P : Program) (Y : TypeId → TyI) (ops : Array Oper) (l : List Oper) (st : Nat → S) (rv : Nat → T) : Prop where
  step : ∀ i o, l[i]? = some o → GStep P Y ops (st i).tm o (st i).hp (st (i + 1)).hp (rv i) ∧ (st (i + 1)).tm = ((⟨(st i).tm, []⟩ : S).put o.dst (rv i)).tm

theorem put_tm {tm : List T} {H : Heap} {d : Option Tmp} {v : T} : ((⟨tm, H⟩ : S).put d v).tm = ((⟨tm, []⟩ : S).put d v).tm := by cases d <;> rfl
theorem put_hp' {tm : List T} {H : Heap} {d : Option Tmp} {v : T} : ((⟨tm, H⟩ : S).put d v).hp = H := by cases d <;> rfl

theorem Trk.of {P : Program} {Y : TypeId → TyI} {ops : Array Oper} {K : S → Prop} : ∀ (l : List Oper) (s : S), vopl P Y ops K l s → ∃ st rv, st 0 = s ∧ Trk P Y ops l st rv ∧ K (st l.length)
  | [], s, h => ⟨fun _ => s, fun _ => .undef, rfl, ⟨fun i o h => by simp at h⟩, h⟩
  | o :: l, s, h => by
    obtain ⟨H', v, h1, h2⟩ := GStep.of (show vgop P Y ops o (vopl P Y ops K l) s from h)
    obtain ⟨st, rv, e, ht, hk⟩ := Trk.of l _ h2
    refine ⟨fun i => match i with | 0 => s | i + 1 => st i, fun i => match i with | 0 => v | i + 1 => rv i, rfl, ⟨fun i o' ho' => ?_⟩, hk⟩
    cases i with
    | zero =>
      simp only [List.getElem?_cons_zero, Option.some.injEq] at ho'; subst ho'
      simp only [e]
      exact ⟨by rw [put_hp']; exact h1, put_tm⟩
    | succ i => exact ht.step i o' (by simpa using ho')
end Go.Vm

namespace Go.Vm
set_option linter.unusedSimpArgs false

def valT (ops : Array Oper) (tm : List T) (rv : Nat → T) (L : Nat → Bool) (t : Tmp) : T :=
  if t < tm.length then (match whoA ops t with | some k => if L k = true then rv k else tm.getD t .undef | none => tm.getD t .undef) else .undef

theorem who_dst {ops : Array Oper} {t : Tmp} {k : Nat} {o : Oper} (h : whoA ops t = some k) (ho : ops[k]? = some o) : o.dst = some t := by
  have := who_some h
  rw [ho] at this
  simpa using this
theorem who_lt {ops : Array Oper} {t : Tmp} {k : Nat} (h : whoA ops t = some k) : k < ops.size := by
  have := List.mem_of_find?_eq_some h
  simpa using this

section
variable {P : Program} {Y : TypeId → TyI} {ops : Array Oper} {M : List Nat} {st : Nat → S} {rv : Nat → T}

theorem Trk.tm (ht : Trk P Y ops ops.toList st rv) (hf : FB ops M) : ∀ i, i ≤ ops.size → (st i).tm.length = (st 0).tm.length ∧ ∀ t, (st i).tm.getD t .undef = valT ops (st 0).tm rv (fun k => decide (k < i)) t
  | 0, _ => ⟨rfl, fun t => by
    unfold valT
    split
    · split
      · simp
      · rfl
    · rename_i h; simp [h]⟩
  | i + 1, hi => by
    obtain ⟨h1, h2⟩ := ht.tm hf i (by omega)
    have ho : ops[i]? = some ops[i] := Array.getElem?_eq_getElem (by omega)
    obtain ⟨_, hs⟩ := ht.step i ops[i] (by simp)
    rw [hs]
    cases hd : (ops[i]).dst with
    | none =>
      refine ⟨h1, fun t => ?_⟩
      show (st i).tm.getD t .undef = _
      rw [h2 t]
      unfold valT
      split
      · split
        · rename_i k hk
          have hki : k ≠ i := fun e => by subst e; have := who_dst hk ho; rw [hd] at this; cases this
          have : decide (k < i + 1) = decide (k < i) := by by_cases h : k < i <;> simp [h] <;> omega
          simp only [this]
        · rfl
      · rfl
    | some d =>
      refine ⟨by show ((st i).tm.set d (rv i)).length = _; simp [h1], fun t => ?_⟩
      show ((st i).tm.set d (rv i)).getD t .undef = _
      by_cases htd : t = d
      · subst htd
        unfold valT
        split
        · rename_i hlt
          simp only [hf.dst ho hd, Nat.lt_succ_self, decide_true, if_true]
          have hl' : t < (st i).tm.length := by rw [h1]; exact hlt
          rw [List.getD_eq_getElem?_getD, List.getElem?_set_self hl']; rfl
        · rename_i hlt
          have hl' : ((st i).tm.set t (rv i)).length ≤ t := by rw [List.length_set, h1]; exact Nat.le_of_not_lt hlt
          rw [List.getD_eq_getElem?_getD, List.getElem?_eq_none hl']; rfl
      · rw [List.getD_eq_getElem?_getD, List.getElem?_set_ne (Ne.symm htd), ← List.getD_eq_getElem?_getD, h2 t]
        unfold valT
        split
        · split
          · rename_i k hk
            have hki : k ≠ i := fun e => by subst e; have := who_dst hk ho; rw [hd] at this; exact htd (by simpa using this.symm)
            have : decide (k < i + 1) = decide (k < i) := by by_cases h : k < i <;> simp [h] <;> omega
            simp only [this]
          · rfl
        · rfl

theorem Trk.still (ht : Trk P Y ops ops.toList st rv) {p : Nat} : ∀ n, p + n ≤ ops.size → (∀ j, p ≤ j → j < p + n → loudAt ops j = false) → (st (p + n)).hp = (st p).hp
  | 0, _, _ => rfl
  | n + 1, hn, h => by
    have ih := ht.still n (by omega) (fun j h1 h2 => h j h1 (by omega))
    have hi : p + n < ops.size := by omega
    obtain ⟨hs, _⟩ := ht.step (p + n) ops[p + n] (by simp)
    have hl := h (p + n) (by omega) (by omega)
    have ho : ops[p + n]? = some ops[p + n] := Array.getElem?_eq_getElem (by omega)
    unfold loudAt at hl
    simp only [ho, loudK, Bool.not_eq_false', Bool.or_eq_true] at hl
    show (st (p + n + 1)).hp = _
    rcases hl with hl | hl
    · rw [(hs.free hl).1, ih]
    · rw [hs.read hl, ih]

theorem Trk.same (ht : Trk P Y ops ops.toList st rv) {p q : Nat} (hp : p ≤ ops.size) (hq : q ≤ ops.size) (h : ∀ j, loudAt ops j = true → (j < p ↔ j < q)) : (st p).hp = (st q).hp := by
  rcases Nat.le_total p q with hpq | hpq
  · have := ht.still (p := p) (q - p) (by omega) (fun j h1 h2 => by
      cases hl : loudAt ops j with
      | false => rfl
      | true => have := (h j hl).2 (by omega); omega)
    rw [Nat.add_sub_cancel' hpq] at this
    exact this.symm
  · have := ht.still (p := q) (p - q) (by omega) (fun j h1 h2 => by
      cases hl : loudAt ops j with
      | false => rfl
      | true => have := (h j hl).1 (by omega); omega)
    rw [Nat.add_sub_cancel' hpq] at this
    exact this

structure JJ (F : Fr) (c : Cx) (ops : Array Oper) (tm : List T) (rv : Nat → T) (l : Array Bool) (a : Act) : Prop where
  df : a.defers = []
  sz : a.tmps.size = tm.length
  vl : ∀ t, RV c (valT ops tm rv (fun k => l.getD k false) t) (a.tmps.getD t undef)
  pin : ∀ j i, F.pin j = some i → c.μ 0 j = some i

theorem JJ.rvl {F : Fr} {c : Cx} {tm : List T} {l : Array Bool} {a : Act} (h : JJ F c ops tm rv l a) : RVL c ((List.range tm.length).map (valT ops tm rv fun k => l.getD k false)) a.tmps.toList := by
  refine RVL_of (by simp [h.sz]) fun t => ?_
  by_cases htt : t < tm.length
  · have := h.vl t
    have e : ((List.range tm.length).map (valT ops tm rv fun k => l.getD k false)).getD t .undef = valT ops tm rv (fun k => l.getD k false) t := by simp [htt]
    rw [e]
    have e2 : a.tmps.toList.getD t undef = a.tmps.getD t undef := by simp [Array.getD_eq_getD_getElem?]
    rw [e2]; exact this
  · have e : ((List.range tm.length).map (valT ops tm rv fun k => l.getD k false)).getD t .undef = .undef := by simp [htt]
    rw [e]; trivial

theorem getD_val {tm : List T} {l : Array Bool} (t : Nat) : ((List.range tm.length).map (valT ops tm rv fun k => l.getD k false)).getD t .undef = valT ops tm rv (fun k => l.getD k false) t := by
  by_cases htt : t < tm.length
  · simp [htt]
  · simp [htt, valT]

theorem flow_all (hY : TysW P Y) (ht : Trk P Y ops ops.toList st rv) (hf : FB ops M)
    (hchk : ∀ i o p, ops[i]? = some o → readK o.op = true → p ∈ cuts ops → p ≤ ops.size → may ops M i p = true → GStep P Y ops (st i).tm o (st p).hp (st p).hp (rv i))
    {F : Fr} {K : S → Prop} {R : Exit → Act → World → Prop} (hK : ∀ s' c' a' bs', Inv F c' s' a' bs' → K s' → R .normal a' c'.w) (hk : K (st ops.size)) :
    ∀ (m : Nat) (l : Array Bool) (c : Cx) (a : Act) (bs : List Nat) (p : Nat), cnt l ops.size = m → l.size = ops.size → Closed ops l → JJ F c ops (st 0).tm rv l a → p ≤ ops.size → p ∈ cuts ops →
      (∀ j, loudAt ops j = true → (l.getD j false = true ↔ j < p)) → InvH F c (st p).hp bs → wpAny P .any ops R m l a c.w := by
  intro m
  induction m with
  | zero =>
    intro l c a bs p hm hsz hcl hj hpn hpc hlp hi
    have hall := cnt_zero hm
    have hin : ∀ k, k < ops.size → l.getD k false = true := fun k hk => by
      have := hall k hk
      simp [hsz, hk] at this ⊢; exact this
    have hnone : Region.ready .any ops l = [] := by
      cases hr : Region.ready .any ops l with
      | nil => rfl
      | cons i r =>
        have hi' : i ∈ Region.ready .any ops l := by rw [hr]; simp
        obtain ⟨h1, o, ho, _⟩ := mem_ready.1 hi'
        have := hall i (Array.getElem?_eq_some_iff.1 ho).1
        rw [h1] at this; cases this
    refine ⟨hnone, hK (st ops.size) c a bs ⟨?_, ?_, hj.df, hj.pin⟩ hk⟩
    · rw [← ht.same hpn (Nat.le_refl _) fun j hl => ?_]
      · exact hi
      · have hjn : j < ops.size := by
          unfold loudAt at hl
          split at hl
          · rename_i o ho; exact (Array.getElem?_eq_some_iff.1 ho).1
          · cases hl
        exact ⟨fun _ => hjn, fun _ => (hlp j hl).1 (hin j hjn)⟩
    · obtain ⟨e1, e2⟩ := ht.tm hf ops.size (Nat.le_refl _)
      have hr := hj.rvl
      refine RVL_of (by rw [e1]; simp [hj.sz]) fun t => ?_
      rw [e2 t]
      have h3 := hj.vl t
      have e3 : a.tmps.toList.getD t undef = a.tmps.getD t undef := by simp [Array.getD_eq_getD_getElem?]
      rw [e3]
      unfold valT at *
      split
      · rename_i hlt
        rw [if_pos hlt] at h3
        split
        · rename_i k hk
          simp only [hk, hin k (who_lt hk), if_true] at h3
          simp only [who_lt hk, decide_true, if_true]
          exact h3
        · rename_i hk; simp only [hk] at h3; exact h3
      · trivial
  | succ m ih =>
    intro l c a bs p hm hsz hcl hj hpn hpc hlp hi
    have hlt : ∀ k, l.getD k true = true → k < l.size → l.getD k false = true := fun k h hk => by simp [hk] at h ⊢; exact h
    obtain ⟨k0, hk0, hk1, hk2⟩ := cnt_pos (l := l) (n := ops.size) (by omega)
    have hfirst : k0 ∈ Region.ready .any ops l := by
      have ho : ops[k0]? = some ops[k0] := Array.getElem?_eq_getElem hk0
      refine mem_ready.2 ⟨hk1, _, ho, fun e he hb => ?_⟩
      have hk := (hf.ed hk0).1 e.on (by simp only [edgesOf, ho, List.mem_map, List.mem_filter]; exact ⟨e, ⟨by simpa using he, hb⟩, rfl⟩)
      exact hlt _ (hk2 _ hk) (by omega)
    refine ⟨fun h0 => (by rw [h0] at hfirst; cases hfirst), fun i hi' => ?_⟩
    obtain ⟨hil, o, ho, hall⟩ := mem_ready.1 hi'
    have hE := edges_of ho hall
    have hin : i < ops.size := (Array.getElem?_eq_some_iff.1 ho).1
    have his : i < l.size := by omega
    have hilf : l.getD i false = false := by simp [his] at hil ⊢; exact hil
    have hanc := hf.bit_in hcl i hin hE
    obtain ⟨hgs, _⟩ := ht.step i o (by simpa using ho)
    obtain ⟨hti1, hti2⟩ := ht.tm hf i (by omega)
    have hto : ∀ t k, whoA ops t = some k → ((M.getD i 0).testBit k = true ∨ (M.getD k 0).testBit i = true) → valT ops (st 0).tm rv (fun k => decide (k < i)) t = valT ops (st 0).tm rv (fun k => l.getD k false) t := fun t k hk hb => by
      unfold valT
      simp only [hk]
      rcases hb with hb | hb
      · simp only [hf.bit_lt i hin k hb, hanc k hb, decide_true, if_true]
      · have hik := hf.bit_lt k (who_lt hk) i hb
        have hlk : l.getD k false = false := by
          cases hx : l.getD k false with
          | false => rfl
          | true =>
            have := hf.bit_in hcl k (who_lt hk) (hcl k hx) i hb
            rw [hilf] at this; cases this
        have : ¬ k < i := by omega
        simp only [hlk, this, decide_false, Bool.false_eq_true, if_false]
    have hev : ∀ x ∈ opds o.op, evT (st i).tm x = evT ((List.range (st 0).tm.length).map (valT ops (st 0).tm rv fun k => l.getD k false)) x := fun x hx => by
      cases x with
      | tmp t =>
        show (st i).tm.getD t .undef = List.getD _ t .undef
        rw [hti2 t, getD_val]
        cases hw : whoA ops t with
        | none => unfold valT; simp only [hw]
        | some k => exact hto t k hw (hf.opd ho hx hw)
      | const v => rfl
      | func f => rfl
      | global g => rfl
    have hgd : ∀ g w, o.guard = some (g, w) → guardT ops (st i).tm g = guardT ops ((List.range (st 0).tm.length).map (valT ops (st 0).tm rv fun k => l.getD k false)) g := fun g w hg => by
      obtain ⟨h1, d, h2, h3⟩ := hf.gd ho hg
      unfold guardT
      simp only [h2]
      rw [hti2 d, getD_val]
      exact congrArg openT (hto d g h3 (.inl h1))
    -- the step, where it stands
    have ⟨H', hstep, hnew⟩ : ∃ H', GStep P Y ops ((List.range (st 0).tm.length).map (valT ops (st 0).tm rv fun k => l.getD k false)) o (st p).hp H' (rv i) ∧
        ∃ p', p' ≤ ops.size ∧ p' ∈ cuts ops ∧ (∀ j, loudAt ops j = true → ((l.setIfInBounds i true).getD j false = true ↔ j < p')) ∧ (st p').hp = H' := by
      have hset : ∀ k, k ≠ i → (l.setIfInBounds i true).getD k false = l.getD k false := fun k hk => getD_set_ne false (Ne.symm hk)
      have hseti : (l.setIfInBounds i true).getD i false = true := by simp [his]
      cases hld : loudK o.op with
      | true =>
        have hli : loudAt ops i = true := by unfold loudAt; simp only [ho, hld]
        have hsm : ∀ j, loudAt ops j = true → (j < p ↔ j < i) := fun j hl => by
          constructor
          · intro h
            have hjl := (hlp j hl).2 h
            rcases Nat.lt_trichotomy j i with h1 | h1 | h1
            · exact h1
            · subst h1; rw [hilf] at hjl; cases hjl
            · have hjn : j < ops.size := by
                unfold loudAt at hl
                split at hl
                · rename_i o' ho'; exact (Array.getElem?_eq_some_iff.1 ho').1
                · cases hl
              have := hf.bit_in hcl j hjn (hcl j hjl) i (hf.ld hl hli h1)
              rw [hilf] at this; cases this
          · intro h
            exact (hlp j hl).1 (hanc j (hf.ld hli hl h))
        have hhp := ht.same hpn (by omega) hsm
        refine ⟨(st (i + 1)).hp, by rw [hhp]; exact hgs.congr hev hgd, i + 1, by omega, ?_, fun j hl => ?_, rfl⟩
        · unfold cuts
          exact List.mem_cons_of_mem _ (List.mem_map.2 ⟨i, List.mem_filter.2 ⟨List.mem_range.2 hin, hli⟩, rfl⟩)
        · by_cases hji : j = i
          · subst hji; simp only [hseti, true_iff]; omega
          · rw [hset j hji, hlp j hl, hsm j hl]; omega
      | false =>
        have hnl : loudAt ops i = false := by unfold loudAt; simp only [ho, hld]
        have hlp' : ∀ j, loudAt ops j = true → ((l.setIfInBounds i true).getD j false = true ↔ j < p) := fun j hl => by
          have : j ≠ i := fun e => by subst e; rw [hnl] at hl; cases hl
          rw [hset j this]; exact hlp j hl
        refine ⟨(st p).hp, ?_, p, hpn, hpc, hlp', rfl⟩
        simp only [loudK, Bool.not_eq_false', Bool.or_eq_true] at hld
        rcases hld with hld | hld
        · exact ((hgs.congr hev hgd).free hld).2 _
        · refine (hchk i o p ho hld hpc hpn ?_).congr hev hgd
          unfold may
          simp only [List.all_eq_true, List.mem_range, Bool.or_eq_true, Bool.and_eq_true, Bool.not_eq_true', decide_eq_true_eq]
          intro j hjn
          cases hl : loudAt ops j with
          | false => exact .inl rfl
          | true =>
            refine .inr ⟨?_, ?_⟩
            · cases hb : (M.getD i 0).testBit j with
              | false => exact .inl rfl
              | true => exact .inr ((hlp j hl).1 (hanc j hb))
            · cases hb : (M.getD j 0).testBit i with
              | false => exact .inl rfl
              | true =>
                refine .inr ?_
                rcases Nat.lt_or_ge j p with h1 | h1
                · have hjl := (hlp j hl).2 h1
                  have := hf.bit_in hcl j hjn (hcl j hjl) i hb
                  rw [hilf] at this; cases this
                · exact h1
    obtain ⟨p', hp1, hp2, hp3, hp4⟩ := hnew
    have hinv : Inv F c ⟨(List.range (st 0).tm.length).map (valT ops (st 0).tm rv fun k => l.getD k false), (st p).hp⟩ a bs := ⟨hi, hj.rvl, hj.df, hj.pin⟩
    refine vgop_sound hY (K := fun s' => s' = (⟨(List.range (st 0).tm.length).map (valT ops (st 0).tm rv fun k => l.getD k false), H'⟩ : S).put o.dst (rv i)) hinv ho (fun s' c' a' bs' h1 h2 => ?_) (hstep.to rfl)
    subst h2
    refine ih (l.setIfInBounds i true) c' a' bs' p' ?_ (by simp [hsz]) ?_ ⟨h1.df, ?_, fun t => ?_, h1.pin⟩ hp1 hp2 hp3 (by rw [hp4]; have := h1.h; rwa [put_hp'] at this)
    · have := cnt_set hil ops.size
      rw [if_pos hin] at this; omega
    · intro j hj' k hk
      by_cases hji : j = i
      · subst hji; exact getD_set_true (hE k hk)
      · rw [getD_set_ne false (Ne.symm hji)] at hj'
        exact getD_set_true (hcl j hj' k hk)
    · have := RVL_len h1.tm
      rw [put_tm] at this
      cases hd : o.dst <;> simp [hd, S.put] at this <;> first | exact this | exact this.symm
    · have hv := RVL_getD t h1.tm
      have e2 : a'.tmps.toList.getD t undef = a'.tmps.getD t undef := by simp [Array.getD_eq_getD_getElem?]
      rw [e2] at hv
      rw [put_tm] at hv
      cases hd : o.dst with
      | none =>
        rw [hd] at hv
        have hv' : RV c' (List.getD ((List.range (st 0).tm.length).map (valT ops (st 0).tm rv fun k => l.getD k false)) t .undef) (a'.tmps.getD t undef) := hv
        rw [getD_val] at hv'
        unfold valT at hv' ⊢
        split
        · rename_i hlt'
          rw [if_pos hlt'] at hv'
          split
          · rename_i k hk
            have hki : k ≠ i := fun e => by subst e; have := who_dst hk ho; rw [hd] at this; cases this
            simp only [hk] at hv'
            simp only [getD_set_ne false (Ne.symm hki)]; exact hv'
          · rename_i hk; simp only [hk] at hv'; exact hv'
        · trivial
      | some d =>
        rw [hd] at hv
        have hv' : RV c' (List.getD (((List.range (st 0).tm.length).map (valT ops (st 0).tm rv fun k => l.getD k false)).set d (rv i)) t .undef) (a'.tmps.getD t undef) := hv
        by_cases htd : t = d
        · subst htd
          unfold valT
          split
          · rename_i hlt'
            simp only [hf.dst ho hd]
            have : (l.setIfInBounds i true).getD i false = true := by simp [his]
            rw [if_pos this]
            rw [List.getD_eq_getElem?_getD, List.getElem?_set_self (by simpa using hlt')] at hv'
            exact hv'
          · trivial
        · rw [List.getD_eq_getElem?_getD, List.getElem?_set_ne (Ne.symm htd), ← List.getD_eq_getElem?_getD, getD_val] at hv'
          unfold valT at hv' ⊢
          split
          · rename_i hlt'
            rw [if_pos hlt'] at hv'
            split
            · rename_i k hk
              have hki : k ≠ i := fun e => by subst e; have := who_dst hk ho; rw [hd] at this; exact htd (by simpa using this.symm)
              simp only [hk] at hv'
              simp only [getD_set_ne false (Ne.symm hki)]; exact hv'
            · rename_i hk; simp only [hk] at hv'; exact hv'
          · trivial
end
end Go.Vm

namespace Go.Vm
set_option linter.unusedSimpArgs false

theorem loud_lt {ops : Array Oper} {j : Nat} (h : loudAt ops j = true) : j < ops.size := by
  unfold loudAt at h
  split at h
  · rename_i o ho; exact (Array.getElem?_eq_some_iff.1 ho).1
  · cases h

section
variable {P : Program} {Y : TypeId → TyI} {ops : Array Oper} {M : List Nat} {st : Nat → S} {rv : Nat → T}

theorem same_of {p q : Nat} (h : same ops p q = true) : ∀ j, loudAt ops j = true → (j < p ↔ j < q) := fun j hl => by
  unfold same at h
  simp only [List.all_eq_true, List.mem_range, Bool.or_eq_true, Bool.not_eq_true', beq_iff_eq] at h
  rcases h j (loud_lt hl) with h1 | h1
  · rw [hl] at h1; cases h1
  · by_cases h2 : j < p <;> by_cases h3 : j < q <;> simp [h2, h3] at h1 ⊢

theorem reads_of {cs : List (Nat × Nat)} (h : readsOk ops M cs = true) {i p : Nat} {o : Oper} (ho : ops[i]? = some o) (hr : readK o.op = true) (hp : p ∈ cuts ops) (hm : may ops M i p = true) :
    same ops i p = true ∨ (i, p) ∈ cs := by
  unfold readsOk at h
  simp only [List.all_eq_true, List.mem_range] at h
  have hi := (Array.getElem?_eq_some_iff.1 ho).1
  have h1 := h i hi
  have hra : readAt ops i = true := by unfold readAt; simp only [ho, hr]
  simp only [hra, Bool.not_true, Bool.false_or, List.all_eq_true] at h1
  have h2 := h1 p hp
  simp only [hm, Bool.not_true, Bool.false_or, Bool.or_eq_true] at h2
  exact h2.imp id (fun h => by simpa using h)

theorem chk_same (ht : Trk P Y ops ops.toList st rv) {i p : Nat} {o : Oper} (ho : ops[i]? = some o) (hr : readK o.op = true) (hp : p ≤ ops.size) (hs : same ops i p = true) : GStep P Y ops (st i).tm o (st p).hp (st p).hp (rv i) := by
  have hi := (Array.getElem?_eq_some_iff.1 ho).1
  obtain ⟨h1, _⟩ := ht.step i o (by simpa using ho)
  have h2 := h1.read hr
  rw [h2] at h1
  rw [← ht.same (by omega) hp (same_of hs)]
  exact h1

theorem draw_ok (hY : TysW P Y) (hm : P.follows .mixedOrders = true) {F : Fr} {Q : Exit → S → Prop} {id : Nat} {s : S} {cs : List (Nat × Nat)} (hb : flowB ops M cs = true) (h0 : st 0 = s) (ht : Trk P Y ops ops.toList st rv)
    (hk : Q .normal (st ops.size)) (hc : ∀ i o p, ops[i]? = some o → readK o.op = true → p ≤ ops.size → (i, p) ∈ cs → GStep P Y ops (st i).tm o (st p).hp (st p).hp (rv i)) : SW P F Q (.region id ops true) s := fun c a bs hi =>
  wp_region_any hm (by
    subst h0
    unfold flowB at hb
    simp only [Bool.and_eq_true, List.all_eq_true, List.mem_range] at hb
    have hf : FB ops M := ⟨hb.1⟩
    have hle : c.Le { c with w := { c.w with drawn := c.w.drawn + 1 } } := ⟨fun _ h => h, fun _ h => h, fun _ _ => rfl, fun _ _ => rfl, fun _ _ _ h => h, fun _ _ h => h⟩
    have hi' : InvH F { c with w := { c.w with drawn := c.w.drawn + 1 } } (st 0).hp bs :=
      ⟨HR.mono hle (fun _ _ => rfl) hi.h.hp, hi.h.nd, hi.h.dz, hi.h.zz, hi.h.zl, hi.h.bl, hi.h.mu, hi.h.fs, hi.h.ff, hi.h.fb, hi.h.fz, hi.h.fZ, hi.h.kp.trans ⟨rfl, rfl⟩, hi.h.rr⟩
    have htm := RVL.mono hle _ hi.tm
    have hcnt : ∀ (k : Nat), k ≤ ops.size → cnt (Array.replicate ops.size false) k = k := by
      intro k
      induction k with
      | zero => intro _; rfl
      | succ k ih => intro hk; simp only [cnt]; rw [ih (by omega)]; simp [show k < ops.size by omega]
    have hz : ∀ k, (Array.replicate ops.size false).getD k false = false := fun k => by
      rw [Array.getD_eq_getD_getElem?, Array.getElem?_replicate]; split <;> rfl
    refine flow_all hY ht hf (fun i o p ho hr hpc hpn hmy => ?_) (K := Q .normal) (R := liftQ F Q) (fun s' c' a' bs' h1 h2 => ⟨s', c', bs', rfl, h1, h2⟩) hk ops.size (Array.replicate ops.size false)
      { c with w := { c.w with drawn := c.w.drawn + 1 } } a bs 0 (hcnt _ (Nat.le_refl _)) (by simp) (fun j hj => by rw [hz] at hj; cases hj) ⟨hi.df, by have := RVL_len hi.tm; simpa using this, fun t => ?_, hi.pin⟩ (Nat.zero_le _) (by simp [cuts])
      (fun j hl => by rw [hz]; simp) hi'
    · rcases reads_of hb.2 ho hr hpc hmy with h | h
      · exact chk_same ht ho hr hpn h
      · exact hc i o p ho hr hpn h
    · unfold valT
      split
      · have hv := RVL_getD t htm
        have e2 : a.tmps.toList.getD t undef = a.tmps.getD t undef := by simp [Array.getD_eq_getD_getElem?]
        rw [e2] at hv
        split
        · simp only [hz, Bool.false_eq_true, if_false]; exact hv
        · exact hv
      · trivial)

/-- A REGION THAT DRAWS ITS ORDER, walked as it is written: no reading operation can change places with one that changes the heap -/
theorem SW.draw (hY : TysW P Y) (hm : P.follows .mixedOrders = true) {F : Fr} {Q : Exit → S → Prop} {s : S} {id : Nat} (hb : flowB ops (msk ops) [] = true) (h : vopl P Y ops (Q .normal) ops.toList s) : SW P F Q (.region id ops true) s := by
  obtain ⟨st, rv, e, ht, hk⟩ := Trk.of _ _ h
  rw [Array.length_toList] at hk
  exact draw_ok hY hm hb e ht hk (fun i o p _ _ _ h => by cases h)

theorem SW.draw_seq (hY : TysW P Y) (hm : P.follows .mixedOrders = true) {F : Fr} {Q : Exit → S → Prop} {s : S} {id : Nat} {y : Code} (hb : flowB ops (msk ops) [] = true) (h : ∀ y', y' = y → vopl P Y ops (SW P F Q y') ops.toList s) :
    SW P F Q (.seq (.region id ops true) y) s := SW.seq (SW.draw hY hm hb (h y rfl))

/-! ### with reading operations that are looked at in other heaps too -/
def bnds : List Nat → Nat → List Nat
  | [], b => [b]
  | n :: ns, b => b :: bnds ns (b + n)
theorem bnds_add : ∀ (ns : List Nat) (b n : Nat), bnds ns (b + n) = (bnds ns b).map (· + n)
  | [], b, n => rfl
  | k :: ns, b, n => by
    simp only [bnds, List.map_cons]
    rw [show b + n + k = (b + k) + n by omega, bnds_add ns (b + k) n]

def vrec (P : Program) (Y : TypeId → TyI) (ops : Array Oper) (K : List Heap → S → Prop) : List Nat → List Heap → List Oper → S → Prop
  | [], hs, l, s => vopl P Y ops (K (hs ++ [s.hp])) l s
  | n :: ns, hs, l, s => vopl P Y ops (vrec P Y ops K ns (hs ++ [s.hp]) (l.drop n)) (l.take n) s

theorem Trk.recd {K : List Heap → S → Prop} : ∀ (ns : List Nat) (hs : List Heap) (l : List Oper) (s : S), ns.sum ≤ l.length → vrec P Y ops K ns hs l s →
    ∃ st rv, st 0 = s ∧ Trk P Y ops l st rv ∧ K (hs ++ (bnds ns 0).map fun b => (st b).hp) (st l.length)
  | [], hs, l, s, _, h => by
    obtain ⟨st, rv, e, ht, hk⟩ := Trk.of l s h
    exact ⟨st, rv, e, ht, by simp only [bnds, List.map_cons, List.map_nil, e]; exact hk⟩
  | n :: ns, hs, l, s, hn, h => by
    simp only [List.sum_cons] at hn
    obtain ⟨st1, rv1, e1, ht1, hk1⟩ := Trk.of _ s h
    have hl1 : (l.take n).length = n := by rw [List.length_take]; omega
    rw [hl1] at hk1
    obtain ⟨st2, rv2, e2, ht2, hk2⟩ := Trk.recd ns _ _ _ (by rw [List.length_drop]; omega) hk1
    have key : ∀ k, (if n + k < n then st1 (n + k) else st2 (n + k - n)) = st2 k := fun k => by
      rw [if_neg (by omega), Nat.add_sub_cancel_left]
    have hle : ∀ k, k ≤ n → (if k < n then st1 k else st2 (k - n)) = st1 k := fun k hk => by
      split
      · rfl
      · have : k = n := by omega
        subst this; rw [Nat.sub_self, e2]
    refine ⟨fun i => if i < n then st1 i else st2 (i - n), fun i => if i < n then rv1 i else rv2 (i - n), ?_, ⟨fun i o ho => ?_⟩, ?_⟩
    · show (if 0 < n then st1 0 else st2 (0 - n)) = s
      rw [hle 0 (Nat.zero_le _), e1]
    · show GStep P Y ops (if i < n then st1 i else st2 (i - n)).tm o (if i < n then st1 i else st2 (i - n)).hp (if i + 1 < n then st1 (i + 1) else st2 (i + 1 - n)).hp (if i < n then rv1 i else rv2 (i - n)) ∧
        (if i + 1 < n then st1 (i + 1) else st2 (i + 1 - n)).tm = ((⟨(if i < n then st1 i else st2 (i - n)).tm, []⟩ : S).put o.dst (if i < n then rv1 i else rv2 (i - n))).tm
      by_cases hin : i < n
      · have := ht1.step i o (by rw [List.getElem?_take_of_lt hin]; exact ho)
        rw [hle i (by omega), hle (i + 1) (by omega), if_pos hin]
        exact this
      · obtain ⟨k, rfl⟩ : ∃ k, i = n + k := ⟨i - n, by omega⟩
        have := ht2.step k o (by rw [List.getElem?_drop]; exact ho)
        have h4 := key (k + 1)
        rw [← Nat.add_assoc] at h4
        rw [key k, h4, if_neg hin, Nat.add_sub_cancel_left]
        exact this
    · have hlen : l.length = n + (l.drop n).length := by rw [List.length_drop]; omega
      simp only [bnds, List.map_cons, Nat.zero_add]
      have h3 : (bnds ns n).map (fun b => (if b < n then st1 b else st2 (b - n)).hp) = (bnds ns 0).map fun b => (st2 b).hp := by
        have := bnds_add ns 0 n
        rw [Nat.zero_add] at this
        rw [this, List.map_map]
        refine List.map_congr_left fun b _ => ?_
        simp only [Function.comp]
        rw [Nat.add_comm b n, key b]
      rw [h3, hle 0 (Nat.zero_le _), e1, hlen, key]
      simpa using hk2

structure Chk (A B : Prop) : Prop where
  a : A
  b : B

def rdq (Y : TypeId → TyI) (s : S) (H : Heap) : Option Oper → Prop
  | some o => match o.dst with
    | some d => d < s.tm.length ∧ (opM Y s.ev H.length o.type o.op).run H = some { v := s.tm.getD d .undef }
    | none => False
  | none => False
def rdqs (Y : TypeId → TyI) (ops : Array Oper) (s : S) (hs : List Heap) : List (Nat × Nat) → Prop
  | [] => True
  | x :: cs => rdq Y s (hs.getD x.2 []) ops[x.1]? ∧ rdqs Y ops s hs cs
theorem rdqs_mem {s : S} {hs : List Heap} : ∀ {cs : List (Nat × Nat)} {x : Nat × Nat}, rdqs Y ops s hs cs → x ∈ cs → rdq Y s (hs.getD x.2 []) ops[x.1]?
  | y :: cs, x, h, hx => by
    rcases List.mem_cons.1 hx with rfl | hx
    · exact h.1
    · exact rdqs_mem h.2 hx

def ckOk (ops : Array Oper) (M : List Nat) (x : Nat × Nat) : Bool := match ops[x.1]? with
  | some o => o.guard.isNone && decide (x.2 < (cuts ops).length) && (opT (opds o.op)).all fun t => match whoA ops t with | none => true | some k => (M.getD x.1 0).testBit k
  | none => false
def flow2B (ops : Array Oper) (M : List Nat) (ns : List Nat) (ck : List (Nat × Nat)) : Bool :=
  flowB ops M (ck.map fun x => (x.1, (cuts ops).getD x.2 0)) && (bnds ns 0 == cuts ops) && decide (ns.sum ≤ ops.size) && ck.all (ckOk ops M)

/-- 'ns': how many operations up to each that changes the heap, with it; 'ck': which reading operation is looked at again, and in which heap -/
theorem SW.draw2 (hY : TysW P Y) (hm : P.follows .mixedOrders = true) {F : Fr} {Q : Exit → S → Prop} {s : S} {id : Nat} (ns : List Nat) (ck : List (Nat × Nat)) (hb : flow2B ops (msk ops) ns ck = true)
    (h : vrec P Y ops (fun hs s' => Chk (rdqs Y ops s' hs ck) (Q .normal s')) ns [] ops.toList s) : SW P F Q (.region id ops true) s := by
  unfold flow2B at hb
  simp only [Bool.and_eq_true, decide_eq_true_eq, beq_iff_eq, List.all_eq_true] at hb
  obtain ⟨⟨⟨hb1, hb2⟩, hb3⟩, hb4⟩ := hb
  obtain ⟨st, rv, e, ht, hk⟩ := Trk.recd _ _ _ _ (by rw [Array.length_toList]; exact hb3) h
  rw [Array.length_toList, List.nil_append, hb2] at hk
  have hf : FB ops (msk ops) := ⟨by
    have := hb1; unfold flowB at this
    simp only [Bool.and_eq_true, List.all_eq_true, List.mem_range] at this
    exact this.1⟩
  refine draw_ok hY hm hb1 e ht hk.b fun i o p ho hr hp hmem => ?_
  obtain ⟨x, hx, hxe⟩ := List.mem_map.1 hmem
  simp only [Prod.mk.injEq] at hxe
  obtain ⟨rfl, rfl⟩ := hxe
  have h1 := rdqs_mem hk.a hx
  have h2 := hb4 x hx
  unfold ckOk at h2
  simp only [ho, Bool.and_eq_true, decide_eq_true_eq, List.all_eq_true, Option.isNone_iff_eq_none] at h2
  obtain ⟨⟨hg, hq⟩, hop⟩ := h2
  rw [ho] at h1
  unfold rdq at h1
  simp only at h1
  cases hd : o.dst with
  | none => simp [hd] at h1
  | some d =>
    simp only [hd] at h1
    obtain ⟨hdl, h1⟩ := h1
    have hi := (Array.getElem?_eq_some_iff.1 ho).1
    have hgl : List.getD (List.map (fun b => (st b).hp) (cuts ops)) x.2 [] = (st ((cuts ops).getD x.2 0)).hp := by
      rw [List.getD_eq_getElem?_getD, List.getElem?_map, List.getD_eq_getElem?_getD, List.getElem?_eq_getElem hq]; rfl
    rw [hgl] at h1
    obtain ⟨t1, t2⟩ := ht.tm hf ops.size (Nat.le_refl _)
    obtain ⟨t3, t4⟩ := ht.tm hf x.1 (by omega)
    have hval : (st ops.size).tm.getD d .undef = rv x.1 := by
      rw [t2 d]
      unfold valT
      rw [if_pos (by rw [← t1]; exact hdl)]
      simp only [hf.dst ho hd, hi, decide_true, if_true]
    rw [hval, ev_evT] at h1
    have hev : ∀ y ∈ opds o.op, evT (st ops.size).tm y = evT (st x.1).tm y := fun y hy => by
      cases y with
      | tmp t =>
        show (st ops.size).tm.getD t .undef = (st x.1).tm.getD t .undef
        rw [t2 t, t4 t]
        unfold valT
        have hw := hop t (by simp only [opT, List.mem_filterMap]; exact ⟨_, hy, rfl⟩)
        cases hwt : whoA ops t with
        | none => rfl
        | some k =>
          simp only [hwt] at hw
          have hki := hf.bit_lt x.1 hi k hw
          simp only [hki, show k < ops.size by omega, decide_true, if_true]
      | const v => rfl
      | func f => rfl
      | global g => rfl
    rw [opM_congr hev] at h1
    obtain ⟨ha, hc⟩ := read_al (Y := Y) hr
    unfold GStep
    simp only [hg]
    unfold LStep
    simp only [ha, hc, Bool.false_eq_true, if_false]
    exact ⟨_, h1, rfl, rfl⟩
end
end Go.Vm

namespace Go.Vm

/-! ### what is lent, within a variable that is handed over: one tag for all -/
def cst (k : Nat) : Tag → Tag := fun _ => .r k

theorem bind_pure_inv {α β : Type} {m : RM α} {f : α → RM β} {x : β} (h : m.bind f = .pure x) : ∃ a, m = .pure a ∧ f a = .pure x := by
  cases m with
  | pure a => exact ⟨a, rfl, h⟩
  | fail => cases h
  | get e j k => cases h

mutual
theorem tg_tg (σ τ : Tag → Tag) : ∀ t : T, (t.tg σ).tg τ = t.tg (fun g => τ (σ g))
  | .nd l => by simp only [T.tg, tgL_tgL σ τ l]
  | .sl g l => by simp only [T.tg, tgL_tgL σ τ l]
  | .ow es l => by simp only [T.tg, tgL_tgL σ τ l]
  | .tup l => by simp only [T.tg, tgL_tgL σ τ l]
  | .io t => by simp only [T.tg, tg_tg σ τ t]
  | .fp t => by simp only [T.tg, tg_tg σ τ t]
  | .int .. | .bool _ | .str _ | .nils _ | .ref .. | .vr .. | .ptr .. | .fn .. | .nilI | .nilP | .err | .any | .undef | .opt .. => rfl
theorem tgL_tgL (σ τ : Tag → Tag) : ∀ l : List T, tgL τ (tgL σ l) = tgL (fun g => τ (σ g)) l
  | [] => rfl
  | t :: l => by simp only [tgL, tg_tg σ τ t, tgL_tgL σ τ l]
end

mutual
theorem tg_lent (τ : Tag → Tag) {k : T → RM T} : ∀ t : T, lendA k t = .pure t → t.tg τ = t.tg (fun _ => τ .b)
  | .nd l, h => by
    simp only [lendA] at h
    obtain ⟨a, h1, h2⟩ := bind_pure_inv h
    simp only [RM.pure.injEq, T.nd.injEq] at h2; rw [h2] at h1
    simp only [T.tg, tgL_lent τ l h1]
  | .sl g l, h => by
    simp only [lendA] at h
    obtain ⟨a, h1, h2⟩ := bind_pure_inv h
    simp only [RM.pure.injEq, T.sl.injEq] at h2
    obtain ⟨hg, hl⟩ := h2
    rw [hl] at h1
    simp only [T.tg, tgL_lent τ l h1, ← hg]
  | .ow es l, h => by
    simp only [lendA] at h
    obtain ⟨a, h1, h2⟩ := bind_pure_inv h
    simp at h2
  | .fp t, h => by
    simp only [lendA] at h
    obtain ⟨a, h1, h2⟩ := bind_pure_inv h
    simp only [RM.pure.injEq, T.fp.injEq] at h2; rw [h2] at h1
    simp only [T.tg, tg_lent τ t h1]
  | .tup l, h => by simp [lendA] at h
  | .io t, h => by simp [lendA] at h
  | .int .., _ | .bool _, _ | .str _, _ | .nils _, _ | .ref .., _ | .vr .., _ | .ptr .., _ | .fn .., _ | .nilI, _ | .nilP, _ | .err, _ | .any, _ | .undef, _ | .opt .., _ => rfl
theorem tgL_lent (τ : Tag → Tag) {k : T → RM T} : ∀ l : List T, lendAL k l = .pure l → tgL τ l = tgL (fun _ => τ .b) l
  | [], _ => rfl
  | t :: l, h => by
    simp only [lendAL] at h
    obtain ⟨a, h1, h2⟩ := bind_pure_inv h
    obtain ⟨b, h3, h4⟩ := bind_pure_inv h2
    simp only [RM.pure.injEq, List.cons.injEq] at h4
    rw [h4.1] at h1; rw [h4.2] at h3
    simp only [tgL, tg_lent τ t h1, tgL_lent τ l h3]
end

mutual
theorem lend_tg (σ : Tag → Tag) {k : T → RM T} : ∀ t : T, lendA k t = .pure t → lendA k (t.tg σ) = .pure t
  | .nd l, h => by
    simp only [lendA] at h
    obtain ⟨a, h1, h2⟩ := bind_pure_inv h
    simp only [RM.pure.injEq, T.nd.injEq] at h2; rw [h2] at h1
    simp only [T.tg, lendA, lendL_tg σ l h1, RM.bind]
  | .sl g l, h => by
    simp only [lendA] at h
    obtain ⟨a, h1, h2⟩ := bind_pure_inv h
    simp only [RM.pure.injEq, T.sl.injEq] at h2
    obtain ⟨hg, hl⟩ := h2
    rw [hl] at h1
    simp only [T.tg, lendA, lendL_tg σ l h1, ← hg, RM.bind]
  | .ow es l, h => by
    simp only [lendA] at h
    obtain ⟨a, h1, h2⟩ := bind_pure_inv h
    simp at h2
  | .fp t, h => by
    simp only [lendA] at h
    obtain ⟨a, h1, h2⟩ := bind_pure_inv h
    simp only [RM.pure.injEq, T.fp.injEq] at h2; rw [h2] at h1
    simp only [T.tg, lendA, lend_tg σ t h1, RM.bind]
  | .tup l, h => by simp [lendA] at h
  | .io t, h => by simp [lendA] at h
  | .int .., h | .bool _, h | .str _, h | .nils _, h | .ref .., h | .vr .., h | .ptr .., h | .fn .., h | .nilI, h | .nilP, h | .err, h | .any, h | .undef, h | .opt .., h => h
theorem lendL_tg (σ : Tag → Tag) {k : T → RM T} : ∀ l : List T, lendAL k l = .pure l → lendAL k (tgL σ l) = .pure l
  | [], _ => rfl
  | t :: l, h => by
    simp only [lendAL] at h
    obtain ⟨a, h1, h2⟩ := bind_pure_inv h
    obtain ⟨b, h3, h4⟩ := bind_pure_inv h2
    simp only [RM.pure.injEq, List.cons.injEq] at h4
    rw [h4.1] at h1; rw [h4.2] at h3
    simp only [tgL, lendAL, lend_tg σ t h1, lendL_tg σ l h3, RM.bind]
end

mutual
theorem ren_tg (π : List Nat) (σ : Tag → Tag) : ∀ t : T, (t.tg σ).ren π = (t.ren π).tg σ
  | .nd l => by simp only [T.tg, T.ren, renL_tg π σ l]
  | .sl g l => by simp only [T.tg, T.ren, renL_tg π σ l]
  | .ow es l => by simp only [T.tg, T.ren, renL_tg π σ l]
  | .tup l => by simp only [T.tg, T.ren, renL_tg π σ l]
  | .io t => by simp only [T.tg, T.ren, ren_tg π σ t]
  | .fp t => by simp only [T.tg, T.ren, ren_tg π σ t]
  | .ref e j off len => by simp only [T.tg, T.ren]; first | rfl | (split <;> rfl)
  | .vr .. => by simp only [T.tg, T.ren]; first | rfl | (split <;> rfl)
  | .ptr .. => by simp only [T.tg, T.ren]; first | rfl | (split <;> rfl)
  | .int .. | .bool _ | .str _ | .nils _ | .fn .. | .nilI | .nilP | .err | .any | .undef | .opt .. => rfl
theorem renL_tg (π : List Nat) (σ : Tag → Tag) : ∀ l : List T, renL π (tgL σ l) = tgL σ (renL π l)
  | [] => rfl
  | t :: l => by simp only [tgL, renL, ren_tg π σ t, renL_tg π σ l]
end

mutual
theorem lend_cloA {k : T → RM T} : ∀ (t u : T), t.clo = true → lendA k t = .pure u → u.cloA = true
  | .nd l, u, hc, h => by
    simp only [lendA] at h
    obtain ⟨a, h1, h2⟩ := bind_pure_inv h
    simp only [RM.pure.injEq] at h2; subst h2
    exact lendL_cloA l a hc h1
  | .sl g l, u, hc, h => by
    simp only [lendA] at h
    obtain ⟨a, h1, h2⟩ := bind_pure_inv h
    simp only [RM.pure.injEq] at h2; subst h2
    simp only [T.clo, Bool.and_eq_true] at hc
    exact lendL_cloA l a hc.2 h1
  | .ow es l, u, hc, h => by
    simp only [lendA] at h
    obtain ⟨a, h1, h2⟩ := bind_pure_inv h
    simp only [RM.pure.injEq] at h2; subst h2
    exact lendL_cloA l a hc h1
  | .int .., u, _, h => by simp only [lendA, RM.pure.injEq] at h; subst h; rfl
  | .bool _, u, _, h => by simp only [lendA, RM.pure.injEq] at h; subst h; rfl
  | .str _, u, _, h => by simp only [lendA, RM.pure.injEq] at h; subst h; rfl
  | .nilI, u, _, h => by simp only [lendA, RM.pure.injEq] at h; subst h; rfl
  | .nilP, u, _, h => by simp only [lendA, RM.pure.injEq] at h; subst h; rfl
  | .err, u, _, h => by simp only [lendA, RM.pure.injEq] at h; subst h; rfl
  | .any, u, _, h => by simp only [lendA, RM.pure.injEq] at h; subst h; rfl
  | .nils _, u, _, h => by simp only [lendA, RM.pure.injEq] at h; subst h; rfl
  | .fp _, _, hc, _ | .tup _, _, hc, _ | .io _, _, hc, _ | .ref .., _, hc, _ | .vr .., _, hc, _ | .ptr .., _, hc, _ | .fn .., _, hc, _ | .undef, _, hc, _ | .opt .., _, hc, _ => by simp [T.clo] at hc
theorem lendL_cloA {k : T → RM T} : ∀ (l u : List T), cloL l = true → lendAL k l = .pure u → cloAL u = true
  | [], u, _, h => by simp only [lendAL, RM.pure.injEq] at h; subst h; rfl
  | t :: l, u, hc, h => by
    simp only [lendAL] at h
    obtain ⟨a, h1, h2⟩ := bind_pure_inv h
    obtain ⟨b, h3, h4⟩ := bind_pure_inv h2
    simp only [RM.pure.injEq] at h4; subst h4
    simp only [cloL, Bool.and_eq_true] at hc
    simp only [cloAL, lend_cloA t a hc.1 h1, lendL_cloA l b hc.2 h3, Bool.and_self]
end

mutual
theorem clo_cst (k : Nat) : ∀ t : T, t.cloA = true → (t.tg (cst k)).clo = true
  | .nd l, h => cloL_cst k l h
  | .sl g l, h => by
    simp only [T.tg, T.clo, Bool.and_eq_true]
    exact ⟨rfl, cloL_cst k l h⟩
  | .ow es l, h => cloL_cst k l h
  | .int .., _ | .bool _, _ | .str _, _ | .nilI, _ | .nilP, _ | .err, _ | .any, _ | .nils _, _ => rfl
  | .fp _, h | .tup _, h | .io _, h | .ref .., h | .vr .., h | .ptr .., h | .fn .., h | .undef, h | .opt .., h => by simp [T.cloA] at h
theorem cloL_cst (k : Nat) : ∀ l : List T, cloAL l = true → cloL (tgL (cst k) l) = true
  | [], _ => rfl
  | t :: l, h => by
    simp only [cloAL, Bool.and_eq_true] at h
    simp only [tgL, cloL, clo_cst k t h.1, cloL_cst k l h.2, Bool.and_self]
end

section
variable {α : Type} [Enc α]
@[simp] theorem tgL_up0 (l : List α) : tgL upT (l.map Enc.b) = tgL (cst 0) (l.map Enc.b) := tgL_lent upT _ (lendAL_b (fun _ => .fail) l)
@[simp] theorem tgL_up (k : Nat) (l : List T) : tgL upT (tgL (cst k) l) = tgL (cst (k + 1)) l := tgL_tgL _ _ l
@[simp] theorem tgL_dn (k : Nat) (l : List T) : tgL dnT (tgL (cst (k + 1)) l) = tgL (cst k) l := tgL_tgL _ _ l
@[simp] theorem tgL_dn0 (l : List α) : tgL dnT (tgL (cst 0) (l.map Enc.b)) = l.map Enc.b := by
  rw [tgL_tgL]
  have h : ∀ m : List α, tgL (fun g : Tag => dnT (cst 0 g)) (m.map Enc.b) = m.map Enc.b := fun m => by
    have h1 := tgL_lent id _ (lendAL_b (fun _ => .fail) m)
    rw [tgL_id] at h1
    exact h1.symm
  exact h l
@[simp] theorem tgL_dnb (l : List α) : tgL dnT (l.map Enc.b) = l.map Enc.b := by
  have h1 := tgL_lent id _ (lendAL_b (fun _ => .fail) l)
  rw [tgL_id] at h1
  have h2 := tgL_lent dnT _ (lendAL_b (fun _ => .fail) l)
  rw [h2]; exact h1.symm
@[simp] theorem lendAL_t (σ : Tag → Tag) (k : T → RM T) (l : List α) : lendAL k (tgL σ (l.map Enc.b)) = .pure (l.map Enc.b) := lendL_tg σ _ (lendAL_b k l)
@[simp] theorem renL_t (π : List Nat) (σ : Tag → Tag) (l : List α) : renL π (tgL σ (l.map Enc.b)) = tgL σ (l.map Enc.b) := by rw [renL_tg, renL_b]
@[simp] theorem cloAL_b (l : List α) : cloAL (l.map Enc.b) = true := lendL_cloA _ _ (cloL_o l) (lendAL_o (fun _ => .fail) l)
@[simp] theorem cloAL_t (σ : Tag → Tag) (l : List α) : cloAL (tgL σ (l.map Enc.b)) = true := tgL_cloA _ (cloAL_b l)
@[simp] theorem cloL_t (k : Nat) (l : List α) : cloL (tgL (cst k) (l.map Enc.b)) = true := cloL_cst k _ (cloAL_b l)
theorem tgL_get (σ : Tag → Tag) : ∀ (l : List T) (i : Nat), (tgL σ l)[i]? = (l[i]?).map (T.tg σ)
  | [], i => by simp [tgL]
  | t :: l, 0 => by simp [tgL]
  | t :: l, i + 1 => by simp only [tgL, List.getElem?_cons_succ]; exact tgL_get σ l i
theorem get_t (σ : Tag → Tag) (l : List α) (i : Nat) (h : i < l.length) : (tgL σ (l.map Enc.b))[i]? = some ((Enc.b l[i]).tg σ) := by
  rw [tgL_get, List.getElem?_map, List.getElem?_eq_getElem h]; rfl
theorem tgL_int (σ : Tag → Tag) (l : List Int) : tgL σ (l.map Enc.b) = l.map Enc.b := by rw [b_int]; exact tgL_o σ l
theorem tgL_bool (σ : Tag → Tag) (l : List Bool) : tgL σ (l.map Enc.b) = l.map Enc.b := by rw [b_bool]; exact tgL_o σ l
@[simp] theorem len_t (σ : Tag → Tag) (l : List α) : (tgL σ (l.map (Enc.b : α → T))).length = l.length := by rw [tgL_len]; simp
theorem append_runP {Y : TypeId → TyI} {own t u e j off n e2 j2 el es by' : Nat} {k : Ty} {f : List T} {l : List α} {x : α} {H : Heap} (h1 : Y t = ⟨.sl el, 1, 24⟩) (hu : Y u = ⟨.sl el, 1, 24⟩) (h2 : Y el = ⟨k, es, by'⟩) (h3 : k.isFn = false) (h4 : 0 < es ∧ 0 < by' ∧ by' ≤ 2 ^ 16)
    (hH : H.at e j = some (.arr es f false)) (hH2 : H.at e2 j2 = some (.arr es [Enc.o x] false)) (hp : (f.drop off).take n = l.map Enc.o) (hn : off + n ≤ f.length) (hl : n + 1 ≤ 2 ^ 30) (hnw : (Enc.o x).nw = true) (hz : (Enc.o x).size = es) :
    (appendM Y own t u (.ref e j off n) (.ref e2 j2 0 1)).run H = some { v := .ref own 0 0 (n + 1), ups := [(e, j, .gone)], news := [.arr es ((l ++ [x]).map Enc.o) false] } := by
  rw [append_run1 h1 hu h2 h3 h4 hH hH2 hn hl hnw hz, hp]; simp
end
end Go.Vm

namespace Go.Vm

/-- a variable opens: its slices become objects of a new entry -/
theorem Norm.expelVar {tm : List T} {H : Heap} (e j : Nat) {t : T} (ha : H.at e j = some (.var t)) :
    Norm ⟨tm, H⟩ ⟨tm, H.put e j (.var (thawA H.length t 0).1) ++ [(thawA H.length t 0).2]⟩ := fun F c a bs hi => by
  have hext := hi.h.ext
  obtain ⟨p, q, r, hb, ho, hinv⟩ := HR.drop hext (at_app ha [])
  obtain ⟨i, hmu, cs, bs', arr, hq, hrc, hh, hsz, hfree, hle0, h1, h2⟩ := ho
  obtain ⟨is, hl, hth⟩ := thaw_rc (own := H.length) t (j := 0) hrc
  have hown : (Heap.put (H ++ [[]]) e j .gone)[H.length]? = some [] := by
    rw [put_app ha]
    rw [List.getElem?_append_right (by rw [put_len]; exact Nat.le_refl _), put_len]; simp
  have hnd := hi.h.nd
  rw [hb, List.nodup_append, List.nodup_append] at hnd
  have hqn := hnd.2.1.1
  rw [hq, List.nodup_cons] at hqn
  have hqout : ∀ x ∈ q, x ∉ p ++ r := fun x hx hx' => by
    rcases List.mem_append.1 hx' with h' | h'
    · exact hnd.2.2 x h' x (by simp [hx]) rfl
    · exact hnd.2.1.2.2 x hx x h' rfl
  have hqb : ∀ x ∈ q, x ∈ bs := fun x hx => by rw [hb]; simp [hx]
  have hin : ∀ x ∈ bs', x ∈ q := fun x hx => by rw [hq]; simp [hx]
  have hle := Le_row (is := is) hinv hown
  obtain ⟨g1, g2⟩ := hth _ hle (fun _ _ => rfl) (fun k i hk => by simp [Cx.rowAt, hk])
  obtain ⟨bs1, hinv1, hm1⟩ := hinv.row hown (q := bs') (is := is) (obs := (thawA H.length t 0).2) (fun x hx => ⟨hqout x (hin x hx), hext.dz x (hqb x (hin x hx)), hext.bl x (hqb x (hin x hx)), hext.fb x (hqb x (hin x hx))⟩)
    hqn.2 hl g2
  have hat : Heap.at ((Heap.put (H ++ [[]]) e j .gone).set H.length (thawA H.length t 0).2) e j = some .gone := by
    have h1 := at_put (x := .gone) ha
    rw [put_app ha, List.set_append_right _ _ (by rw [put_len]; exact Nat.le_refl _), put_len, Nat.sub_self]
    exact at_app h1 _
  have hmu' : (c.rowAt H.length is).μ e j = some i := by
    have : e ≠ H.length := fun he => by
      subst he
      unfold Heap.at at ha
      rw [List.getElem?_eq_none (Nat.le_refl _)] at ha; cases ha
    simp [Cx.rowAt, this, hmu]
  obtain ⟨bs2, hfin⟩ := InvH.fillOb (q := [i.blk]) (ob := .var (thawA H.length t 0).1) hinv1 hat
    ⟨i, hmu', cs, [], arr, rfl, g1, hh, hsz, hfree, hle0, h1, h2⟩
    (fun x hx => by
      simp only [List.mem_singleton] at hx; subst hx
      have hxq : i.blk ∈ q := by rw [hq]; simp
      refine ⟨fun hb1 => ?_, hext.dz _ (hqb _ hxq), hext.bl _ (hqb _ hxq), hext.fb _ (hqb _ hxq)⟩
      rcases hm1 _ hb1 with h' | h'
      · exact hqout _ hxq h'
      · exact hqn.1 h') (by simp)
  have hheap : Heap.put ((Heap.put (H ++ [[]]) e j .gone).set H.length (thawA H.length t 0).2) e j (.var (thawA H.length t 0).1) = H.put e j (.var (thawA H.length t 0).1) ++ [(thawA H.length t 0).2] := by
    rw [put_app ha, List.set_append_right _ _ (by rw [put_len]; exact Nat.le_refl _), put_len, Nat.sub_self]
    simp only [List.set_cons_zero]
    rw [put_app (at_put (x := .gone) ha), put_put]
  rw [hheap] at hfin
  refine ⟨c.rowAt H.length is, bs2, rfl, hfin, RVL.mono hle _ hi.tm, hi.df, fun j i hj => hle.mu _ _ _ (hi.pin j i hj)⟩
end Go.Vm

namespace Go.Vm
/-! ### marks of any plain element -/
section
variable {α : Type} [Enc α]
def marksG (f : Int → α) (n : Nat) (k : Int) : List α := (List.range n).map fun j : Nat => f (k + (j : Int))
def mixG (f : Int → α) (l : List α) (k : Int) (i : Nat) : List α := marksG f i k ++ l.drop i
variable (f : Int → α)
omit [Enc α] in
theorem marksG_len (n : Nat) (k : Int) : (marksG f n k).length = n := by simp [marksG]
omit [Enc α] in
theorem marksG_get (n : Nat) (k : Int) (i : Nat) (h : i < n) : (marksG f n k)[i]'(by rw [marksG_len]; exact h) = f (k + i) := by simp [marksG]
omit [Enc α] in
theorem mixG_zero (l : List α) (k : Int) : mixG f l k 0 = l := by simp [mixG, marksG]
omit [Enc α] in
theorem mixG_all (l : List α) (k : Int) : mixG f l k l.length = marksG f l.length k := by simp [mixG]
omit [Enc α] in
theorem mixG_len (l : List α) (k : Int) (i : Nat) (h : i ≤ l.length) : (mixG f l k i).length = l.length := by simp [mixG, marksG]; omega
theorem mixG_get (l : List α) (k : Int) (i : Nat) (h : i < l.length) : ((mixG f l k i).map Enc.o)[i]? = some (Enc.o l[i] : T) := by
  have : (mixG f l k i)[i]? = some l[i] := by
    unfold mixG
    rw [List.getElem?_append_right (by rw [marksG_len]; exact Nat.le_refl _), marksG_len, Nat.sub_self, List.getElem?_drop, Nat.add_zero, List.getElem?_eq_getElem h]
  rw [List.getElem?_map, this]; rfl
theorem mixG_set (l : List α) (k : Int) (i : Nat) (h : i < l.length) : ((mixG f l k i).map Enc.o).set i (Enc.o (f (k + i)) : T) = (mixG f l k (i + 1)).map Enc.o := by
  rw [← List.map_set]
  congr 1
  unfold mixG
  rw [List.set_append_right _ _ (by rw [marksG_len]; exact Nat.le_refl _), marksG_len, Nat.sub_self, List.drop_eq_getElem_cons h, List.set_cons_zero]
  have : marksG f (i + 1) k = marksG f i k ++ [f (k + i)] := by simp [marksG, List.range_succ]
  rw [this]; simp
omit [Enc α] in
@[simp] theorem take_marksG {β : Type} (g : α → β) (n : Nat) (k : Int) : ((marksG f n k).map g).take n = (marksG f n k).map g := by
  rw [List.take_of_length_le]; simp [marksG_len]
end
def mB (k : Int) : Bool := k.tmod 3 == 0
end Go.Vm

namespace Go.Vm
set_option linter.defProp false
def wk := And.intro @k0 (And.intro @k1 (And.intro @k2 (And.intro @k3 (And.intro @k4 (And.intro @k5 (And.intro @k6 (And.intro @k7 (And.intro @k12 (And.intro @k9 (And.intro @k10 (And.intro @k11 (And.intro @vopl_nil (And.intro @grown_t (And.intro @grown_f (And.intro @after_f (And.intro @after_t (@after_u)))))))))))))))))
def wl := And.intro @List.length_cons.{0} (And.intro @List.length_nil.{0} (And.intro @List.append_nil.{0} (And.intro @List.nil_append.{0} (And.intro @List.cons_append.{0} (And.intro @Bool.false_eq_true (And.intro @List.set_cons_succ.{0} (And.intro @List.set_cons_zero.{0} (And.intro @List.getD_cons_zero.{0} (And.intro @List.getD_cons_succ.{0} (And.intro @Option.map_some.{0,0} (And.intro @Option.map_none.{0,0} (And.intro @List.getElem?_toArray.{0} (And.intro @List.getElem?_cons_succ.{0} (And.intro @List.getElem?_cons_zero.{0} (And.intro @Option.bind_some.{0,0} (And.intro @Bool.not_or_self (And.intro @true_and (And.intro @and_true (And.intro @and_self (And.intro @beq_true (And.intro @Bool.not_not (And.intro @List.map_cons.{0,0} (And.intro @List.map_nil.{0,0} (And.intro @List.take_succ_cons.{0} (And.intro @List.take_zero.{0} (And.intro @Nat.add_zero (And.intro @Nat.zero_add (And.intro @Bool.and_self (And.intro @Bool.and_true (And.intro @Bool.true_and (And.intro @Nat.lt_add_one (And.intro @Nat.zero_lt_one (And.intro @List.toList_toArray.{0} (And.intro @tgL_o (And.intro @Bool.not_false (And.intro @Bool.not_true (And.intro @Bool.or_true (And.intro @Bool.true_or (And.intro @Bool.or_false (And.intro @Bool.false_or (And.intro @beq_self_eq_true.{0} (And.intro @beq_false (And.intro @Bool.or_not_self (And.intro @Int.natCast_nonneg (And.intro @Int.toNat_natCast (@List.length_map.{0,0}))))))))))))))))))))))))))))))))))))))))))))))
end Go.Vm

namespace Go.Vm
/-! ### bytes -/
instance : Enc UInt8 where
  b x := .int .u8 (x.toNat : Int)
  o x := .int .u8 (x.toNat : Int)
  es := 1
  lim _ _ := True
  flat := true
  sz _ x := x
  tyOk Y n t := match n with | 0 => false | _ + 1 => match (Y t).k with | .int .u8 => true | _ => false
  lendB _ _ := rfl
  lendO _ _ := rfl
  cloO _ := rfl
  renB _ _ := rfl
  renO _ _ := rfl
  tgO _ _ := rfl
  szB _ := rfl
  szO _ := rfl
  celB _ := rfl
  nwB _ := rfl
  ndO _ := rfl
  dec Y n t u h ht := by
    cases n with
    | zero => simp at h
    | succ n =>
      simp only at h
      split at h
      · rename_i hk
        obtain ⟨v, rfl, hw⟩ := typed_int ht hk
        simp [Lit.wf, IntKind.min, IntKind.max, IntKind.bits, IntKind.signed] at hw
        refine ⟨UInt8.ofNat v.toNat, ?_, trivial⟩
        simp; omega
      · cases h
  flatLim _ _ _ := trivial
  flatSz _ _ _ := rfl
  szLe _ _ _ := Int.le_refl _
  szNeg _ _ h := h
  szLim _ _ _ _ := trivial
  limUp _ _ _ _ _ := trivial

def byt (n : Int) : UInt8 := UInt8.ofNat (n % 256).toNat
theorem byt_nat (n : Int) : ((byt n).toNat : Int) = n % 256 := by
  have h0 := Int.emod_nonneg n (b := 256) (by decide)
  have h1 := Int.emod_lt_of_pos n (b := 256) (by decide)
  unfold byt; simp; omega
theorem u8_wrap (n : Int) : IntKind.u8.wrap n = ((byt n).toNat : Int) := by
  rw [byt_nat]; simp [IntKind.wrap, IntKind.bits, IntKind.signed]
theorem b_byte : (Enc.b : UInt8 → T) = Enc.o := rfl
theorem o_byte (n : UInt8) : Enc.o n = T.int .u8 (n.toNat : Int) := rfl
@[simp] theorem tgL_byte (σ : Tag → Tag) (l : List UInt8) : tgL σ (l.map Enc.b) = l.map Enc.b := by rw [b_byte]; exact tgL_o σ l
@[simp] theorem cloL_byte (l : List UInt8) : cloL (l.map Enc.b) = true := cloL_o l
theorem byte_i64 (x : UInt8) : IntKind.i64.wrap (x.toNat : Int) = (x.toNat : Int) := by
  have := x.toNat_lt
  exact wrap64 _ (by omega) (by omega)
theorem byt_of (x : UInt8) : byt (x.toNat : Int) = x := by
  apply UInt8.toNat_inj.1
  have h := byt_nat (x.toNat : Int)
  have := x.toNat_lt
  omega
end Go.Vm

namespace Go.Vm
/-- an array that was given moves to an entry of its own -/
def mvR (j n : Nat) : T → T
  | .ref e j' off len => if e = 0 ∧ j' = j then .ref n 0 off len else .ref e j' off len
  | t => t
theorem Norm.mv {tm : List T} {H : Heap} (j : Nat) {es : Nat} {l : List T} (ha : H.at 0 j = some (.arr es l false)) :
    Norm ⟨tm, H⟩ ⟨tm.map (mvR j H.length), H.put 0 j .gone ++ [[.arr es l false]]⟩ := fun F c a bs hi => by
  have hext := hi.h.ext
  obtain ⟨p, q, r, hb, ho, hinv⟩ := HR.drop hext (at_app ha [])
  obtain ⟨i, hmu, harr⟩ := ho
  have hpos : 0 < H.length := by
    cases H with
    | nil => simp [Heap.at] at ha
    | cons => simp
  have hown : (Heap.put (H ++ [[]]) 0 j .gone)[H.length]? = some [] := by
    rw [put_app ha]
    rw [List.getElem?_append_right (by rw [put_len]; exact Nat.le_refl _), put_len]; simp
  have hnd := hext.nd
  rw [hb, List.nodup_append, List.nodup_append] at hnd
  have hqout : ∀ x ∈ q, x ∉ p ++ r := fun x hx hx' => by
    rcases List.mem_append.1 hx' with h' | h'
    · exact hnd.2.2 x h' x (by simp [hx]) rfl
    · exact hnd.2.1.2.2 x hx x h' rfl
  have hqb : ∀ x ∈ q, x ∈ bs := fun x hx => by rw [hb]; simp [hx]
  have hle := Le_row (is := [i]) hinv hown
  have hmu' : (c.rowAt H.length [i]).μ H.length 0 = some i := by simp [Cx.rowAt]
  obtain ⟨bs1, hinv1, _⟩ := hinv.row hown (q := q) (is := [i]) (obs := [.arr es l false]) (fun x hx => ⟨hqout x hx, hext.dz x (hqb x hx), hext.bl x (hqb x hx), hext.fb x (hqb x hx)⟩)
    hnd.2.1.1 rfl ⟨q, [], by simp, ⟨i, hmu', harr.mono hle (fun _ _ => rfl)⟩, rfl⟩
  have hheap : (Heap.put (H ++ [[]]) 0 j .gone).set H.length [.arr es l false] = H.put 0 j .gone ++ [[.arr es l false]] := by
    rw [put_app ha, List.set_append_right _ _ (by rw [put_len]; exact Nat.le_refl _), put_len, Nat.sub_self]; rfl
  rw [hheap] at hinv1
  refine ⟨c.rowAt H.length [i], bs1, rfl, hinv1, ?_, hi.df, fun j i hj => hle.mu _ _ _ (hi.pin j i hj)⟩
  have key : ∀ (tm : List T) (vs : List Value), RVL c tm vs → RVL (c.rowAt H.length [i]) (tm.map (mvR j H.length)) vs := by
    intro tm
    induction tm with
    | nil => intro vs h; exact h
    | cons t tm ih =>
      rintro vs ⟨v, vs', rfl, h1, h2⟩
      refine ⟨v, vs', rfl, ?_, ih _ h2⟩
      have h1' := RV.mono hle t h1
      cases t with
      | ref e j' off len =>
        simp only [mvR]
        split
        · rename_i he
          obtain ⟨rfl, rfl⟩ := he
          obtain ⟨A, k, i', e1, e2, e3, e4⟩ := h1
          rw [hmu] at e3; cases e3
          exact ⟨A, k, i, e1, e2, hmu', e4⟩
        · exact h1'
      | _ => exact h1'
  exact key _ _ hi.tm

/-- a nil slice is an empty array of its own -/
theorem Norm.nil {tm : List T} {H : Heap} (t : Nat) {es : Nat} (ht : tm[t]? = some (.nils es)) :
    Norm ⟨tm, H⟩ ⟨tm.set t (.ref H.length 0 0 0), H ++ [[.arr es [] false]]⟩ := fun F c a bs hi => by
  let i : Info := { blk := 0, off := 0, es := es, cap := 0, arr0 := #[], ty := 0, fr := (0, 0) }
  have hext := hi.h.ext
  have hown : (H ++ [[]] : Heap)[H.length]? = some [] := by simp
  have hle := Le_row (is := [i]) hext hown
  have hmu' : (c.rowAt H.length [i]).μ H.length 0 = some i := by simp [Cx.rowAt]
  obtain ⟨bs1, hinv1, _⟩ := hext.row hown (q := []) (is := [i]) (obs := [.arr es [] false]) (fun x hx => by cases hx)
    List.nodup_nil rfl ⟨[], [], rfl, ⟨i, hmu', rfl, .inl rfl, Nat.le_refl _, .inl ⟨rfl, rfl⟩⟩, rfl⟩
  have hheap : (H ++ [[]] : Heap).set H.length [.arr es [] false] = H ++ [[.arr es [] false]] := by
    rw [List.set_append_right _ _ (Nat.le_refl _), Nat.sub_self]; rfl
  rw [hheap] at hinv1
  refine ⟨c.rowAt H.length [i], bs1, rfl, hinv1, ?_, hi.df, fun j i hj => hle.mu _ _ _ (hi.pin j i hj)⟩
  have h1 := RVL.mono hle _ hi.tm
  obtain ⟨v, hv, hr⟩ := RVL_get h1 ht
  obtain ⟨A, rfl⟩ := hr
  have h2 := RVL_set t h1 (t := .ref H.length 0 0 0) (v := .slice A 0 0) ⟨A, 0, i, rfl, Nat.le_refl _, hmu', rfl, .inl rfl⟩
  have e : a.tmps.toList.set t (.slice A 0 0) = a.tmps.toList := by
    obtain ⟨hlt, he⟩ := List.getElem?_eq_some_iff.1 hv
    rw [← he, List.set_getElem_self]
  rw [e] at h2
  exact h2

/-! ### what is no longer known -/
mutual
def fgt : T → T → Prop
  | .nd l, u => u = .nd l ∨ ∃ m, u = .nd m ∧ fgtL l m
  | .ref e j off len, u => u = .ref e j off len ∨ u = .any
  | .nils es, u => u = .nils es ∨ u = .any
  | .sl g l, u => u = .sl g l ∨ u = .any
  | t, u => u = t
def fgtL : List T → List T → Prop
  | [], m => m = []
  | t :: l, m => ∃ u m', m = u :: m' ∧ fgt t u ∧ fgtL l m'
end
mutual
theorem fgt_rc {c : Cx} : ∀ (t : T) {u : T} {cs : List Value} {bs : List Nat}, fgt t u → RC c t cs bs → RC c u cs bs
  | .nd l, u, cs, bs, h, r => by
    rcases h with rfl | ⟨m, rfl, h⟩
    · exact r
    · simp only [RC] at r ⊢; exact fgtL_rc l h r
  | .ref e j off len, u, cs, bs, h, r => by
    rcases h with rfl | rfl
    · exact r
    · obtain ⟨e, A, k, i, rfl, _⟩ := r; exact ⟨e, _, rfl, rfl⟩
  | .nils es, u, cs, bs, h, r => by
    rcases h with rfl | rfl
    · exact r
    · obtain ⟨e, A, rfl⟩ := r; exact ⟨e, _, rfl, rfl⟩
  | .sl g l, u, cs, bs, h, r => by
    rcases h with rfl | rfl
    · exact r
    · obtain ⟨e, A, k, rfl, _⟩ := r; exact ⟨e, _, rfl, rfl⟩
  | .int .., u, _, _, h, r | .bool _, u, _, _, h, r | .str _, u, _, _, h, r | .nilI, u, _, _, h, r | .nilP, u, _, _, h, r | .err, u, _, _, h, r | .any, u, _, _, h, r | .ow .., u, _, _, h, r | .vr .., u, _, _, h, r
  | .ptr .., u, _, _, h, r | .fp _, u, _, _, h, r | .io _, u, _, _, h, r | .fn .., u, _, _, h, r | .tup _, u, _, _, h, r | .undef, u, _, _, h, r | .opt .., u, _, _, h, r => by simp only [fgt] at h; subst h; exact r
theorem fgtL_rc {c : Cx} : ∀ (l : List T) {m : List T} {cs : List Value} {bs : List Nat}, fgtL l m → RCL c l cs bs → RCL c m cs bs
  | [], m, cs, bs, h, r => by simp only [fgtL] at h; subst h; exact r
  | t :: l, m, cs, bs, h, r => by
    obtain ⟨u, m', rfl, h1, h2⟩ := h
    obtain ⟨c1, c2, b1, b2, e1, e2, r1, r2⟩ := r
    exact ⟨c1, c2, b1, b2, e1, e2, fgt_rc t h1 r1, fgtL_rc l h2 r2⟩
end
theorem Norm.forget {tm : List T} {H : Heap} (e j : Nat) {t u : T} (ha : H.at e j = some (.var t)) (hf : fgt t u) : Norm ⟨tm, H⟩ ⟨tm, H.put e j (.var u)⟩ := fun F c a bs hi => by
  obtain ⟨p, q, r, hb, ho, hinv⟩ := HR.drop hi.h ha
  have hgone : (H.put e j .gone).at e j = some .gone := at_put (x := .gone) ha
  obtain ⟨i, hmu, cs, bs', arr, hq, hrc, hrest⟩ := ho
  have hnd := hi.h.nd
  rw [hb, List.nodup_append, List.nodup_append] at hnd
  obtain ⟨bs2, hfin⟩ := soak_back (q' := q) (ob := .var u) hi.h hb (.refl hinv) hgone ⟨i, hmu, cs, bs', arr, hq, fgt_rc t hf hrc, hrest⟩ (fun x hx => .inl hx) hnd.2.1.1
  rw [put_put] at hfin
  exact ⟨c, bs2, rfl, hfin, hi.tm, hi.df, hi.pin⟩
theorem takeB {α : Type} [Enc α] (l : List α) (n : Nat) : ∀ z ∈ (l.map (Enc.b : α → T)).take n, z.size = Enc.es α := fun z hz => by
  obtain ⟨x, _, rfl⟩ := List.mem_map.1 (List.mem_of_mem_take hz)
  exact Enc.szB x
/-- what is lent and holds nothing of its own is copied -/
theorem append_runB {α : Type} [Enc α] {Y : TypeId → TyI} {own t u e j off n el es by' : Nat} {k : Ty} {g : Tag} {f : List T} {l m : List α} {H : Heap} (h1 : Y t = ⟨.sl el, 1, 24⟩) (hu : Y u = ⟨.sl el, 1, 24⟩) (h2 : Y el = ⟨k, es, by'⟩) (h3 : k.isFn = false) (h4 : 0 < es ∧ 0 < by' ∧ by' ≤ 2 ^ 16)
    (hH : H.at e j = some (.arr es f false)) (hp : (f.drop off).take n = l.map Enc.o) (hn : off + n ≤ f.length) (hl : n + m.length ≤ 2 ^ 30) (hz : Enc.es α = es) (hbo : (Enc.b : α → T) = Enc.o) :
    (appendM Y own t u (.ref e j off n) (.sl g (m.map Enc.b))).run H = some { v := .ref own 0 0 (n + m.length), ups := [(e, j, .gone)], news := [.arr es ((l ++ m).map Enc.o) false] } := by
  have h := append_run (g := g) (ys := m.map Enc.b) (own := own) h1 hu h2 h3 h4 hH hn (by rw [List.length_map]; exact hl) (nwL_b m) (by rw [← hz]; exact takeB m 1)
  rw [h, hp, List.length_map, hbo, List.map_append]
theorem SW.draw2_seq {P : Program} {Y : TypeId → TyI} {ops : Array Oper} (hY : TysW P Y) (hm : P.follows .mixedOrders = true) {F : Fr} {Q : Exit → S → Prop} {s : S} {id : Nat} {y : Code} (ns : List Nat) (ck : List (Nat × Nat)) (hb : flow2B ops (msk ops) ns ck = true)
    (h : ∀ y', y' = y → vrec P Y ops (fun hs s' => Chk (rdqs Y ops s' hs ck) (SW P F Q y' s')) ns [] ops.toList s) : SW P F Q (.seq (.region id ops true) y) s := SW.seq (SW.draw2 hY hm ns ck hb (h y rfl))
end Go.Vm

namespace Go.Vm
set_option linter.defProp false
set_option maxRecDepth 10000
def wd0 := And.intro @isCall.eq_1 (And.intro @isCall.eq_2 (And.intro @callT.eq_1 (And.intro @callT.eq_2 (And.intro @opM.eq_1 (And.intro @opM.eq_2 (And.intro @opM.eq_3 (And.intro @opM.eq_4 (And.intro @opM.eq_5 (And.intro @opM.eq_6 (And.intro @opM.eq_7 (And.intro @opM.eq_8 (And.intro @opM.eq_9 (And.intro @opM.eq_10 (And.intro @opM.eq_11 (And.intro @opM.eq_12 (And.intro @opM.eq_13 (And.intro @opM.eq_14 (And.intro @opM.eq_15 (And.intro @opM.eq_16 (And.intro @opM.eq_17 (And.intro @opM.eq_18 (And.intro @opM.eq_19 (And.intro @opM.eq_20 (And.intro @opM.eq_21 (And.intro @opM.eq_22 (And.intro @opM.eq_23 (And.intro @opM.eq_24 (And.intro @opM.eq_25 (And.intro @opM.eq_26 (And.intro @opM.eq_27 (And.intro @opM.eq_28 (And.intro @opM.eq_29 (And.intro @opM.eq_30 (And.intro @S.ev.eq_1 (And.intro @S.ev.eq_2 (And.intro @S.ev.eq_3 (And.intro @S.ev.eq_4 (And.intro @S.put.eq_1 (And.intro @S.put.eq_2 (And.intro @entryS.eq_1 (And.intro @thawAL.eq_1 (And.intro @thawAL.eq_2 (And.intro @thawA.eq_1 (And.intro @thawA.eq_2 (And.intro @thawA.eq_3 (And.intro @thawA.eq_4 (And.intro @thawA.eq_5 (And.intro @thawA.eq_6 (@RM.run.eq_1)))))))))))))))))))))))))))))))))))))))))))))))))
def wd1 := And.intro @RM.run.eq_2 (And.intro @RM.run.eq_3 (And.intro @RM.bind.eq_1 (And.intro @RM.bind.eq_2 (And.intro @RM.bind.eq_3 (And.intro @RM.ofOpt.eq_1 (And.intro @RM.ofOpt.eq_2 (And.intro @allocs.eq_1 (And.intro @allocs.eq_2 (And.intro @allocs.eq_3 (And.intro @allocs.eq_4 (And.intro @allocs.eq_5 (And.intro @allocs.eq_6 (And.intro @allocs.eq_7 (And.intro @allocs.eq_8 (And.intro @allocs.eq_9 (And.intro @Heap.ups.eq_1 (And.intro @Heap.ups.eq_2 (And.intro @Heap.put.eq_1 (And.intro @Heap.at.eq_1 (And.intro @ofConst.eq_1 (And.intro @ofConst.eq_2 (And.intro @ofConst.eq_3 (And.intro @ofConst.eq_4 (And.intro @ofConst.eq_5 (And.intro @ofConst.eq_6 (And.intro @ofConst.eq_7 (And.intro @nilAs.eq_1 (And.intro @nilAs.eq_2 (And.intro @nilAs.eq_3 (And.intro @binT.eq_1 (And.intro @binT.eq_2 (And.intro @binT.eq_3 (And.intro @binT.eq_4 (And.intro @binT.eq_5 (And.intro @binT.eq_6 (And.intro @binT.eq_7 (And.intro @binT.eq_8 (And.intro @binT.eq_9 (And.intro @binT.eq_10 (And.intro @binT.eq_11 (And.intro @binT.eq_12 (And.intro @binT.eq_13 (And.intro @binT.eq_14 (And.intro @binT.eq_15 (And.intro @binT.eq_16 (And.intro @binT.eq_17 (And.intro @binT.eq_18 (And.intro @binT.eq_19 (@binT.eq_20)))))))))))))))))))))))))))))))))))))))))))))))))
def wd2 := And.intro @binT.eq_21 (And.intro @binT.eq_22 (And.intro @binTy.eq_1 (And.intro @binTy.eq_2 (And.intro @binTy.eq_3 (And.intro @binTy.eq_4 (And.intro @binTy.eq_5 (And.intro @binTy.eq_6 (And.intro @binTy.eq_7 (And.intro @binTy.eq_8 (And.intro @binTy.eq_9 (And.intro @binTy.eq_10 (And.intro @unT.eq_1 (And.intro @unT.eq_2 (And.intro @unT.eq_3 (And.intro @unT.eq_4 (And.intro @unT.eq_5 (And.intro @guardT.eq_1 (And.intro @pickT.eq_1 (And.intro @pickT.eq_2 (And.intro @pickT.eq_3 (And.intro @pickT.eq_4 (And.intro @quietK.eq_1 (And.intro @quietK.eq_2 (And.intro @quietK.eq_3 (And.intro @quietK.eq_4 (And.intro @quietK.eq_5 (And.intro @quietK.eq_6 (And.intro @quietK.eq_7 (And.intro @quietK.eq_8 (And.intro @quietK.eq_9 (And.intro @quietK.eq_10 (And.intro @quietK.eq_11 (And.intro @quietK.eq_12 (And.intro @quietK.eq_13 (And.intro @quietK.eq_14 (And.intro @quietK.eq_15 (And.intro @quietK.eq_16 (And.intro @stripT.eq_1 (And.intro @stripT.eq_2 (And.intro @openT.eq_1 (And.intro @openT.eq_2 (And.intro @openT.eq_3 (And.intro @boxM.eq_1 (And.intro @allocM.eq_1 (And.intro @loadM.eq_1 (And.intro @loadM.eq_2 (And.intro @loadM.eq_3 (And.intro @storeM.eq_1 (@storeM.eq_2)))))))))))))))))))))))))))))))))))))))))))))))))
def wd3 := And.intro @fieldAddrM.eq_1 (And.intro @fieldAddrM.eq_2 (And.intro @fieldAddrM.eq_3 (And.intro @lenT.eq_1 (And.intro @lenT.eq_2 (And.intro @lenT.eq_3 (And.intro @lenT.eq_4 (And.intro @lenT.eq_5 (And.intro @lenT.eq_6 (And.intro @lenT.eq_7 (And.intro @lenT.eq_8 (And.intro @lenT.eq_9 (And.intro @lenT.eq_10 (And.intro @lenT.eq_11 (And.intro @extractT.eq_1 (And.intro @extractT.eq_2 (And.intro @subM.eq_1 (And.intro @subM.eq_2 (And.intro @subM.eq_3 (And.intro @subM.eq_4 (And.intro @setOb.eq_1 (And.intro @setOb.eq_2 (And.intro @setOb.eq_3 (And.intro @setOb.eq_4 (And.intro @T.get.eq_1 (And.intro @T.get.eq_2 (And.intro @T.get.eq_3 (And.intro @T.setp.eq_1 (And.intro @T.setp.eq_2 (And.intro @T.setp.eq_3 (And.intro @T.offs.eq_1 (And.intro @T.offs.eq_2 (And.intro @T.offs.eq_3 (And.intro @T.nw.eq_1 (And.intro @T.nw.eq_2 (And.intro @T.nw.eq_3 (And.intro @nwL.eq_1 (And.intro @nwL.eq_2 (And.intro @T.cel.eq_1 (And.intro @T.cel.eq_2 (And.intro @T.cel.eq_3 (And.intro @T.cel.eq_4 (And.intro @T.cel.eq_5 (And.intro @T.cel.eq_6 (And.intro @T.isNd.eq_1 (And.intro @T.isNd.eq_2 (And.intro @T.size.eq_1 (And.intro @T.size.eq_2 (And.intro @sizeL.eq_1 (@sizeL.eq_2)))))))))))))))))))))))))))))))))))))))))))))))))
def wd4 := And.intro @TyI.agg.eq_1 (And.intro @Ty.agg.eq_1 (And.intro @Ty.agg.eq_2 (And.intro @Ty.agg.eq_3 (And.intro @Ty.isFn.eq_1 (And.intro @Ty.isFn.eq_2 (And.intro @zeroT.eq_1 (And.intro @zeroT.eq_2 (And.intro @sumT.eq_1 (And.intro @sumT.eq_2 (And.intro @kill.eq_1 (And.intro @kill.eq_2 (And.intro @T.asArr.eq_1 (And.intro @T.asArr.eq_2 (And.intro @T.tg.eq_1 (And.intro @T.tg.eq_2 (And.intro @T.tg.eq_3 (And.intro @T.tg.eq_4 (And.intro @T.tg.eq_5 (And.intro @T.tg.eq_6 (And.intro @T.tg.eq_7 (And.intro @tgL.eq_1 (And.intro @tgL.eq_2 (And.intro @dnT.eq_1 (And.intro @dnT.eq_2 (And.intro @dnT.eq_3 (And.intro @dnT.eq_4 (And.intro @indexAddrM.eq_1 (And.intro @indexAddrM.eq_2 (And.intro @indexAddrM.eq_3 (And.intro @indexAddrM.eq_4 (And.intro @indexAddrM.eq_5 (@indexAddrM.eq_6))))))))))))))))))))))))))))))))
end Go.Vm
namespace Go.Vm
theorem vcall_x {P : Program} {f : FuncId} {ts : List T} {dst : Option Tmp} {K : S → Prop} {s : S} (ms : List Mode) {args outs : List T} {res : T} {as : List (Bool × T)} {backs : List Back} {H1 H2 : Heap}
    (hc : CallR P f args outs res)
    (h1 : pass1 ms ts (s.hp ++ [[]]) = some (as, backs, H1) := by (first | rfl | (simp [-List.map_set, -List.map_append, pass1, ioN, ioNL, hasIoL, T.hasIo, modeOf, giveS, giveSL, fixEs, Heap.at, Heap.put, T.cel, cloL, cloAL, T.cloA]; first | rfl | exact ⟨rfl, rfl, rfl⟩)))
    (h2 : (pass2 as).run H1 = some args := by (first | rfl | (simp [-List.map_set, -List.map_append, pass2, T.tg, tgL, upT, lendM, lendA, lendAL, elemsM, Heap.at, marks_len, marksG_len, subM, T.get, T.offs, RM.bind, RM.run]; done) | (simp [-List.map_set, -List.map_append, pass2, T.tg, tgL, upT, lendM, lendA, lendAL, elemsM, Heap.at, marks_len, marksG_len, subM, T.get, T.offs, RM.bind, RM.run]; rfl)))
    (hr : resClo res = true := by (first | rfl | simp [-List.map_set, -List.map_append, resClo, T.clo, cloL, T.clP, clPL]))
    (h3 : fillB backs outs H1 = some H2 := by (first | rfl | (simp [-List.map_set, -List.map_append, fillB, T.cloO, T.clo, cloL, T.asArr, T.tg, tgL, dnT, obOf, Heap.at, Heap.put]; try rfl)))
    (hK : K ({ s with hp := H2.set s.hp.length (thawA s.hp.length (res.tg dnT) 0).2 }.put dst (thawA s.hp.length (res.tg dnT) 0).1)) : vcallF P f ts dst K s :=
  vcall_to ms hc h1 h2 hr h3 hK
theorem RetQ.x {Y : TypeId → TyI} {rs : List ResultVar} {args outs : List T} {res : T} {s : S} (es : List Nat) (us : List T) {ts : List T} {H1 : Heap}
    (rn : (retM Y s rs).run s.hp = some ts := by rfl)
    (gv : pass1 (es.map modeOf ++ (ioKs args).map ioM) (ts ++ List.zipWith (ioT s.hp) (ioAt args 0) (ioKs args)) s.hp =
      some (us.map (fun u => (false, u)) ++ outs.map (fun u => (false, .io u)), (ioAt args 0).map (fun j => ⟨0, j⟩), H1) := by (first | rfl | (simp [-List.map_set, -List.map_append, pass1, modeOf, giveS, giveSL, Heap.at, Heap.put, fixEs, ioAt, ioAtT, ioKs, ioKT, ioM, ioT, thawA, thawAL, T.asArr, T.cel, T.clo, cloL, T.cloA, cloAL]; try rfl)))
    (le : us.length = ts.length := by rfl)
    (cu : clPL us = true := by (first | rfl | simp [-List.map_set, -List.map_append, cloL, T.clo, T.clP, clPL]))
    (co : cloOL outs = true := by (first | rfl | simp [-List.map_set, -List.map_append, cloOL, T.cloO, T.asArr, T.clo, cloL]))
    (re : res = tupOf us := by rfl) : RetQ Y rs args outs res .ret s := ⟨.inr rfl, ts, es, us, H1, rn, gv, le, cu, co, re⟩
end Go.Vm
