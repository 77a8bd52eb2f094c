/- For every code, the law FnGarbage of the drawn view returns true: each object is reached or garbage, what is reached names no garbage, and without the garbage the same is reached. -/
import Derived.Test.YtjodaapkfknfnaaGarbageP1
import Derived.Test.YtjodaapkfknfnaaGarbageP3
import Derived.Test.YtjodaapkfknfnaaGarbageP2
import Derived.Test.YtjodaapkfknfnaaGarbageV5
import Derived.Test.YtjodaapkfknfnaaRows
import Derived.ProofKit
set_option linter.all false

namespace Q6
open Go Go.Vm Go.Proofs
set_option maxHeartbeats 4000000
set_option synthInstance.maxSize 2000
set_option synthInstance.maxHeartbeats 400000
set_option maxRecDepth 10000
set_option linter.unusedSimpArgs false
set_option linter.unusedVariables false


def slotS (s : SlotT) : T := .nd [.bool s.1, .nd [.int .i64 s.2.1.1, .sl .s (s.2.1.2.1.map Enc.b), .sl .s (s.2.1.2.2.1.map Enc.b)]]
def slotP (x : Bool × SlotT) : T := if x.1 = true then .nd [.bool false, .nd [.int .i64 0, .nils 1, .nils 1]] else slotS x.2
def unP (x : Bool × SlotT) : SlotT := if x.1 = true then slotN else x.2
def cutP (p : List (Bool × SlotT)) (g : List Int) : List (Bool × SlotT) := g.foldl (fun p i => p.set i.toNat (true, slotN)) p
theorem cutP_len : ∀ (g : List Int) (p : List (Bool × SlotT)), (cutP p g).length = p.length
  | [], p => rfl
  | i :: g, p => by
    show (cutP (p.set i.toNat (true, slotN)) g).length = p.length
    rw [cutP_len g]; simp
theorem cutP_un : ∀ (g : List Int) (p : List (Bool × SlotT)), (cutP p g).map unP = cutV (p.map unP) g
  | [], p => rfl
  | i :: g, p => by
    show (cutP (p.set i.toNat (true, slotN)) g).map unP = cutV ((p.map unP).set i.toNat slotN) g
    rw [cutP_un g, List.map_set]; rfl
theorem cutP_succ (p : List (Bool × SlotT)) (g : List Int) (i : Nat) (h : i < g.length) : cutP p (g.take (i + 1)) = (cutP p (g.take i)).set (g[i]).toNat (true, slotN) := by
  unfold cutP
  rw [List.take_succ_eq_append_getElem h, List.foldl_append]; rfl
def pOf (v : List SlotT) : List (Bool × SlotT) := v.map fun s => (false, s)
theorem pOf_un (v : List SlotT) : (pOf v).map unP = v := by unfold pOf; rw [List.map_map]; exact List.map_id' v
theorem pOf_map (v : List SlotT) : (pOf v).map slotP = v.map slotS := by unfold pOf; rw [List.map_map]; rfl
theorem frzL_b : ∀ l : List Int, frzL (l.map Enc.o) = l.map Enc.b
  | [] => rfl
  | x :: l => by simp only [List.map_cons, frzL, frzL_b l]; rfl
theorem frz_slots : ∀ v : List SlotT, frzL (v.map Enc.o) = v.map slotS
  | [] => rfl
  | s :: v => by
    simp only [List.map_cons, frzL, frz_slots v]
    congr 1
    show frz (.nd [.bool s.1, .nd [.int .i64 s.2.1.1, .ow 1 (s.2.1.2.1.map Enc.o), .ow 1 (s.2.1.2.2.1.map Enc.o)]]) = _
    simp only [frz, frzL, frzL_b, slotS]
theorem frz_all (v : List SlotT) : frzL (((v.map Enc.o).drop 0).take v.length) = v.map slotS := by
  rw [List.drop_zero, List.take_of_length_le (by simp), frz_slots]
theorem lendA_S (k : T → RM T) (s : SlotT) : lendA k (slotS s) = .pure (Enc.b s) := by
  show lendA k (.nd [.bool s.1, .nd [.int .i64 s.2.1.1, .sl .s (s.2.1.2.1.map Enc.b), .sl .s (s.2.1.2.2.1.map Enc.b)]]) = .pure (.nd [.bool s.1, .nd [.int .i64 s.2.1.1, .sl .b (s.2.1.2.1.map Enc.b), .sl .b (s.2.1.2.2.1.map Enc.b)]])
  simp [lendA, lendAL, RM.bind]
theorem lendA_P (k : T → RM T) (x : Bool × SlotT) : lendA k (slotP x) = .pure (Enc.b (unP x)) := by
  obtain ⟨b, s⟩ := x
  cases b
  · exact lendA_S k s
  · show lendA k (.nd [.bool false, .nd [.int .i64 0, .nils 1, .nils 1]]) = .pure (.nd [.bool false, .nd [.int .i64 0, .sl .b [], .sl .b []]])
    simp [lendA, lendAL, RM.bind]
@[local simp] theorem lendAL_S (k : T → RM T) : ∀ v : List SlotT, lendAL k (v.map slotS) = .pure (v.map Enc.b)
  | [] => rfl
  | s :: v => by simp [lendAL, lendA_S, lendAL_S k v, RM.bind]
@[local simp] theorem lendKL_P (k : T → RM T) : ∀ p : List (Bool × SlotT), lendKL (lendA k) (p.map slotP) = .pure ((p.map unP).map Enc.b)
  | [] => rfl
  | x :: p => by simp only [List.map_cons, lendKL, lendA_P, lendKL_P k p, RM.bind]
@[local simp] theorem renL_S (π : List Nat) : ∀ v : List SlotT, renL π (v.map slotS) = v.map slotS
  | [] => rfl
  | s :: v => by simp [renL, renL_S π v, slotS, T.ren]
@[local simp] theorem renL_P (π : List Nat) : ∀ p : List (Bool × SlotT), renL π (p.map slotP) = p.map slotP
  | [] => rfl
  | (b, s) :: p => by cases b <;> simp [renL, renL_P π p, slotS, slotP, T.ren]
theorem nwL_S : ∀ v : List SlotT, nwL (v.map slotS) = true
  | [] => rfl
  | s :: v => by simp [nwL, T.nw, slotS, nwL_S v]
theorem size_P (x : Bool × SlotT) : (slotP x).size = 4 := by obtain ⟨b, s⟩ := x; cases b <;> rfl
theorem cut_view {v : List SlotT} (h : viewB v = true) (g : List Int) (h0 : ∀ x ∈ g, 0 ≤ x) : viewB (cutV v g) = true := by
  have ok := vok_of h
  have hsl : ∀ x ∈ cutV v g, slotB x = true := by
    intro x hx
    obtain ⟨j, hj⟩ := List.mem_iff_getElem?.1 hx
    have hlt := (List.getElem?_eq_some_iff.1 hj).1
    rw [cutV_len] at hlt
    rw [cutV_get g v j hlt h0] at hj
    split at hj
    · cases hj; decide
    · unfold viewB at h
      simp only [Bool.and_eq_true, List.all_eq_true] at h
      exact h.2 x (List.mem_of_getElem? hj)
  have hz : hasA (cutV v g) 0 = false := by rw [cut_has h0, ok.z]; rfl
  have hlen : (cutV v g).length = 32 := by rw [cutV_len, ok.len]
  generalize cutV v g = w at *
  unfold viewB
  cases w with
  | nil => simp at hlen
  | cons s w =>
    have e0 : s.1 = false := by simpa [hasA] using hz
    simp only [hlen, e0, Bool.and_eq_true, List.all_eq_true]
    exact ⟨⟨by decide, by decide⟩, hsl⟩
theorem dAll_Q (v : List SlotT) : dAll v 32 = dAllQ v 32 := rfl
theorem idxs_has (v : List SlotT) (i : Nat) (h : i < v.length) : (idxs (hasA v) (i + 1)).length = (idxs (hasA v) i).length + if v[i].1 = true then 1 else 0 := by
  have e : hasA v i = v[i].1 := by simp [hasA, List.getElem?_eq_getElem h]
  cases hb : v[i].1 with
  | true => rw [idxs_yes (by rw [e, hb])]; simp
  | false => rw [idxs_no (by rw [e, hb])]; simp

theorem garbageLaw_ok (l : List UInt8) : CallR Try.prog 4 [.sl .s (l.map Enc.b)] [] (.bool true) := by
  refine CallR.of_body (n := 117) (rs := [.tmp 2]) hY.ok Try.func4 rfl (by decide) rfl rfl rfl rfl (fun F => ?_)
  have fx := And.intro Y1 (And.intro Y2 (And.intro Y3 (And.intro Y4 (And.intro Y5 (And.intro Y22 (And.intro Y24 (And.intro Y27 (And.intro Y35 (And.intro Y37 (And.intro Y39 (Y119)))))))))))
  have hbg := big_ok l
  by_cases hb : (1048576 : Int) < (l.length : Int)
  · rw [decide_eq_true hb] at hbg
    have hC1 := cx [.own 1] (hbg)
    have fy := Nat.add_zero
    refine goK ?_ ?_ ?_ ?_ ?_ ?_ ?_ ?_ ?_ ?_ ?_ ?_ ?_ ?_ ?_ ?_
    any_goals (first | exact True.intro | skip)
    all_goals (repeat (refine Wh.mk fun hcc => ?_))
    all_goals rfl
  rw [decide_eq_false hb] at hbg
  have hl1 : l.length ≤ 1048576 := by omega
  have hD := drawHeapW_ok l hl1
  obtain ⟨hvw, hnr⟩ := drawHeap_view l hl1
  generalize drawHeap l = v at *
  have hlim := viewB_lim hvw
  have ok := vok_of hvw
  have hA2 := at_ok l hl1 2 (by decide)
  obtain ⟨p2, q2⟩ := atF_rng l 2
  generalize atF l 2 = a2 at *
  simp only [Int.cast_ofNat_Int] at hA2
  have r2 : 0 ≤ a2.tmod 31 ∧ a2.tmod 31 < 31 := ⟨Int.tmod_nonneg _ p2, Int.tmod_lt_of_pos _ (by decide)⟩
  have wa2 : IntKind.i64.wrap (a2.tmod 31) = a2.tmod 31 := wrap64 _ (by omega) (by omega)
  have wb2 : IntKind.i64.wrap (1 + a2.tmod 31) = 1 + a2.tmod 31 := wrap64 _ (by omega) (by omega)
  generalize hroot : 1 + a2.tmod 31 = root at *
  have hR := implReach_ok v hlim root
  have hG := implGarbage_ok v hlim root
  have hDv := implDang_ok v hlim
  have hcall := callB_t hvw (a := root) (by omega)
  have hRe : reachR v root = idxs (mrk (reachL v root.toNat)) 32 := by unfold reachR; rw [hcall]; rfl
  have hGe : garbR v root = grb v root.toNat := by unfold garbR; rw [hcall]; rfl
  have hDe : dangR v = dAllQ v 32 := by unfold dangR; rw [hvw]; rfl
  rw [hRe] at hR
  rw [hGe] at hG
  rw [hDe] at hDv
  have hg0 : ∀ x ∈ grb v root.toNat, 0 ≤ x := fun x hx => grb_pos x hx
  have hg31 : ∀ x ∈ grb v root.toNat, x ≤ 31 := fun x hx => by obtain ⟨i, rfl, h2, _⟩ := idxs_mem.1 hx; omega
  have hcv := cut_view hvw (grb v root.toNat) hg0
  have hclim := viewB_lim hcv
  have hccall := callB_t hcv (a := root) (by omega)
  have hR2 := implReach_ok _ hclim root
  have hG2 := implGarbage_ok _ hclim root
  have hDw := implDang_ok _ hclim
  have hR2e : reachR (cutV v (grb v root.toNat)) root = idxs (mrk (reachL v root.toNat)) 32 := by unfold reachR; rw [hccall, reach_cut ok]; rfl
  have hG2e : garbR (cutV v (grb v root.toNat)) root = [] := by unfold garbR; rw [hccall]; exact garb_cut ok
  have hDwe : dangR (cutV v (grb v root.toNat)) = dAllQ (cutV v (grb v root.toNat)) 32 := by unfold dangR; rw [hcv]; rfl
  rw [hR2e] at hR2
  rw [hG2e] at hG2
  rw [hDwe] at hDw
  have hdle := dang_cut (root := root.toNat) ok hnr 32
  have hcount := garb_count (v := v) ok.len root.toNat 32
  have hcount : (idxs (mrk (reachL v root.toNat)) 32).length + (grb v root.toNat).length = (idxs (hasA v) 32).length := hcount
  have hfree : ∀ x r : Int, x ∈ idxs (mrk (reachL v root.toNat)) 32 → r ∈ refsA v x.toNat → r ∉ grb v root.toNat := fun x r hx hr => garb_free ok hx hr
  have hl31 : ∀ x ∈ idxs (mrk (reachL v root.toNat)) 32, 0 ≤ x ∧ x ≤ 31 := fun x hx => by obtain ⟨i, rfl, h2, _⟩ := idxs_mem.1 hx; omega
  have hIl : (idxs (mrk (reachL v root.toNat)) 32).length ≤ 32 := idxs_len _ _
  have hgl : (grb v root.toNat).length ≤ 32 := idxs_len _ _
  have hvl : v.length = 32 := ok.len
  have hrfl := ok.rl
  have hS := laws_sameInts_ok (idxs (mrk (reachL v root.toNat)) 32) (idxs (mrk (reachL v root.toNat)) 32) ⟨by omega, fun _ _ => trivial⟩
  rw [decide_eq_true rfl] at hS
  generalize idxs (mrk (reachL v root.toNat)) 32 = L at *
  generalize hgg : grb v root.toNat = g at *
  clear hRe hGe hDe hR2e hG2e hDwe hcall hccall hnr hcv hclim hlim ok hvw
  simp only [List.map_nil] at hG2
  have hC1 := cx [.own 1] (hbg)
  have hC2 := cx [.own 1] (hD)
  have hC3 := cx [.own 1, .own 0] (hA2)
  have hC4 := cx [] (hR)
  have hC5 := cx [] (hG)
  have fy := And.intro wa2 (And.intro wb2 (hroot))
  refine goR ?_ ?_ ?_ ?_ ?_ ?_ ?_ ?_ ?_ ?_ ?_ ?_ ?_ ?_ ?_ ?_
  any_goals (first | exact True.intro | skip)
  all_goals (repeat (refine Wh.mk fun hcc => ?_))
  refine SW.norm (Norm.frz 3 2 0 rfl rfl (by simp)) ?_
  rw [frz_all]
  simp only [List.set_cons_succ, List.set_cons_zero, Heap.put, List.getElem?_cons_succ, List.getElem?_cons_zero]
  refine SW.loop (fun i : Nat => ⟨[.sl .s (l.map Enc.b), .undef, .undef, .sl .s (v.map slotS), .int .i64 root, .ref 1 0 0 L.length, .ref 2 0 0 g.length, .int .i64 ((idxs (hasA v) i).length : Nat), .int .i64 (i : Nat), .undef, .undef, .undef, .undef, .undef, .undef, .undef, .undef, .undef, .undef, .undef, .undef, .undef, .undef, .undef, .undef, .undef, .undef, .undef, .undef, .undef, .undef, .undef, .undef, .undef, .undef, .undef, .undef, .undef, .undef, .undef, .undef, .undef, .undef, .undef, .undef, .undef, .undef, .undef, .undef, .undef, .undef, .undef, .undef, .undef, .undef, .undef, .undef, .undef, .undef, .undef, .undef, .undef, .undef, .undef, .undef, .undef, .undef, .undef, .undef, .undef, .undef, .undef, .undef, .undef, .undef, .undef, .undef, .undef, .undef, .undef, .undef, .undef, .undef, .undef, .undef, .undef, .undef, .undef, .undef, .undef, .undef, .undef, .undef, .undef, .undef, .undef, .undef, .undef, .undef, .undef, .undef, .undef, .undef, .undef, .undef, .undef, .undef, .undef, .undef, .undef, .undef, .undef, .undef, .undef, .undef, .undef, .undef], [[], [.arr 1 (L.map Enc.o) false], [.arr 1 (g.map Enc.o) false]]⟩)
    (fun N i => N = 32 - i ∧ i ≤ 32) (n := 32) (x := 0) ?_ ⟨rfl, by decide⟩ ?_
  · rw [idxs_zero]
    exact Norm.re [0, 4, 5] (by decide) rfl (by first | (simp only [eq_self, heapFits, rowFits, obFits, List.getElem?_cons_zero, List.getElem?_cons_succ, renL_o, renL_b, true_and, and_true, and_self]; done) | simp [-List.map_set, -List.map_append, heapFits, rowFits, obFits, T.ren, renL]) (by simp [tmFits, T.ren])
  rintro N i ⟨hN, hi⟩
  have fy := Nat.add_zero
  refine goS ?_
  refine SW.cond rfl (fun hc => ?_) (fun hc => ?_)
  · have hlt : i < v.length := by simp at hc; omega
    have hltI : (i : Int) < (v.length : Int) := by omega
    have hg : (v.map slotS)[i]? = some (.nd [.bool v[i].1, .nd [.int .i64 v[i].2.1.1, .sl .s (v[i].2.1.2.1.map Enc.b), .sl .s (v[i].2.1.2.2.1.map Enc.b)]]) := by rw [List.getElem?_map, List.getElem?_eq_getElem hlt]; rfl
    have hn := idxs_has v i hlt
    have hnl := idxs_len (hasA v) i
    generalize (idxs (hasA v) i).length = n at *
    have hwi : IntKind.i64.wrap ((i : Int) + 1) = ((i + 1 : Nat) : Int) := by rw [wrap64 _ (by omega) (by omega)]; omega
    have hwn : IntKind.i64.wrap ((n : Int) + 1) = ((n + 1 : Nat) : Int) := by rw [wrap64 _ (by omega) (by omega)]; omega
    cases hb1 : v[i].1
    · rw [hb1] at hg hn
      have fy := And.intro hg (And.intro hltI (And.intro hwi (hwn)))
      refine goR ?_ ?_ ?_ ?_ ?_ ?_ ?_ ?_ ?_ ?_ ?_ ?_ ?_ ?_ ?_ ?_
      any_goals (first | exact True.intro | skip)
      all_goals (repeat (refine Wh.mk fun hcc => ?_))
      refine ⟨N - 1, i + 1, by omega, ⟨by omega, by omega⟩, ?_⟩
      rw [hn]
      exact Norm.re [0, 1, 2] (by decide) rfl (by first | (simp only [eq_self, heapFits, rowFits, obFits, List.getElem?_cons_zero, List.getElem?_cons_succ, renL_o, renL_b, true_and, and_true, and_self]; done) | simp [-List.map_set, -List.map_append, heapFits, rowFits, obFits, T.ren, renL]) (by simp [tmFits, T.ren])
    · rw [hb1] at hg hn
      have fy := And.intro hg (And.intro hltI (And.intro hwi (hwn)))
      refine goR ?_ ?_ ?_ ?_ ?_ ?_ ?_ ?_ ?_ ?_ ?_ ?_ ?_ ?_ ?_ ?_
      any_goals (first | exact True.intro | skip)
      all_goals (repeat (refine Wh.mk fun hcc => ?_))
      refine ⟨N - 1, i + 1, by omega, ⟨by omega, by omega⟩, ?_⟩
      rw [hn]
      exact Norm.re [0, 1, 2] (by decide) rfl (by first | (simp only [eq_self, heapFits, rowFits, obFits, List.getElem?_cons_zero, List.getElem?_cons_succ, renL_o, renL_b, true_and, and_true, and_self]; done) | simp [-List.map_set, -List.map_append, heapFits, rowFits, obFits, T.ren, renL]) (by simp [tmFits, T.ren])
  have hi32 : i = 32 := by
    have : ¬ i < v.length := by simp at hc; omega
    omega
  subst hi32
  have hsum : IntKind.i64.wrap ((L.length : Int) + (g.length : Int)) = ((idxs (hasA v) 32).length : Int) := by rw [wrap64 _ (by omega) (by omega)]; omega
  generalize (idxs (hasA v) 32).length = n at *
  have hap := fun (own_ e_ j_ : Nat) (H_ : Heap) (q1 : H_.at e_ j_ = some (.arr 4 [] false)) => append_run (Y := Y) (own := own_) (t := 24) (u := 24) (e := e_) (j := j_) (off := 0) (n := 0) (g := .s) (f := []) (ys := v.map slotS) (H := H_) Y24 Y24 Y37 rfl (by decide) q1 (by simp) (by simp; omega) (nwL_S v) (fun z hz => by have := List.mem_of_mem_take hz; obtain ⟨x, _, rfl⟩ := List.mem_map.1 this; rfl)
  simp only [List.drop_nil, List.take_nil, List.nil_append, List.length_map, Nat.zero_add, List.drop_zero, List.take_zero] at hap
  have fy := And.intro hsum (And.intro bs0_24 (hap))
  refine goR ?_ ?_ ?_ ?_ ?_ ?_ ?_ ?_ ?_ ?_ ?_ ?_ ?_ ?_ ?_ ?_
  any_goals (first | exact True.intro | skip)
  all_goals (repeat (refine Wh.mk fun hcc => ?_))
  all_goals first | (exfalso; simp at hcc; done) | skip
  have hp0 : (cutP (pOf v) (g.take 0)).map slotP = v.map slotS := pOf_map v
  have hpl : ∀ q, (cutP (pOf v) q).length = v.length := fun q => by rw [cutP_len]; unfold pOf; simp
  refine SW.loop (fun i : Nat => ⟨[.sl .s (l.map Enc.b), .undef, .undef, .sl .s (v.map slotS), .int .i64 root, .ref 1 0 0 L.length, .ref 2 0 0 g.length, .undef, .undef, .ref 3 0 0 (cutP (pOf v) (g.take i)).length, .int .i64 (i : Nat), .undef, .undef, .undef, .undef, .undef, .undef, .undef, .undef, .undef, .undef, .undef, .undef, .undef, .undef, .undef, .undef, .undef, .undef, .undef, .undef, .undef, .undef, .undef, .undef, .undef, .undef, .undef, .undef, .undef, .undef, .undef, .undef, .undef, .undef, .undef, .undef, .undef, .undef, .undef, .undef, .undef, .undef, .undef, .undef, .undef, .undef, .undef, .undef, .undef, .undef, .undef, .undef, .undef, .undef, .undef, .undef, .undef, .undef, .undef, .undef, .undef, .undef, .undef, .undef, .undef, .undef, .undef, .undef, .undef, .undef, .undef, .undef, .undef, .undef, .undef, .undef, .undef, .undef, .undef, .undef, .undef, .undef, .undef, .undef, .undef, .undef, .undef, .undef, .undef, .undef, .undef, .undef, .undef, .undef, .undef, .undef, .undef, .undef, .undef, .undef, .undef, .undef, .undef, .undef, .undef, .undef], [[], [.arr 1 (L.map Enc.o) false], [.arr 1 (g.map Enc.o) false], [.arr 4 ((cutP (pOf v) (g.take i)).map slotP) false]]⟩)
    (fun N i => N = g.length - i ∧ i ≤ g.length) (n := g.length) (x := 0) ?_ ⟨rfl, Nat.zero_le _⟩ ?_
  · simp only [hp0, hpl]
    exact Norm.re [0, 1, 2, 4] (by decide) rfl (by first | (simp only [eq_self, heapFits, rowFits, obFits, List.getElem?_cons_zero, List.getElem?_cons_succ, renL_o, renL_b, true_and, and_true, and_self]; done) | simp [-List.map_set, -List.map_append, heapFits, rowFits, obFits, T.ren, renL]) (by simp [tmFits, T.ren])
  rintro N i ⟨hN, hi⟩
  have fy := Nat.add_zero
  refine goS ?_
  refine SW.cond rfl (fun hc => ?_) (fun hc => ?_)
  · have hlt : i < g.length := by simp at hc; omega
    have hltI : (i : Int) < (g.length : Int) := by omega
    have hg : (g.map Enc.o)[i]? = some (T.int .i64 g[i]) := map_get Enc.o g i hlt
    have hx0 := hg0 g[i] (List.getElem_mem hlt)
    have hx1 := hg31 g[i] (List.getElem_mem hlt)
    have hcs := cutP_succ (pOf v) g i hlt
    have hl1 := hpl (g.take i)
    generalize g[i] = x at *
    generalize cutP (pOf v) (g.take i) = p at *
    have hxl : x < (p.length : Int) := by omega
    have hge : (p.map slotP)[x.toNat]? = some (slotP (p[x.toNat]'(by omega))) := by rw [List.getElem?_map, List.getElem?_eq_getElem (by omega)]; rfl
    have hset : (p.map slotP).set x.toNat (.nd [.bool false, .nd [.int .i64 0, .nils 1, .nils 1]]) = (p.set x.toNat (true, slotN)).map slotP := by rw [List.map_set]; rfl
    have hwi : IntKind.i64.wrap ((i : Int) + 1) = ((i + 1 : Nat) : Int) := by rw [wrap64 _ (by omega) (by omega)]; omega
    have fy := And.intro hg (And.intro hltI (And.intro hwi (And.intro hx0 (And.intro hxl (And.intro hset (And.intro hge (size_P)))))))
    refine goR ?_ ?_ ?_ ?_ ?_ ?_ ?_ ?_ ?_ ?_ ?_ ?_ ?_ ?_ ?_ ?_
    any_goals (first | exact True.intro | skip)
    all_goals (repeat (refine Wh.mk fun hcc => ?_))
    refine ⟨N - 1, i + 1, by omega, ⟨by omega, by omega⟩, ?_⟩
    rw [hcs, ← hset]
    simp only [List.length_set]
    exact Norm.re [0, 1, 2, 3] (by decide) rfl (by rw [hset]; simp [-List.map_set, heapFits, rowFits, obFits, T.ren, renL]) (by simp [tmFits, T.ren])
  have hig : i = g.length := by
    have : ¬ i < g.length := by simp at hc; omega
    omega
  subst hig
  rw [List.take_length]
  have hun : (cutP (pOf v) g).map unP = cutV v g := by rw [cutP_un, pOf_un]
  rw [← hun] at hR2 hG2 hDw hdle
  have hpl2 := hpl g
  clear hpl hp0 hap
  generalize cutP (pOf v) g = p at *
  have fy := Nat.add_zero
  refine goR ?_ ?_ ?_ ?_ ?_ ?_ ?_ ?_ ?_ ?_ ?_ ?_ ?_ ?_ ?_ ?_
  any_goals (first | exact True.intro | skip)
  all_goals (repeat (refine Wh.mk fun hcc => ?_))
  refine SW.loop (fun i : Nat => ⟨[.sl .s (l.map Enc.b), .undef, .undef, .sl .s (v.map slotS), .int .i64 root, .ref 1 0 0 L.length, .ref 2 0 0 g.length, .undef, .undef, .ref 3 0 0 p.length, .undef, .int .i64 (i : Nat), .undef, .undef, .undef, .undef, .undef, .undef, .undef, .undef, .undef, .undef, .undef, .undef, .undef, .undef, .undef, .undef, .undef, .undef, .undef, .undef, .undef, .undef, .undef, .undef, .undef, .undef, .undef, .undef, .undef, .undef, .undef, .undef, .undef, .undef, .undef, .undef, .undef, .undef, .undef, .undef, .undef, .undef, .undef, .undef, .undef, .undef, .undef, .undef, .undef, .undef, .undef, .undef, .undef, .undef, .undef, .undef, .undef, .undef, .undef, .undef, .undef, .undef, .undef, .undef, .undef, .undef, .undef, .undef, .undef, .undef, .undef, .undef, .undef, .undef, .undef, .undef, .undef, .undef, .undef, .undef, .undef, .undef, .undef, .undef, .undef, .undef, .undef, .undef, .undef, .undef, .undef, .undef, .undef, .undef, .undef, .undef, .undef, .undef, .undef, .undef, .undef, .undef, .undef, .undef, .undef], [[], [.arr 1 (L.map Enc.o) false], [.arr 1 (g.map Enc.o) false], [.arr 4 (p.map slotP) false]]⟩)
    (fun N i => N = L.length - i ∧ i ≤ L.length) (n := L.length) (x := 0) ?_ ⟨rfl, Nat.zero_le _⟩ ?_
  · exact Norm.re [0, 1, 2, 3] (by decide) rfl (by first | (simp only [eq_self, heapFits, rowFits, obFits, List.getElem?_cons_zero, List.getElem?_cons_succ, renL_o, renL_b, true_and, and_true, and_self]; done) | simp [-List.map_set, -List.map_append, heapFits, rowFits, obFits, T.ren, renL]) (by simp [tmFits, T.ren])
  rintro N i ⟨hN, hi⟩
  have fy := Nat.add_zero
  refine goS ?_
  refine SW.cond rfl (fun hc => ?_) (fun hc => ?_)
  · have hlt : i < L.length := by simp at hc; omega
    have hltI : (i : Int) < (L.length : Int) := by omega
    have hg : (L.map Enc.o)[i]? = some (T.int .i64 L[i]) := map_get Enc.o L i hlt
    obtain ⟨hx0, hx1⟩ := hl31 L[i] (List.getElem_mem hlt)
    have hfr := fun r => hfree L[i] r (List.getElem_mem hlt)
    generalize L[i] = x at *
    have hxn : x.toNat < v.length := by omega
    have hxl : x < (v.length : Int) := by omega
    have hrf : refsA v x.toNat = v[x.toNat].2.1.2.2.1 := by simp [refsA, List.getElem?_eq_getElem hxn]
    have hr5 := hrfl x.toNat
    rw [hrf] at hfr hr5
    have hgx : (v.map slotS)[x.toNat]? = some (.nd [.bool v[x.toNat].1, .nd [.int .i64 v[x.toNat].2.1.1, .sl .s (v[x.toNat].2.1.2.1.map Enc.b), .sl .s (v[x.toNat].2.1.2.2.1.map Enc.b)]]) := by rw [List.getElem?_map, List.getElem?_eq_getElem hxn]; rfl
    generalize v[x.toNat].2.1.2.2.1 = rs at *
    have hwi : IntKind.i64.wrap ((i : Int) + 1) = ((i + 1 : Nat) : Int) := by rw [wrap64 _ (by omega) (by omega)]; omega
    have fy := And.intro hg (And.intro hltI (And.intro hx0 (And.intro hxl (hgx))))
    refine goR ?_ ?_ ?_ ?_ ?_ ?_ ?_ ?_ ?_ ?_ ?_ ?_ ?_ ?_ ?_ ?_
    any_goals (first | exact True.intro | skip)
    all_goals (repeat (refine Wh.mk fun hcc => ?_))
    refine SW.loop (fun k : Nat => ⟨[.sl .s (l.map Enc.b), .undef, .undef, .sl .s (v.map slotS), .int .i64 root, .ref 1 0 0 L.length, .ref 2 0 0 g.length, .undef, .undef, .ref 3 0 0 p.length, .undef, .int .i64 (i : Nat), .sl .s (rs.map Enc.b), .int .i64 (k : Nat), .undef, .undef, .undef, .undef, .undef, .undef, .undef, .undef, .undef, .undef, .undef, .undef, .undef, .undef, .undef, .undef, .undef, .undef, .undef, .undef, .undef, .undef, .undef, .undef, .undef, .undef, .undef, .undef, .undef, .undef, .undef, .undef, .undef, .undef, .undef, .undef, .undef, .undef, .undef, .undef, .undef, .undef, .undef, .undef, .undef, .undef, .undef, .undef, .undef, .undef, .undef, .undef, .undef, .undef, .undef, .undef, .undef, .undef, .undef, .undef, .undef, .undef, .undef, .undef, .undef, .undef, .undef, .undef, .undef, .undef, .undef, .undef, .undef, .undef, .undef, .undef, .undef, .undef, .undef, .undef, .undef, .undef, .undef, .undef, .undef, .undef, .undef, .undef, .undef, .undef, .undef, .undef, .undef, .undef, .undef, .undef, .undef, .undef, .undef, .undef, .undef, .undef, .undef], [[], [.arr 1 (L.map Enc.o) false], [.arr 1 (g.map Enc.o) false], [.arr 4 (p.map slotP) false]]⟩)
      (fun M k => M = rs.length - k ∧ k ≤ rs.length) (n := rs.length) (x := 0) ?_ ⟨rfl, Nat.zero_le _⟩ ?_
    · exact Norm.re [0, 1, 2, 3] (by decide) rfl (by first | (simp only [eq_self, heapFits, rowFits, obFits, List.getElem?_cons_zero, List.getElem?_cons_succ, renL_o, renL_b, true_and, and_true, and_self]; done) | simp [-List.map_set, -List.map_append, heapFits, rowFits, obFits, T.ren, renL]) (by simp [tmFits, T.ren])
    rintro M k ⟨hM, hk⟩
    have fy := Nat.add_zero
    refine goS ?_
    refine SW.cond rfl (fun hc2 => ?_) (fun hc2 => ?_)
    · have hlk : k < rs.length := by simp at hc2; omega
      have hlkI : (k : Int) < (rs.length : Int) := by omega
      have hgk : (rs.map Enc.b)[k]? = some (T.int .i64 rs[k]) := map_get Enc.b rs k hlk
      have hA := among_ok g (by omega) rs[k]
      have hno : amongB g rs[k] = false := by
        cases h : amongB g rs[k] with
        | false => rfl
        | true => exact absurd (amongB_iff.1 h) (hfr _ (List.getElem_mem hlk))
      rw [hno] at hA
      have hwk : IntKind.i64.wrap ((k : Int) + 1) = ((k + 1 : Nat) : Int) := by rw [wrap64 _ (by omega) (by omega)]; omega
      have hC1 := cx [] (hA)
      have fy := And.intro hgk (And.intro hlkI (hwk))
      refine goR ?_ ?_ ?_ ?_ ?_ ?_ ?_ ?_ ?_ ?_ ?_ ?_ ?_ ?_ ?_ ?_
      any_goals (first | exact True.intro | skip)
      all_goals (repeat (refine Wh.mk fun hcc => ?_))
      refine ⟨M - 1, k + 1, by omega, ⟨by omega, by omega⟩, ?_⟩
      exact Norm.re [0, 1, 2, 3] (by decide) rfl (by first | (simp only [eq_self, heapFits, rowFits, obFits, List.getElem?_cons_zero, List.getElem?_cons_succ, renL_o, renL_b, true_and, and_true, and_self]; done) | simp [-List.map_set, -List.map_append, heapFits, rowFits, obFits, T.ren, renL]) (by simp [tmFits, T.ren])
    · skip
      have fy := hwi
      refine goR ?_ ?_ ?_ ?_ ?_ ?_ ?_ ?_ ?_ ?_ ?_ ?_ ?_ ?_ ?_ ?_
      any_goals (first | exact True.intro | skip)
      all_goals (repeat (refine Wh.mk fun hcc => ?_))
      refine ⟨N - 1, i + 1, by omega, ⟨by omega, by omega⟩, ?_⟩
      exact Norm.re [0, 1, 2, 3] (by decide) rfl (by first | (simp only [eq_self, heapFits, rowFits, obFits, List.getElem?_cons_zero, List.getElem?_cons_succ, renL_o, renL_b, true_and, and_true, and_self]; done) | simp [-List.map_set, -List.map_append, heapFits, rowFits, obFits, T.ren, renL]) (by simp [tmFits, T.ren])
  have hle : decide (((dAllQ (p.map unP) 32).length : Int) ≤ ((dAllQ v 32).length : Int)) = true := by simp; omega
  generalize dAllQ (p.map unP) 32 = D1 at *
  generalize dAllQ v 32 = D2 at *
  have hL0 : ((L.length : Int) == 0) = decide (L.length = 0) := len0 L
  cases hd : decide (L.length = 0)
  · rw [hd] at hL0
    have h00 : (((0 : Nat) : Int) == 0) = true := rfl
    have hC1 := cx [] (hR2)
    have hC2 := cx [] (hG2)
    have hC3 := cx [] (hS)
    have hC4 := cx [] (hDw)
    have hC5 := cx [] (hDv)
    have fy := And.intro hL0 (And.intro hle (h00))
    refine goK ?_ ?_ ?_ ?_ ?_ ?_ ?_ ?_ ?_ ?_ ?_ ?_ ?_ ?_ ?_ ?_
    any_goals (first | exact True.intro | skip)
    all_goals (repeat (refine Wh.mk fun hcc => ?_))
    all_goals rfl
  · rw [hd] at hL0
    have h00 : (((0 : Nat) : Int) == 0) = true := rfl
    have hC1 := cx [] (hR2)
    have hC2 := cx [] (hG2)
    have hC3 := cx [] (hS)
    have hC4 := cx [] (hDw)
    have hC5 := cx [] (hDv)
    have fy := And.intro hL0 (And.intro hle (h00))
    refine goK ?_ ?_ ?_ ?_ ?_ ?_ ?_ ?_ ?_ ?_ ?_ ?_ ?_ ?_ ?_ ?_
    any_goals (first | exact True.intro | skip)
    all_goals (repeat (refine Wh.mk fun hcc => ?_))
    all_goals rfl
end Q6

namespace Q6.Garbg
open Go Go.Vm Go.Proofs
set_option maxHeartbeats 4000000
set_option synthInstance.maxSize 2000
set_option synthInstance.maxHeartbeats 400000
set_option maxRecDepth 10000
set_option linter.unusedSimpArgs false
set_option linter.unusedVariables false

open Go.Proofs.Ytjodaapkfknfnaa
open Go.ChangeShapes Go.WideShapes Go.ChangeAt Go.RowKit
theorem own : ownKnob Try.prog.godebug = none := by kernel_rfl
theorem laidOut : laidOutB Try.prog = true := by kernel_rfl
theorem plain22 : plainT Y 12 22 = true := by kernel_rfl

set_option maxRecDepth 100000 in
theorem lifted (os : Os) (started : os.Started) (H : Type) (enc : TypeId × Value → H) :
    ReturnsInHanded {} Try.checked os 4 .any (Rows.fnGarbageSpec.pre6 enc Try.prog Try.f4 Rows.fnGarbageRow.domain false) (Rows.fnGarbageSpec.post enc Try.prog Try.f4 false true false false) := by
  refine returnsInHanded_of_change (C := Try.checked) own started (by kernel_rfl) Try.func4
    (ChangeSpec.witness6 (enc := enc) (C := Try.checked) false ⟨#[], #[.slice none 0 0], []⟩ 8 (by kernel_rfl) (by kernel_rfl) (by kernel_rfl) (by kernel_rfl)) ?_
  intro W base args ds gs before hval0 hW hcnd _
  have hval : ∀ (j : Nat) t v, Try.f4.params[j]? = some t → args[j]? = some v → Value.okWide Try.prog W .any base t v := hval0
  have hW' := hW
  obtain ⟨p, q, hA0, hV, rfl, _, _⟩ := hW
  have hA : DataW.TrodAll enc Try.prog W 0 (fun _ => true) true Try.f4.params.toList args.toList ds p := hA0
  have hV' : DataW.TrodVars enc Try.prog W (fun _ => true) [] gs q := hV
  obtain ⟨rfl, rfl⟩ := trodVars_none hV'
  rw [Try.params4] at hA hval
  have one := trodAll_one hA
  refine (calls_ofS hY 12 (by simp [plain22]) hA (fun j t v h1 h2 => hval j t v (by simpa using h1) (by simpa using h2)) ?_).mono ?_
  · intro us hu ht
    match us, hu with
    | [u0], _ =>
      obtain ⟨x0, rfl, hx0⟩ := Enc.dec (α := List UInt8) Y 12 22 u0 (by kernel_rfl) (ht 0 22 u0 rfl rfl)
      exact garbageLaw_ok x0
  · rintro e W' ⟨rfl, h1, h2⟩
    obtain ⟨v, d, _, rfl, _⟩ := one
    exact ⟨_, rfl, post_true (tb := 4) laidOut (by rw [Try.params4]; exact of_decide_eq_true (by kernel_rfl)) rfl hW' rfl rfl rfl rfl (by kernel_rfl) h1 h2⟩

theorem fnGarbage_holds : Rows.FnGarbageSaid :=
  OpenClaim.holds_of_wide 4 Try.f4 rfl rfl rfl rfl rfl rfl rfl ⟨rfl, rfl, rfl, rfl, rfl⟩ rfl rfl rfl rfl rfl (by kernel_rfl) Try.func4 (by kernel_rfl)
    (of_decide_eq_true (by kernel_rfl)) (by unfold Func.isWrapper; first | (rw [if_pos (by decide +kernel)]; kernel_rfl) | (rw [if_neg (by decide +kernel)]; exact ⟨rfl, rfl⟩))
    (fun os started H enc _ => lifted os started H enc)
end Q6.Garbg

namespace Go.Proofs.Ytjodaapkfknfnaa
/-- For every code, the law FnGarbage of the drawn view returns true: each object is reached or garbage, what is reached names no garbage, and without the garbage the same is reached. -/
theorem fnGarbage_holds : Rows.FnGarbageSaid := Q6.Garbg.fnGarbage_holds
#print axioms fnGarbage_holds
end Go.Proofs.Ytjodaapkfknfnaa
