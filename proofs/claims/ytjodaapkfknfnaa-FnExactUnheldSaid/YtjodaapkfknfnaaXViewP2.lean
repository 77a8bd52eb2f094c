/- Shows what the parts of the program do that the claim reaches: a machine of values over the model, and the contracts of functions, for all arguments within the lengths that each theorem names. -/
import Derived.Test.YtjodaapkfknfnaaXViewP1
import Derived.Test.YtjodaapkfknfnaaXViewV6
import Derived.Test.YtjodaapkfknfnaaXViewV5
import Derived.Test.YtjodaapkfknfnaaXViewV4
set_option linter.all false

namespace Q6
open Go Go.Vm Go.Proofs
set_option maxHeartbeats 4000000
set_option synthInstance.maxSize 2000
set_option synthInstance.maxHeartbeats 400000
set_option maxRecDepth 10000
set_option linter.unusedSimpArgs false
set_option linter.unusedVariables false

set_option synthInstance.maxHeartbeats 4000000
set_option synthInstance.maxSize 20000
abbrev PgT := (Int × ((((Bool × ((Int × (List Int) × (List Int) × Unit)) × Unit)) × ((Bool × ((Int × (List Int) × (List Int) × Unit)) × Unit)) × ((Bool × ((Int × (List Int) × (List Int) × Unit)) × Unit)) × ((Bool × ((Int × (List Int) × (List Int) × Unit)) × Unit)) × Unit)) × Unit)
instance : Pl PgT where
  n := 8
  pl := fun ⟨l0, ⟨⟨p0, ⟨k0, A0, B0, ⟨⟩⟩, ⟨⟩⟩, ⟨p1, ⟨k1, A1, B1, ⟨⟩⟩, ⟨⟩⟩, ⟨p2, ⟨k2, A2, B2, ⟨⟩⟩, ⟨⟩⟩, ⟨p3, ⟨k3, A3, B3, ⟨⟩⟩, ⟨⟩⟩, ⟨⟩⟩, ⟨⟩⟩ => by show T.pl (.nd [.int .i64 l0, .nd [.nd [.bool p0, .nd [.int .i64 k0, .ow 1 (A0.map Enc.o), .ow 1 (B0.map Enc.o)]], .nd [.bool p1, .nd [.int .i64 k1, .ow 1 (A1.map Enc.o), .ow 1 (B1.map Enc.o)]], .nd [.bool p2, .nd [.int .i64 k2, .ow 1 (A2.map Enc.o), .ow 1 (B2.map Enc.o)]], .nd [.bool p3, .nd [.int .i64 k3, .ow 1 (A3.map Enc.o), .ow 1 (B3.map Enc.o)]]]]) = true; simp [T.pl, plL]
  len := fun ⟨l0, ⟨⟨p0, ⟨k0, A0, B0, ⟨⟩⟩, ⟨⟩⟩, ⟨p1, ⟨k1, A1, B1, ⟨⟩⟩, ⟨⟩⟩, ⟨p2, ⟨k2, A2, B2, ⟨⟩⟩, ⟨⟩⟩, ⟨p3, ⟨k3, A3, B3, ⟨⟩⟩, ⟨⟩⟩, ⟨⟩⟩, ⟨⟩⟩ => by show (thawA 0 (.nd [.int .i64 l0, .nd [.nd [.bool p0, .nd [.int .i64 k0, .ow 1 (A0.map Enc.o), .ow 1 (B0.map Enc.o)]], .nd [.bool p1, .nd [.int .i64 k1, .ow 1 (A1.map Enc.o), .ow 1 (B1.map Enc.o)]], .nd [.bool p2, .nd [.int .i64 k2, .ow 1 (A2.map Enc.o), .ow 1 (B2.map Enc.o)]], .nd [.bool p3, .nd [.int .i64 k3, .ow 1 (A3.map Enc.o), .ow 1 (B3.map Enc.o)]]]]) 0).2.length = 8; simp [thawA, thawAL]
def zP : T := .nd [.int .i64 0, .nd [.nd [.bool false, .nd [.int .i64 0, .nils 1, .nils 1]], .nd [.bool false, .nd [.int .i64 0, .nils 1, .nils 1]], .nd [.bool false, .nd [.int .i64 0, .nils 1, .nils 1]], .nd [.bool false, .nd [.int .i64 0, .nils 1, .nils 1]]]]
theorem laws_toPageA8_ok (x : (Arr 8 ((Int × ((((Bool × ((Int × (List Int) × (List Int) × Unit)) × Unit)) × ((Bool × ((Int × (List Int) × (List Int) × Unit)) × Unit)) × ((Bool × ((Int × (List Int) × (List Int) × Unit)) × Unit)) × ((Bool × ((Int × (List Int) × (List Int) × Unit)) × Unit)) × Unit)) × Unit)))) (hx : Enc.lim 1048576 x) : CallR Try.prog 103 [.nd (x.l.map Enc.b)] [] (.nd (x.l.map Enc.o)) := by
  refine CallR.of_body (n := 16) (rs := [.cell 2 87]) hY.ok Try.func103 rfl (by decide) (by simp [ioSizes, ioSz]) rfl rfl rfl (fun F => ?_)
  have fx := And.intro Y3 (And.intro Y4 (And.intro Y27 (And.intro Y35 (And.intro Y37 (And.intro Y65 (And.intro Y67 (And.intro Y68 (And.intro Y70 (And.intro Y71 (And.intro Y84 (And.intro Y86 (Y87))))))))))))
  simp only [entryS, thawAL, thawA, thawAL_b, thawAL_tR, List.append_nil, List.nil_append, List.length_nil, Nat.add_zero]
  obtain ⟨l, hl⟩ := x
  simp only at hx ⊢
  have fy := And.intro nc4 (And.intro nc8 (And.intro wa (tn)))
  refine goN ?_ ?_ ?_ ?_ ?_ ?_ ?_ ?_ ?_ ?_ ?_ ?_ ?_ ?_ ?_ ?_
  any_goals (first | exact True.intro | skip)
  skip
  refine SW.loop (fun i : Nat => ⟨[.undef, .ptr 1 0 [] 0, .ptr 2 0 [] 0, .ptr 3 0 [] 0, .int .i64 (i : Nat), .undef, .undef, .undef, .undef, .undef, .undef, .undef, .undef, .undef, .undef, .undef], [[], [.var (.nd (l.map Enc.b))], [.var (.nd [zP, zP, zP, zP, zP, zP, zP, zP])], [.var (.nd (fillG zP l i))]]⟩)
    (fun n i => n = 8 - i ∧ i ≤ 8) (n := 8) (x := 0) (by rw [fill_zero, hl]; exact Norm.re [0, 1, 2, 3] (by decide) rfl (by simp [heapFits, rowFits, obFits, T.ren, renL, zP]) (by simp [tmFits, T.ren])) ⟨rfl, Nat.zero_le _⟩ ?_
  rintro n i ⟨hn, hi⟩
  have fy := And.intro nc4 (And.intro nc8 (And.intro wa (tn)))
  refine goS ?_
  refine SW.cond rfl (fun hc => ?_) (fun hc => ?_)
  · have hlt : i < l.length := by simp at hc; omega
    have hltI : (i : Int) < 8 := by omega
    have hlt8 : i < 8 := by omega
    have hg : (l.map Enc.b)[i]? = some (.nd [.int .i64 l[i].1, .nd [.nd [.bool l[i].2.1.1.1, .nd [.int .i64 l[i].2.1.1.2.1.1, .sl .b (l[i].2.1.1.2.1.2.1.map Enc.b), .sl .b (l[i].2.1.1.2.1.2.2.1.map Enc.b)]], .nd [.bool l[i].2.1.2.1.1, .nd [.int .i64 l[i].2.1.2.1.2.1.1, .sl .b (l[i].2.1.2.1.2.1.2.1.map Enc.b), .sl .b (l[i].2.1.2.1.2.1.2.2.1.map Enc.b)]], .nd [.bool l[i].2.1.2.2.1.1, .nd [.int .i64 l[i].2.1.2.2.1.2.1.1, .sl .b (l[i].2.1.2.2.1.2.1.2.1.map Enc.b), .sl .b (l[i].2.1.2.2.1.2.1.2.2.1.map Enc.b)]], .nd [.bool l[i].2.1.2.2.2.1.1, .nd [.int .i64 l[i].2.1.2.2.2.1.2.1.1, .sl .b (l[i].2.1.2.2.2.1.2.1.2.1.map Enc.b), .sl .b (l[i].2.1.2.2.2.1.2.1.2.2.1.map Enc.b)]]]]) := map_get Enc.b l i hlt
    have hf : (fillG zP l i)[i]? = some zP := fill_get _ l i hlt
    have hlm : (l.map (Enc.b : PgT → T)).length = 8 := by simp [hl]
    have hs1 : sizeL (List.take i (l.map (Enc.b : PgT → T))) = i * 17 := sizeL_takeb l i (by omega)
    have hs2 : sizeL (List.take i (fillG zP l i)) = i * 17 := sizeL_takef zP l i (by omega)
    have hfl : (fillG zP l i).length = l.length := fill_len _ l i (by omega)
    have hC1 := cx [] (laws_toPage_ok l[i] (hx _ (List.getElem_mem hlt)))
    have fy := And.intro nc4 (And.intro nc8 (And.intro wa (And.intro tn (And.intro hg (And.intro hf (And.intro hfl (And.intro hl (And.intro hltI (And.intro hlt8 (And.intro hlm (And.intro hs1 (And.intro hs2 (Nat.zero_add)))))))))))))
    refine goR ?_ ?_ ?_ ?_ ?_ ?_ ?_ ?_ ?_ ?_ ?_ ?_ ?_ ?_ ?_ ?_
    any_goals (first | exact True.intro | skip)
    all_goals (repeat (refine Wh.mk fun hcc => ?_))
    refine ⟨n - 1, i + 1, by omega, ⟨by omega, by omega⟩, ?_⟩
    rw [wrap64 _ (by omega) (by omega)]
    refine Norm.trans (Norm.fillV (l := l) 3 0 rfl hlt (by first | rfl | (simp [soakS, soakL, Heap.at, Heap.put]; rfl))) ?_
    refine Norm.re [0, 1, 2, 3] (by decide) rfl ?_ (by simp [tmFits, T.ren])
    simp [heapFits, rowFits, obFits, soakS, soakL, Heap.at, Heap.put, T.ren, renL]
    exact ⟨by simp [zP, T.ren, renL], renL_fill _ _ _ _ rfl⟩
  · have hge : i = l.length := by
      simp at hc
      omega
    subst hge
    rw [fill_all]
    refine SW.norm (Norm.trans (Norm.expelVar 3 0 rfl) (Norm.refl _)) ?_
    simp only [thawA, thawAL_tR, Heap.put, List.length_cons, List.length_nil, Nat.reduceAdd, List.getElem?_cons_succ, List.getElem?_cons_zero, List.set_cons_succ, List.set_cons_zero, List.cons_append, List.nil_append]
    have hz1 : sizeL (tR 4 0 l) = 136 := by rw [sizeL_tR, hl]; rfl
    have hz2 := nwL_tR 4 0 l
    have hz3 : zP.size = 17 := rfl
    have fy := And.intro nc4 (And.intro nc8 (And.intro wa (And.intro tn (And.intro hz1 (And.intro hz2 (hz3))))))
    refine goR ?_ ?_ ?_ ?_ ?_ ?_ ?_ ?_ ?_ ?_ ?_ ?_ ?_ ?_ ?_ ?_
    any_goals (first | exact True.intro | skip)
    all_goals (repeat (refine Wh.mk fun hcc => ?_))
    all_goals exact SW.ret (show RetQ _ _ _ _ _ _ _ from RetQ.y [0] [.nd (l.map Enc.o)] (rn := by simp [retM, loadM, subM, T.get, T.offs, RM.bind, RM.run, Heap.at, List.getElem?_cons_succ, List.getElem?_cons_zero, List.getD_cons_succ, List.getD_cons_zero, T.nw, T.size, T.isNd, TyI.agg, Ty.agg, nwL, sizeL, nwL_tR, fx, hz1, hz2]; first | done | rfl))
end Q6

namespace Go.Vm
set_option linter.unusedVariables false
/-! ### what an array's elements hold is no longer known, or nil becomes an empty slice -/
theorem fgtL_len : ∀ {l m : List T}, fgtL l m → m.length = l.length
  | [], m, h => by simp only [fgtL] at h; subst h; rfl
  | t :: l, m, h => by
    obtain ⟨u, m', rfl, _, h2⟩ := h
    simp [fgtL_len h2]
theorem fgt_rows {c : Cx} {es : Nat} : ∀ (l : List T) {m : List T} {cs : List Value} {bs : List Nat}, fgtL l m → RRows c es l cs bs → RRows c es m cs bs
  | [], m, cs, bs, h, r => by simp only [fgtL] at h; subst h; exact r
  | t :: l, m, cs, bs, h, r => by
    obtain ⟨u, m', rfl, h1, h2⟩ := h
    obtain ⟨c1, c2, b1, b2, e1, e2, e3, r1, r2⟩ := r
    exact ⟨c1, c2, b1, b2, e1, e2, e3, fgt_rc t h1 r1, fgt_rows l h2 r2⟩
theorem Norm.forgetArr {tm : List T} {H : Heap} (e j : Nat) {es : Nat} {l m : List T} (ha : H.at e j = some (.arr es l false)) (hf : fgtL l m) : Norm ⟨tm, H⟩ ⟨tm, H.put e j (.arr es m false)⟩ := fun F c a bs hi => by
  obtain ⟨p, q, r, hb, ho, hinv⟩ := HR.drop hi.h ha
  have hgone : (H.put e j .gone).at e j = some .gone := at_put (x := .gone) ha
  have hl := fgtL_len hf
  obtain ⟨i, hmu, e1, e2, e3, ho⟩ := ho
  have hnd := hi.h.nd
  rw [hb, List.nodup_append, List.nodup_append] at hnd
  have ho' : HOb c e j (.arr es m false) q := by
    refine ⟨i, hmu, e1, e2, by rw [hl]; exact e3, ?_⟩
    rcases ho with ⟨h0, h1⟩ | ⟨rows, bs', hq, hrows, hcell, hoa⟩
    · exact .inl ⟨h0, h1⟩
    · exact .inr ⟨rows, bs', hq, fgt_rows l hf hrows, hcell, hoa⟩
  obtain ⟨bs2, hfin⟩ := soak_back (q' := q) (ob := .arr es m false) hi.h hb (.refl hinv) hgone ho' (fun x hx => .inl hx) hnd.2.1.1
  rw [put_put] at hfin
  exact ⟨c, bs2, rfl, hfin, hi.tm, hi.df, hi.pin⟩
theorem fgtL_rep {t u : T} (h : fgt t u) : ∀ n : Nat, fgtL (List.replicate n t) (List.replicate n u)
  | 0 => rfl
  | n + 1 => ⟨u, _, rfl, h, fgtL_rep h n⟩
end Go.Vm

namespace Q6
open Go Go.Vm Go.Proofs
set_option maxHeartbeats 4000000
set_option synthInstance.maxSize 2000
set_option synthInstance.maxHeartbeats 400000
set_option maxRecDepth 10000
set_option linter.unusedSimpArgs false
set_option linter.unusedVariables false

set_option synthInstance.maxHeartbeats 4000000
set_option synthInstance.maxSize 20000
set_option maxHeartbeats 40000000
theorem cloneInts_ok (l : List Int) (hl : l.length ≤ 1048576) : CallR Try.prog 183 [.sl .b (l.map Enc.b)] [] (.ow 1 (l.map Enc.o)) := by
  refine CallR.of_body (n := 8) (rs := [.tmp 2]) hY.ok Try.func183 rfl (by decide) rfl rfl rfl rfl (fun F => ?_)
  have fx := And.intro Y3 (And.intro Y4 (Y27))
  have hap := @append_run Y 2 27 27 1 0 0 0 3 1 8 _ .b [] (l.map Enc.b) [[], [.arr 1 [] false], []] Y27 Y27 Y3 rfl (by decide) rfl (by simp) (by simp; omega) (nwL_b l) (fun z hz => by have := List.mem_of_mem_take hz; obtain ⟨x, _, rfl⟩ := List.mem_map.1 this; rfl)
  have hbo : l.map (Enc.b : Int → T) = l.map Enc.o := rfl
  simp only [List.drop_nil, List.take_nil, List.nil_append, List.length_map, Nat.zero_add, kill] at hap
  refine SW.ops_seq hY fun y1 hy1 => ?_
  simp only [k13, upT_g, dnT_g, nb_g, dnT_b, dnT_s, dnT_0, dnT_r, fx, wo, decide_true, decide_false, wz0, wz1, wz2, wz3, wz4, wz5, wz6, wz7, wz8, appM, Ty.isInt, capT, appendZM, buildM, setAll, plSt, plAr, mnmx, Int.reduceLT, vrec, List.drop_succ_cons, List.drop_zero, convertM, indexM, fieldM, Int.toNat_zero, Int.toNat_one, Int.le_refl, Int.zero_le_ofNat, Int.reduceEq, Int.reduceNe, ne_eq, not_false_eq_true, u8_wrap, marksG_len, marks_len, bne_self_eq_false, take_map_len, tgL_byte, T.asArr, T.tg, tgL, indexAddrM, wk, wl, eq_self, isCall, callT, opM, S.ev, S.put, entryS, thawAL, thawA, RM.run, RM.bind, RM.ofOpt, allocs, Heap.ups, Heap.put, Heap.at, List.replicate, Nat.reduceAdd, Nat.reduceSub, ofConst, nilAs, if_false, if_true, binT, binTy, unT, guardT, quietK, reduceIte, boxM, allocM, loadM, storeM, fieldAddrM, lenT, extractT, subM, setOb, T.get, T.setp, T.offs, T.nw, nwL, T.cel, T.isNd, T.size, sizeL, TyI.agg, Ty.agg, Ty.isFn, zeroT, Nat.reduceLT, Nat.reduceEqDiff, sumT, kill]
  subst hy1
  refine SW.seq ?_
  refine SW.seq ?_
  refine SW.nilq hY rfl (by rw [Y27]) (by rw [Y27]; decide) (by simp) fun b hb => ?_
  simp only [thenS, List.set_cons_succ, List.set_cons_zero]
  cases b with
  | true =>
    have hl0 : l = [] := by cases l with | nil => rfl | cons x m => exact absurd (hb (by simp)) (by decide)
    subst hl0
    have fy := Nat.add_zero
    refine goK ?_ ?_ ?_ ?_ ?_ ?_ ?_ ?_ ?_ ?_ ?_ ?_ ?_ ?_ ?_ ?_
    any_goals (first | exact True.intro | skip)
    all_goals (repeat (refine Wh.mk fun hcc => ?_))
    all_goals simp [tupOf, fixEs]
  | false =>
    have fy := And.intro bs0_27 (hap)
    refine goR ?_ ?_ ?_ ?_ ?_ ?_ ?_ ?_ ?_ ?_ ?_ ?_ ?_ ?_ ?_ ?_
    any_goals (first | exact True.intro | skip)
    all_goals (repeat (refine Wh.mk fun hcc => ?_))
    rw [hbo]
    exact SW.ret (show RetQ _ _ _ _ _ _ _ from RetQ.y [1] [.ow 1 (l.map Enc.o)])
theorem cloneObj_ok (x : (Int × (List Int) × (List Int) × Unit)) (h1 : x.2.1.length ≤ 1048576) (h2 : x.2.2.1.length ≤ 1048576) : CallR Try.prog 161 [.nd [.int .i64 x.1, .sl .b (x.2.1.map Enc.b), .sl .b (x.2.2.1.map Enc.b)]] [] (.nd [.int .i64 x.1, .ow 1 (x.2.1.map Enc.o), .ow 1 (x.2.2.1.map Enc.o)]) := by
  refine CallR.of_body (n := 12) (rs := [.cell 2 35]) hY.ok Try.func161 rfl (by decide) rfl rfl rfl rfl (fun F => ?_)
  have fx := And.intro Y1 (And.intro Y2 (And.intro Y3 (And.intro Y27 (Y35))))
  have c1 := cloneInts_ok x.2.1 h1
  have c2 := cloneInts_ok x.2.2.1 h2
  obtain ⟨k, A, B, ⟨⟩⟩ := x
  simp only at c1 c2 ⊢
  clear h1 h2
  have hC1 := cx [] (c1)
  have hC2 := cx [] (c2)
  have fy := Nat.add_zero
  have hD1 := dx 1 [3, 3, 2, 2] [(4, 0)]
  refine goR ?_ ?_ ?_ ?_ ?_ ?_ ?_ ?_ ?_ ?_ ?_ ?_ ?_ ?_ ?_ ?_
  any_goals (first | exact True.intro | skip)
  all_goals (repeat (refine Wh.mk fun hcc => ?_))
  all_goals exact SW.ret (show RetQ _ _ _ _ _ _ _ from RetQ.y [0] [.nd [.int .i64 k, .ow 1 (A.map Enc.o), .ow 1 (B.map Enc.o)]])
theorem cloneSlot_ok (x : (Bool × ((Int × (List Int) × (List Int) × Unit)) × Unit)) (h1 : x.2.1.2.1.length ≤ 1048576) (h2 : x.2.1.2.2.1.length ≤ 1048576) : CallR Try.prog 109 [.nd [.bool x.1, .nd [.int .i64 x.2.1.1, .sl .b (x.2.1.2.1.map Enc.b), .sl .b (x.2.1.2.2.1.map Enc.b)]]] [] (.nd [.bool x.1, .nd [.int .i64 x.2.1.1, .ow 1 (x.2.1.2.1.map Enc.o), .ow 1 (x.2.1.2.2.1.map Enc.o)]]) := by
  refine CallR.of_body (n := 9) (rs := [.cell 2 37]) hY.ok Try.func109 rfl (by decide) rfl rfl rfl rfl (fun F => ?_)
  have fx := And.intro Y1 (And.intro Y3 (And.intro Y4 (And.intro Y27 (And.intro Y35 (Y37)))))
  have c1 := cloneObj_ok x.2.1 h1 h2
  obtain ⟨p, ⟨k, A, B, ⟨⟩⟩, ⟨⟩⟩ := x
  simp only at c1 ⊢
  clear h1 h2
  have hC1 := cx [] (c1)
  have fy := Nat.add_zero
  have hD1 := dx 1 [5, 1, 1] [(1, 1)]
  refine goR ?_ ?_ ?_ ?_ ?_ ?_ ?_ ?_ ?_ ?_ ?_ ?_ ?_ ?_ ?_ ?_
  any_goals (first | exact True.intro | skip)
  all_goals (repeat (refine Wh.mk fun hcc => ?_))
  all_goals exact SW.ret (show RetQ _ _ _ _ _ _ _ from RetQ.y [0] [.nd [.bool p, .nd [.int .i64 k, .ow 1 (A.map Enc.o), .ow 1 (B.map Enc.o)]]])
theorem l2Copy_ok (x : (Int × (List Int) × (List Int) × Unit)) (h1 : x.2.1.length ≤ 1048576) (h2 : x.2.2.1.length ≤ 1048576) : CallR Try.prog 154 [.nd [.int .i64 x.1, .sl .b (x.2.1.map Enc.b), .sl .b (x.2.2.1.map Enc.b)]] [] (.nd [.int .i64 x.1, .ow 1 (x.2.1.map Enc.o), .ow 1 (x.2.2.1.map Enc.o)]) := by
  refine CallR.of_body (n := 14) (rs := [.cell 2 35]) hY.ok Try.func154 rfl (by decide) rfl rfl rfl rfl (fun F => ?_)
  have fx := And.intro Y1 (And.intro Y2 (And.intro Y3 (And.intro Y27 (Y35))))
  obtain ⟨k, A, B, ⟨⟩⟩ := x
  simp only at h1 h2 ⊢
  have ha := fun (own_ e_ j_ : Nat) (H_ : Heap) (q1 : H_.at e_ j_ = some (.arr 1 ((([] : List Int)).map Enc.o) false)) => append_runB (Y := Y) (own := own_) (t := 27) (u := 27) (e := e_) (j := j_) (off := 0) (n := (([] : List Int)).length) (g := .b) (l := ([] : List Int)) (m := A) (H := H_) Y27 Y27 Y3 rfl (by decide) q1 (by rw [List.drop_zero]; exact List.take_of_length_le (by first | (simp; done) | (rw [List.length_map]; decide))) (by first | (simp; done) | (rw [List.length_map]; decide)) (by simp only [List.length_nil]; omega) rfl rfl
  have hb := fun (own_ e_ j_ : Nat) (H_ : Heap) (q1 : H_.at e_ j_ = some (.arr 1 ((([] : List Int)).map Enc.o) false)) => append_runB (Y := Y) (own := own_) (t := 27) (u := 27) (e := e_) (j := j_) (off := 0) (n := (([] : List Int)).length) (g := .b) (l := ([] : List Int)) (m := B) (H := H_) Y27 Y27 Y3 rfl (by decide) q1 (by rw [List.drop_zero]; exact List.take_of_length_le (by first | (simp; done) | (rw [List.length_map]; decide))) (by first | (simp; done) | (rw [List.length_map]; decide)) (by simp only [List.length_nil]; omega) rfl rfl
  simp only [List.nil_append, List.map_nil, List.length_nil, Nat.zero_add] at ha hb
  have fy := And.intro bs0_27 (And.intro ha (hb))
  have hD1 := dx 1 [3, 3, 1, 3, 1, 1] [(1, 1), (1, 2), (1, 3), (1, 4), (4, 0), (8, 0), (8, 1), (8, 2)]
  refine goR ?_ ?_ ?_ ?_ ?_ ?_ ?_ ?_ ?_ ?_ ?_ ?_ ?_ ?_ ?_ ?_
  any_goals (first | exact True.intro | skip)
  all_goals (repeat (refine Wh.mk fun hcc => ?_))
  all_goals exact SW.ret (show RetQ _ _ _ _ _ _ _ from RetQ.y [0] [.nd [.int .i64 k, .ow 1 (A.map Enc.o), .ow 1 (B.map Enc.o)]])
theorem l3CopySlot_ok (x : (Bool × ((Int × (List Int) × (List Int) × Unit)) × Unit)) (h1 : x.2.1.2.1.length ≤ 1048576) (h2 : x.2.1.2.2.1.length ≤ 1048576) : CallR Try.prog 101 [.nd [.bool x.1, .nd [.int .i64 x.2.1.1, .sl .b (x.2.1.2.1.map Enc.b), .sl .b (x.2.1.2.2.1.map Enc.b)]]] [] (.nd [.bool x.1, .nd [.int .i64 x.2.1.1, .ow 1 (x.2.1.2.1.map Enc.o), .ow 1 (x.2.1.2.2.1.map Enc.o)]]) := by
  refine CallR.of_body (n := 9) (rs := [.cell 2 37]) hY.ok Try.func101 rfl (by decide) rfl rfl rfl rfl (fun F => ?_)
  have fx := And.intro Y1 (And.intro Y3 (And.intro Y4 (And.intro Y27 (And.intro Y35 (Y37)))))
  have c1 := l2Copy_ok x.2.1 h1 h2
  obtain ⟨p, ⟨k, A, B, ⟨⟩⟩, ⟨⟩⟩ := x
  simp only at c1 ⊢
  clear h1 h2
  have hC1 := cx [] (c1)
  have fy := Nat.add_zero
  have hD1 := dx 1 [5, 1, 1] [(1, 1)]
  refine goR ?_ ?_ ?_ ?_ ?_ ?_ ?_ ?_ ?_ ?_ ?_ ?_ ?_ ?_ ?_ ?_
  any_goals (first | exact True.intro | skip)
  all_goals (repeat (refine Wh.mk fun hcc => ?_))
  all_goals exact SW.ret (show RetQ _ _ _ _ _ _ _ from RetQ.y [0] [.nd [.bool p, .nd [.int .i64 k, .ow 1 (A.map Enc.o), .ow 1 (B.map Enc.o)]]])
def v0 : List ((Bool × ((Int × (List Int) × (List Int) × Unit)) × Unit)) := List.replicate 32 (false, (0, [], [], ()), ())
def slotZ : T := .nd [.bool false, .nd [.int .i64 0, .nils 1, .nils 1]]
def slotO : T := .nd [.bool false, .nd [.int .i64 0, .ow 1 [], .ow 1 []]]
theorem v0_map : v0.map Enc.o = List.replicate 32 slotO := by unfold v0; rw [List.map_replicate]; rfl
theorem fgtZ : fgt slotZ slotO := .inr ⟨_, rfl, .bool false, _, rfl, rfl, _, _, rfl, .inr ⟨_, rfl, _, _, rfl, rfl, _, _, rfl, .inr (.inr rfl), _, _, rfl, .inr (.inr rfl), rfl⟩, rfl⟩
theorem mkView (own : Nat) : makeSliceM Y own 24 (.int .i64 32) (.int .i64 32) = .pure { v := .ref own 0 0 32, news := [.arr 4 (List.replicate 32 slotZ) false] } := by
  simp [makeSliceM, Y24, Y37, zeroT, Y3, Y27, Y35, Y4, Ty.isFn, slotZ]
theorem noView_ok  : CallR Try.prog 108 [] [] (.ow 4 (v0.map Enc.o)) := by
  refine CallR.of_body (n := 2) (rs := [.tmp 0]) hY.ok Try.func108 rfl (by decide) rfl rfl rfl rfl (fun F => ?_)
  have fx := And.intro Y3 (And.intro Y4 (And.intro Y24 (And.intro Y27 (And.intro Y35 (Y37)))))
  rw [v0_map]
  have fy := mkView
  refine goR ?_ ?_ ?_ ?_ ?_ ?_ ?_ ?_ ?_ ?_ ?_ ?_ ?_ ?_ ?_ ?_
  any_goals (first | exact True.intro | skip)
  all_goals (repeat (refine Wh.mk fun hcc => ?_))
  all_goals refine SW.norm (Norm.forgetArr 1 0 (m := List.replicate 32 slotO) rfl (fgtL_rep fgtZ 32)) ?_
  all_goals simp only [Heap.put, List.getElem?_cons_zero, List.getElem?_cons_succ, List.set_cons_succ, List.set_cons_zero]
  all_goals exact SW.ret (show RetQ _ _ _ _ _ _ _ from RetQ.y [4] [.ow 4 (List.replicate 32 slotO)])
end Q6

namespace Q6
open Go Go.Vm Go.Proofs
set_option maxHeartbeats 4000000
set_option synthInstance.maxSize 2000
set_option synthInstance.maxHeartbeats 400000
set_option maxRecDepth 10000
set_option linter.unusedSimpArgs false
set_option linter.unusedVariables false

set_option synthInstance.maxHeartbeats 4000000
set_option synthInstance.maxSize 20000
set_option maxHeartbeats 40000000
abbrev SeatT := (Int × ((Int × ((((Bool × ((Int × (List Int) × (List Int) × Unit)) × Unit)) × ((Bool × ((Int × (List Int) × (List Int) × Unit)) × Unit)) × ((Bool × ((Int × (List Int) × (List Int) × Unit)) × Unit)) × ((Bool × ((Int × (List Int) × (List Int) × Unit)) × Unit)) × Unit)) × Unit)) × Bool × Bool × Unit)
abbrev PoolT := ((List ((Int × ((Int × ((((Bool × ((Int × (List Int) × (List Int) × Unit)) × Unit)) × ((Bool × ((Int × (List Int) × (List Int) × Unit)) × Unit)) × ((Bool × ((Int × (List Int) × (List Int) × Unit)) × Unit)) × ((Bool × ((Int × (List Int) × (List Int) × Unit)) × Unit)) × Unit)) × Unit)) × Bool × Bool × Unit))) × Int × Unit)
abbrev EngT := (((Arr 8 ((Int × ((((Bool × ((Int × (List Int) × (List Int) × Unit)) × Unit)) × ((Bool × ((Int × (List Int) × (List Int) × Unit)) × Unit)) × ((Bool × ((Int × (List Int) × (List Int) × Unit)) × Unit)) × ((Bool × ((Int × (List Int) × (List Int) × Unit)) × Unit)) × Unit)) × Unit)))) × (((List ((Int × ((Int × ((((Bool × ((Int × (List Int) × (List Int) × Unit)) × Unit)) × ((Bool × ((Int × (List Int) × (List Int) × Unit)) × Unit)) × ((Bool × ((Int × (List Int) × (List Int) × Unit)) × Unit)) × ((Bool × ((Int × (List Int) × (List Int) × Unit)) × Unit)) × Unit)) × Unit)) × Bool × Bool × Unit))) × Int × Unit)) × (((List ((Int × Int × Int × Int × Int × ((Bool × ((Int × (List Int) × (List Int) × Unit)) × Unit)) × ((Bool × ((Int × (List Int) × (List Int) × Unit)) × Unit)) × Int × (List ((Int × Int × Bool × Unit))) × Unit))) × Int × Unit)) × (List ((Int × Int × Bool × Unit))) × (List ((Int × Int × Unit))) × Int × Bool × Unit)
theorem disk_b (d : Arr 8 PgT) : sizeL (d.l.map Enc.b) = 136 := by rw [sizeL_b, d.h]; rfl
theorem seated_ok (x : PoolT) (no : Int) (hl : x.1.length ≤ 1048576) : CallR Try.prog 155 [.nd [.sl .b (x.1.map Enc.b), .int .i64 x.2.1], .int .i64 no] [] (.int .i64 (idxOf (fun t => decide (t.1 = no)) x.1)) := by
  refine CallR.of_body (n := 22) (rs := [.tmp 4]) hY.ok Try.func155 rfl (by decide) rfl rfl rfl rfl (fun F => ?_)
  have fx := And.intro Y3 (And.intro Y4 (And.intro Y27 (And.intro Y35 (And.intro Y37 (And.intro Y84 (And.intro Y86 (And.intro Y88 (And.intro Y90 (Y192)))))))))
  have hds := fun d => disk_b d
  have fy := hds
  refine goN ?_ ?_ ?_ ?_ ?_ ?_ ?_ ?_ ?_ ?_ ?_ ?_ ?_ ?_ ?_ ?_
  any_goals (first | exact True.intro | skip)
  skip
  refine SW.loop (fun i : Nat => ⟨[.undef, .int .i64 no, .ptr 1 0 [] 0, .undef, .undef, .int .i64 (i : Nat), .undef, .undef, .undef, .undef, .undef, .undef, .undef, .undef, .undef, .undef, .undef, .undef, .undef, .undef, .undef, .undef], [[], [.var (.nd [.sl .b (x.1.map Enc.b), .int .i64 x.2.1])]]⟩)
    (fun N i => N = x.1.length - i ∧ i ≤ x.1.length ∧ ∀ (j : Nat) (h : j < x.1.length), j < i → decide (x.1[j].1 = no) = false) (n := x.1.length) (x := 0) (Norm.re [0, 1] (by decide) rfl (by first | (simp only [eq_self, heapFits, rowFits, obFits, List.getElem?_cons_zero, List.getElem?_cons_succ, renL_o, renL_b, true_and, and_true, and_self]; done) | simp [-List.map_set, -List.map_append, heapFits, rowFits, obFits, T.ren, renL]) (by simp [tmFits, T.ren, renL])) ⟨rfl, Nat.zero_le _, fun j _ h => absurd h (Nat.not_lt_zero _)⟩ ?_
  rintro N i ⟨hN, hi, hp⟩
  have fy := hds
  refine goS ?_
  refine SW.cond rfl (fun hc => ?_) (fun hc => ?_)
  · have hlt : i < x.1.length := by simp at hc; omega
    have hltI : (i : Int) < (x.1.length : Int) := by omega
    have hg : (x.1.map Enc.b)[i]? = some (.nd [.int .i64 x.1[i].1, .nd [.int .i64 x.1[i].2.1.1, .nd [.nd [.bool x.1[i].2.1.2.1.1.1, .nd [.int .i64 x.1[i].2.1.2.1.1.2.1.1, .sl .b (x.1[i].2.1.2.1.1.2.1.2.1.map Enc.b), .sl .b (x.1[i].2.1.2.1.1.2.1.2.2.1.map Enc.b)]], .nd [.bool x.1[i].2.1.2.1.2.1.1, .nd [.int .i64 x.1[i].2.1.2.1.2.1.2.1.1, .sl .b (x.1[i].2.1.2.1.2.1.2.1.2.1.map Enc.b), .sl .b (x.1[i].2.1.2.1.2.1.2.1.2.2.1.map Enc.b)]], .nd [.bool x.1[i].2.1.2.1.2.2.1.1, .nd [.int .i64 x.1[i].2.1.2.1.2.2.1.2.1.1, .sl .b (x.1[i].2.1.2.1.2.2.1.2.1.2.1.map Enc.b), .sl .b (x.1[i].2.1.2.1.2.2.1.2.1.2.2.1.map Enc.b)]], .nd [.bool x.1[i].2.1.2.1.2.2.2.1.1, .nd [.int .i64 x.1[i].2.1.2.1.2.2.2.1.2.1.1, .sl .b (x.1[i].2.1.2.1.2.2.2.1.2.1.2.1.map Enc.b), .sl .b (x.1[i].2.1.2.1.2.2.2.1.2.1.2.2.1.map Enc.b)]]]], .bool x.1[i].2.2.1, .bool x.1[i].2.2.2.1]) := map_get Enc.b x.1 i hlt
    have hwi : IntKind.i64.wrap ((i : Int) + 1) = ((i + 1 : Nat) : Int) := by rw [wrap64 _ (by omega) (by omega)]; omega
    have hyes : decide (x.1[i].1 = no) = true → idxOf (fun t => decide (t.1 = no)) x.1 = (i : Int) := fun h => idxOf_eq _ _ hlt h (fun j hj => hp j (by omega) hj)
    have heq : (x.1[i].1 == no) = decide (x.1[i].1 = no) := rfl
    generalize hq : decide (x.1[i].1 = no) = q at *
    cases q
    · clear hyes
      have fy := And.intro hds (And.intro hg (And.intro hltI (And.intro hwi (heq))))
      refine goR ?_ ?_ ?_ ?_ ?_ ?_ ?_ ?_ ?_ ?_ ?_ ?_ ?_ ?_ ?_ ?_
      any_goals (first | exact True.intro | skip)
      all_goals (repeat (refine Wh.mk fun hcc => ?_))
      refine ⟨N - 1, i + 1, by omega, ⟨by omega, by omega, fun j hj hji => ?_⟩, ?_⟩
      · rcases Nat.lt_or_ge j i with h' | h'
        · exact hp j hj h'
        · have : j = i := by omega
          subst this
          exact hq
      · exact Norm.re [0, 1] (by decide) rfl (by first | (simp only [eq_self, heapFits, rowFits, obFits, List.getElem?_cons_zero, List.getElem?_cons_succ, renL_o, renL_b, true_and, and_true, and_self]; done) | simp [-List.map_set, -List.map_append, heapFits, rowFits, obFits, T.ren, renL]) (by simp [tmFits, T.ren, renL])
    · rw [hyes rfl]
      have fy := And.intro hds (And.intro hg (And.intro hltI (And.intro hwi (heq))))
      refine goR ?_ ?_ ?_ ?_ ?_ ?_ ?_ ?_ ?_ ?_ ?_ ?_ ?_ ?_ ?_ ?_
      any_goals (first | exact True.intro | skip)
      all_goals (repeat (refine Wh.mk fun hcc => ?_))
      all_goals exact SW.ret (show RetQ _ _ _ _ _ _ _ from RetQ.y [0] [.int .i64 (i : Int)])
  · have hge : i = x.1.length := by
      have : ¬ i < x.1.length := by simp at hc; omega
      omega
    rw [idxOf_none _ _ (fun j hj => hp j hj (by omega))]
    have fy := hds
    refine goR ?_ ?_ ?_ ?_ ?_ ?_ ?_ ?_ ?_ ?_ ?_ ?_ ?_ ?_ ?_ ?_
    any_goals (first | exact True.intro | skip)
    all_goals (repeat (refine Wh.mk fun hcc => ?_))
    all_goals exact SW.ret (show RetQ _ _ _ _ _ _ _ from RetQ.y [0] [.int .i64 (-1)])
theorem cls_ok (x : SeatT) (no : Int) : CallR Try.prog 185 [.nd [.int .i64 x.1, .nd [.int .i64 x.2.1.1, .nd [.nd [.bool x.2.1.2.1.1.1, .nd [.int .i64 x.2.1.2.1.1.2.1.1, .sl .b (x.2.1.2.1.1.2.1.2.1.map Enc.b), .sl .b (x.2.1.2.1.1.2.1.2.2.1.map Enc.b)]], .nd [.bool x.2.1.2.1.2.1.1, .nd [.int .i64 x.2.1.2.1.2.1.2.1.1, .sl .b (x.2.1.2.1.2.1.2.1.2.1.map Enc.b), .sl .b (x.2.1.2.1.2.1.2.1.2.2.1.map Enc.b)]], .nd [.bool x.2.1.2.1.2.2.1.1, .nd [.int .i64 x.2.1.2.1.2.2.1.2.1.1, .sl .b (x.2.1.2.1.2.2.1.2.1.2.1.map Enc.b), .sl .b (x.2.1.2.1.2.2.1.2.1.2.2.1.map Enc.b)]], .nd [.bool x.2.1.2.1.2.2.2.1.1, .nd [.int .i64 x.2.1.2.1.2.2.2.1.2.1.1, .sl .b (x.2.1.2.1.2.2.2.1.2.1.2.1.map Enc.b), .sl .b (x.2.1.2.1.2.2.2.1.2.1.2.2.1.map Enc.b)]]]], .bool x.2.2.1, .bool x.2.2.2.1], .fp (.int .i64 no)] [] (.bool (decide (x.1 = no))) := by
  refine CallR.of_body (n := 8) (rs := [.tmp 3]) hY.ok Try.func185 rfl (by decide) rfl rfl rfl rfl (fun F => ?_)
  have fx := And.intro Y3 (And.intro Y4 (And.intro Y27 (And.intro Y35 (And.intro Y37 (And.intro Y84 (And.intro Y86 (Y192)))))))
  have fy := Nat.add_zero
  refine goK ?_ ?_ ?_ ?_ ?_ ?_ ?_ ?_ ?_ ?_ ?_ ?_ ?_ ?_ ?_ ?_
  any_goals (first | exact True.intro | skip)
  all_goals (repeat (refine Wh.mk fun hcc => ?_))
  all_goals (simp only [tupOf, fixEs]; first | rfl | simp_all)
theorem idxS_ok (no : Int) (l : List ((Int × ((Int × ((((Bool × ((Int × (List Int) × (List Int) × Unit)) × Unit)) × ((Bool × ((Int × (List Int) × (List Int) × Unit)) × Unit)) × ((Bool × ((Int × (List Int) × (List Int) × Unit)) × Unit)) × ((Bool × ((Int × (List Int) × (List Int) × Unit)) × Unit)) × Unit)) × Unit)) × Bool × Bool × Unit))) (hl : Enc.lim 1048576 l) : CallR Try.prog 184 [.sl .b (l.map Enc.b), .fn 185 [] [.fp (.int .i64 no)]] [] (.int .i64 (idxOf (fun x => decide (x.1 = no)) l)) := by
  refine CallR.of_body (n := 19) (rs := [.tmp 4]) hY.ok Try.func184 rfl (by decide) rfl rfl rfl rfl (fun F => ?_)
  have fx := And.intro Y3 (And.intro Y4 (And.intro Y27 (And.intro Y35 (And.intro Y37 (And.intro Y84 (And.intro Y86 (And.intro Y88 (And.intro Y192 (Y224)))))))))
  have hl1 : l.length ≤ 1048576 := hl.1
  have fy := Nat.add_zero
  refine goN ?_ ?_ ?_ ?_ ?_ ?_ ?_ ?_ ?_ ?_ ?_ ?_ ?_ ?_ ?_ ?_
  any_goals (first | exact True.intro | skip)
  skip
  refine SW.loop (fun i : Nat => ⟨[.sl .b (l.map Enc.b), .fn 185 [] [.fp (.int .i64 no)], .undef, .undef, .undef, .undef, .undef, .int .i64 l.length, .int .i64 i, .undef, .undef, .undef, .undef, .undef, .undef, .undef, .undef, .undef, .undef], [[]]⟩)
    (fun n i => n = l.length - i ∧ i ≤ l.length ∧ ∀ j (h : j < l.length), j < i → (fun x => decide (x.1 = no)) l[j] = false) (n := l.length) (x := 0) (Norm.to 0 rfl (by simp [weakL])) ⟨rfl, Nat.zero_le _, fun j _ h => absurd h (Nat.not_lt_zero _)⟩ ?_
  rintro n i ⟨hn, hi, hp⟩
  have fy := Nat.add_zero
  refine goS ?_
  refine SW.cond rfl (fun hc => ?_) (fun hc => ?_)
  · have hlt : i < l.length := by simpa using hc
    have hg : (l.map Enc.b)[i]? = some (.nd [.int .i64 l[i].1, .nd [.int .i64 l[i].2.1.1, .nd [.nd [.bool l[i].2.1.2.1.1.1, .nd [.int .i64 l[i].2.1.2.1.1.2.1.1, .sl .b (l[i].2.1.2.1.1.2.1.2.1.map Enc.b), .sl .b (l[i].2.1.2.1.1.2.1.2.2.1.map Enc.b)]], .nd [.bool l[i].2.1.2.1.2.1.1, .nd [.int .i64 l[i].2.1.2.1.2.1.2.1.1, .sl .b (l[i].2.1.2.1.2.1.2.1.2.1.map Enc.b), .sl .b (l[i].2.1.2.1.2.1.2.1.2.2.1.map Enc.b)]], .nd [.bool l[i].2.1.2.1.2.2.1.1, .nd [.int .i64 l[i].2.1.2.1.2.2.1.2.1.1, .sl .b (l[i].2.1.2.1.2.2.1.2.1.2.1.map Enc.b), .sl .b (l[i].2.1.2.1.2.2.1.2.1.2.2.1.map Enc.b)]], .nd [.bool l[i].2.1.2.1.2.2.2.1.1, .nd [.int .i64 l[i].2.1.2.1.2.2.2.1.2.1.1, .sl .b (l[i].2.1.2.1.2.2.2.1.2.1.2.1.map Enc.b), .sl .b (l[i].2.1.2.1.2.2.2.1.2.1.2.2.1.map Enc.b)]]]], .bool l[i].2.2.1, .bool l[i].2.2.2.1]) := map_get Enc.b l i hlt
    have hC1 := cx [] (cls_ok l[i] no)
    have fy := hg
    refine goK ?_ ?_ ?_ ?_ ?_ ?_ ?_ ?_ ?_ ?_ ?_ ?_ ?_ ?_ ?_ ?_
    any_goals (first | exact True.intro | skip)
    all_goals (repeat (refine Wh.mk fun hcc => ?_))
    · have hx := hcc
      have hx' : (fun x => decide (x.1 = no)) l[i] = true := by simpa using hx
      simp only [tupOf, fixEs, idxOf_eq (fun x => decide (x.1 = no)) l hlt hx' (fun j hj => hp j (by omega) hj)]
    · have hx := hcc
      have hx' : (fun x => decide (x.1 = no)) l[i] = false := by simpa using hx
      refine ⟨n - 1, i + 1, by omega, ⟨by omega, by omega, fun j hj hji => ?_⟩, ?_⟩
      · by_cases he : j = i
        · subst he; exact hx'
        · exact hp j hj (by omega)
      · rw [wrap64 _ (by omega) (by omega)]
        first | exact Norm.to 0 rfl (by simp [weakL]) | exact Norm.to 1 rfl (by simp [weakL]) | exact Norm.to 2 rfl (by simp [weakL])
  · have hge : i = l.length := by
      have : ¬ i < l.length := by simpa using hc
      omega
    have fy := Nat.add_zero
    refine goK ?_ ?_ ?_ ?_ ?_ ?_ ?_ ?_ ?_ ?_ ?_ ?_ ?_ ?_ ?_ ?_
    any_goals (first | exact True.intro | skip)
    all_goals (repeat (refine Wh.mk fun hcc => ?_))
    simp only [tupOf, fixEs, idxOf_none (fun x => decide (x.1 = no)) l (fun j hj => hp j hj (by omega))]
theorem iseated_ok (x : PoolT) (no : Int) (hl : Enc.lim 1048576 x.1) : CallR Try.prog 162 [.nd [.sl .b (x.1.map Enc.b), .int .i64 x.2.1], .int .i64 no] [] (.int .i64 (idxOf (fun t => decide (t.1 = no)) x.1)) := by
  refine CallR.of_body (n := 9) (rs := [.tmp 4]) hY.ok Try.func162 rfl (by decide) rfl rfl rfl rfl (fun F => ?_)
  have fx := And.intro Y3 (And.intro Y4 (And.intro Y27 (And.intro Y35 (And.intro Y37 (And.intro Y84 (And.intro Y86 (And.intro Y88 (And.intro Y90 (And.intro Y192 (Y224))))))))))
  have hC1 := cx [] (idxS_ok no x.1 hl)
  have fy := And.intro nc4 (And.intro nc8 (And.intro wa (tn)))
  refine goR ?_ ?_ ?_ ?_ ?_ ?_ ?_ ?_ ?_ ?_ ?_ ?_ ?_ ?_ ?_ ?_
  any_goals (first | exact True.intro | skip)
  all_goals (repeat (refine Wh.mk fun hcc => ?_))
  all_goals exact SW.ret (show RetQ _ _ _ _ _ _ _ from RetQ.y [0] [.int .i64 (idxOf (fun t => decide (t.1 = no)) x.1)])
end Q6

namespace Q6
open Go Go.Vm Go.Proofs
set_option maxHeartbeats 4000000
set_option synthInstance.maxSize 2000
set_option synthInstance.maxHeartbeats 400000
set_option maxRecDepth 10000
set_option linter.unusedSimpArgs false
set_option linter.unusedVariables false

set_option synthInstance.maxHeartbeats 4000000
set_option synthInstance.maxSize 20000
set_option maxHeartbeats 40000000
theorem tgL_int (σ : Tag → Tag) (A : List Int) : tgL σ (A.map (Enc.b : Int → T)) = A.map Enc.o := tgL_o σ A
theorem tgSlot (s : (Bool × ((Int × (List Int) × (List Int) × Unit)) × Unit)) : T.tg (cst 0) (.nd [.bool s.1, .nd [.int .i64 s.2.1.1, .sl .b (s.2.1.2.1.map Enc.b), .sl .b (s.2.1.2.2.1.map Enc.b)]]) = .nd [.bool s.1, .nd [.int .i64 s.2.1.1, .sl (.r 0) (s.2.1.2.1.map Enc.o), .sl (.r 0) (s.2.1.2.2.1.map Enc.o)]] := by simp only [T.tg, tgL, tgL_int, cst]
theorem tgPage (p : PgT) : (Enc.b p).tg (cst 0) = .nd [.int .i64 p.1, .nd [.nd [.bool p.2.1.1.1, .nd [.int .i64 p.2.1.1.2.1.1, .sl (.r 0) (p.2.1.1.2.1.2.1.map Enc.o), .sl (.r 0) (p.2.1.1.2.1.2.2.1.map Enc.o)]], .nd [.bool p.2.1.2.1.1, .nd [.int .i64 p.2.1.2.1.2.1.1, .sl (.r 0) (p.2.1.2.1.2.1.2.1.map Enc.o), .sl (.r 0) (p.2.1.2.1.2.1.2.2.1.map Enc.o)]], .nd [.bool p.2.1.2.2.1.1, .nd [.int .i64 p.2.1.2.2.1.2.1.1, .sl (.r 0) (p.2.1.2.2.1.2.1.2.1.map Enc.o), .sl (.r 0) (p.2.1.2.2.1.2.1.2.2.1.map Enc.o)]], .nd [.bool p.2.1.2.2.2.1.1, .nd [.int .i64 p.2.1.2.2.2.1.2.1.1, .sl (.r 0) (p.2.1.2.2.2.1.2.1.2.1.map Enc.o), .sl (.r 0) (p.2.1.2.2.2.1.2.1.2.2.1.map Enc.o)]]]] := by
  obtain ⟨l0, ⟨⟨p0, ⟨k0, A0, B0, ⟨⟩⟩, ⟨⟩⟩, ⟨p1, ⟨k1, A1, B1, ⟨⟩⟩, ⟨⟩⟩, ⟨p2, ⟨k2, A2, B2, ⟨⟩⟩, ⟨⟩⟩, ⟨p3, ⟨k3, A3, B3, ⟨⟩⟩, ⟨⟩⟩, ⟨⟩⟩, ⟨⟩⟩ := p
  show T.tg (cst 0) (.nd [.int .i64 l0, .nd [.nd [.bool p0, .nd [.int .i64 k0, .sl .b (A0.map Enc.b), .sl .b (B0.map Enc.b)]], .nd [.bool p1, .nd [.int .i64 k1, .sl .b (A1.map Enc.b), .sl .b (B1.map Enc.b)]], .nd [.bool p2, .nd [.int .i64 k2, .sl .b (A2.map Enc.b), .sl .b (B2.map Enc.b)]], .nd [.bool p3, .nd [.int .i64 k3, .sl .b (A3.map Enc.b), .sl .b (B3.map Enc.b)]]]]) = _
  simp only [T.tg, tgL, tgL_int, cst]
theorem tgSeat (s : SeatT) : (Enc.b s).tg (cst 0) = .nd [.int .i64 s.1, .nd [.int .i64 s.2.1.1, .nd [.nd [.bool s.2.1.2.1.1.1, .nd [.int .i64 s.2.1.2.1.1.2.1.1, .sl (.r 0) (s.2.1.2.1.1.2.1.2.1.map Enc.o), .sl (.r 0) (s.2.1.2.1.1.2.1.2.2.1.map Enc.o)]], .nd [.bool s.2.1.2.1.2.1.1, .nd [.int .i64 s.2.1.2.1.2.1.2.1.1, .sl (.r 0) (s.2.1.2.1.2.1.2.1.2.1.map Enc.o), .sl (.r 0) (s.2.1.2.1.2.1.2.1.2.2.1.map Enc.o)]], .nd [.bool s.2.1.2.1.2.2.1.1, .nd [.int .i64 s.2.1.2.1.2.2.1.2.1.1, .sl (.r 0) (s.2.1.2.1.2.2.1.2.1.2.1.map Enc.o), .sl (.r 0) (s.2.1.2.1.2.2.1.2.1.2.2.1.map Enc.o)]], .nd [.bool s.2.1.2.1.2.2.2.1.1, .nd [.int .i64 s.2.1.2.1.2.2.2.1.2.1.1, .sl (.r 0) (s.2.1.2.1.2.2.2.1.2.1.2.1.map Enc.o), .sl (.r 0) (s.2.1.2.1.2.2.2.1.2.1.2.2.1.map Enc.o)]]]], .bool s.2.2.1, .bool s.2.2.2.1] := by
  show T.tg (cst 0) (.nd [.int .i64 s.1, Enc.b s.2.1, .bool s.2.2.1, .bool s.2.2.2.1]) = _
  simp only [T.tg, tgL, tgPage]
def pg0 : PgT := (0, ((false, (0, [], [], ()), ()), (false, (0, [], [], ()), ()), (false, (0, [], [], ()), ()), (false, (0, [], [], ()), ()), ()), ())
def pgAt (x : EngT) (no : Nat) : PgT := match x.2.1.1.findIdx? (fun t => decide (t.1 = (no : Int))) with | some i => (x.2.1.1[i]?.map (fun s => s.2.1)).getD pg0 | none => (x.1.l[no]?).getD pg0
theorem tRfactst (d : Arr 8 PgT) : sizeL (tgL (cst 0) (d.l.map (Enc.b : PgT → T))) = 136 ∧ nwL (tgL (cst 0) (d.l.map (Enc.b : PgT → T))) = true := ⟨by rw [sizeL_t, d.h]; rfl, nwL_t _ _⟩
theorem pageOf_ok (x : EngT) (no : Nat) (hno : no < 8) (hx : Enc.lim 1048576 x) : CallR Try.prog 110 [.nd [.nd (tgL (cst 0) (x.1.l.map Enc.b)), .nd [.sl (.r 0) (tgL (cst 0) (x.2.1.1.map Enc.b)), .int .i64 x.2.1.2.1], .nd [.sl (.r 0) (tgL (cst 0) (x.2.2.1.1.map Enc.b)), .int .i64 x.2.2.1.2.1], .sl (.r 0) (tgL (cst 0) (x.2.2.2.1.map Enc.b)), .sl (.r 0) (tgL (cst 0) (x.2.2.2.2.1.map Enc.b)), .int .i64 x.2.2.2.2.2.1, .bool x.2.2.2.2.2.2.1], .int .i64 (no : Int)] [] (.nd [.int .i64 (((pgAt x no)).1), .nd [.nd [.bool (((((pgAt x no)).2.1).1).1), .nd [.int .i64 ((((((pgAt x no)).2.1).1).2.1).1), .sl (.r 0) (((((((pgAt x no)).2.1).1).2.1).2.1).map Enc.o), .sl (.r 0) (((((((pgAt x no)).2.1).1).2.1).2.2.1).map Enc.o)]], .nd [.bool (((((pgAt x no)).2.1).2.1).1), .nd [.int .i64 ((((((pgAt x no)).2.1).2.1).2.1).1), .sl (.r 0) (((((((pgAt x no)).2.1).2.1).2.1).2.1).map Enc.o), .sl (.r 0) (((((((pgAt x no)).2.1).2.1).2.1).2.2.1).map Enc.o)]], .nd [.bool (((((pgAt x no)).2.1).2.2.1).1), .nd [.int .i64 ((((((pgAt x no)).2.1).2.2.1).2.1).1), .sl (.r 0) (((((((pgAt x no)).2.1).2.2.1).2.1).2.1).map Enc.o), .sl (.r 0) (((((((pgAt x no)).2.1).2.2.1).2.1).2.2.1).map Enc.o)]], .nd [.bool (((((pgAt x no)).2.1).2.2.2.1).1), .nd [.int .i64 ((((((pgAt x no)).2.1).2.2.2.1).2.1).1), .sl (.r 0) (((((((pgAt x no)).2.1).2.2.2.1).2.1).2.1).map Enc.o), .sl (.r 0) (((((((pgAt x no)).2.1).2.2.2.1).2.1).2.2.1).map Enc.o)]]]]) := by
  refine CallR.of_body (n := 23) (rs := [.cell 4 86]) hY.ok Try.func110 rfl (by decide) (by simp [ioSizes, ioSz]) rfl rfl rfl (fun F => ?_)
  have fx := And.intro Y1 (And.intro Y3 (And.intro Y4 (And.intro Y27 (And.intro Y35 (And.intro Y37 (And.intro Y84 (And.intro Y86 (And.intro Y87 (And.intro Y88 (And.intro Y90 (And.intro Y91 (And.intro Y93 (And.intro Y94 (And.intro Y95 (And.intro Y97 (And.intro Y165 (And.intro Y169 (And.intro Y192 (Y197)))))))))))))))))))
  simp only [entryS, thawAL, thawA, thawAL_t, List.append_nil, List.nil_append, List.length_nil, Nat.add_zero]
  have hd := tRfactst x.1
  have hdl := x.1.h
  have c1 := iseated_ok x.2.1 (no : Int) hx.2.1.1
  have hlm : (tgL (cst 0) (x.1.l.map (Enc.b : PgT → T))).length = 8 := by rw [len_t, hdl]
  have hno8 : (no : Int) < 8 := by omega
  have hs1 : sizeL ((tgL (cst 0) (x.1.l.map (Enc.b : PgT → T))).take no) = no * 17 := sizeL_taket _ _ _ (by omega)
  cases hf : x.2.1.1.findIdx? (fun t => decide (t.1 = (no : Int))) with
  | none =>
    have hi : idxOf (fun t => decide (t.1 = (no : Int))) x.2.1.1 = -1 := by simp [idxOf, hf]
    rw [hi] at c1
    have hge : decide ((-1 : Int) ≥ 0) = false := rfl
    have hlt : no < x.1.l.length := by omega
    have hp : pgAt x no = x.1.l[no] := by simp [pgAt, hf, hlt]
    have hg : (tgL (cst 0) (x.1.l.map Enc.b))[no]? = some (.nd [.int .i64 (((pgAt x no)).1), .nd [.nd [.bool (((((pgAt x no)).2.1).1).1), .nd [.int .i64 ((((((pgAt x no)).2.1).1).2.1).1), .sl (.r 0) (((((((pgAt x no)).2.1).1).2.1).2.1).map Enc.o), .sl (.r 0) (((((((pgAt x no)).2.1).1).2.1).2.2.1).map Enc.o)]], .nd [.bool (((((pgAt x no)).2.1).2.1).1), .nd [.int .i64 ((((((pgAt x no)).2.1).2.1).2.1).1), .sl (.r 0) (((((((pgAt x no)).2.1).2.1).2.1).2.1).map Enc.o), .sl (.r 0) (((((((pgAt x no)).2.1).2.1).2.1).2.2.1).map Enc.o)]], .nd [.bool (((((pgAt x no)).2.1).2.2.1).1), .nd [.int .i64 ((((((pgAt x no)).2.1).2.2.1).2.1).1), .sl (.r 0) (((((((pgAt x no)).2.1).2.2.1).2.1).2.1).map Enc.o), .sl (.r 0) (((((((pgAt x no)).2.1).2.2.1).2.1).2.2.1).map Enc.o)]], .nd [.bool (((((pgAt x no)).2.1).2.2.2.1).1), .nd [.int .i64 ((((((pgAt x no)).2.1).2.2.2.1).2.1).1), .sl (.r 0) (((((((pgAt x no)).2.1).2.2.2.1).2.1).2.1).map Enc.o), .sl (.r 0) (((((((pgAt x no)).2.1).2.2.2.1).2.1).2.2.1).map Enc.o)]]]]) := by rw [get_t _ _ _ hlt, tgPage, hp]
    generalize pgAt x no = p at *
    have hdl8 : no < 8 := hno
    have hC1 := cx [] (c1)
    have fy := And.intro nc4 (And.intro nc8 (And.intro wa (And.intro tn (And.intro hd (And.intro hlm (And.intro hno8 (And.intro hs1 (And.intro hge (And.intro hg (And.intro hdl8 (Nat.zero_add)))))))))))
    refine goR ?_ ?_ ?_ ?_ ?_ ?_ ?_ ?_ ?_ ?_ ?_ ?_ ?_ ?_ ?_ ?_
    any_goals (first | exact True.intro | skip)
    all_goals (repeat (refine Wh.mk fun hcc => ?_))
    all_goals exact SW.ret (show RetQ _ _ _ _ _ _ _ from RetQ.y [0] [.nd [.int .i64 p.1, .nd [.nd [.bool p.2.1.1.1, .nd [.int .i64 p.2.1.1.2.1.1, .sl (.r 0) (p.2.1.1.2.1.2.1.map Enc.o), .sl (.r 0) (p.2.1.1.2.1.2.2.1.map Enc.o)]], .nd [.bool p.2.1.2.1.1, .nd [.int .i64 p.2.1.2.1.2.1.1, .sl (.r 0) (p.2.1.2.1.2.1.2.1.map Enc.o), .sl (.r 0) (p.2.1.2.1.2.1.2.2.1.map Enc.o)]], .nd [.bool p.2.1.2.2.1.1, .nd [.int .i64 p.2.1.2.2.1.2.1.1, .sl (.r 0) (p.2.1.2.2.1.2.1.2.1.map Enc.o), .sl (.r 0) (p.2.1.2.2.1.2.1.2.2.1.map Enc.o)]], .nd [.bool p.2.1.2.2.2.1.1, .nd [.int .i64 p.2.1.2.2.2.1.2.1.1, .sl (.r 0) (p.2.1.2.2.2.1.2.1.2.1.map Enc.o), .sl (.r 0) (p.2.1.2.2.2.1.2.1.2.2.1.map Enc.o)]]]]] (rn := by simp [retM, loadM, subM, T.get, T.offs, RM.bind, RM.run, Heap.at, List.getElem?_cons_succ, List.getElem?_cons_zero, List.getD_cons_succ, List.getD_cons_zero, T.nw, T.size, T.isNd, TyI.agg, Ty.agg, nwL, sizeL, nwL_tR, fx, hd]; first | done | rfl))
  | some i =>
    have hi : idxOf (fun t => decide (t.1 = (no : Int))) x.2.1.1 = (i : Int) := by simp [idxOf, hf]
    rw [hi] at c1
    have hge : decide ((i : Int) ≥ 0) = true := by simp
    have hlt : i < x.2.1.1.length := (List.findIdx?_eq_some_iff_getElem.1 hf).1
    have hltI : (i : Int) < (x.2.1.1.length : Int) := by omega
    have hp : pgAt x no = (x.2.1.1[i]).2.1 := by simp [pgAt, hf, hlt]
    have hg : (tgL (cst 0) (x.2.1.1.map Enc.b))[i]? = some (.nd [.int .i64 (((x.2.1.1[i])).1), .nd [.int .i64 ((((x.2.1.1[i])).2.1).1), .nd [.nd [.bool ((((((x.2.1.1[i])).2.1).2.1).1).1), .nd [.int .i64 (((((((x.2.1.1[i])).2.1).2.1).1).2.1).1), .sl (.r 0) ((((((((x.2.1.1[i])).2.1).2.1).1).2.1).2.1).map Enc.o), .sl (.r 0) ((((((((x.2.1.1[i])).2.1).2.1).1).2.1).2.2.1).map Enc.o)]], .nd [.bool ((((((x.2.1.1[i])).2.1).2.1).2.1).1), .nd [.int .i64 (((((((x.2.1.1[i])).2.1).2.1).2.1).2.1).1), .sl (.r 0) ((((((((x.2.1.1[i])).2.1).2.1).2.1).2.1).2.1).map Enc.o), .sl (.r 0) ((((((((x.2.1.1[i])).2.1).2.1).2.1).2.1).2.2.1).map Enc.o)]], .nd [.bool ((((((x.2.1.1[i])).2.1).2.1).2.2.1).1), .nd [.int .i64 (((((((x.2.1.1[i])).2.1).2.1).2.2.1).2.1).1), .sl (.r 0) ((((((((x.2.1.1[i])).2.1).2.1).2.2.1).2.1).2.1).map Enc.o), .sl (.r 0) ((((((((x.2.1.1[i])).2.1).2.1).2.2.1).2.1).2.2.1).map Enc.o)]], .nd [.bool ((((((x.2.1.1[i])).2.1).2.1).2.2.2.1).1), .nd [.int .i64 (((((((x.2.1.1[i])).2.1).2.1).2.2.2.1).2.1).1), .sl (.r 0) ((((((((x.2.1.1[i])).2.1).2.1).2.2.2.1).2.1).2.1).map Enc.o), .sl (.r 0) ((((((((x.2.1.1[i])).2.1).2.1).2.2.2.1).2.1).2.2.1).map Enc.o)]]]], .bool (((x.2.1.1[i])).2.2.1), .bool (((x.2.1.1[i])).2.2.2.1)]) := by rw [get_t _ _ _ hlt, tgSeat]
    rw [hp]
    have hlm2 : (tgL (cst 0) (x.2.1.1.map (Enc.b : SeatT → T))).length = x.2.1.1.length := len_t _ _
    generalize x.2.1.1[i] = s at *
    have hC1 := cx [] (c1)
    have fy := And.intro nc4 (And.intro nc8 (And.intro wa (And.intro tn (And.intro hd (And.intro hlm (And.intro hlm2 (And.intro hltI (And.intro hge (And.intro hg (Nat.zero_add))))))))))
    refine goR ?_ ?_ ?_ ?_ ?_ ?_ ?_ ?_ ?_ ?_ ?_ ?_ ?_ ?_ ?_ ?_
    any_goals (first | exact True.intro | skip)
    all_goals (repeat (refine Wh.mk fun hcc => ?_))
    all_goals exact SW.ret (show RetQ _ _ _ _ _ _ _ from RetQ.y [0] [.nd [.int .i64 s.2.1.1, .nd [.nd [.bool s.2.1.2.1.1.1, .nd [.int .i64 s.2.1.2.1.1.2.1.1, .sl (.r 0) (s.2.1.2.1.1.2.1.2.1.map Enc.o), .sl (.r 0) (s.2.1.2.1.1.2.1.2.2.1.map Enc.o)]], .nd [.bool s.2.1.2.1.2.1.1, .nd [.int .i64 s.2.1.2.1.2.1.2.1.1, .sl (.r 0) (s.2.1.2.1.2.1.2.1.2.1.map Enc.o), .sl (.r 0) (s.2.1.2.1.2.1.2.1.2.2.1.map Enc.o)]], .nd [.bool s.2.1.2.1.2.2.1.1, .nd [.int .i64 s.2.1.2.1.2.2.1.2.1.1, .sl (.r 0) (s.2.1.2.1.2.2.1.2.1.2.1.map Enc.o), .sl (.r 0) (s.2.1.2.1.2.2.1.2.1.2.2.1.map Enc.o)]], .nd [.bool s.2.1.2.1.2.2.2.1.1, .nd [.int .i64 s.2.1.2.1.2.2.2.1.2.1.1, .sl (.r 0) (s.2.1.2.1.2.2.2.1.2.1.2.1.map Enc.o), .sl (.r 0) (s.2.1.2.1.2.2.2.1.2.1.2.2.1.map Enc.o)]]]]] (rn := by simp [retM, loadM, subM, T.get, T.offs, RM.bind, RM.run, Heap.at, List.getElem?_cons_succ, List.getElem?_cons_zero, List.getD_cons_succ, List.getD_cons_zero, T.nw, T.size, T.isNd, TyI.agg, Ty.agg, nwL, sizeL, nwL_tR, fx, hd]; first | done | rfl))
def slAt (x : EngT) (no r : Nat) : (Bool × ((Int × (List Int) × (List Int) × Unit)) × Unit) := match r with | 0 => (pgAt x no).2.1.1 | 1 => (pgAt x no).2.1.2.1 | 2 => (pgAt x no).2.1.2.2.1 | _ => (pgAt x no).2.1.2.2.2.1
theorem l13At_ok (x : EngT) (no r : Nat) (hno : no < 8) (hr : r < 4) (hx : Enc.lim 1048576 x) : CallR Try.prog 102 [.nd [.nd (tgL (cst 0) (x.1.l.map Enc.b)), .nd [.sl (.r 0) (tgL (cst 0) (x.2.1.1.map Enc.b)), .int .i64 x.2.1.2.1], .nd [.sl (.r 0) (tgL (cst 0) (x.2.2.1.1.map Enc.b)), .int .i64 x.2.2.1.2.1], .sl (.r 0) (tgL (cst 0) (x.2.2.2.1.map Enc.b)), .sl (.r 0) (tgL (cst 0) (x.2.2.2.2.1.map Enc.b)), .int .i64 x.2.2.2.2.2.1, .bool x.2.2.2.2.2.2.1], .int .i64 ((4 * no + r : Nat) : Int)] [] (.nd [.bool (((slAt x no r)).1), .nd [.int .i64 ((((slAt x no r)).2.1).1), .sl (.r 0) (((((slAt x no r)).2.1).2.1).map Enc.o), .sl (.r 0) (((((slAt x no r)).2.1).2.2.1).map Enc.o)]]) := by
  refine CallR.of_body (n := 34) (rs := [.cell 4 37]) hY.ok Try.func102 rfl (by decide) (by simp [ioSizes, ioSz]) rfl rfl rfl (fun F => ?_)
  have fx := And.intro Y1 (And.intro Y3 (And.intro Y4 (And.intro Y27 (And.intro Y35 (And.intro Y37 (And.intro Y84 (And.intro Y86 (And.intro Y87 (And.intro Y88 (And.intro Y90 (And.intro Y91 (And.intro Y93 (And.intro Y94 (And.intro Y95 (And.intro Y97 (And.intro Y165 (And.intro Y169 (And.intro Y192 (Y197)))))))))))))))))))
  simp only [entryS, thawAL, thawA, thawAL_t, List.append_nil, List.nil_append, List.length_nil, Nat.add_zero]
  have hq : Int.tdiv ((4 * no + r : Nat) : Int) 4 = (no : Int) := by rw [Int.tdiv_eq_ediv_of_nonneg (by omega)]; omega
  have hm : Int.tmod ((4 * no + r : Nat) : Int) 4 = (r : Int) := by rw [Int.tmod_eq_emod_of_nonneg (by omega)]; omega
  have hwn : IntKind.i64.wrap (no : Int) = (no : Int) := wrap64 _ (by omega) (by omega)
  have hwr : IntKind.i64.wrap (r : Int) = (r : Int) := wrap64 _ (by omega) (by omega)
  unfold slAt
  generalize ((4 * no + r : Nat) : Int) = oid at *
  have hd := tRfactst x.1
  have hdl := x.1.h
  have c1 := seated_ok x.2.1 (no : Int) hx.2.1.1.1
  have hlm : (tgL (cst 0) (x.1.l.map (Enc.b : PgT → T))).length = 8 := by rw [len_t, hdl]
  have hno8 : (no : Int) < 8 := by omega
  have hs1 : sizeL ((tgL (cst 0) (x.1.l.map (Enc.b : PgT → T))).take no) = no * 17 := sizeL_taket _ _ _ (by omega)
  cases hf : x.2.1.1.findIdx? (fun t => decide (t.1 = (no : Int))) with
  | none =>
    have hi : idxOf (fun t => decide (t.1 = (no : Int))) x.2.1.1 = -1 := by simp [idxOf, hf]
    rw [hi] at c1
    have hge : decide ((-1 : Int) ≥ 0) = false := rfl
    have hlt : no < x.1.l.length := by omega
    have hp : pgAt x no = x.1.l[no] := by simp [pgAt, hf, hlt]
    have hg : (tgL (cst 0) (x.1.l.map Enc.b))[no]? = some (.nd [.int .i64 (((pgAt x no)).1), .nd [.nd [.bool (((((pgAt x no)).2.1).1).1), .nd [.int .i64 ((((((pgAt x no)).2.1).1).2.1).1), .sl (.r 0) (((((((pgAt x no)).2.1).1).2.1).2.1).map Enc.o), .sl (.r 0) (((((((pgAt x no)).2.1).1).2.1).2.2.1).map Enc.o)]], .nd [.bool (((((pgAt x no)).2.1).2.1).1), .nd [.int .i64 ((((((pgAt x no)).2.1).2.1).2.1).1), .sl (.r 0) (((((((pgAt x no)).2.1).2.1).2.1).2.1).map Enc.o), .sl (.r 0) (((((((pgAt x no)).2.1).2.1).2.1).2.2.1).map Enc.o)]], .nd [.bool (((((pgAt x no)).2.1).2.2.1).1), .nd [.int .i64 ((((((pgAt x no)).2.1).2.2.1).2.1).1), .sl (.r 0) (((((((pgAt x no)).2.1).2.2.1).2.1).2.1).map Enc.o), .sl (.r 0) (((((((pgAt x no)).2.1).2.2.1).2.1).2.2.1).map Enc.o)]], .nd [.bool (((((pgAt x no)).2.1).2.2.2.1).1), .nd [.int .i64 ((((((pgAt x no)).2.1).2.2.2.1).2.1).1), .sl (.r 0) (((((((pgAt x no)).2.1).2.2.2.1).2.1).2.1).map Enc.o), .sl (.r 0) (((((((pgAt x no)).2.1).2.2.2.1).2.1).2.2.1).map Enc.o)]]]]) := by rw [get_t _ _ _ hlt, tgPage, hp]
    generalize pgAt x no = p at *
    have hdl8 : no < 8 := hno
    have hr4 : r = 0 ∨ r = 1 ∨ r = 2 ∨ r = 3 := by omega
    rcases hr4 with rfl | rfl | rfl | rfl
    · replace hm : Int.tmod oid 4 = 0 := hm
      replace hwr : IntKind.i64.wrap 0 = 0 := hwr
      have hC1 := cx [] (c1)
      have fy := And.intro nc4 (And.intro nc8 (And.intro wa (And.intro tn (And.intro hd (And.intro hlm (And.intro hno8 (And.intro hs1 (And.intro hge (And.intro hg (And.intro hdl8 (And.intro Nat.zero_add (And.intro hq (And.intro hm (And.intro hwn (hwr)))))))))))))))
      refine goR ?_ ?_ ?_ ?_ ?_ ?_ ?_ ?_ ?_ ?_ ?_ ?_ ?_ ?_ ?_ ?_
      any_goals (first | exact True.intro | skip)
      all_goals (repeat (refine Wh.mk fun hcc => ?_))
      all_goals exact SW.ret (show RetQ _ _ _ _ _ _ _ from RetQ.y [0] [.nd [.bool p.2.1.1.1, .nd [.int .i64 p.2.1.1.2.1.1, .sl (.r 0) (p.2.1.1.2.1.2.1.map Enc.o), .sl (.r 0) (p.2.1.1.2.1.2.2.1.map Enc.o)]]] (rn := by simp [retM, loadM, subM, T.get, T.offs, RM.bind, RM.run, Heap.at, List.getElem?_cons_succ, List.getElem?_cons_zero, List.getD_cons_succ, List.getD_cons_zero, T.nw, T.size, T.isNd, TyI.agg, Ty.agg, nwL, sizeL, nwL_tR, fx, hd]; first | done | rfl))
    · replace hm : Int.tmod oid 4 = 1 := hm
      replace hwr : IntKind.i64.wrap 1 = 1 := hwr
      have hC1 := cx [] (c1)
      have fy := And.intro nc4 (And.intro nc8 (And.intro wa (And.intro tn (And.intro hd (And.intro hlm (And.intro hno8 (And.intro hs1 (And.intro hge (And.intro hg (And.intro hdl8 (And.intro Nat.zero_add (And.intro hq (And.intro hm (And.intro hwn (hwr)))))))))))))))
      refine goR ?_ ?_ ?_ ?_ ?_ ?_ ?_ ?_ ?_ ?_ ?_ ?_ ?_ ?_ ?_ ?_
      any_goals (first | exact True.intro | skip)
      all_goals (repeat (refine Wh.mk fun hcc => ?_))
      all_goals exact SW.ret (show RetQ _ _ _ _ _ _ _ from RetQ.y [0] [.nd [.bool p.2.1.2.1.1, .nd [.int .i64 p.2.1.2.1.2.1.1, .sl (.r 0) (p.2.1.2.1.2.1.2.1.map Enc.o), .sl (.r 0) (p.2.1.2.1.2.1.2.2.1.map Enc.o)]]] (rn := by simp [retM, loadM, subM, T.get, T.offs, RM.bind, RM.run, Heap.at, List.getElem?_cons_succ, List.getElem?_cons_zero, List.getD_cons_succ, List.getD_cons_zero, T.nw, T.size, T.isNd, TyI.agg, Ty.agg, nwL, sizeL, nwL_tR, fx, hd]; first | done | rfl))
    · replace hm : Int.tmod oid 4 = 2 := hm
      replace hwr : IntKind.i64.wrap 2 = 2 := hwr
      have hC1 := cx [] (c1)
      have fy := And.intro nc4 (And.intro nc8 (And.intro wa (And.intro tn (And.intro hd (And.intro hlm (And.intro hno8 (And.intro hs1 (And.intro hge (And.intro hg (And.intro hdl8 (And.intro Nat.zero_add (And.intro hq (And.intro hm (And.intro hwn (hwr)))))))))))))))
      refine goR ?_ ?_ ?_ ?_ ?_ ?_ ?_ ?_ ?_ ?_ ?_ ?_ ?_ ?_ ?_ ?_
      any_goals (first | exact True.intro | skip)
      all_goals (repeat (refine Wh.mk fun hcc => ?_))
      all_goals exact SW.ret (show RetQ _ _ _ _ _ _ _ from RetQ.y [0] [.nd [.bool p.2.1.2.2.1.1, .nd [.int .i64 p.2.1.2.2.1.2.1.1, .sl (.r 0) (p.2.1.2.2.1.2.1.2.1.map Enc.o), .sl (.r 0) (p.2.1.2.2.1.2.1.2.2.1.map Enc.o)]]] (rn := by simp [retM, loadM, subM, T.get, T.offs, RM.bind, RM.run, Heap.at, List.getElem?_cons_succ, List.getElem?_cons_zero, List.getD_cons_succ, List.getD_cons_zero, T.nw, T.size, T.isNd, TyI.agg, Ty.agg, nwL, sizeL, nwL_tR, fx, hd]; first | done | rfl))
    · replace hm : Int.tmod oid 4 = 3 := hm
      replace hwr : IntKind.i64.wrap 3 = 3 := hwr
      have hC1 := cx [] (c1)
      have fy := And.intro nc4 (And.intro nc8 (And.intro wa (And.intro tn (And.intro hd (And.intro hlm (And.intro hno8 (And.intro hs1 (And.intro hge (And.intro hg (And.intro hdl8 (And.intro Nat.zero_add (And.intro hq (And.intro hm (And.intro hwn (hwr)))))))))))))))
      refine goR ?_ ?_ ?_ ?_ ?_ ?_ ?_ ?_ ?_ ?_ ?_ ?_ ?_ ?_ ?_ ?_
      any_goals (first | exact True.intro | skip)
      all_goals (repeat (refine Wh.mk fun hcc => ?_))
      all_goals exact SW.ret (show RetQ _ _ _ _ _ _ _ from RetQ.y [0] [.nd [.bool p.2.1.2.2.2.1.1, .nd [.int .i64 p.2.1.2.2.2.1.2.1.1, .sl (.r 0) (p.2.1.2.2.2.1.2.1.2.1.map Enc.o), .sl (.r 0) (p.2.1.2.2.2.1.2.1.2.2.1.map Enc.o)]]] (rn := by simp [retM, loadM, subM, T.get, T.offs, RM.bind, RM.run, Heap.at, List.getElem?_cons_succ, List.getElem?_cons_zero, List.getD_cons_succ, List.getD_cons_zero, T.nw, T.size, T.isNd, TyI.agg, Ty.agg, nwL, sizeL, nwL_tR, fx, hd]; first | done | rfl))
  | some i =>
    have hi : idxOf (fun t => decide (t.1 = (no : Int))) x.2.1.1 = (i : Int) := by simp [idxOf, hf]
    rw [hi] at c1
    have hge : decide ((i : Int) ≥ 0) = true := by simp
    have hlt : i < x.2.1.1.length := (List.findIdx?_eq_some_iff_getElem.1 hf).1
    have hltI : (i : Int) < (x.2.1.1.length : Int) := by omega
    have hp : pgAt x no = (x.2.1.1[i]).2.1 := by simp [pgAt, hf, hlt]
    have hg : (tgL (cst 0) (x.2.1.1.map Enc.b))[i]? = some (.nd [.int .i64 (((x.2.1.1[i])).1), .nd [.int .i64 ((((x.2.1.1[i])).2.1).1), .nd [.nd [.bool ((((((x.2.1.1[i])).2.1).2.1).1).1), .nd [.int .i64 (((((((x.2.1.1[i])).2.1).2.1).1).2.1).1), .sl (.r 0) ((((((((x.2.1.1[i])).2.1).2.1).1).2.1).2.1).map Enc.o), .sl (.r 0) ((((((((x.2.1.1[i])).2.1).2.1).1).2.1).2.2.1).map Enc.o)]], .nd [.bool ((((((x.2.1.1[i])).2.1).2.1).2.1).1), .nd [.int .i64 (((((((x.2.1.1[i])).2.1).2.1).2.1).2.1).1), .sl (.r 0) ((((((((x.2.1.1[i])).2.1).2.1).2.1).2.1).2.1).map Enc.o), .sl (.r 0) ((((((((x.2.1.1[i])).2.1).2.1).2.1).2.1).2.2.1).map Enc.o)]], .nd [.bool ((((((x.2.1.1[i])).2.1).2.1).2.2.1).1), .nd [.int .i64 (((((((x.2.1.1[i])).2.1).2.1).2.2.1).2.1).1), .sl (.r 0) ((((((((x.2.1.1[i])).2.1).2.1).2.2.1).2.1).2.1).map Enc.o), .sl (.r 0) ((((((((x.2.1.1[i])).2.1).2.1).2.2.1).2.1).2.2.1).map Enc.o)]], .nd [.bool ((((((x.2.1.1[i])).2.1).2.1).2.2.2.1).1), .nd [.int .i64 (((((((x.2.1.1[i])).2.1).2.1).2.2.2.1).2.1).1), .sl (.r 0) ((((((((x.2.1.1[i])).2.1).2.1).2.2.2.1).2.1).2.1).map Enc.o), .sl (.r 0) ((((((((x.2.1.1[i])).2.1).2.1).2.2.2.1).2.1).2.2.1).map Enc.o)]]]], .bool (((x.2.1.1[i])).2.2.1), .bool (((x.2.1.1[i])).2.2.2.1)]) := by rw [get_t _ _ _ hlt, tgSeat]
    rw [hp]
    have hlm2 : (tgL (cst 0) (x.2.1.1.map (Enc.b : SeatT → T))).length = x.2.1.1.length := len_t _ _
    generalize x.2.1.1[i] = s at *
    have hr4 : r = 0 ∨ r = 1 ∨ r = 2 ∨ r = 3 := by omega
    rcases hr4 with rfl | rfl | rfl | rfl
    · replace hm : Int.tmod oid 4 = 0 := hm
      replace hwr : IntKind.i64.wrap 0 = 0 := hwr
      have hC1 := cx [] (c1)
      have fy := And.intro nc4 (And.intro nc8 (And.intro wa (And.intro tn (And.intro hd (And.intro hlm (And.intro hlm2 (And.intro hltI (And.intro hge (And.intro hg (And.intro Nat.zero_add (And.intro hq (And.intro hm (And.intro hwn (hwr))))))))))))))
      refine goR ?_ ?_ ?_ ?_ ?_ ?_ ?_ ?_ ?_ ?_ ?_ ?_ ?_ ?_ ?_ ?_
      any_goals (first | exact True.intro | skip)
      all_goals (repeat (refine Wh.mk fun hcc => ?_))
      all_goals exact SW.ret (show RetQ _ _ _ _ _ _ _ from RetQ.y [0] [.nd [.bool s.2.1.2.1.1.1, .nd [.int .i64 s.2.1.2.1.1.2.1.1, .sl (.r 0) (s.2.1.2.1.1.2.1.2.1.map Enc.o), .sl (.r 0) (s.2.1.2.1.1.2.1.2.2.1.map Enc.o)]]] (rn := by simp [retM, loadM, subM, T.get, T.offs, RM.bind, RM.run, Heap.at, List.getElem?_cons_succ, List.getElem?_cons_zero, List.getD_cons_succ, List.getD_cons_zero, T.nw, T.size, T.isNd, TyI.agg, Ty.agg, nwL, sizeL, nwL_tR, fx, hd]; first | done | rfl))
    · replace hm : Int.tmod oid 4 = 1 := hm
      replace hwr : IntKind.i64.wrap 1 = 1 := hwr
      have hC1 := cx [] (c1)
      have fy := And.intro nc4 (And.intro nc8 (And.intro wa (And.intro tn (And.intro hd (And.intro hlm (And.intro hlm2 (And.intro hltI (And.intro hge (And.intro hg (And.intro Nat.zero_add (And.intro hq (And.intro hm (And.intro hwn (hwr))))))))))))))
      refine goR ?_ ?_ ?_ ?_ ?_ ?_ ?_ ?_ ?_ ?_ ?_ ?_ ?_ ?_ ?_ ?_
      any_goals (first | exact True.intro | skip)
      all_goals (repeat (refine Wh.mk fun hcc => ?_))
      all_goals exact SW.ret (show RetQ _ _ _ _ _ _ _ from RetQ.y [0] [.nd [.bool s.2.1.2.1.2.1.1, .nd [.int .i64 s.2.1.2.1.2.1.2.1.1, .sl (.r 0) (s.2.1.2.1.2.1.2.1.2.1.map Enc.o), .sl (.r 0) (s.2.1.2.1.2.1.2.1.2.2.1.map Enc.o)]]] (rn := by simp [retM, loadM, subM, T.get, T.offs, RM.bind, RM.run, Heap.at, List.getElem?_cons_succ, List.getElem?_cons_zero, List.getD_cons_succ, List.getD_cons_zero, T.nw, T.size, T.isNd, TyI.agg, Ty.agg, nwL, sizeL, nwL_tR, fx, hd]; first | done | rfl))
    · replace hm : Int.tmod oid 4 = 2 := hm
      replace hwr : IntKind.i64.wrap 2 = 2 := hwr
      have hC1 := cx [] (c1)
      have fy := And.intro nc4 (And.intro nc8 (And.intro wa (And.intro tn (And.intro hd (And.intro hlm (And.intro hlm2 (And.intro hltI (And.intro hge (And.intro hg (And.intro Nat.zero_add (And.intro hq (And.intro hm (And.intro hwn (hwr))))))))))))))
      refine goR ?_ ?_ ?_ ?_ ?_ ?_ ?_ ?_ ?_ ?_ ?_ ?_ ?_ ?_ ?_ ?_
      any_goals (first | exact True.intro | skip)
      all_goals (repeat (refine Wh.mk fun hcc => ?_))
      all_goals exact SW.ret (show RetQ _ _ _ _ _ _ _ from RetQ.y [0] [.nd [.bool s.2.1.2.1.2.2.1.1, .nd [.int .i64 s.2.1.2.1.2.2.1.2.1.1, .sl (.r 0) (s.2.1.2.1.2.2.1.2.1.2.1.map Enc.o), .sl (.r 0) (s.2.1.2.1.2.2.1.2.1.2.2.1.map Enc.o)]]] (rn := by simp [retM, loadM, subM, T.get, T.offs, RM.bind, RM.run, Heap.at, List.getElem?_cons_succ, List.getElem?_cons_zero, List.getD_cons_succ, List.getD_cons_zero, T.nw, T.size, T.isNd, TyI.agg, Ty.agg, nwL, sizeL, nwL_tR, fx, hd]; first | done | rfl))
    · replace hm : Int.tmod oid 4 = 3 := hm
      replace hwr : IntKind.i64.wrap 3 = 3 := hwr
      have hC1 := cx [] (c1)
      have fy := And.intro nc4 (And.intro nc8 (And.intro wa (And.intro tn (And.intro hd (And.intro hlm (And.intro hlm2 (And.intro hltI (And.intro hge (And.intro hg (And.intro Nat.zero_add (And.intro hq (And.intro hm (And.intro hwn (hwr))))))))))))))
      refine goR ?_ ?_ ?_ ?_ ?_ ?_ ?_ ?_ ?_ ?_ ?_ ?_ ?_ ?_ ?_ ?_
      any_goals (first | exact True.intro | skip)
      all_goals (repeat (refine Wh.mk fun hcc => ?_))
      all_goals exact SW.ret (show RetQ _ _ _ _ _ _ _ from RetQ.y [0] [.nd [.bool s.2.1.2.1.2.2.2.1.1, .nd [.int .i64 s.2.1.2.1.2.2.2.1.2.1.1, .sl (.r 0) (s.2.1.2.1.2.2.2.1.2.1.2.1.map Enc.o), .sl (.r 0) (s.2.1.2.1.2.2.2.1.2.1.2.2.1.map Enc.o)]]] (rn := by simp [retM, loadM, subM, T.get, T.offs, RM.bind, RM.run, Heap.at, List.getElem?_cons_succ, List.getElem?_cons_zero, List.getD_cons_succ, List.getD_cons_zero, T.nw, T.size, T.isNd, TyI.agg, Ty.agg, nwL, sizeL, nwL_tR, fx, hd]; first | done | rfl))
end Q6

namespace Q6
open Go Go.Vm Go.Proofs
set_option maxHeartbeats 4000000
set_option synthInstance.maxSize 2000
set_option synthInstance.maxHeartbeats 400000
set_option maxRecDepth 10000
set_option linter.unusedSimpArgs false
set_option linter.unusedVariables false

set_option synthInstance.maxHeartbeats 4000000
set_option synthInstance.maxSize 20000
theorem tRfacts (d : Arr 8 PgT) : (∀ e j, thawAL e (d.l.map Enc.o) j = (tR e j d.l, tO d.l)) ∧ (∀ e j, sizeL (tR e j d.l) = 136) ∧ (∀ e j, nwL (tR e j d.l) = true) ∧ (tO d.l).length = 64 ∧ sizeL (d.l.map (Enc.b : PgT → T)) = 136 ∧ nwL (d.l.map (Enc.b : PgT → T)) = true :=
  ⟨fun e j => thawAL_tR e j d.l, fun e j => by rw [sizeL_tR, d.h]; rfl, fun e j => nwL_tR e j d.l, by rw [tO_len, d.h]; rfl, by rw [sizeL_b, d.h]; rfl, nwLb d.l⟩
theorem laws_toEngine_ok (x : (((Arr 8 ((Int × ((((Bool × ((Int × (List Int) × (List Int) × Unit)) × Unit)) × ((Bool × ((Int × (List Int) × (List Int) × Unit)) × Unit)) × ((Bool × ((Int × (List Int) × (List Int) × Unit)) × Unit)) × ((Bool × ((Int × (List Int) × (List Int) × Unit)) × Unit)) × Unit)) × Unit)))) × (((List ((Int × ((Int × ((((Bool × ((Int × (List Int) × (List Int) × Unit)) × Unit)) × ((Bool × ((Int × (List Int) × (List Int) × Unit)) × Unit)) × ((Bool × ((Int × (List Int) × (List Int) × Unit)) × Unit)) × ((Bool × ((Int × (List Int) × (List Int) × Unit)) × Unit)) × Unit)) × Unit)) × Bool × Bool × Unit))) × Int × Unit)) × (((List ((Int × Int × Int × Int × Int × ((Bool × ((Int × (List Int) × (List Int) × Unit)) × Unit)) × ((Bool × ((Int × (List Int) × (List Int) × Unit)) × Unit)) × Int × (List ((Int × Int × Bool × Unit))) × Unit))) × Int × Unit)) × (List ((Int × Int × Bool × Unit))) × (List ((Int × Int × Unit))) × Int × Bool × Unit)) (hx : Enc.lim 1048576 x) : CallR Try.prog 40 [.nd [.nd (x.1.l.map Enc.b), .nd [.sl .b (x.2.1.1.map Enc.b), .int .i64 x.2.1.2.1], .nd [.sl .b (x.2.2.1.1.map Enc.b), .int .i64 x.2.2.1.2.1], .sl .b (x.2.2.2.1.map Enc.b), .sl .b (x.2.2.2.2.1.map Enc.b), .int .i64 x.2.2.2.2.2.1, .bool x.2.2.2.2.2.2.1]] [] (.nd [.nd (x.1.l.map Enc.o), .nd [.ow 20 (x.2.1.1.map Enc.o), .int .i64 x.2.1.2.1], .nd [.ow 15 (x.2.2.1.1.map Enc.o), .int .i64 x.2.2.1.2.1], .ow 3 (x.2.2.2.1.map Enc.o), .ow 2 (x.2.2.2.2.1.map Enc.o), .int .i64 x.2.2.2.2.2.1, .bool x.2.2.2.2.2.2.1]) := by
  refine CallR.of_body (n := 31) (rs := [.cell 2 97]) hY.ok Try.func40 rfl (by decide) (by simp [ioSizes, ioSz]) rfl rfl rfl (fun F => ?_)
  have fx := And.intro Y1 (And.intro Y2 (And.intro Y3 (And.intro Y4 (And.intro Y5 (And.intro Y6 (And.intro Y27 (And.intro Y35 (And.intro Y37 (And.intro Y65 (And.intro Y67 (And.intro Y68 (And.intro Y70 (And.intro Y71 (And.intro Y72 (And.intro Y74 (And.intro Y75 (And.intro Y77 (And.intro Y78 (And.intro Y79 (And.intro Y81 (And.intro Y84 (And.intro Y86 (And.intro Y87 (And.intro Y88 (And.intro Y90 (And.intro Y91 (And.intro Y93 (And.intro Y94 (And.intro Y95 (And.intro Y97 (And.intro Y165 (And.intro Y169 (And.intro Y192 (And.intro Y197 (And.intro Y199 (And.intro Y201 (And.intro Y215 (Y218))))))))))))))))))))))))))))))))))))))
  simp only [entryS, thawAL, thawA, thawAL_b, thawAL_tR, List.append_nil, List.nil_append, List.length_nil, Nat.add_zero]
  have hd := tRfacts x.1
  have hC1 := cx [] (laws_toPageA8_ok x.1 hx.1)
  have hC2 := cx [] (laws_toPool_ok x.2.1 hx.2.1)
  have hC3 := cx [] (laws_toLog_ok x.2.2.1 hx.2.2.1)
  have hC4 := cx [] (laws_toLiveS_ok x.2.2.2.1 hx.2.2.2.1)
  have hC5 := cx [] (laws_toHoldS_ok x.2.2.2.2.1 hx.2.2.2.2.1)
  have fy := And.intro nc4 (And.intro nc8 (And.intro wa (And.intro tn (hd))))
  refine goR ?_ ?_ ?_ ?_ ?_ ?_ ?_ ?_ ?_ ?_ ?_ ?_ ?_ ?_ ?_ ?_
  any_goals (first | exact True.intro | skip)
  all_goals (repeat (refine Wh.mk fun hcc => ?_))
  all_goals exact SW.ret (show RetQ _ _ _ _ _ _ _ from RetQ.y [0] [.nd [.nd (x.1.l.map Enc.o), .nd [.ow 20 (x.2.1.1.map Enc.o), .int .i64 x.2.1.2.1], .nd [.ow 15 (x.2.2.1.1.map Enc.o), .int .i64 x.2.2.1.2.1], .ow 3 (x.2.2.2.1.map Enc.o), .ow 2 (x.2.2.2.2.1.map Enc.o), .int .i64 x.2.2.2.2.2.1, .bool x.2.2.2.2.2.2.1]] (rn := by simp [retM, loadM, subM, T.get, T.offs, RM.bind, RM.run, Heap.at, List.getElem?_cons_succ, List.getElem?_cons_zero, List.getD_cons_succ, List.getD_cons_zero, T.nw, T.size, T.isNd, TyI.agg, Ty.agg, nwL, sizeL, nwL_tR, fx, hd]; first | done | rfl))
end Q6

namespace Q6
open Go Go.Vm Go.Proofs
set_option maxHeartbeats 4000000
set_option synthInstance.maxSize 2000
set_option synthInstance.maxHeartbeats 400000
set_option maxRecDepth 10000
set_option linter.unusedSimpArgs false
set_option linter.unusedVariables false

set_option synthInstance.maxHeartbeats 4000000
set_option synthInstance.maxSize 20000
set_option maxHeartbeats 40000000
theorem pgAt_lim (x : EngT) (no : Nat) (hno : no < 8) (hx : Enc.lim 1048576 x) : Enc.lim 1048576 ((pgAt x no)) := by
  have hdl := x.1.h
  cases hf : x.2.1.1.findIdx? (fun t => decide (t.1 = (no : Int))) with
  | none => rw [show pgAt x no = x.1.l[no]'(by omega) by simp [pgAt, hf, show no < x.1.l.length by omega]]; exact hx.1 _ (List.getElem_mem _)
  | some i =>
    have hlt : i < x.2.1.1.length := (List.findIdx?_eq_some_iff_getElem.1 hf).1
    rw [show pgAt x no = (x.2.1.1[i]).2.1 by simp [pgAt, hf, hlt]]; exact (hx.2.1.1.2 _ (List.getElem_mem hlt)).2.1
theorem slAt_lim (x : EngT) (no r : Nat) (hno : no < 8) (hx : Enc.lim 1048576 x) : Enc.lim 1048576 ((slAt x no r)) := by
  have h := (pgAt_lim x no hno hx).2.1
  unfold slAt
  split
  · exact h.1
  · exact h.2.1
  · exact h.2.2.1
  · exact h.2.2.2.1
def z0 : (Bool × ((Int × (List Int) × (List Int) × Unit)) × Unit) := (false, (0, [], [], ()), ())
def vW (x : EngT) (i : Nat) : List ((Bool × ((Int × (List Int) × (List Int) × Unit)) × Unit)) := (List.range 32).map fun j => if 1 ≤ j ∧ j < i then slAt x (j / 4) (j % 4) else z0
theorem vW_len (x : EngT) (i : Nat) : (vW x i).length = 32 := by simp [vW]
theorem vW_at (x : EngT) (i j : Nat) (h : j < (vW x i).length) : (vW x i)[j] = if 1 ≤ j ∧ j < i then slAt x (j / 4) (j % 4) else z0 := by simp [vW]
theorem vW_one (x : EngT) : vW x 1 = v0 := List.eq_replicate_iff.2 ⟨vW_len x 1, fun b hb => by
  obtain ⟨j, hj, rfl⟩ := List.getElem_of_mem hb
  rw [vW_at, if_neg (by omega)]
  rfl⟩
theorem vW_get (x : EngT) (i : Nat) (h : i < 32) : (vW x i)[i]'(by rw [vW_len]; exact h) = z0 := by rw [vW_at, if_neg (by omega)]
theorem vW_set (x : EngT) (i : Nat) (h1 : 1 ≤ i) (h : i < 32) : (vW x i).set i (slAt x (i / 4) (i % 4)) = vW x (i + 1) := by
  apply List.ext_getElem (by rw [List.length_set, vW_len, vW_len])
  intro j h2 h3
  rw [vW_at, List.getElem_set]
  by_cases hj : i = j
  · subst hj; rw [if_pos rfl, if_pos ⟨h1, by omega⟩]
  · rw [if_neg hj, vW_at]
    by_cases hc : 1 ≤ j ∧ j < i
    · rw [if_pos hc, if_pos ⟨hc.1, by omega⟩]
    · rw [if_neg hc, if_neg (by omega)]
theorem iView_ok (x : EngT) (hx : Enc.lim 1048576 x) : CallR Try.prog 41 [.nd [.nd (x.1.l.map Enc.b), .nd [.sl .b (x.2.1.1.map Enc.b), .int .i64 x.2.1.2.1], .nd [.sl .b (x.2.2.1.1.map Enc.b), .int .i64 x.2.2.1.2.1], .sl .b (x.2.2.2.1.map Enc.b), .sl .b (x.2.2.2.2.1.map Enc.b), .int .i64 x.2.2.2.2.2.1, .bool x.2.2.2.2.2.2.1]] [] (.ow 4 ((vW x 32).map Enc.o)) := by
  refine CallR.of_body (n := 23) (rs := [.tmp 2]) hY.ok Try.func41 rfl (by decide) (by simp [ioSizes, ioSz]) rfl rfl rfl (fun F => ?_)
  have fx := And.intro Y1 (And.intro Y3 (And.intro Y4 (And.intro Y24 (And.intro Y27 (And.intro Y35 (And.intro Y37 (And.intro Y84 (And.intro Y86 (And.intro Y87 (And.intro Y88 (And.intro Y90 (And.intro Y91 (And.intro Y93 (And.intro Y94 (And.intro Y95 (And.intro Y97 (And.intro Y165 (And.intro Y169 (And.intro Y192 (Y197))))))))))))))))))))
  simp only [entryS, thawAL, thawA, thawAL_b, thawAL_tR, List.append_nil, List.nil_append, List.length_nil, Nat.add_zero]
  have hd := (tRfacts x.1).2.2.2.2
  have c0 := noView_ok
  have hC1 := cx [] (c0)
  have fy := And.intro nc4 (And.intro nc8 (And.intro wa (And.intro tn (hd))))
  refine goN ?_ ?_ ?_ ?_ ?_ ?_ ?_ ?_ ?_ ?_ ?_ ?_ ?_ ?_ ?_ ?_
  any_goals (first | exact True.intro | skip)
  skip
  refine SW.loop (fun i : Nat => ⟨[.undef, .ptr 1 0 [] 0, .undef, .ref 2 0 0 32, .int .i64 (i : Nat), .undef, .undef, .undef, .undef, .undef, .undef, .undef, .undef, .undef, .undef, .undef, .undef, .undef, .undef, .undef, .undef, .undef, .undef], [[], [.var (.nd [.nd (x.1.l.map Enc.b), .nd [.sl .b (x.2.1.1.map Enc.b), .int .i64 x.2.1.2.1], .nd [.sl .b (x.2.2.1.1.map Enc.b), .int .i64 x.2.2.1.2.1], .sl .b (x.2.2.2.1.map Enc.b), .sl .b (x.2.2.2.2.1.map Enc.b), .int .i64 x.2.2.2.2.2.1, .bool x.2.2.2.2.2.2.1])], [.arr 4 ((vW x i).map Enc.o) false]]⟩)
    (fun n i => n = 32 - i ∧ 1 ≤ i ∧ i ≤ 32) (n := 31) (x := 1) ?_ ⟨rfl, by omega, by omega⟩ ?_
  · rw [vW_one]
    have hv0 : (v0.map (Enc.o : _ → T)).length = 32 := by simp [v0]
    try simp only [hv0]
    exact Norm.re [0, 1, 2] (by decide) rfl (by simp [-List.map_append, heapFits, rowFits, obFits, T.ren, renL]) (by simp [tmFits, T.ren, v0])
  rintro n i ⟨hn, hi1, hi⟩
  have fy := And.intro nc4 (And.intro nc8 (And.intro wa (tn)))
  refine goS ?_
  refine SW.cond rfl (fun hc => ?_) (fun hc => ?_)
  · have hlt : i < 32 := by simp at hc; omega
    have hltI : (i : Int) < 32 := by omega
    have hltJ : (i : Int) < ((32 : Nat) : Int) := by omega
    have hno : i / 4 < 8 := by omega
    have hq : Int.tdiv (i : Int) 4 = ((i / 4 : Nat) : Int) := by rw [Int.tdiv_eq_ediv_of_nonneg (by omega)]; omega
    have hm0 : Int.tmod (i : Int) 4 = ((i % 4 : Nat) : Int) := by rw [Int.tmod_eq_emod_of_nonneg (by omega)]; omega
    have hwn : IntKind.i64.wrap ((i / 4 : Nat) : Int) = ((i / 4 : Nat) : Int) := wrap64 _ (by omega) (by omega)
    have hwr0 : IntKind.i64.wrap ((i % 4 : Nat) : Int) = ((i % 4 : Nat) : Int) := wrap64 _ (by omega) (by omega)
    have hwi : IntKind.i64.wrap ((i : Int) + 1) = ((i + 1 : Nat) : Int) := by rw [wrap64 _ (by omega) (by omega)]; omega
    have c1 := pageOf_ok x (i / 4) hno hx
    have hset := vW_set x i hi1 hlt
    have hsl := slAt_lim x (i / 4) (i % 4) hno hx
    have hL1 : ((vW x i).map (Enc.o : _ → T)).length = 32 := by rw [List.length_map, vW_len]
    have hL2 : ((vW x i).map (Enc.o : _ → T))[i]? = some (.nd [.bool false, .nd [.int .i64 0, .ow 1 [], .ow 1 []]]) := by rw [map_get Enc.o _ i (by rw [vW_len]; exact hlt), vW_get x i hlt]; rfl
    have hL3 : ((vW x i).map (Enc.o : _ → T)).set i (Enc.o (slAt x (i / 4) (i % 4))) = (vW x (i + 1)).map Enc.o := by rw [← hset, List.map_set]
    have hL4 : ∀ X : T, (((vW x i).map (Enc.o : _ → T)).set i X)[i]? = some X := fun X => List.getElem?_set_self (by rw [hL1]; exact hlt)
    have hr4 : i % 4 = 0 ∨ i % 4 = 1 ∨ i % 4 = 2 ∨ i % 4 = 3 := by omega
    rcases hr4 with hr | hr | hr | hr
    · rw [hr] at hm0 hwr0 hsl hL3
      have hm : Int.tmod (i : Int) 4 = 0 := hm0
      have hwr : IntKind.i64.wrap 0 = 0 := hwr0
      change Enc.lim 1048576 (((pgAt x (i / 4)).2.1.1)) at hsl
      change ((vW x i).map (Enc.o : _ → T)).set i (Enc.o ((pgAt x (i / 4)).2.1.1)) = _ at hL3
      have c2 := cloneSlot_ok ((pgAt x (i / 4)).2.1.1) hsl.2.1.2.1.1 hsl.2.1.2.2.1.1
      clear hm0 hwr0 hsl
      generalize pgAt x (i / 4) = p at *
      generalize (vW x i).map (Enc.o : _ → T) = L at *
      have hC1 := cx [.own 0] (c1)
      have hC2 := cx [] (c2)
      have fy := And.intro nc4 (And.intro nc8 (And.intro wa (And.intro tn (And.intro hd (And.intro hltI (And.intro hltJ (And.intro hq (And.intro hm (And.intro hwn (And.intro hwr (And.intro hwi (And.intro hL1 (And.intro hL2 (hL4))))))))))))))
      refine goN ?_ ?_ ?_ ?_ ?_ ?_ ?_ ?_ ?_ ?_ ?_ ?_ ?_ ?_ ?_ ?_
      any_goals (first | exact True.intro | skip)
      skip
      refine ⟨n - 1, i + 1, by omega, ⟨by omega, by omega, by omega⟩, ?_⟩
      try rw [hwi]
      refine Norm.trans (Norm.soakArr 2 0 i rfl (hL4 _)) ?_
      refine Norm.re [0, 1, 2] (by decide) rfl ?_ (by simp [tmFits, T.ren])
      simp only [soakS, soakL, Heap.at, Heap.put, List.getElem?_cons_zero, List.getElem?_cons_succ, List.set_cons_zero, List.set_cons_succ, List.length_map, and_self, if_true, List.set_set, heapFits, rowFits, obFits, renL_o, true_and, and_true]
      refine ⟨by simp [T.ren, renL], ?_⟩
      rw [← hL3]
      first | rfl | (rw [show renL [0, 1, 2] (L.set i _) = L.set i _ from ?_]; rfl)
    · rw [hr] at hm0 hwr0 hsl hL3
      have hm : Int.tmod (i : Int) 4 = 1 := hm0
      have hwr : IntKind.i64.wrap 1 = 1 := hwr0
      change Enc.lim 1048576 (((pgAt x (i / 4)).2.1.2.1)) at hsl
      change ((vW x i).map (Enc.o : _ → T)).set i (Enc.o ((pgAt x (i / 4)).2.1.2.1)) = _ at hL3
      have c2 := cloneSlot_ok ((pgAt x (i / 4)).2.1.2.1) hsl.2.1.2.1.1 hsl.2.1.2.2.1.1
      clear hm0 hwr0 hsl
      generalize pgAt x (i / 4) = p at *
      generalize (vW x i).map (Enc.o : _ → T) = L at *
      have hC1 := cx [.own 0] (c1)
      have hC2 := cx [] (c2)
      have fy := And.intro nc4 (And.intro nc8 (And.intro wa (And.intro tn (And.intro hd (And.intro hltI (And.intro hltJ (And.intro hq (And.intro hm (And.intro hwn (And.intro hwr (And.intro hwi (And.intro hL1 (And.intro hL2 (hL4))))))))))))))
      refine goN ?_ ?_ ?_ ?_ ?_ ?_ ?_ ?_ ?_ ?_ ?_ ?_ ?_ ?_ ?_ ?_
      any_goals (first | exact True.intro | skip)
      skip
      refine ⟨n - 1, i + 1, by omega, ⟨by omega, by omega, by omega⟩, ?_⟩
      try rw [hwi]
      refine Norm.trans (Norm.soakArr 2 0 i rfl (hL4 _)) ?_
      refine Norm.re [0, 1, 2] (by decide) rfl ?_ (by simp [tmFits, T.ren])
      simp only [soakS, soakL, Heap.at, Heap.put, List.getElem?_cons_zero, List.getElem?_cons_succ, List.set_cons_zero, List.set_cons_succ, List.length_map, and_self, if_true, List.set_set, heapFits, rowFits, obFits, renL_o, true_and, and_true]
      refine ⟨by simp [T.ren, renL], ?_⟩
      rw [← hL3]
      first | rfl | (rw [show renL [0, 1, 2] (L.set i _) = L.set i _ from ?_]; rfl)
    · rw [hr] at hm0 hwr0 hsl hL3
      have hm : Int.tmod (i : Int) 4 = 2 := hm0
      have hwr : IntKind.i64.wrap 2 = 2 := hwr0
      change Enc.lim 1048576 (((pgAt x (i / 4)).2.1.2.2.1)) at hsl
      change ((vW x i).map (Enc.o : _ → T)).set i (Enc.o ((pgAt x (i / 4)).2.1.2.2.1)) = _ at hL3
      have c2 := cloneSlot_ok ((pgAt x (i / 4)).2.1.2.2.1) hsl.2.1.2.1.1 hsl.2.1.2.2.1.1
      clear hm0 hwr0 hsl
      generalize pgAt x (i / 4) = p at *
      generalize (vW x i).map (Enc.o : _ → T) = L at *
      have hC1 := cx [.own 0] (c1)
      have hC2 := cx [] (c2)
      have fy := And.intro nc4 (And.intro nc8 (And.intro wa (And.intro tn (And.intro hd (And.intro hltI (And.intro hltJ (And.intro hq (And.intro hm (And.intro hwn (And.intro hwr (And.intro hwi (And.intro hL1 (And.intro hL2 (hL4))))))))))))))
      refine goN ?_ ?_ ?_ ?_ ?_ ?_ ?_ ?_ ?_ ?_ ?_ ?_ ?_ ?_ ?_ ?_
      any_goals (first | exact True.intro | skip)
      skip
      refine ⟨n - 1, i + 1, by omega, ⟨by omega, by omega, by omega⟩, ?_⟩
      try rw [hwi]
      refine Norm.trans (Norm.soakArr 2 0 i rfl (hL4 _)) ?_
      refine Norm.re [0, 1, 2] (by decide) rfl ?_ (by simp [tmFits, T.ren])
      simp only [soakS, soakL, Heap.at, Heap.put, List.getElem?_cons_zero, List.getElem?_cons_succ, List.set_cons_zero, List.set_cons_succ, List.length_map, and_self, if_true, List.set_set, heapFits, rowFits, obFits, renL_o, true_and, and_true]
      refine ⟨by simp [T.ren, renL], ?_⟩
      rw [← hL3]
      first | rfl | (rw [show renL [0, 1, 2] (L.set i _) = L.set i _ from ?_]; rfl)
    · rw [hr] at hm0 hwr0 hsl hL3
      have hm : Int.tmod (i : Int) 4 = 3 := hm0
      have hwr : IntKind.i64.wrap 3 = 3 := hwr0
      change Enc.lim 1048576 (((pgAt x (i / 4)).2.1.2.2.2.1)) at hsl
      change ((vW x i).map (Enc.o : _ → T)).set i (Enc.o ((pgAt x (i / 4)).2.1.2.2.2.1)) = _ at hL3
      have c2 := cloneSlot_ok ((pgAt x (i / 4)).2.1.2.2.2.1) hsl.2.1.2.1.1 hsl.2.1.2.2.1.1
      clear hm0 hwr0 hsl
      generalize pgAt x (i / 4) = p at *
      generalize (vW x i).map (Enc.o : _ → T) = L at *
      have hC1 := cx [.own 0] (c1)
      have hC2 := cx [] (c2)
      have fy := And.intro nc4 (And.intro nc8 (And.intro wa (And.intro tn (And.intro hd (And.intro hltI (And.intro hltJ (And.intro hq (And.intro hm (And.intro hwn (And.intro hwr (And.intro hwi (And.intro hL1 (And.intro hL2 (hL4))))))))))))))
      refine goN ?_ ?_ ?_ ?_ ?_ ?_ ?_ ?_ ?_ ?_ ?_ ?_ ?_ ?_ ?_ ?_
      any_goals (first | exact True.intro | skip)
      skip
      refine ⟨n - 1, i + 1, by omega, ⟨by omega, by omega, by omega⟩, ?_⟩
      try rw [hwi]
      refine Norm.trans (Norm.soakArr 2 0 i rfl (hL4 _)) ?_
      refine Norm.re [0, 1, 2] (by decide) rfl ?_ (by simp [tmFits, T.ren])
      simp only [soakS, soakL, Heap.at, Heap.put, List.getElem?_cons_zero, List.getElem?_cons_succ, List.set_cons_zero, List.set_cons_succ, List.length_map, and_self, if_true, List.set_set, heapFits, rowFits, obFits, renL_o, true_and, and_true]
      refine ⟨by simp [T.ren, renL], ?_⟩
      rw [← hL3]
      first | rfl | (rw [show renL [0, 1, 2] (L.set i _) = L.set i _ from ?_]; rfl)
  · have hge : i = 32 := by simp at hc; omega
    subst hge
    have fy := And.intro nc4 (And.intro nc8 (And.intro wa (tn)))
    refine goN ?_ ?_ ?_ ?_ ?_ ?_ ?_ ?_ ?_ ?_ ?_ ?_ ?_ ?_ ?_ ?_
    any_goals (first | exact True.intro | skip)
    skip
    all_goals exact SW.ret (show RetQ _ _ _ _ _ _ _ from RetQ.y [4] [.ow 4 ((vW x 32).map Enc.o)])
end Q6

namespace Q6
open Go Go.Vm Go.Proofs
set_option maxHeartbeats 4000000
set_option synthInstance.maxSize 2000
set_option synthInstance.maxHeartbeats 400000
set_option maxRecDepth 10000
set_option linter.unusedSimpArgs false
set_option linter.unusedVariables false

set_option synthInstance.maxHeartbeats 4000000
set_option synthInstance.maxSize 20000
set_option maxHeartbeats 40000000
def vT (x : EngT) (i : Nat) : List ((Bool × ((Int × (List Int) × (List Int) × Unit)) × Unit)) := (vW x 32).take i
theorem vT_len (x : EngT) (i : Nat) (h : i ≤ 32) : (vT x i).length = i := by rw [vT, List.length_take, vW_len]; omega
theorem vT_all (x : EngT) : vT x 32 = vW x 32 := List.take_of_length_le (by rw [vW_len]; exact Nat.le_refl _)
theorem vT_one (x : EngT) : vT x 1 = [z0] := by
  apply List.ext_getElem (by rw [vT_len x 1 (by omega)]; rfl)
  intro j h1 h2
  have hj : j = 0 := by simp at h2; omega
  subst hj
  simp only [vT, List.getElem_take, vW_at]
  rfl
theorem vT_succ (x : EngT) (i : Nat) (h1 : 1 ≤ i) (h : i < 32) : vT x (i + 1) = vT x i ++ [slAt x (i / 4) (i % 4)] := by
  unfold vT
  rw [List.take_succ_eq_append_getElem (by rw [vW_len]; exact h), vW_at, if_pos ⟨h1, h⟩]
theorem fgtZ1 : fgtL [slotZ] [slotO] := ⟨_, _, rfl, fgtZ, rfl⟩
theorem sView_ok (x : EngT) (hx : Enc.lim 1048576 x) : CallR Try.prog 39 [.nd [.nd (x.1.l.map Enc.b), .nd [.sl .b (x.2.1.1.map Enc.b), .int .i64 x.2.1.2.1], .nd [.sl .b (x.2.2.1.1.map Enc.b), .int .i64 x.2.2.1.2.1], .sl .b (x.2.2.2.1.map Enc.b), .sl .b (x.2.2.2.2.1.map Enc.b), .int .i64 x.2.2.2.2.2.1, .bool x.2.2.2.2.2.2.1]] [] (.ow 4 ((vW x 32).map Enc.o)) := by
  refine CallR.of_body (n := 19) (rs := [.tmp 2]) hY.ok Try.func39 rfl (by decide) (by simp [ioSizes, ioSz]) rfl rfl rfl (fun F => ?_)
  have fx := And.intro Y1 (And.intro Y3 (And.intro Y4 (And.intro Y24 (And.intro Y27 (And.intro Y35 (And.intro Y37 (And.intro Y84 (And.intro Y86 (And.intro Y87 (And.intro Y88 (And.intro Y90 (And.intro Y91 (And.intro Y93 (And.intro Y94 (And.intro Y95 (And.intro Y97 (And.intro Y165 (And.intro Y169 (And.intro Y192 (Y197))))))))))))))))))))
  simp only [entryS, thawAL, thawA, thawAL_b, thawAL_tR, List.append_nil, List.nil_append, List.length_nil, Nat.add_zero]
  have hd := (tRfacts x.1).2.2.2.2
  have hb0 := fun (own_ : Nat) => build1 (Y := Y) (own := own_) (v := .nd [.bool false, .nd [.int .i64 0, .nils 1, .nils 1]]) (t := 24) Y24 Y37 rfl (by decide) rfl rfl rfl
  have fy := And.intro nc4 (And.intro nc8 (And.intro wa (And.intro tn (And.intro hd (hb0)))))
  refine goN ?_ ?_ ?_ ?_ ?_ ?_ ?_ ?_ ?_ ?_ ?_ ?_ ?_ ?_ ?_ ?_
  any_goals (first | exact True.intro | skip)
  skip
  refine SW.loop (fun i : Nat => ⟨[.undef, .ptr 1 0 [] 0, .undef, .ref 2 0 0 (vT x i).length, .int .i64 (i : Nat), .undef, .undef, .undef, .undef, .undef, .undef, .undef, .undef, .undef, .undef, .undef, .undef, .undef, .undef], [[], [.var (.nd [.nd (x.1.l.map Enc.b), .nd [.sl .b (x.2.1.1.map Enc.b), .int .i64 x.2.1.2.1], .nd [.sl .b (x.2.2.1.1.map Enc.b), .int .i64 x.2.2.1.2.1], .sl .b (x.2.2.2.1.map Enc.b), .sl .b (x.2.2.2.2.1.map Enc.b), .int .i64 x.2.2.2.2.2.1, .bool x.2.2.2.2.2.2.1])], [.arr 4 ((vT x i).map Enc.o) false]]⟩)
    (fun n i => n = 32 - i ∧ 1 ≤ i ∧ i ≤ 32) (n := 31) (x := 1) ?_ ⟨rfl, by omega, by omega⟩ ?_
  · rw [vT_one]
    refine Norm.trans (Norm.forgetArr 2 0 (m := [slotO]) rfl fgtZ1) ?_
    exact Norm.re [0, 1, 2] (by decide) rfl (by simp [-List.map_append, heapFits, rowFits, obFits, T.ren, renL, Heap.put, slotO]; first | done | rfl) (by simp [tmFits, T.ren])
  rintro n i ⟨hn, hi1, hi⟩
  have fy := And.intro nc4 (And.intro nc8 (And.intro wa (tn)))
  refine goS ?_
  refine SW.cond rfl (fun hc => ?_) (fun hc => ?_)
  · have hlt : i < 32 := by simp at hc; omega
    have hwi : IntKind.i64.wrap ((i : Int) + 1) = ((i + 1 : Nat) : Int) := by rw [wrap64 _ (by omega) (by omega)]; omega
    have c1 := l13At_ok x (i / 4) (i % 4) (by omega) (by omega) hx
    have hdm : 4 * (i / 4) + i % 4 = i := by omega
    rw [hdm] at c1
    have hsl := slAt_lim x (i / 4) (i % 4) (by omega) hx
    have hsu := vT_succ x i hi1 hlt
    have hal := vT_len x i hi
    have c2 := l3CopySlot_ok (slAt x (i / 4) (i % 4)) hsl.2.1.2.1.1 hsl.2.1.2.2.1.1
    clear hsl hdm
    generalize vT x i = acc at *
    generalize slAt x (i / 4) (i % 4) = s at *
    have hb1 := fun (own_ : Nat) => build1 (Y := Y) (own := own_) (v := .nd [.bool s.1, .nd [.int .i64 s.2.1.1, .ref 4 0 0 s.2.1.2.1.length, .ref 4 1 0 s.2.1.2.2.1.length]]) (t := 24) Y24 Y37 rfl (by decide) rfl rfl rfl
    have hap := fun (own_ e_ j_ e2_ j2_ : Nat) (H_ : Heap) (q1 : H_.at e_ j_ = some (.arr 4 (acc.map Enc.o) false)) (q2 : H_.at e2_ j2_ = some (.arr 4 [.nd [.bool s.1, .nd [.int .i64 s.2.1.1, .ref 4 0 0 s.2.1.2.1.length, .ref 4 1 0 s.2.1.2.2.1.length]]] false)) => append_run1 (Y := Y) (own := own_) (t := 24) (u := 24) (e := e_) (j := j_) (off := 0) (n := acc.length) (e2 := e2_) (j2 := j2_) (x := .nd [.bool s.1, .nd [.int .i64 s.2.1.1, .ref 4 0 0 s.2.1.2.1.length, .ref 4 1 0 s.2.1.2.2.1.length]]) (H := H_) Y24 Y24 Y37 rfl (by decide) q1 q2 (by simp) (by omega) rfl rfl
    simp only [List.drop_zero, take_map_len] at hap
    have hC1 := cx [.own 0] (c1)
    have hC2 := cx [] (c2)
    have fy := And.intro nc4 (And.intro nc8 (And.intro wa (And.intro tn (And.intro hd (And.intro hwi (And.intro hb1 (hap)))))))
    refine goN ?_ ?_ ?_ ?_ ?_ ?_ ?_ ?_ ?_ ?_ ?_ ?_ ?_ ?_ ?_ ?_
    any_goals (first | exact True.intro | skip)
    skip
    refine ⟨n - 1, i + 1, by omega, ⟨by omega, by omega, by omega⟩, ?_⟩
    rw [hsu]
    have hgs : (acc.map Enc.o ++ [.nd [.bool s.1, .nd [.int .i64 s.2.1.1, .ref 4 0 0 s.2.1.2.1.length, .ref 4 1 0 s.2.1.2.2.1.length]]])[acc.length]? = some (.nd [.bool s.1, .nd [.int .i64 s.2.1.1, .ref 4 0 0 s.2.1.2.1.length, .ref 4 1 0 s.2.1.2.2.1.length]]) := by rw [List.getElem?_append_right (by simp)]; simp
    refine Norm.trans (Norm.soakArr 6 0 acc.length rfl hgs) ?_
    refine Norm.re [0, 1, 6] (by decide) rfl ?_ (by simp [tmFits, T.ren])
    simp [-List.map_append, heapFits, rowFits, obFits, soakS, soakL, Heap.at, Heap.put, T.ren, renL]
    skip
    rw [List.map_append]
    rfl
  · have hge : i = 32 := by simp at hc; omega
    subst hge
    rw [vT_all]
    have fy := And.intro nc4 (And.intro nc8 (And.intro wa (tn)))
    refine goN ?_ ?_ ?_ ?_ ?_ ?_ ?_ ?_ ?_ ?_ ?_ ?_ ?_ ?_ ?_ ?_
    any_goals (first | exact True.intro | skip)
    skip
    all_goals exact SW.ret (show RetQ _ _ _ _ _ _ _ from RetQ.y [4] [.ow 4 ((vW x 32).map Enc.o)])
end Q6

namespace Q6
open Go Go.Vm Go.Proofs
set_option maxHeartbeats 4000000
set_option synthInstance.maxSize 2000
set_option synthInstance.maxHeartbeats 400000
set_option maxRecDepth 10000
set_option linter.unusedSimpArgs false
set_option linter.unusedVariables false

theorem markInt_ok (l : List Int) (k : Int) (hl : l.length ≤ 1048576) (h0 : 0 ≤ k) (h1 : k ≤ 1125899906842624) : CallR Try.prog 32 [.io (.tup [.ow 1 (l.map Enc.o)]), .int .i64 k] [.tup [.ow 1 ((marksG id l.length k).map Enc.o)]] (.int .i64 (k + l.length)) := by
  refine CallR.of_body (n := 19) (rs := [.tmp 4]) hY.ok Try.func32 rfl (by decide) rfl rfl rfl rfl (fun F => ?_)
  have fx := And.intro Y3 (And.intro Y4 (Y27))
  have fy := Nat.add_zero
  refine goN ?_ ?_ ?_ ?_ ?_ ?_ ?_ ?_ ?_ ?_ ?_ ?_ ?_ ?_ ?_ ?_
  any_goals (first | exact True.intro | skip)
  skip
  refine SW.loop (fun i : Nat => ⟨[.ref 0 0 0 l.length, .int .i64 (k + (i : Nat)), .undef, .undef, .undef, .int .i64 i, .undef, .undef, .undef, .undef, .undef, .undef, .undef, .undef, .undef, .undef, .undef, .undef, .undef], [[.arr 1 ((mixG id l k i).map Enc.o) false]]⟩)
    (fun n i => n = l.length - i ∧ i ≤ l.length) (n := l.length) (x := 0) (Norm.re [0] (by decide) rfl (by simp [heapFits, rowFits, obFits, mixG_zero]) (by simp [tmFits, T.ren])) ⟨rfl, Nat.zero_le _⟩ ?_
  rintro n i ⟨hn, hi⟩
  have fy := Nat.add_zero
  refine goS ?_
  refine SW.cond rfl (fun hc => ?_) (fun hc => ?_)
  · have hlt : i < l.length := by simp at hc; omega
    have hltI : (i : Int) < (l.length : Int) := by omega
    have hg : ((mixG id l k i).map Enc.o)[i]? = some (.int .i64 l[i]) := mixG_get id l k i hlt
    have hs : ((mixG id l k i).map Enc.o).set i (.int .i64 (k + (i : Nat))) = (mixG id l k (i + 1)).map Enc.o := mixG_set id l k i hlt
    have fy := And.intro hg (And.intro hs (And.intro hltI (And.intro Nat.zero_add (Int.toNat_natCast))))
    refine goR ?_ ?_ ?_ ?_ ?_ ?_ ?_ ?_ ?_ ?_ ?_ ?_ ?_ ?_ ?_ ?_
    any_goals (first | exact True.intro | skip)
    all_goals (repeat (refine Wh.mk fun hcc => ?_))
    refine ⟨n - 1, i + 1, by omega, ⟨by omega, by omega⟩, ?_⟩
    rw [wrap64 _ (by omega) (by omega), wrap64 _ (by omega) (by omega), show k + (i : Int) + 1 = k + ((i + 1 : Nat) : Int) by omega]
    exact Norm.re [0] (by decide) rfl (by simp only [eq_self, heapFits, rowFits, obFits, List.getElem?_cons_zero, List.getElem?_cons_succ, renL_o, renL_b, true_and, and_true, and_self]) (by simp [tmFits, T.ren])
  · have hge : i = l.length := by
      have : ¬ i < l.length := by simp at hc; omega
      omega
    subst hge
    rw [mixG_all]
    have fy := Nat.add_zero
    refine goR ?_ ?_ ?_ ?_ ?_ ?_ ?_ ?_ ?_ ?_ ?_ ?_ ?_ ?_ ?_ ?_
    any_goals (first | exact True.intro | skip)
    all_goals (repeat (refine Wh.mk fun hcc => ?_))
    refine SW.ret (show RetQ _ _ _ _ _ _ _ from ⟨.inr rfl, _, [0], [.int .i64 (k + l.length)], ?_, ⟨rfl, ?_, rfl, rfl, ?_, rfl⟩⟩)
    rotate_left
    · (simp [-List.map_set, -List.map_append, pass1, modeOf, giveS, giveSL, Heap.at, Heap.put, fixEs, ioAt, ioAtT, ioKs, ioKT, ioM, ioT, thawA, thawAL, T.asArr, T.cel, T.clo, cloL, T.cloA, cloAL]; rfl)
    · simp [cloOL, T.cloO, T.asArr]
theorem heldInt_ok (n : Nat) (k : Int) (hl : n ≤ 1048576) (h0 : 0 ≤ k) (h1 : k ≤ 1125899906842624) : CallR Try.prog 34 [.sl .b ((marksG id n k).map Enc.b), .int .i64 k] [] (.int .i64 (k + n)) := by
  refine CallR.of_body (n := 21) (rs := [.tmp 4]) hY.ok Try.func34 rfl (by decide) rfl rfl rfl rfl (fun F => ?_)
  have fx := And.intro Y3 (And.intro Y4 (Y27))
  have fy := Nat.add_zero
  refine goN ?_ ?_ ?_ ?_ ?_ ?_ ?_ ?_ ?_ ?_ ?_ ?_ ?_ ?_ ?_ ?_
  any_goals (first | exact True.intro | skip)
  skip
  refine SW.loop (fun i : Nat => ⟨[.sl .b ((marksG id n k).map Enc.b), .int .i64 (k + (i : Nat)), .undef, .undef, .undef, .int .i64 i, .undef, .undef, .undef, .undef, .undef, .undef, .undef, .undef, .undef, .undef, .undef, .undef, .undef, .undef, .undef], [[]]⟩)
    (fun N i => N = n - i ∧ i ≤ n) (n := n) (x := 0) (Norm.to 0 rfl (by simp [weakL])) ⟨rfl, Nat.zero_le _⟩ ?_
  rintro N i ⟨hn, hi⟩
  have fy := Nat.add_zero
  refine goS ?_
  refine SW.cond rfl (fun hc => ?_) (fun hc => ?_)
  · have hlt : i < n := by simp at hc; omega
    have hg : ((marksG id n k).map Enc.b)[i]? = some (.int .i64 (k + (i : Nat))) := by rw [map_get Enc.b _ i (by rw [marksG_len]; exact hlt), marksG_get id n k i hlt]; rfl
    have fy := And.intro hg (And.intro Nat.zero_add (Int.toNat_natCast))
    refine goR ?_ ?_ ?_ ?_ ?_ ?_ ?_ ?_ ?_ ?_ ?_ ?_ ?_ ?_ ?_ ?_
    any_goals (first | exact True.intro | skip)
    all_goals (repeat (refine Wh.mk fun hcc => ?_))
    all_goals first | (exfalso; simp at hcc; done) | skip
    refine ⟨N - 1, i + 1, by omega, ⟨by omega, by omega⟩, ?_⟩
    rw [wrap64 _ (by omega) (by omega), wrap64 _ (by omega) (by omega), show k + (i : Int) + 1 = k + ((i + 1 : Nat) : Int) by omega]
    exact Norm.to 0 rfl (by simp [weakL])
  · have hge : i = n := by
      have : ¬ i < n := by simp at hc; omega
      omega
    subst hge
    have fy := Nat.add_zero
    refine goK ?_ ?_ ?_ ?_ ?_ ?_ ?_ ?_ ?_ ?_ ?_ ?_ ?_ ?_ ?_ ?_
    any_goals (first | exact True.intro | skip)
    all_goals (repeat (refine Wh.mk fun hcc => ?_))
    simp [tupOf, fixEs]
end Q6

namespace Q6
open Go Go.Vm Go.Proofs
set_option maxHeartbeats 4000000
set_option synthInstance.maxSize 2000
set_option synthInstance.maxHeartbeats 400000
set_option maxRecDepth 10000
set_option linter.unusedSimpArgs false
set_option linter.unusedVariables false

def mkSlot (x : (Bool × ((Int × (List Int) × (List Int) × Unit)) × Unit)) (c : Int) : ((Bool × ((Int × (List Int) × (List Int) × Unit)) × Unit)) × Int := (((Int.tmod (c) 3 == 0), ((c + 1), marksG id x.2.1.2.1.length (c + 1 + 1), marksG id x.2.1.2.2.1.length (c + 1 + 1 + x.2.1.2.1.length), ()), ()), c + 1 + 1 + x.2.1.2.1.length + x.2.1.2.2.1.length)
theorem mkSlot_rng {x : (Bool × ((Int × (List Int) × (List Int) × Unit)) × Unit)} (hx : Enc.lim 1048576 x) (c : Int) : c ≤ (mkSlot x c).2 ∧ (mkSlot x c).2 ≤ c + 16777216 := by
  have q2 : x.2.1.2.1.length ≤ 1048576 := hx.2.1.2.1.1
  have q3 : x.2.1.2.2.1.length ≤ 1048576 := hx.2.1.2.2.1.1
  unfold mkSlot
  simp only
  omega
theorem markSlotS_ok (l : List ((Bool × ((Int × (List Int) × (List Int) × Unit)) × Unit))) (k : Int) (hl : Enc.lim 1048576 l) (h0 : 0 ≤ k) (h1 : k ≤ 281474976710656) : CallR Try.prog 45 [.io (.tup [.ow 4 (l.map Enc.o)]), .int .i64 k] [.tup [.ow 4 ((thr mkSlot l k).1.map Enc.o)]] (.int .i64 (thr mkSlot l k).2) := by
  refine CallR.of_body (n := 46) (rs := [.tmp 4]) hY.ok Try.func45 rfl (by decide) rfl rfl rfl rfl (fun F => ?_)
  have fx := And.intro Y1 (And.intro Y2 (And.intro Y3 (And.intro Y4 (And.intro Y24 (And.intro Y27 (And.intro Y35 (Y37)))))))
  have hl1 : l.length ≤ 1048576 := hl.1
  have hgrow : ∀ x ∈ l, ∀ c, c ≤ (mkSlot x c).2 ∧ (mkSlot x c).2 ≤ c + 16777216 := fun x hx c => mkSlot_rng (hl.2 x hx) c
  have fy := Nat.add_zero
  refine goN ?_ ?_ ?_ ?_ ?_ ?_ ?_ ?_ ?_ ?_ ?_ ?_ ?_ ?_ ?_ ?_
  any_goals (first | exact True.intro | skip)
  skip
  refine SW.loop (fun i : Nat => ⟨[.ref 0 0 0 l.length, .int .i64 (thr mkSlot (l.take i) k).2, .undef, .undef, .undef, .int .i64 (i : Nat), .undef, .undef, .undef, .undef, .undef, .undef, .undef, .undef, .undef, .undef, .undef, .undef, .undef, .undef, .undef, .undef, .undef, .undef, .undef, .undef, .undef, .undef, .undef, .undef, .undef, .undef, .undef, .undef, .undef, .undef, .undef, .undef, .undef, .undef, .undef, .undef, .undef, .undef, .undef, .undef], [[.arr 4 ((mixT mkSlot l k i).map Enc.o) false]]⟩)
    (fun N i => N = l.length - i ∧ i ≤ l.length) (n := l.length) (x := 0) ?_ ⟨rfl, Nat.zero_le _⟩ ?_
  · rw [mixT_zero]
    simp only [List.take_zero, thr]
    exact Norm.re [0] (by decide) rfl (by first | (simp only [eq_self, heapFits, rowFits, obFits, List.getElem?_cons_zero, List.getElem?_cons_succ, renL_o, renL_b, true_and, and_true, and_self]; done) | simp [-List.map_set, -List.map_append, heapFits, rowFits, obFits, T.ren, renL]) (by simp [tmFits, T.ren, renL])
  rintro N i ⟨hn, hi⟩
  have hml := mixT_len mkSlot l k i hi
  have fy := Nat.add_zero
  refine goS ?_
  refine SW.cond rfl (fun hc => ?_) (fun hc => ?_)
  · have hlt : i < l.length := by simp at hc; omega
    have hltI : (i : Int) < (l.length : Int) := by omega
    have hr := thr_rng mkSlot 16777216 (by decide) (l.take i) k (fun x hx => hgrow x (List.mem_of_mem_take hx))
    rw [List.length_take, Nat.min_eq_left hi] at hr
    have hb : (i : Int) * 16777216 ≤ 1048576 * 16777216 := by omega
    have hg : ((mixT mkSlot l k i).map Enc.o)[i]? = some (.nd [.bool l[i].1, .nd [.int .i64 l[i].2.1.1, .ow 1 (l[i].2.1.2.1.map Enc.o), .ow 1 (l[i].2.1.2.2.1.map Enc.o)]]) := by rw [map_get Enc.o _ i (by rw [hml]; exact hlt), mixT_get mkSlot l k i hlt]; rfl
    have hs := mixT_set mkSlot l k i hlt
    have hk2 : (thr mkSlot (l.take (i + 1)) k).2 = (mkSlot l[i] (thr mkSlot (l.take i) k).2).2 := by rw [thr_succ mkSlot l k i hlt]
    have hli := hl.2 l[i] (List.getElem_mem hlt)
    clear hgrow hl
    generalize l[i] = x at *
    generalize mixT mkSlot l k i = m at *
    generalize (thr mkSlot (l.take i) k).2 = c at *
    have hgs : ∀ X : T, ((m.map Enc.o).set i X)[i]? = some X := fun X => List.getElem?_set_self (by rw [List.length_map, hml]; exact hlt)
    have hw0 : IntKind.i64.wrap (c + 1) = c + 1 := wrap64 _ (by omega) (by omega)
    have hw1 : IntKind.i64.wrap (c + 1 + 1) = c + 1 + 1 := wrap64 _ (by omega) (by omega)
    have q2 : x.2.1.2.1.length ≤ 1048576 := hli.2.1.2.1.1
    have m2 := markInt_ok x.2.1.2.1 (c + 1 + 1) q2 (by omega) (by omega)
    have q3 : x.2.1.2.2.1.length ≤ 1048576 := hli.2.1.2.2.1.1
    have m3 := markInt_ok x.2.1.2.2.1 (c + 1 + 1 + x.2.1.2.1.length) q3 (by omega) (by omega)
    have hwi : IntKind.i64.wrap ((i : Int) + 1) = ((i + 1 : Nat) : Int) := by rw [wrap64 _ (by omega) (by omega)]; omega
    refine SW.norm (Norm.expel 0 0 i rfl hg) ?_
    simp only [thawA, thawAL, Heap.put, List.set_set, List.length_cons, List.length_nil, Nat.zero_add, Nat.add_zero, List.getElem?_cons_zero, List.set_cons_zero, List.cons_append, List.nil_append, List.length_map, Nat.reduceAdd]
    have hC1 := cx [.ios] (m2)
    have hC2 := cx [.ios] (m3)
    have fy := And.intro hw0 (And.intro hw1 (And.intro hwi (And.intro hgs (And.intro hltI (And.intro ((((((@List.set_set T)))))) (And.intro Nat.zero_add (Int.toNat_natCast)))))))
    refine goN ?_ ?_ ?_ ?_ ?_ ?_ ?_ ?_ ?_ ?_ ?_ ?_ ?_ ?_ ?_ ?_
    any_goals (first | exact True.intro | skip)
    skip
    refine ⟨N - 1, i + 1, by omega, ⟨by omega, by omega⟩, ?_⟩
    rw [hk2, ← hs]
    refine Norm.trans (Norm.soakArr 0 0 i rfl (hgs _)) ?_
    refine Norm.re [0] (by decide) rfl ?_ (by simp [tmFits, T.ren, mkSlot])
    simp only [soakS, soakL, Heap.at, Heap.put, List.getElem?_cons_zero, List.getElem?_cons_succ, List.set_cons_zero, List.set_cons_succ, List.length_map, marks_len, marksG_len, thr_len, and_self, if_true, List.set_set, heapFits, rowFits, obFits, renL_o, true_and, and_true]
    rw [List.map_set]; rfl
  · have hge : i = l.length := by
      have : ¬ i < l.length := by simp at hc; omega
      omega
    subst hge
    rw [mixT_all, List.take_length]
    have fy := Nat.add_zero
    refine goR ?_ ?_ ?_ ?_ ?_ ?_ ?_ ?_ ?_ ?_ ?_ ?_ ?_ ?_ ?_ ?_
    any_goals (first | exact True.intro | skip)
    all_goals (repeat (refine Wh.mk fun hcc => ?_))
    all_goals exact SW.ret (show RetQ _ _ _ _ _ _ _ from RetQ.y [0] [.int .i64 (thr mkSlot l k).2])
theorem heldSlotS_ok (l : List ((Bool × ((Int × (List Int) × (List Int) × Unit)) × Unit))) (k : Int) (hl : Enc.lim 1048576 l) (h0 : 0 ≤ k) (h1 : k ≤ 281474976710656) : CallR Try.prog 46 [.sl .b ((thr mkSlot l k).1.map Enc.b), .int .i64 k] [] (.int .i64 (thr mkSlot l k).2) := by
  refine CallR.of_body (n := 54) (rs := [.tmp 4]) hY.ok Try.func46 rfl (by decide) rfl rfl rfl rfl (fun F => ?_)
  have fx := And.intro Y1 (And.intro Y2 (And.intro Y3 (And.intro Y4 (And.intro Y24 (And.intro Y27 (And.intro Y35 (Y37)))))))
  have hl1 : l.length ≤ 1048576 := hl.1
  have hgrow : ∀ x ∈ l, ∀ c, c ≤ (mkSlot x c).2 ∧ (mkSlot x c).2 ≤ c + 16777216 := fun x hx c => mkSlot_rng (hl.2 x hx) c
  have htl := thr_len mkSlot l k
  have fy := htl
  refine goN ?_ ?_ ?_ ?_ ?_ ?_ ?_ ?_ ?_ ?_ ?_ ?_ ?_ ?_ ?_ ?_
  any_goals (first | exact True.intro | skip)
  skip
  refine SW.loop (fun i : Nat => ⟨[.sl .b ((thr mkSlot l k).1.map Enc.b), .int .i64 (thr mkSlot (l.take i) k).2, .undef, .undef, .undef, .int .i64 (i : Nat), .undef, .undef, .undef, .undef, .undef, .undef, .undef, .undef, .undef, .undef, .undef, .undef, .undef, .undef, .undef, .undef, .undef, .undef, .undef, .undef, .undef, .undef, .undef, .undef, .undef, .undef, .undef, .undef, .undef, .undef, .undef, .undef, .undef, .undef, .undef, .undef, .undef, .undef, .undef, .undef, .undef, .undef, .undef, .undef, .undef, .undef, .undef, .undef], [[]]⟩)
    (fun N i => N = l.length - i ∧ i ≤ l.length) (n := l.length) (x := 0) (Norm.to 0 rfl (by simp [weakL, thr])) ⟨rfl, Nat.zero_le _⟩ ?_
  rintro N i ⟨hn, hi⟩
  have fy := htl
  refine goS ?_
  refine SW.cond rfl (fun hc => ?_) (fun hc => ?_)
  · have hlt : i < l.length := by simp at hc; omega
    have hr := thr_rng mkSlot 16777216 (by decide) (l.take i) k (fun x hx => hgrow x (List.mem_of_mem_take hx))
    rw [List.length_take, Nat.min_eq_left hi] at hr
    have hb : (i : Int) * 16777216 ≤ 1048576 * 16777216 := by omega
    have hg : ((thr mkSlot l k).1.map Enc.b)[i]? = some (Enc.b (mkSlot l[i] (thr mkSlot (l.take i) k).2).1) := by rw [map_get Enc.b _ i (by rw [htl]; exact hlt), thr_get mkSlot l k i hlt]
    have hk2 : (thr mkSlot (l.take (i + 1)) k).2 = (mkSlot l[i] (thr mkSlot (l.take i) k).2).2 := by rw [thr_succ mkSlot l k i hlt]
    have hli := hl.2 l[i] (List.getElem_mem hlt)
    clear hgrow hl
    generalize l[i] = x at *
    generalize (thr mkSlot l k).1 = L at *
    generalize (thr mkSlot (l.take i) k).2 = c at *
    have hg' : (L.map Enc.b)[i]? = some (.nd [.bool (Int.tmod (c) 3 == 0), .nd [.int .i64 (c + 1), .sl .b ((marksG id x.2.1.2.1.length (c + 1 + 1)).map Enc.b), .sl .b ((marksG id x.2.1.2.2.1.length (c + 1 + 1 + x.2.1.2.1.length)).map Enc.b)]]) := hg
    clear hg
    have hw0 : IntKind.i64.wrap (c + 1) = c + 1 := wrap64 _ (by omega) (by omega)
    have hw1 : IntKind.i64.wrap (c + 1 + 1) = c + 1 + 1 := wrap64 _ (by omega) (by omega)
    have q2 : x.2.1.2.1.length ≤ 1048576 := hli.2.1.2.1.1
    have m2 := heldInt_ok x.2.1.2.1.length (c + 1 + 1) q2 (by omega) (by omega)
    have hz2 : decide (c + 1 + 1 + (x.2.1.2.1.length : Int) < 0) = false := by simp; omega
    have q3 : x.2.1.2.2.1.length ≤ 1048576 := hli.2.1.2.2.1.1
    have m3 := heldInt_ok x.2.1.2.2.1.length (c + 1 + 1 + x.2.1.2.1.length) q3 (by omega) (by omega)
    have hz3 : decide (c + 1 + 1 + x.2.1.2.1.length + (x.2.1.2.2.1.length : Int) < 0) = false := by simp; omega
    have hwi : IntKind.i64.wrap ((i : Int) + 1) = ((i + 1 : Nat) : Int) := by rw [wrap64 _ (by omega) (by omega)]; omega
    have hC1 := cx [] (m2)
    have hC2 := cx [] (m3)
    have fy := And.intro hg' (And.intro htl (And.intro hw0 (And.intro hw1 (And.intro hz2 (And.intro hz3 (And.intro hwi (And.intro Nat.zero_add (Int.toNat_natCast))))))))
    refine goR ?_ ?_ ?_ ?_ ?_ ?_ ?_ ?_ ?_ ?_ ?_ ?_ ?_ ?_ ?_ ?_
    any_goals (first | exact True.intro | skip)
    all_goals (repeat (refine Wh.mk fun hcc => ?_))
    all_goals first | (exfalso; simp at hcc; done) | skip
    refine ⟨N - 1, i + 1, by omega, ⟨by omega, by omega⟩, ?_⟩
    rw [hk2]
    exact Norm.re [0] (by decide) rfl (by first | (simp only [eq_self, heapFits, rowFits, obFits, List.getElem?_cons_zero, List.getElem?_cons_succ, renL_o, renL_b, true_and, and_true, and_self]; done) | simp [-List.map_append, heapFits, rowFits, obFits, T.ren, renL]) (by simp [tmFits, T.ren, mkSlot])
  · have hge : i = l.length := by
      have : ¬ i < l.length := by simp at hc; omega
      omega
    subst hge
    rw [List.take_length]
    have fy := htl
    refine goK ?_ ?_ ?_ ?_ ?_ ?_ ?_ ?_ ?_ ?_ ?_ ?_ ?_ ?_ ?_ ?_
    any_goals (first | exact True.intro | skip)
    all_goals (repeat (refine Wh.mk fun hcc => ?_))
    all_goals simp [tupOf, fixEs]
end Q6

namespace Q6
open Go Go.Vm Go.Proofs
set_option maxHeartbeats 4000000
set_option synthInstance.maxSize 2000
set_option synthInstance.maxHeartbeats 400000
set_option maxRecDepth 10000
set_option linter.unusedSimpArgs false
set_option linter.unusedVariables false

set_option synthInstance.maxHeartbeats 4000000
set_option synthInstance.maxSize 20000
set_option maxHeartbeats 40000000
theorem markInt_own (l : List Int) (k : Int) (hl : l.length ≤ 1048576) (h0 : 0 ≤ k) (h1 : k ≤ 1125899906842624) : CallR Try.prog 32 [.ow 1 (l.map Enc.o), .int .i64 k] [] (.int .i64 (k + l.length)) := by
  refine CallR.of_body (n := 19) (rs := [.tmp 4]) hY.ok Try.func32 rfl (by decide) rfl rfl rfl rfl (fun F => ?_)
  have fx := And.intro Y3 (And.intro Y4 (Y27))
  have fy := Nat.add_zero
  refine goN ?_ ?_ ?_ ?_ ?_ ?_ ?_ ?_ ?_ ?_ ?_ ?_ ?_ ?_ ?_ ?_
  any_goals (first | exact True.intro | skip)
  skip
  refine SW.loop (fun i : Nat => ⟨[.ref 0 0 0 l.length, .int .i64 (k + (i : Nat)), .undef, .undef, .undef, .int .i64 i, .undef, .undef, .undef, .undef, .undef, .undef, .undef, .undef, .undef, .undef, .undef, .undef, .undef], [[.arr 1 ((mixG id l k i).map Enc.o) false]]⟩)
    (fun n i => n = l.length - i ∧ i ≤ l.length) (n := l.length) (x := 0) (Norm.re [0] (by decide) rfl (by simp [heapFits, rowFits, obFits, mixG_zero]) (by simp [tmFits, T.ren])) ⟨rfl, Nat.zero_le _⟩ ?_
  rintro n i ⟨hn, hi⟩
  have fy := Nat.add_zero
  refine goS ?_
  refine SW.cond rfl (fun hc => ?_) (fun hc => ?_)
  · have hlt : i < l.length := by simp at hc; omega
    have hltI : (i : Int) < (l.length : Int) := by omega
    have hg : ((mixG id l k i).map Enc.o)[i]? = some (.int .i64 l[i]) := mixG_get id l k i hlt
    have hs : ((mixG id l k i).map Enc.o).set i (.int .i64 (k + (i : Nat))) = (mixG id l k (i + 1)).map Enc.o := mixG_set id l k i hlt
    have fy := And.intro hg (And.intro hs (And.intro hltI (And.intro Nat.zero_add (Int.toNat_natCast))))
    refine goR ?_ ?_ ?_ ?_ ?_ ?_ ?_ ?_ ?_ ?_ ?_ ?_ ?_ ?_ ?_ ?_
    any_goals (first | exact True.intro | skip)
    all_goals (repeat (refine Wh.mk fun hcc => ?_))
    refine ⟨n - 1, i + 1, by omega, ⟨by omega, by omega⟩, ?_⟩
    rw [wrap64 _ (by omega) (by omega), wrap64 _ (by omega) (by omega), show k + (i : Int) + 1 = k + ((i + 1 : Nat) : Int) by omega]
    exact Norm.re [0] (by decide) rfl (by simp only [eq_self, heapFits, rowFits, obFits, List.getElem?_cons_zero, List.getElem?_cons_succ, renL_o, renL_b, true_and, and_true, and_self]) (by simp [tmFits, T.ren])
  · have hge : i = l.length := by
      have : ¬ i < l.length := by simp at hc; omega
      omega
    subst hge
    rw [mixG_all]
    have fy := Nat.add_zero
    refine goR ?_ ?_ ?_ ?_ ?_ ?_ ?_ ?_ ?_ ?_ ?_ ?_ ?_ ?_ ?_ ?_
    any_goals (first | exact True.intro | skip)
    all_goals (repeat (refine Wh.mk fun hcc => ?_))
    refine SW.ret (show RetQ _ _ _ _ _ _ _ from ⟨.inr rfl, _, [0], [.int .i64 (k + l.length)], ?_, ⟨rfl, ?_, rfl, rfl, ?_, rfl⟩⟩)
    rotate_left
    · (simp [-List.map_set, -List.map_append, pass1, modeOf, giveS, giveSL, Heap.at, Heap.put, fixEs, ioAt, ioAtT, ioKs, ioKT, ioM, ioT, thawA, thawAL, T.asArr, T.cel, T.clo, cloL, T.cloA, cloAL]; rfl)
    · simp [cloOL, T.cloO, T.asArr]
theorem markObj_own (x : (Int × (List Int) × (List Int) × Unit)) (k : Int) (hx : Enc.lim 1048576 x) (h0 : 0 ≤ k) (h1 : k ≤ 562949953421312) : CallR Try.prog 195 [.nd [.int .i64 x.1, .ow 1 (x.2.1.map Enc.o), .ow 1 (x.2.2.1.map Enc.o)], .int .i64 k] [] (.int .i64 (k + x.2.1.length + x.2.2.1.length)) := by
  refine CallR.of_body (n := 14) (rs := [.tmp 4]) hY.ok Try.func195 rfl (by decide) rfl rfl rfl rfl (fun F => ?_)
  have fx := And.intro Y1 (And.intro Y2 (And.intro Y3 (And.intro Y27 (Y35))))
  have q1 := hx.2.1.1
  have q2 := hx.2.2.1.1
  have m1 := markInt_own x.2.1 k q1 h0 (by omega)
  have m2 := markInt_own x.2.2.1 (k + x.2.1.length) q2 (by omega) (by omega)
  have hC1 := cx [.own 1] (m1)
  have hC2 := cx [.own 1] (m2)
  have fy := And.intro nc4 (And.intro nc8 (And.intro wa (tn)))
  refine goR ?_ ?_ ?_ ?_ ?_ ?_ ?_ ?_ ?_ ?_ ?_ ?_ ?_ ?_ ?_ ?_
  any_goals (first | exact True.intro | skip)
  all_goals (repeat (refine Wh.mk fun hcc => ?_))
  all_goals exact SW.ret (show RetQ _ _ _ _ _ _ _ from RetQ.y [0] [.int .i64 (k + x.2.1.length + x.2.2.1.length)])
theorem markSlot_own (x : (Bool × ((Int × (List Int) × (List Int) × Unit)) × Unit)) (k : Int) (hx : Enc.lim 1048576 x) (h0 : 0 ≤ k) (h1 : k ≤ 562949953421312) : CallR Try.prog 192 [.nd [.bool x.1, .nd [.int .i64 x.2.1.1, .ow 1 (x.2.1.2.1.map Enc.o), .ow 1 (x.2.1.2.2.1.map Enc.o)]], .int .i64 k] [] (.int .i64 (k + x.2.1.2.1.length + x.2.1.2.2.1.length)) := by
  refine CallR.of_body (n := 10) (rs := [.tmp 4]) hY.ok Try.func192 rfl (by decide) rfl rfl rfl rfl (fun F => ?_)
  have fx := And.intro Y1 (And.intro Y3 (And.intro Y4 (And.intro Y27 (And.intro Y35 (Y37)))))
  have hC1 := cx [.own 0] (markObj_own x.2.1 k hx.2.1 h0 h1)
  have fy := And.intro nc4 (And.intro nc8 (And.intro wa (tn)))
  refine goR ?_ ?_ ?_ ?_ ?_ ?_ ?_ ?_ ?_ ?_ ?_ ?_ ?_ ?_ ?_ ?_
  any_goals (first | exact True.intro | skip)
  all_goals (repeat (refine Wh.mk fun hcc => ?_))
  all_goals exact SW.ret (show RetQ _ _ _ _ _ _ _ from RetQ.y [0] [.int .i64 (k + x.2.1.2.1.length + x.2.1.2.2.1.length)])
def a4N (x : (((Bool × ((Int × (List Int) × (List Int) × Unit)) × Unit)) × ((Bool × ((Int × (List Int) × (List Int) × Unit)) × Unit)) × ((Bool × ((Int × (List Int) × (List Int) × Unit)) × Unit)) × ((Bool × ((Int × (List Int) × (List Int) × Unit)) × Unit)) × Unit)) : Int := ((x.1.2.1.2.1.length : Nat) : Int) + ((x.1.2.1.2.2.1.length : Nat) : Int) + ((x.2.1.2.1.2.1.length : Nat) : Int) + ((x.2.1.2.1.2.2.1.length : Nat) : Int) + ((x.2.2.1.2.1.2.1.length : Nat) : Int) + ((x.2.2.1.2.1.2.2.1.length : Nat) : Int) + ((x.2.2.2.1.2.1.2.1.length : Nat) : Int) + ((x.2.2.2.1.2.1.2.2.1.length : Nat) : Int)
theorem markSlotA4_own (x : (((Bool × ((Int × (List Int) × (List Int) × Unit)) × Unit)) × ((Bool × ((Int × (List Int) × (List Int) × Unit)) × Unit)) × ((Bool × ((Int × (List Int) × (List Int) × Unit)) × Unit)) × ((Bool × ((Int × (List Int) × (List Int) × Unit)) × Unit)) × Unit)) (k : Int) (hx : Enc.lim 1048576 x) (h0 : 0 ≤ k) (h1 : k ≤ 281474976710656) : CallR Try.prog 189 [.nd [.nd [.bool x.1.1, .nd [.int .i64 x.1.2.1.1, .ow 1 (x.1.2.1.2.1.map Enc.o), .ow 1 (x.1.2.1.2.2.1.map Enc.o)]], .nd [.bool x.2.1.1, .nd [.int .i64 x.2.1.2.1.1, .ow 1 (x.2.1.2.1.2.1.map Enc.o), .ow 1 (x.2.1.2.1.2.2.1.map Enc.o)]], .nd [.bool x.2.2.1.1, .nd [.int .i64 x.2.2.1.2.1.1, .ow 1 (x.2.2.1.2.1.2.1.map Enc.o), .ow 1 (x.2.2.1.2.1.2.2.1.map Enc.o)]], .nd [.bool x.2.2.2.1.1, .nd [.int .i64 x.2.2.2.1.2.1.1, .ow 1 (x.2.2.2.1.2.1.2.1.map Enc.o), .ow 1 (x.2.2.2.1.2.1.2.2.1.map Enc.o)]]], .int .i64 k] [] (.int .i64 (k + a4N x)) := by
  refine CallR.of_body (n := 16) (rs := [.tmp 4]) hY.ok Try.func189 rfl (by decide) rfl rfl rfl rfl (fun F => ?_)
  have fx := And.intro Y3 (And.intro Y4 (And.intro Y27 (And.intro Y35 (And.intro Y37 (Y84)))))
  have q0 := hx.1.2.1.2.1.1
  have r0 := hx.1.2.1.2.2.1.1
  have m0 := markSlot_own x.1 (k) hx.1 (by omega) (by omega)
  have q1 := hx.2.1.2.1.2.1.1
  have r1 := hx.2.1.2.1.2.2.1.1
  have m1 := markSlot_own x.2.1 (k + x.1.2.1.2.1.length + x.1.2.1.2.2.1.length) hx.2.1 (by omega) (by omega)
  have q2 := hx.2.2.1.2.1.2.1.1
  have r2 := hx.2.2.1.2.1.2.2.1.1
  have m2 := markSlot_own x.2.2.1 (k + x.1.2.1.2.1.length + x.1.2.1.2.2.1.length + x.2.1.2.1.2.1.length + x.2.1.2.1.2.2.1.length) hx.2.2.1 (by omega) (by omega)
  have q3 := hx.2.2.2.1.2.1.2.1.1
  have r3 := hx.2.2.2.1.2.1.2.2.1.1
  have m3 := markSlot_own x.2.2.2.1 (k + x.1.2.1.2.1.length + x.1.2.1.2.2.1.length + x.2.1.2.1.2.1.length + x.2.1.2.1.2.2.1.length + x.2.2.1.2.1.2.1.length + x.2.2.1.2.1.2.2.1.length) hx.2.2.2.1 (by omega) (by omega)
  rw [show k + a4N x = k + x.1.2.1.2.1.length + x.1.2.1.2.2.1.length + x.2.1.2.1.2.1.length + x.2.1.2.1.2.2.1.length + x.2.2.1.2.1.2.1.length + x.2.2.1.2.1.2.2.1.length + x.2.2.2.1.2.1.2.1.length + x.2.2.2.1.2.1.2.2.1.length by unfold a4N; omega]
  clear q0 q1 q2 q3 r0 r1 r2 r3 hx
  obtain ⟨⟨p0, ⟨k0, A0, B0, ⟨⟩⟩, ⟨⟩⟩, ⟨p1, ⟨k1, A1, B1, ⟨⟩⟩, ⟨⟩⟩, ⟨p2, ⟨k2, A2, B2, ⟨⟩⟩, ⟨⟩⟩, ⟨p3, ⟨k3, A3, B3, ⟨⟩⟩, ⟨⟩⟩, ⟨⟩⟩ := x
  simp only at m0 m1 m2 m3 ⊢
  have hC1 := cx [.own 0] (m0)
  have hC2 := cx [.own 0] (m1)
  have hC3 := cx [.own 0] (m2)
  have hC4 := cx [.own 0] (m3)
  have fy := And.intro nc4 (And.intro nc8 (And.intro wa (tn)))
  refine goU ?_ ?_ ?_ ?_ ?_ ?_ ?_ ?_ ?_ ?_ ?_ ?_ ?_ ?_ ?_ ?_
  any_goals (first | exact True.intro | skip)
  all_goals (repeat (refine Wh.mk fun hcc => ?_))
  all_goals exact SW.ret (show RetQ _ _ _ _ _ _ _ from RetQ.y [0] [.int .i64 (k + A0.length + B0.length + A1.length + B1.length + A2.length + B2.length + A3.length + B3.length)])
theorem markPage_own (x : (Int × ((((Bool × ((Int × (List Int) × (List Int) × Unit)) × Unit)) × ((Bool × ((Int × (List Int) × (List Int) × Unit)) × Unit)) × ((Bool × ((Int × (List Int) × (List Int) × Unit)) × Unit)) × ((Bool × ((Int × (List Int) × (List Int) × Unit)) × Unit)) × Unit)) × Unit)) (k : Int) (hx : Enc.lim 1048576 x) (h0 : 0 ≤ k) (h1 : k ≤ 281474976710656) : CallR Try.prog 169 [.nd [.int .i64 x.1, .nd [.nd [.bool x.2.1.1.1, .nd [.int .i64 x.2.1.1.2.1.1, .ow 1 (x.2.1.1.2.1.2.1.map Enc.o), .ow 1 (x.2.1.1.2.1.2.2.1.map Enc.o)]], .nd [.bool x.2.1.2.1.1, .nd [.int .i64 x.2.1.2.1.2.1.1, .ow 1 (x.2.1.2.1.2.1.2.1.map Enc.o), .ow 1 (x.2.1.2.1.2.1.2.2.1.map Enc.o)]], .nd [.bool x.2.1.2.2.1.1, .nd [.int .i64 x.2.1.2.2.1.2.1.1, .ow 1 (x.2.1.2.2.1.2.1.2.1.map Enc.o), .ow 1 (x.2.1.2.2.1.2.1.2.2.1.map Enc.o)]], .nd [.bool x.2.1.2.2.2.1.1, .nd [.int .i64 x.2.1.2.2.2.1.2.1.1, .ow 1 (x.2.1.2.2.2.1.2.1.2.1.map Enc.o), .ow 1 (x.2.1.2.2.2.1.2.1.2.2.1.map Enc.o)]]]], .int .i64 k] [] (.int .i64 (k + a4N x.2.1)) := by
  refine CallR.of_body (n := 10) (rs := [.tmp 4]) hY.ok Try.func169 rfl (by decide) rfl rfl rfl rfl (fun F => ?_)
  have fx := And.intro Y1 (And.intro Y3 (And.intro Y4 (And.intro Y27 (And.intro Y35 (And.intro Y37 (And.intro Y84 (Y86)))))))
  have hC1 := cx [.own 0] (markSlotA4_own x.2.1 k hx.2.1 h0 h1)
  have fy := And.intro nc4 (And.intro nc8 (And.intro wa (tn)))
  refine goR ?_ ?_ ?_ ?_ ?_ ?_ ?_ ?_ ?_ ?_ ?_ ?_ ?_ ?_ ?_ ?_
  any_goals (first | exact True.intro | skip)
  all_goals (repeat (refine Wh.mk fun hcc => ?_))
  all_goals exact SW.ret (show RetQ _ _ _ _ _ _ _ from RetQ.y [0] [.int .i64 (k + a4N x.2.1)])
end Q6

namespace Q6
open Go Go.Vm Go.Proofs
set_option maxHeartbeats 4000000
set_option synthInstance.maxSize 2000
set_option synthInstance.maxHeartbeats 400000
set_option maxRecDepth 10000
set_option linter.unusedSimpArgs false
set_option linter.unusedVariables false

set_option synthInstance.maxHeartbeats 4000000
set_option synthInstance.maxSize 20000
set_option maxHeartbeats 40000000
def qR (e j : Nat) (x : PgT) : List T := match (thawA e (Enc.o x) j).1 with | .nd l => l | _ => []
theorem qR_eq (e j : Nat) (x : PgT) : (thawA e (Enc.o x) j).1 = .nd (qR e j x) := by
  obtain ⟨l0, ⟨⟨p0, ⟨k0, A0, B0, ⟨⟩⟩, ⟨⟩⟩, ⟨p1, ⟨k1, A1, B1, ⟨⟩⟩, ⟨⟩⟩, ⟨p2, ⟨k2, A2, B2, ⟨⟩⟩, ⟨⟩⟩, ⟨p3, ⟨k3, A3, B3, ⟨⟩⟩, ⟨⟩⟩, ⟨⟩⟩, ⟨⟩⟩ := x
  rfl
theorem qR_size (e j : Nat) (x : PgT) : sizeL (qR e j x) = 17 := by have := size_thaw _ (Pl.pl x) e j; rw [qR_eq] at this; simp only [T.size] at this; rw [this]; exact (Enc.szO x)
theorem qR_nw (e j : Nat) (x : PgT) : nwL (qR e j x) = true := by have := nw_thaw _ (Pl.pl x) e j; rw [qR_eq] at this; simpa only [T.nw] using this
def pgN : List PgT → Int → Int
  | [], k => k
  | x :: l, k => pgN l (k + a4N x.2.1)
theorem a4N_rng {x : (((Bool × ((Int × (List Int) × (List Int) × Unit)) × Unit)) × ((Bool × ((Int × (List Int) × (List Int) × Unit)) × Unit)) × ((Bool × ((Int × (List Int) × (List Int) × Unit)) × Unit)) × ((Bool × ((Int × (List Int) × (List Int) × Unit)) × Unit)) × Unit)} (hx : Enc.lim 1048576 x) : 0 ≤ a4N x ∧ a4N x ≤ 8388608 := by
  have q0 := hx.1.2.1.2.1.1
  have r0 := hx.1.2.1.2.2.1.1
  have q1 := hx.2.1.2.1.2.1.1
  have r1 := hx.2.1.2.1.2.2.1.1
  have q2 := hx.2.2.1.2.1.2.1.1
  have r2 := hx.2.2.1.2.1.2.2.1.1
  have q3 := hx.2.2.2.1.2.1.2.1.1
  have r3 := hx.2.2.2.1.2.1.2.2.1.1
  unfold a4N
  omega
theorem pgN_take : ∀ (l : List PgT) (k : Int) (i : Nat) (h : i < l.length), pgN (l.take (i + 1)) k = pgN (l.take i) k + a4N (l[i]).2.1
  | [], _, _, h => by simp at h
  | x :: l, k, 0, _ => by simp [pgN]
  | x :: l, k, i + 1, h => by simp only [List.take_succ_cons, pgN, List.getElem_cons_succ]; exact pgN_take l _ i (by simpa using h)
theorem pgN_rng : ∀ (l : List PgT) (k : Int), (∀ x ∈ l, Enc.lim 1048576 x) → k ≤ pgN l k ∧ pgN l k ≤ k + 8388608 * l.length
  | [], k, _ => by simp [pgN]
  | x :: l, k, h => by
    have h1 := a4N_rng (h x (by simp)).2.1
    have h2 := pgN_rng l (k + a4N x.2.1) fun y hy => h y (by simp [hy])
    simp only [pgN, List.length_cons]
    omega
theorem markPageA8_own (x : (Arr 8 ((Int × ((((Bool × ((Int × (List Int) × (List Int) × Unit)) × Unit)) × ((Bool × ((Int × (List Int) × (List Int) × Unit)) × Unit)) × ((Bool × ((Int × (List Int) × (List Int) × Unit)) × Unit)) × ((Bool × ((Int × (List Int) × (List Int) × Unit)) × Unit)) × Unit)) × Unit)))) (k : Int) (hx : Enc.lim 1048576 x) (h0 : 0 ≤ k) (h1 : k ≤ 140737488355328) : CallR Try.prog 117 [.nd (x.l.map Enc.o), .int .i64 k] [] (.int .i64 (pgN x.l k)) := by
  refine CallR.of_body (n := 16) (rs := [.tmp 4]) hY.ok Try.func117 rfl (by decide) (by simp [ioSizes, ioSz]) rfl rfl rfl (fun F => ?_)
  have fx := And.intro Y3 (And.intro Y4 (And.intro Y27 (And.intro Y35 (And.intro Y37 (And.intro Y84 (And.intro Y86 (Y87)))))))
  simp only [entryS, thawAL, thawA, thawAL_b, thawAL_tR, List.append_nil, List.nil_append, List.length_nil, Nat.add_zero]
  have hs0 : sizeL (tR 0 0 x.l) = 136 := by rw [sizeL_tR, x.h]; rfl
  have hn0 := nwL_tR 0 0 x.l
  obtain ⟨l, hl⟩ := x
  simp only at hx hs0 hn0 ⊢
  have fy := And.intro nc4 (And.intro nc8 (And.intro wa (And.intro tn (And.intro hs0 (hn0)))))
  refine goN ?_ ?_ ?_ ?_ ?_ ?_ ?_ ?_ ?_ ?_ ?_ ?_ ?_ ?_ ?_ ?_
  any_goals (first | exact True.intro | skip)
  skip
  refine SW.loop (fun i : Nat => ⟨[.undef, .int .i64 (pgN (l.take i) k), .ptr 1 0 [] 0, .undef, .undef, .int .i64 (i : Nat), .undef, .undef, .undef, .undef, .undef, .undef, .undef, .undef, .undef, .undef], [goneN (8 * i) ++ tO (l.drop i), [.var (.nd (tR 0 0 l))]]⟩)
    (fun n i => n = 8 - i ∧ i ≤ 8) (n := 8) (x := 0) ?_ ⟨rfl, Nat.zero_le _⟩ ?_
  · simp only [List.take_zero, pgN, Nat.mul_zero, goneN, List.replicate_zero, List.nil_append, List.drop_zero]
    exact Norm.to 0 rfl (by simp [weakL])
  rintro n i ⟨hn, hi⟩
  have fy := And.intro nc4 (And.intro nc8 (And.intro wa (tn)))
  refine goS ?_
  refine SW.cond rfl (fun hc => ?_) (fun hc => ?_)
  · have hlt8 : i < 8 := by simp at hc; omega
    have hlt : i < l.length := by omega
    have hltI : (i : Int) < 8 := by omega
    have hg : (tR 0 0 l)[i]? = some (.nd (qR 0 (8 * i) l[i])) := by rw [tR_get l 0 0 i hlt, qR_eq]; rw [show 0 + i * Pl.n PgT = 8 * i by show 0 + i * 8 = _; omega]
    have hlm : (tR 0 0 l).length = 8 := by rw [tR_len, hl]
    have hs1 : sizeL (List.take i (tR 0 0 l)) = i * 17 := sizeL_take_tR l 0 0 i (by omega)
    have hs2 := qR_size 0 (8 * i) l[i]
    have hs3 := qR_nw 0 (8 * i) l[i]
    have hr := pgN_rng (l.take i) k fun y hy => hx y (List.mem_of_mem_take hy)
    rw [List.length_take, Nat.min_eq_left (by omega : i ≤ l.length)] at hr
    have hm := markPage_own l[i] (pgN (l.take i) k) (hx _ (List.getElem_mem hlt)) (by omega) (by omega)
    have hgv : giveS (T.nd (qR 0 (8 * i) l[i])) [goneN (8 * i) ++ tO (l.drop i), [.var (.nd (tR 0 0 l))], []] = some (Enc.o l[i], [goneN (8 * (i + 1)) ++ tO (l.drop (i + 1)), [.var (.nd (tR 0 0 l))], []]) := by
      rw [← qR_eq, give_at (Q := tO (l.drop (i + 1))) (by rw [← tO_cons, ← List.drop_eq_getElem_cons hlt]; rfl)]
      rfl
    have hp : pass1 [.own 0] [T.nd (qR 0 (8 * i) l[i]), .int .i64 (pgN (l.take i) k)] [goneN (8 * i) ++ tO (l.drop i), [.var (.nd (tR 0 0 l))], []] = some ([(false, Enc.o l[i]), (true, .int .i64 (pgN (l.take i) k))], [], [goneN (8 * (i + 1)) ++ tO (l.drop (i + 1)), [.var (.nd (tR 0 0 l))], []]) := by
      simp only [pass1, hgv, T.cel, if_true]
      rfl
    have hpk := pgN_take l k i hlt
    have fy := And.intro nc4 (And.intro nc8 (And.intro wa (And.intro tn (And.intro hg (And.intro hlm (And.intro hs1 (And.intro hs2 (And.intro hs3 (And.intro hltI (And.intro hlt8 (Nat.zero_add)))))))))))
    refine goR ?_ ?_ ?_ ?_ ?_ ?_ ?_ ?_ ?_ ?_ ?_ ?_ ?_ ?_ ?_ ?_
    any_goals (first | exact True.intro | skip)
    all_goals (repeat (refine Wh.mk fun hcc => ?_))
    refine vcall_c (cx [.own 0] hm) (h1 := hp) (hK := ?_)
    simp only [k13, upT_g, dnT_g, nb_g, dnT_b, dnT_s, dnT_0, dnT_r, fx, fy, wo, decide_true, decide_false, wz0, wz1, wz2, wz3, wz4, wz5, wz6, wz7, wz8, appM, Ty.isInt, capT, appendZM, buildM, setAll, plSt, plAr, mnmx, Int.reduceLT, vrec, List.drop_succ_cons, List.drop_zero, convertM, indexM, fieldM, Int.toNat_zero, Int.toNat_one, Int.le_refl, Int.zero_le_ofNat, Int.reduceEq, Int.reduceNe, ne_eq, not_false_eq_true, u8_wrap, marksG_len, marks_len, bne_self_eq_false, take_map_len, tgL_byte, T.asArr, T.tg, tgL, indexAddrM, wk, wl, eq_self, isCall, callT, opM, S.ev, S.put, entryS, thawAL, thawA, RM.run, RM.bind, RM.ofOpt, allocs, Heap.ups, Heap.put, Heap.at, List.replicate, Nat.reduceAdd, Nat.reduceSub, ofConst, nilAs, if_false, if_true, binT, binTy, unT, guardT, quietK, reduceIte, boxM, allocM, loadM, storeM, fieldAddrM, lenT, extractT, subM, setOb, T.get, T.setp, T.offs, T.nw, nwL, T.cel, T.isNd, T.size, sizeL, TyI.agg, Ty.agg, Ty.isFn, zeroT, Nat.reduceLT, Nat.reduceEqDiff, sumT, kill]
    try simp only [thenS, blockS, if_true, if_false, Nat.reduceEqDiff, reduceIte]
    have fy := And.intro nc4 (And.intro nc8 (And.intro wa (tn)))
    refine goR ?_ ?_ ?_ ?_ ?_ ?_ ?_ ?_ ?_ ?_ ?_ ?_ ?_ ?_ ?_ ?_
    any_goals (first | exact True.intro | skip)
    all_goals (repeat (refine Wh.mk fun hcc => ?_))
    refine ⟨n - 1, i + 1, by omega, ⟨by omega, by omega⟩, ?_⟩
    rw [wrap64 _ (by omega) (by omega), hpk]
    first | exact Norm.to 0 rfl (by simp [weakL]) | exact Norm.to 1 rfl (by simp [weakL]) | exact Norm.to 2 rfl (by simp [weakL])
  · have hge : i = l.length := by simp at hc; omega
    subst hge
    rw [List.take_length]
    have fy := And.intro nc4 (And.intro nc8 (And.intro wa (tn)))
    refine goR ?_ ?_ ?_ ?_ ?_ ?_ ?_ ?_ ?_ ?_ ?_ ?_ ?_ ?_ ?_ ?_
    any_goals (first | exact True.intro | skip)
    all_goals (repeat (refine Wh.mk fun hcc => ?_))
    refine SW.ret (show RetQ _ _ _ _ _ _ _ from RetQ.y [0] [.int .i64 (pgN l k)])
end Q6
