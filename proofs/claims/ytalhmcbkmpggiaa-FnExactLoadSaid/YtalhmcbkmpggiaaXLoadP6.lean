/- The program's Load returns what the reference's returns, for all arguments: the law laws.FnExactLoad answers true whatever bytes it is given; no conditions. -/
import Derived.Test.YtalhmcbkmpggiaaXLoadP1
import Derived.Test.YtalhmcbkmpggiaaXLoadV5
import Derived.Test.YtalhmcbkmpggiaaXLoadP2
import Derived.Test.YtalhmcbkmpggiaaXLoadP5
import Derived.Test.YtalhmcbkmpggiaaXLoadP3
import Derived.Test.YtalhmcbkmpggiaaXLoadP4
import Derived.Test.YtalhmcbkmpggiaaVm4
import Derived.Test.YtalhmcbkmpggiaaRows
import Derived.ProofKit
set_option linter.all false

namespace Q6
open Go Go.Vm Go.Proofs
set_option maxHeartbeats 4000000
set_option synthInstance.maxSize 2000
set_option synthInstance.maxHeartbeats 400000
set_option maxRecDepth 10000
set_option linter.unusedSimpArgs false
set_option linter.unusedVariables false

theorem laws_szIntS_ok (l : List Int) (b : Int) (hl : Enc.lim maxLen l) (h0 : 0 ≤ b) (h1 : b ≤ 1048576) : CallR Try.prog 162 [.sl .b (l.map Enc.b), .int .i64 b] [] (.int .i64 (Enc.sz l b)) := by
  refine CallR.of_body (n := 12) (rs := [.tmp 4]) hY.ok Try.func162 rfl (by decide) rfl rfl rfl rfl (fun F => ?_)
  have fx := And.intro Y3 (And.intro Y4 (Y34))
  have hm : l.length ≤ 9223372036854775807 := hl.1
  have hw : IntKind.i64.wrap (b - l.length) = b - l.length := wrap64 _ (by omega) (by omega)
  have fy := hw
  refine goN ?_ ?_ ?_ ?_ ?_ ?_ ?_ ?_ ?_ ?_ ?_ ?_ ?_ ?_ ?_ ?_
  any_goals (first | exact True.intro | skip)
  skip
  refine SW.cond rfl (fun hc => ?_) (fun hc => ?_)
  · have hc' : b - (l.length : Int) < 0 := by simpa using hc
    have fy := hw
    refine goK ?_ ?_ ?_ ?_ ?_ ?_ ?_ ?_ ?_ ?_ ?_ ?_ ?_ ?_ ?_ ?_
    any_goals (first | exact True.intro | skip)
    all_goals (repeat (refine Wh.mk fun hcc => ?_))
    all_goals (simp only [tupOf, fixEs, sz_list, if_pos hc'])
  have hn : ¬ b - (l.length : Int) < 0 := by simpa using hc
  have fy := hw
  refine goK ?_ ?_ ?_ ?_ ?_ ?_ ?_ ?_ ?_ ?_ ?_ ?_ ?_ ?_ ?_ ?_
  any_goals (first | exact True.intro | skip)
  all_goals (repeat (refine Wh.mk fun hcc => ?_))
  all_goals (simp only [tupOf, fixEs, sz_list, if_neg hn]; rfl)
theorem laws_szObj_ok (x : (Int × (List Int) × (List Int) × Unit)) (b : Int) (hx : Enc.lim maxLen x) (h0 : 0 ≤ b) (h1 : b ≤ 1048576) : CallR Try.prog 126 [.nd [.int .i64 x.1, .sl .b (x.2.1.map Enc.b), .sl .b (x.2.2.1.map Enc.b)], .int .i64 b] [] (.int .i64 (Enc.sz x b)) := by
  refine CallR.of_body (n := 18) (rs := [.tmp 4]) hY.ok Try.func126 rfl (by decide) rfl rfl rfl rfl (fun F => ?_)
  have fx := And.intro Y1 (And.intro Y2 (And.intro Y3 (And.intro Y4 (And.intro Y34 (Y77)))))
  have hC1 := cx [] (laws_szIntS_ok x.2.1 b hx.2.1 h0 h1)
  have fy := Nat.add_zero
  refine goN ?_ ?_ ?_ ?_ ?_ ?_ ?_ ?_ ?_ ?_ ?_ ?_ ?_ ?_ ?_ ?_
  any_goals (first | exact True.intro | skip)
  skip
  refine SW.cond rfl (fun hc0 => ?_) (fun hc0 => ?_)
  · have hc0' : Enc.sz x.2.1 b < 0 := by simpa using hc0
    have fy := Nat.add_zero
    refine goK ?_ ?_ ?_ ?_ ?_ ?_ ?_ ?_ ?_ ?_ ?_ ?_ ?_ ?_ ?_ ?_
    any_goals (first | exact True.intro | skip)
    all_goals (repeat (refine Wh.mk fun hcc => ?_))
    all_goals (have hv : Enc.sz x b = -1 := by show EncL.sz x b = -1; simp [szl_prod, szl_unit, flat_int, flat_bool, flat_list, flat_prod, flatl_prod, flatl_unit, hc0'])
    all_goals simp only [tupOf, fixEs, hv]
  have hn0 : ¬ Enc.sz x.2.1 b < 0 := by simpa using hc0
  have h0_1 : 0 ≤ Enc.sz x.2.1 b := by omega
  have h1_1 : Enc.sz x.2.1 b ≤ 1048576 := by have := Enc.szLe x.2.1 b h0; omega
  have hC1 := cx [] (laws_szIntS_ok x.2.2.1 (Enc.sz x.2.1 b) hx.2.2.1 h0_1 h1_1)
  have fy := Nat.add_zero
  refine goN ?_ ?_ ?_ ?_ ?_ ?_ ?_ ?_ ?_ ?_ ?_ ?_ ?_ ?_ ?_ ?_
  any_goals (first | exact True.intro | skip)
  skip
  refine SW.cond rfl (fun hc1 => ?_) (fun hc1 => ?_)
  · have hc1' : Enc.sz x.2.2.1 (Enc.sz x.2.1 b) < 0 := by simpa using hc1
    have fy := Nat.add_zero
    refine goK ?_ ?_ ?_ ?_ ?_ ?_ ?_ ?_ ?_ ?_ ?_ ?_ ?_ ?_ ?_ ?_
    any_goals (first | exact True.intro | skip)
    all_goals (repeat (refine Wh.mk fun hcc => ?_))
    all_goals (have hv : Enc.sz x b = -1 := by show EncL.sz x b = -1; simp [szl_prod, szl_unit, flat_int, flat_bool, flat_list, flat_prod, flatl_prod, flatl_unit, hn0, hc1'])
    all_goals simp only [tupOf, fixEs, hv]
  have hn1 : ¬ Enc.sz x.2.2.1 (Enc.sz x.2.1 b) < 0 := by simpa using hc1
  have h0_2 : 0 ≤ Enc.sz x.2.2.1 (Enc.sz x.2.1 b) := by omega
  have h1_2 : Enc.sz x.2.2.1 (Enc.sz x.2.1 b) ≤ 1048576 := by have := Enc.szLe x.2.2.1 (Enc.sz x.2.1 b) h0_1; omega
  have fy := Nat.add_zero
  refine goK ?_ ?_ ?_ ?_ ?_ ?_ ?_ ?_ ?_ ?_ ?_ ?_ ?_ ?_ ?_ ?_
  any_goals (first | exact True.intro | skip)
  all_goals (repeat (refine Wh.mk fun hcc => ?_))
  all_goals (have hv : Enc.sz x b = (Enc.sz x.2.2.1 (Enc.sz x.2.1 b)) := by show EncL.sz x b = _; simp [szl_prod, szl_unit, flat_int, flat_bool, flat_list, flat_prod, flatl_prod, flatl_unit, hn0, hn1])
  all_goals simp only [tupOf, fixEs, hv]
theorem laws_szSlot_ok (x : (Bool × ((Int × (List Int) × (List Int) × Unit)) × Unit)) (b : Int) (hx : Enc.lim maxLen x) (h0 : 0 ≤ b) (h1 : b ≤ 1048576) : CallR Try.prog 60 [.nd [.bool x.1, .nd [.int .i64 x.2.1.1, .sl .b (x.2.1.2.1.map Enc.b), .sl .b (x.2.1.2.2.1.map Enc.b)]], .int .i64 b] [] (.int .i64 (Enc.sz x b)) := by
  refine CallR.of_body (n := 12) (rs := [.tmp 4]) hY.ok Try.func60 rfl (by decide) rfl rfl rfl rfl (fun F => ?_)
  have fx := And.intro Y1 (And.intro Y3 (And.intro Y4 (And.intro Y34 (And.intro Y77 (Y79)))))
  have hC1 := cx [] (laws_szObj_ok x.2.1 b hx.2.1 h0 h1)
  have fy := Nat.add_zero
  refine goN ?_ ?_ ?_ ?_ ?_ ?_ ?_ ?_ ?_ ?_ ?_ ?_ ?_ ?_ ?_ ?_
  any_goals (first | exact True.intro | skip)
  skip
  refine SW.cond rfl (fun hc0 => ?_) (fun hc0 => ?_)
  · have hc0' : Enc.sz x.2.1 b < 0 := by simpa using hc0
    have fy := Nat.add_zero
    refine goK ?_ ?_ ?_ ?_ ?_ ?_ ?_ ?_ ?_ ?_ ?_ ?_ ?_ ?_ ?_ ?_
    any_goals (first | exact True.intro | skip)
    all_goals (repeat (refine Wh.mk fun hcc => ?_))
    all_goals (have hv : Enc.sz x b = -1 := by show EncL.sz x b = -1; simp [szl_prod, szl_unit, flat_int, flat_bool, flat_list, flat_prod, flatl_prod, flatl_unit, hc0'])
    all_goals simp only [tupOf, fixEs, hv]
  have hn0 : ¬ Enc.sz x.2.1 b < 0 := by simpa using hc0
  have h0_1 : 0 ≤ Enc.sz x.2.1 b := by omega
  have h1_1 : Enc.sz x.2.1 b ≤ 1048576 := by have := Enc.szLe x.2.1 b h0; omega
  have fy := Nat.add_zero
  refine goK ?_ ?_ ?_ ?_ ?_ ?_ ?_ ?_ ?_ ?_ ?_ ?_ ?_ ?_ ?_ ?_
  any_goals (first | exact True.intro | skip)
  all_goals (repeat (refine Wh.mk fun hcc => ?_))
  all_goals (have hv : Enc.sz x b = (Enc.sz x.2.1 b) := by show EncL.sz x b = _; simp [szl_prod, szl_unit, flat_int, flat_bool, flat_list, flat_prod, flatl_prod, flatl_unit, hn0])
  all_goals simp only [tupOf, fixEs, hv]
theorem laws_szSlotS_ok (l : List ((Bool × ((Int × (List Int) × (List Int) × Unit)) × Unit))) (b : Int) (hl : Enc.lim maxLen l) (h0 : 0 ≤ b) (h1 : b ≤ 1048576) : CallR Try.prog 11 [.sl .b (l.map Enc.b), .int .i64 b] [] (.int .i64 (Enc.sz l b)) := by
  refine CallR.of_body (n := 27) (rs := [.tmp 4]) hY.ok Try.func11 rfl (by decide) rfl rfl rfl rfl (fun F => ?_)
  have fx := And.intro Y3 (And.intro Y4 (And.intro Y22 (And.intro Y34 (And.intro Y77 (Y79)))))
  have hm : l.length ≤ 9223372036854775807 := hl.1
  have hw : IntKind.i64.wrap (b - l.length) = b - l.length := wrap64 _ (by omega) (by omega)
  have fy := hw
  refine goN ?_ ?_ ?_ ?_ ?_ ?_ ?_ ?_ ?_ ?_ ?_ ?_ ?_ ?_ ?_ ?_
  any_goals (first | exact True.intro | skip)
  skip
  refine SW.cond rfl (fun hc => ?_) (fun hc => ?_)
  · have hc' : b - (l.length : Int) < 0 := by simpa using hc
    have fy := hw
    refine goK ?_ ?_ ?_ ?_ ?_ ?_ ?_ ?_ ?_ ?_ ?_ ?_ ?_ ?_ ?_ ?_
    any_goals (first | exact True.intro | skip)
    all_goals (repeat (refine Wh.mk fun hcc => ?_))
    all_goals (simp only [tupOf, fixEs, sz_list, if_pos hc'])
  have hn : ¬ b - (l.length : Int) < 0 := by simpa using hc
  have hsz : Enc.sz l b = szFold l (b - l.length) := by rw [sz_list, if_neg hn]; rfl
  have fy := hw
  refine goN ?_ ?_ ?_ ?_ ?_ ?_ ?_ ?_ ?_ ?_ ?_ ?_ ?_ ?_ ?_ ?_
  any_goals (first | exact True.intro | skip)
  skip
  refine SW.loop (fun x : Nat × Int => ⟨[.sl .b (l.map Enc.b), .int .i64 x.2, .undef, .undef, .undef, .int .i64 x.1, .undef, .undef, .undef, .undef, .undef, .undef, .undef, .undef, .undef, .undef, .undef, .undef, .undef, .undef, .undef, .undef, .undef, .undef, .undef, .undef, .undef], [[]]⟩)
    (fun n x => n = l.length - x.1 ∧ x.1 ≤ l.length ∧ szFold (l.drop x.1) x.2 = szFold l (b - l.length) ∧ 0 ≤ x.2 ∧ x.2 ≤ 1048576) (n := l.length) (x := (0, b - l.length)) (Norm.to 0 rfl (by simp [weakL])) ⟨rfl, Nat.zero_le _, rfl, by omega, by omega⟩ ?_
  rintro n ⟨i, y⟩ ⟨hn', hi, hfd, hy0, hy1⟩
  simp only at hn' hi hfd hy0 hy1 ⊢
  have fy := Nat.add_zero
  refine goS ?_
  refine SW.cond rfl (fun hc2 => ?_) (fun hc2 => ?_)
  · have hlt : i < l.length := by simpa using hc2
    have hg : (l.map Enc.b)[i]? = some (.nd [.bool l[i].1, .nd [.int .i64 l[i].2.1.1, .sl .b (l[i].2.1.2.1.map Enc.b), .sl .b (l[i].2.1.2.2.1.map Enc.b)]]) := map_get Enc.b l i hlt
    have hd : l.drop i = l[i] :: l.drop (i + 1) := List.drop_eq_getElem_cons hlt
    rw [hd] at hfd
    have hC1 := cx [] (laws_szSlot_ok l[i] y (hl.2 _ (List.getElem_mem hlt)) hy0 hy1)
    have fy := hg
    refine goK ?_ ?_ ?_ ?_ ?_ ?_ ?_ ?_ ?_ ?_ ?_ ?_ ?_ ?_ ?_ ?_
    any_goals (first | exact True.intro | skip)
    all_goals (repeat (refine Wh.mk fun hcc => ?_))
    · have hx := hcc
      have hx' : Enc.sz l[i] y < 0 := by simpa using hx
      simp only [szFold, if_pos hx'] at hfd
      simp only [tupOf, fixEs, hsz, ← hfd]
    · have hx := hcc
      have hx' : ¬ Enc.sz l[i] y < 0 := by simpa using hx
      simp only [szFold, if_neg hx'] at hfd
      refine ⟨n - 1, (i + 1, Enc.sz l[i] y), by omega, ⟨by simp only; omega, by simp only; omega, hfd, by simp only; omega, by have := Enc.szLe l[i] y hy0; simp only; omega⟩, ?_⟩
      rw [wrap64 _ (by omega) (by omega)]
      first | exact Norm.to 0 rfl (by simp [weakL]) | exact Norm.to 1 rfl (by simp [weakL]) | exact Norm.to 2 rfl (by simp [weakL])
  · have hge : i = l.length := by
      have : ¬ i < l.length := by simpa using hc2
      omega
    rw [hge, List.drop_length] at hfd
    simp only [szFold] at hfd
    have fy := Nat.add_zero
    refine goK ?_ ?_ ?_ ?_ ?_ ?_ ?_ ?_ ?_ ?_ ?_ ?_ ?_ ?_ ?_ ?_
    any_goals (first | exact True.intro | skip)
    all_goals (repeat (refine Wh.mk fun hcc => ?_))
    simp only [tupOf, fixEs, hsz, ← hfd]
end Q6

namespace Q6
open Go Go.Vm Go.Proofs
set_option maxHeartbeats 4000000
set_option synthInstance.maxSize 2000
set_option synthInstance.maxHeartbeats 400000
set_option maxRecDepth 10000
set_option linter.unusedSimpArgs false
set_option linter.unusedVariables false

theorem markByte_ok (l : List UInt8) (k : Int) (hl : l.length ≤ 1048576) (h0 : 0 ≤ k) (h1 : k ≤ 1125899906842624) : CallR Try.prog 18 [.io (.tup [.ow 1 (l.map Enc.o)]), .int .i64 k] [.tup [.ow 1 ((marksG byt l.length k).map Enc.o)]] (.int .i64 (k + l.length)) := by
  refine CallR.of_body (n := 20) (rs := [.tmp 4]) hY.ok Try.func18 rfl (by decide) rfl rfl rfl rfl (fun F => ?_)
  have fx := And.intro Y3 (And.intro Y4 (And.intro Y5 (Y24)))
  have fy := Nat.add_zero
  refine goN ?_ ?_ ?_ ?_ ?_ ?_ ?_ ?_ ?_ ?_ ?_ ?_ ?_ ?_ ?_ ?_
  any_goals (first | exact True.intro | skip)
  skip
  refine SW.loop (fun i : Nat => ⟨[.ref 0 0 0 l.length, .int .i64 (k + (i : Nat)), .undef, .undef, .undef, .int .i64 i, .undef, .undef, .undef, .undef, .undef, .undef, .undef, .undef, .undef, .undef, .undef, .undef, .undef, .undef], [[.arr 1 ((mixG byt l k i).map Enc.o) false]]⟩)
    (fun n i => n = l.length - i ∧ i ≤ l.length) (n := l.length) (x := 0) (Norm.re [0] (by decide) rfl (by simp [heapFits, rowFits, obFits, mixG_zero]) (by simp [tmFits, T.ren])) ⟨rfl, Nat.zero_le _⟩ ?_
  rintro n i ⟨hn, hi⟩
  have fy := Nat.add_zero
  refine goS ?_
  refine SW.cond rfl (fun hc => ?_) (fun hc => ?_)
  · have hlt : i < l.length := by simp at hc; omega
    have hltI : (i : Int) < (l.length : Int) := by omega
    have hg : ((mixG byt l k i).map Enc.o)[i]? = some (.int .u8 (l[i].toNat : Int)) := mixG_get byt l k i hlt
    have hs : ((mixG byt l k i).map Enc.o).set i (.int .u8 ((byt (k + (i : Nat))).toNat : Int)) = (mixG byt l k (i + 1)).map Enc.o := mixG_set byt l k i hlt
    have fy := And.intro hg (And.intro hs (And.intro hltI (And.intro Nat.zero_add (Int.toNat_natCast))))
    refine goR ?_ ?_ ?_ ?_ ?_ ?_ ?_ ?_ ?_ ?_ ?_ ?_ ?_ ?_ ?_ ?_
    any_goals (first | exact True.intro | skip)
    all_goals (repeat (refine Wh.mk fun hcc => ?_))
    refine ⟨n - 1, i + 1, by omega, ⟨by omega, by omega⟩, ?_⟩
    rw [wrap64 _ (by omega) (by omega), wrap64 _ (by omega) (by omega), show k + (i : Int) + 1 = k + ((i + 1 : Nat) : Int) by omega]
    exact Norm.re [0] (by decide) rfl (by simp only [eq_self, heapFits, rowFits, obFits, List.getElem?_cons_zero, List.getElem?_cons_succ, renL_o, renL_b, true_and, and_true, and_self]) (by simp [tmFits, T.ren])
  · have hge : i = l.length := by
      have : ¬ i < l.length := by simp at hc; omega
      omega
    subst hge
    rw [mixG_all]
    have fy := Nat.add_zero
    refine goR ?_ ?_ ?_ ?_ ?_ ?_ ?_ ?_ ?_ ?_ ?_ ?_ ?_ ?_ ?_ ?_
    any_goals (first | exact True.intro | skip)
    all_goals (repeat (refine Wh.mk fun hcc => ?_))
    refine SW.ret (show RetQ _ _ _ _ _ _ _ from ⟨.inr rfl, _, [0], [.int .i64 (k + l.length)], ?_, ⟨rfl, ?_, rfl, rfl, ?_, rfl⟩⟩)
    rotate_left
    · (simp [-List.map_set, -List.map_append, pass1, modeOf, giveS, giveSL, Heap.at, Heap.put, fixEs, ioAt, ioAtT, ioKs, ioKT, ioM, ioT, thawA, thawAL, T.asArr, T.cel, T.clo, cloL, T.cloA, cloAL]; rfl)
    · simp [cloOL, T.cloO, T.asArr]
theorem heldByte_ok (n : Nat) (k : Int) (hl : n ≤ 1048576) (h0 : 0 ≤ k) (h1 : k ≤ 1125899906842624) : CallR Try.prog 19 [.sl .b ((marksG byt n k).map Enc.b), .int .i64 k] [] (.int .i64 (k + n)) := by
  refine CallR.of_body (n := 22) (rs := [.tmp 4]) hY.ok Try.func19 rfl (by decide) rfl rfl rfl rfl (fun F => ?_)
  have fx := And.intro Y3 (And.intro Y4 (And.intro Y5 (Y24)))
  have fy := Nat.add_zero
  refine goN ?_ ?_ ?_ ?_ ?_ ?_ ?_ ?_ ?_ ?_ ?_ ?_ ?_ ?_ ?_ ?_
  any_goals (first | exact True.intro | skip)
  skip
  refine SW.loop (fun i : Nat => ⟨[.sl .b ((marksG byt n k).map Enc.b), .int .i64 (k + (i : Nat)), .undef, .undef, .undef, .int .i64 i, .undef, .undef, .undef, .undef, .undef, .undef, .undef, .undef, .undef, .undef, .undef, .undef, .undef, .undef, .undef, .undef], [[]]⟩)
    (fun N i => N = n - i ∧ i ≤ n) (n := n) (x := 0) (Norm.to 0 rfl (by simp [weakL])) ⟨rfl, Nat.zero_le _⟩ ?_
  rintro N i ⟨hn, hi⟩
  have fy := Nat.add_zero
  refine goS ?_
  refine SW.cond rfl (fun hc => ?_) (fun hc => ?_)
  · have hlt : i < n := by simp at hc; omega
    have hg : ((marksG byt n k).map Enc.b)[i]? = some (.int .u8 ((byt (k + (i : Nat))).toNat : Int)) := by rw [map_get Enc.b _ i (by rw [marksG_len]; exact hlt), marksG_get byt n k i hlt]; rfl
    have fy := And.intro hg (And.intro Nat.zero_add (Int.toNat_natCast))
    refine goR ?_ ?_ ?_ ?_ ?_ ?_ ?_ ?_ ?_ ?_ ?_ ?_ ?_ ?_ ?_ ?_
    any_goals (first | exact True.intro | skip)
    all_goals (repeat (refine Wh.mk fun hcc => ?_))
    all_goals first | (exfalso; simp at hcc; done) | skip
    refine ⟨N - 1, i + 1, by omega, ⟨by omega, by omega⟩, ?_⟩
    rw [wrap64 _ (by omega) (by omega), wrap64 _ (by omega) (by omega), show k + (i : Int) + 1 = k + ((i + 1 : Nat) : Int) by omega]
    exact Norm.to 0 rfl (by simp [weakL])
  · have hge : i = n := by
      have : ¬ i < n := by simp at hc; omega
      omega
    subst hge
    have fy := Nat.add_zero
    refine goK ?_ ?_ ?_ ?_ ?_ ?_ ?_ ?_ ?_ ?_ ?_ ?_ ?_ ?_ ?_ ?_
    any_goals (first | exact True.intro | skip)
    all_goals (repeat (refine Wh.mk fun hcc => ?_))
    simp [tupOf, fixEs]
end Q6

namespace Q6
open Go Go.Vm Go.Proofs
set_option maxHeartbeats 4000000
set_option synthInstance.maxSize 2000
set_option synthInstance.maxHeartbeats 400000
set_option maxRecDepth 10000
set_option linter.unusedSimpArgs false
set_option linter.unusedVariables false

def lvM (k j : Int) : (Int × Int × Bool × Unit) := (k + 3 * j, k + 3 * j + 1, (Int.tmod (k + 3 * j + 2) 3 == 0), ())
theorem markLive_ok (l : List (Int × Int × Bool × Unit)) (k : Int) (hl : l.length ≤ 1048576) (h0 : 0 ≤ k) (h1 : k ≤ 562949953421312) : CallR Try.prog 113 [.io (.tup [.ow 3 (l.map Enc.o)]), .int .i64 k] [.tup [.ow 3 ((marksG (lvM k) l.length 0).map Enc.o)]] (.int .i64 (k + 3 * l.length)) := by
  refine CallR.of_body (n := 36) (rs := [.tmp 4]) hY.ok Try.func113 rfl (by decide) rfl rfl rfl rfl (fun F => ?_)
  have fx := And.intro Y1 (And.intro Y2 (And.intro Y3 (And.intro Y4 (And.intro Y39 (Y91)))))
  have fy := Nat.add_zero
  refine goN ?_ ?_ ?_ ?_ ?_ ?_ ?_ ?_ ?_ ?_ ?_ ?_ ?_ ?_ ?_ ?_
  any_goals (first | exact True.intro | skip)
  skip
  refine SW.loop (fun i : Nat => ⟨[.ref 0 0 0 l.length, .int .i64 (k + 3 * (i : Nat)), .undef, .undef, .undef, .int .i64 (i : Nat), .undef, .undef, .undef, .undef, .undef, .undef, .undef, .undef, .undef, .undef, .undef, .undef, .undef, .undef, .undef, .undef, .undef, .undef, .undef, .undef, .undef, .undef, .undef, .undef, .undef, .undef, .undef, .undef, .undef, .undef], [[.arr 3 ((mixG (lvM k) l 0 i).map Enc.o) false]]⟩)
    (fun n i => n = l.length - i ∧ i ≤ l.length) (n := l.length) (x := 0) (Norm.re [0] (by decide) rfl (by simp [heapFits, rowFits, obFits, mixG_zero]) (by simp [tmFits, T.ren])) ⟨rfl, Nat.zero_le _⟩ ?_
  rintro n i ⟨hn, hi⟩
  have fy := Nat.add_zero
  refine goS ?_
  refine SW.cond rfl (fun hc => ?_) (fun hc => ?_)
  · have hlt : i < l.length := by simp at hc; omega
    have hltI : (i : Int) < (l.length : Int) := by omega
    have hg : ((mixG (lvM k) l 0 i).map Enc.o)[i]? = some (.nd [.int .i64 l[i].1, .int .i64 l[i].2.1, .bool l[i].2.2.1]) := mixG_get (lvM k) l 0 i hlt
    have hlen : ((mixG (lvM k) l 0 i).map (Enc.o : _ → T)).length = l.length := by rw [List.length_map, mixG_len _ _ _ _ hi]
    have hs : ((mixG (lvM k) l 0 i).map Enc.o).set i (.nd [.int .i64 (k + 3 * (i : Nat)), .int .i64 (k + 3 * (i : Nat) + 1), .bool (Int.tmod (k + 3 * (i : Nat) + 2) 3 == 0)]) = (mixG (lvM k) l 0 (i + 1)).map Enc.o := by
      have := mixG_set (lvM k) l 0 i hlt
      rw [Int.zero_add] at this
      exact this
    generalize hL : (mixG (lvM k) l 0 i).map (Enc.o : _ → T) = L at *
    have hg1 : ∀ a : T, (L.set i a)[i]? = some a := fun a => by rw [List.getElem?_set_self (by omega)]
    have hs1 : ∀ a b : T, (L.set i a).set i b = L.set i b := fun a b => List.set_set ..
    have hl1 : ∀ a : T, (L.set i a).length = L.length := fun a => List.length_set ..
    have hw1 : IntKind.i64.wrap (k + 3 * (i : Int) + 1) = k + 3 * (i : Int) + 1 := wrap64 _ (by omega) (by omega)
    have hw2 : IntKind.i64.wrap (k + 3 * (i : Int) + 1 + 1) = k + 3 * (i : Int) + 2 := by rw [wrap64 _ (by omega) (by omega)]; omega
    have hw3 : IntKind.i64.wrap (k + 3 * (i : Int) + 2 + 1) = k + 3 * ((i + 1 : Nat) : Int) := by rw [wrap64 _ (by omega) (by omega)]; omega
    have hw4 : IntKind.i64.wrap ((i : Int) + 1) = ((i + 1 : Nat) : Int) := by rw [wrap64 _ (by omega) (by omega)]; omega
    have fy := And.intro hg (And.intro hg1 (And.intro hs1 (And.intro hl1 (And.intro hltI (And.intro hw1 (And.intro hw2 (And.intro hw3 (And.intro hw4 (And.intro Nat.zero_add (Int.toNat_natCast))))))))))
    refine goR ?_ ?_ ?_ ?_ ?_ ?_ ?_ ?_ ?_ ?_ ?_ ?_ ?_ ?_ ?_ ?_
    any_goals (first | exact True.intro | skip)
    all_goals (repeat (refine Wh.mk fun hcc => ?_))
    refine ⟨n - 1, i + 1, by omega, ⟨by omega, by omega⟩, ?_⟩
    rw [hs]
    exact Norm.re [0] (by decide) rfl (by first | (simp only [eq_self, heapFits, rowFits, obFits, List.getElem?_cons_zero, List.getElem?_cons_succ, renL_o, renL_b, true_and, and_true, and_self]; done) | simp [-List.map_append, heapFits, rowFits, obFits, T.ren, renL]) (by simp [tmFits, T.ren])
  · have hge : i = l.length := by
      have : ¬ i < l.length := by simp at hc; omega
      omega
    subst hge
    rw [mixG_all]
    have fy := Nat.add_zero
    refine goR ?_ ?_ ?_ ?_ ?_ ?_ ?_ ?_ ?_ ?_ ?_ ?_ ?_ ?_ ?_ ?_
    any_goals (first | exact True.intro | skip)
    all_goals (repeat (refine Wh.mk fun hcc => ?_))
    all_goals exact SW.ret (show RetQ _ _ _ _ _ _ _ from RetQ.y [0] [.int .i64 (k + 3 * l.length)])
end Q6

namespace Q6
open Go Go.Vm Go.Proofs
set_option maxHeartbeats 4000000
set_option synthInstance.maxSize 2000
set_option synthInstance.maxHeartbeats 400000
set_option maxRecDepth 10000
set_option linter.unusedSimpArgs false
set_option linter.unusedVariables false

theorem heldLive_ok (n : Nat) (k : Int) (hl : n ≤ 1048576) (h0 : 0 ≤ k) (h1 : k ≤ 562949953421312) : CallR Try.prog 115 [.sl .b ((marksG (lvM k) n 0).map Enc.b), .int .i64 k] [] (.int .i64 (k + 3 * n)) := by
  refine CallR.of_body (n := 42) (rs := [.tmp 4]) hY.ok Try.func115 rfl (by decide) rfl rfl rfl rfl (fun F => ?_)
  have fx := And.intro Y1 (And.intro Y2 (And.intro Y3 (And.intro Y4 (And.intro Y39 (Y91)))))
  have fy := Nat.add_zero
  refine goN ?_ ?_ ?_ ?_ ?_ ?_ ?_ ?_ ?_ ?_ ?_ ?_ ?_ ?_ ?_ ?_
  any_goals (first | exact True.intro | skip)
  skip
  refine SW.loop (fun i : Nat => ⟨[.sl .b ((marksG (lvM k) n 0).map Enc.b), .int .i64 (k + 3 * (i : Nat)), .undef, .undef, .undef, .int .i64 (i : Nat), .undef, .undef, .undef, .undef, .undef, .undef, .undef, .undef, .undef, .undef, .undef, .undef, .undef, .undef, .undef, .undef, .undef, .undef, .undef, .undef, .undef, .undef, .undef, .undef, .undef, .undef, .undef, .undef, .undef, .undef, .undef, .undef, .undef, .undef, .undef, .undef], [[]]⟩)
    (fun N i => N = n - i ∧ i ≤ n) (n := n) (x := 0) (Norm.to 0 rfl (by simp [weakL])) ⟨rfl, Nat.zero_le _⟩ ?_
  rintro N i ⟨hn, hi⟩
  have fy := Nat.add_zero
  refine goS ?_
  refine SW.cond rfl (fun hc => ?_) (fun hc => ?_)
  · have hlt : i < n := by simp at hc; omega
    have hg : ((marksG (lvM k) n 0).map Enc.b)[i]? = some (.nd [.int .i64 (k + 3 * (i : Nat)), .int .i64 (k + 3 * (i : Nat) + 1), .bool (Int.tmod (k + 3 * (i : Nat) + 2) 3 == 0)]) := by
      rw [map_get Enc.b _ i (by rw [marksG_len]; exact hlt), marksG_get (lvM k) n 0 i hlt, Int.zero_add]; rfl
    have hw1 : IntKind.i64.wrap (k + 3 * (i : Int) + 1) = k + 3 * (i : Int) + 1 := wrap64 _ (by omega) (by omega)
    have hw2 : IntKind.i64.wrap (k + 3 * (i : Int) + 1 + 1) = k + 3 * (i : Int) + 2 := by rw [wrap64 _ (by omega) (by omega)]; omega
    have hw3 : IntKind.i64.wrap (k + 3 * (i : Int) + 2 + 1) = k + 3 * ((i + 1 : Nat) : Int) := by rw [wrap64 _ (by omega) (by omega)]; omega
    have hw4 : IntKind.i64.wrap ((i : Int) + 1) = ((i + 1 : Nat) : Int) := by rw [wrap64 _ (by omega) (by omega)]; omega
    have fy := And.intro hg (And.intro hw1 (And.intro hw2 (And.intro hw3 (And.intro hw4 (And.intro Nat.zero_add (Int.toNat_natCast))))))
    refine goR ?_ ?_ ?_ ?_ ?_ ?_ ?_ ?_ ?_ ?_ ?_ ?_ ?_ ?_ ?_ ?_
    any_goals (first | exact True.intro | skip)
    all_goals (repeat (refine Wh.mk fun hcc => ?_))
    all_goals first | (exfalso; simp at hcc; done) | skip
    refine ⟨N - 1, i + 1, by omega, ⟨by omega, by omega⟩, ?_⟩
    exact Norm.to 0 rfl (by simp [weakL])
  · have hge : i = n := by
      have : ¬ i < n := by simp at hc; omega
      omega
    subst hge
    have fy := Nat.add_zero
    refine goK ?_ ?_ ?_ ?_ ?_ ?_ ?_ ?_ ?_ ?_ ?_ ?_ ?_ ?_ ?_ ?_
    any_goals (first | exact True.intro | skip)
    all_goals (repeat (refine Wh.mk fun hcc => ?_))
    simp [tupOf, fixEs]
end Q6

namespace Q6
open Go Go.Vm Go.Proofs
set_option maxHeartbeats 4000000
set_option synthInstance.maxSize 2000
set_option synthInstance.maxHeartbeats 400000
set_option maxRecDepth 10000
set_option linter.unusedSimpArgs false
set_option linter.unusedVariables false

def mkSlot (x : (Bool × ((Int × (List Int) × (List Int) × Unit)) × Unit)) (c : Int) : ((Bool × ((Int × (List Int) × (List Int) × Unit)) × Unit)) × Int := (((Int.tmod (c) 3 == 0), ((c + 1), marksG id x.2.1.2.1.length (c + 1 + 1), marksG id x.2.1.2.2.1.length (c + 1 + 1 + x.2.1.2.1.length), ()), ()), c + 1 + 1 + x.2.1.2.1.length + x.2.1.2.2.1.length)
theorem mkSlot_rng {x : (Bool × ((Int × (List Int) × (List Int) × Unit)) × Unit)} (hx : Enc.lim 1048576 x) (c : Int) : c ≤ (mkSlot x c).2 ∧ (mkSlot x c).2 ≤ c + 16777216 := by
  have q2 : x.2.1.2.1.length ≤ 1048576 := hx.2.1.2.1.1
  have q3 : x.2.1.2.2.1.length ≤ 1048576 := hx.2.1.2.2.1.1
  unfold mkSlot
  simp only
  omega
theorem markSlotS_ok (l : List ((Bool × ((Int × (List Int) × (List Int) × Unit)) × Unit))) (k : Int) (hl : Enc.lim 1048576 l) (h0 : 0 ≤ k) (h1 : k ≤ 281474976710656) : CallR Try.prog 17 [.io (.tup [.ow 4 (l.map Enc.o)]), .int .i64 k] [.tup [.ow 4 ((thr mkSlot l k).1.map Enc.o)]] (.int .i64 (thr mkSlot l k).2) := by
  refine CallR.of_body (n := 46) (rs := [.tmp 4]) hY.ok Try.func17 rfl (by decide) rfl rfl rfl rfl (fun F => ?_)
  have fx := And.intro Y1 (And.intro Y2 (And.intro Y3 (And.intro Y4 (And.intro Y26 (And.intro Y34 (And.intro Y36 (Y38)))))))
  have hl1 : l.length ≤ 1048576 := hl.1
  have hgrow : ∀ x ∈ l, ∀ c, c ≤ (mkSlot x c).2 ∧ (mkSlot x c).2 ≤ c + 16777216 := fun x hx c => mkSlot_rng (hl.2 x hx) c
  have fy := Nat.add_zero
  refine goN ?_ ?_ ?_ ?_ ?_ ?_ ?_ ?_ ?_ ?_ ?_ ?_ ?_ ?_ ?_ ?_
  any_goals (first | exact True.intro | skip)
  skip
  refine SW.loop (fun i : Nat => ⟨[.ref 0 0 0 l.length, .int .i64 (thr mkSlot (l.take i) k).2, .undef, .undef, .undef, .int .i64 (i : Nat), .undef, .undef, .undef, .undef, .undef, .undef, .undef, .undef, .undef, .undef, .undef, .undef, .undef, .undef, .undef, .undef, .undef, .undef, .undef, .undef, .undef, .undef, .undef, .undef, .undef, .undef, .undef, .undef, .undef, .undef, .undef, .undef, .undef, .undef, .undef, .undef, .undef, .undef, .undef, .undef], [[.arr 4 ((mixT mkSlot l k i).map Enc.o) false]]⟩)
    (fun N i => N = l.length - i ∧ i ≤ l.length) (n := l.length) (x := 0) ?_ ⟨rfl, Nat.zero_le _⟩ ?_
  · rw [mixT_zero]
    simp only [List.take_zero, thr]
    exact Norm.re [0] (by decide) rfl (by first | (simp only [eq_self, heapFits, rowFits, obFits, List.getElem?_cons_zero, List.getElem?_cons_succ, renL_o, renL_b, true_and, and_true, and_self]; done) | simp [-List.map_append, heapFits, rowFits, obFits, T.ren, renL]) (by simp [tmFits, T.ren])
  rintro N i ⟨hn, hi⟩
  have hml := mixT_len mkSlot l k i hi
  have fy := Nat.add_zero
  refine goS ?_
  refine SW.cond rfl (fun hc => ?_) (fun hc => ?_)
  · have hlt : i < l.length := by simp at hc; omega
    have hltI : (i : Int) < (l.length : Int) := by omega
    have hr := thr_rng mkSlot 16777216 (by decide) (l.take i) k (fun x hx => hgrow x (List.mem_of_mem_take hx))
    rw [List.length_take, Nat.min_eq_left hi] at hr
    have hb : (i : Int) * 16777216 ≤ 1048576 * 16777216 := by omega
    have hg : ((mixT mkSlot l k i).map Enc.o)[i]? = some (.nd [.bool l[i].1, .nd [.int .i64 l[i].2.1.1, .ow 1 (l[i].2.1.2.1.map Enc.o), .ow 1 (l[i].2.1.2.2.1.map Enc.o)]]) := by rw [map_get Enc.o _ i (by rw [hml]; exact hlt), mixT_get mkSlot l k i hlt]; rfl
    have hs := mixT_set mkSlot l k i hlt
    have hk2 : (thr mkSlot (l.take (i + 1)) k).2 = (mkSlot l[i] (thr mkSlot (l.take i) k).2).2 := by rw [thr_succ mkSlot l k i hlt]
    have hli := hl.2 l[i] (List.getElem_mem hlt)
    clear hgrow hl
    generalize l[i] = x at *
    generalize mixT mkSlot l k i = m at *
    generalize (thr mkSlot (l.take i) k).2 = c at *
    have hgs : ∀ X : T, ((m.map Enc.o).set i X)[i]? = some X := fun X => List.getElem?_set_self (by rw [List.length_map, hml]; exact hlt)
    have hw0 : IntKind.i64.wrap (c + 1) = c + 1 := wrap64 _ (by omega) (by omega)
    have hw1 : IntKind.i64.wrap (c + 1 + 1) = c + 1 + 1 := wrap64 _ (by omega) (by omega)
    have q2 : x.2.1.2.1.length ≤ 1048576 := hli.2.1.2.1.1
    have m2 := markInt_ok x.2.1.2.1 (c + 1 + 1) q2 (by omega) (by omega)
    have q3 : x.2.1.2.2.1.length ≤ 1048576 := hli.2.1.2.2.1.1
    have m3 := markInt_ok x.2.1.2.2.1 (c + 1 + 1 + x.2.1.2.1.length) q3 (by omega) (by omega)
    have hwi : IntKind.i64.wrap ((i : Int) + 1) = ((i + 1 : Nat) : Int) := by rw [wrap64 _ (by omega) (by omega)]; omega
    refine SW.norm (Norm.expel 0 0 i rfl hg) ?_
    simp only [thawA, thawAL, Heap.put, List.set_set, List.length_cons, List.length_nil, Nat.zero_add, Nat.add_zero, List.getElem?_cons_zero, List.set_cons_zero, List.cons_append, List.nil_append, List.length_map, Nat.reduceAdd]
    have hC1 := cx [.ios] (m2)
    have hC2 := cx [.ios] (m3)
    have fy := And.intro hw0 (And.intro hw1 (And.intro hwi (And.intro hgs (And.intro hltI (And.intro ((((((@List.set_set T)))))) (And.intro Nat.zero_add (Int.toNat_natCast)))))))
    refine goN ?_ ?_ ?_ ?_ ?_ ?_ ?_ ?_ ?_ ?_ ?_ ?_ ?_ ?_ ?_ ?_
    any_goals (first | exact True.intro | skip)
    skip
    refine ⟨N - 1, i + 1, by omega, ⟨by omega, by omega⟩, ?_⟩
    rw [hk2, ← hs]
    refine Norm.trans (Norm.soakArr 0 0 i rfl (hgs _)) ?_
    refine Norm.re [0] (by decide) rfl ?_ (by simp [tmFits, T.ren, mkSlot])
    simp only [soakS, soakL, Heap.at, Heap.put, List.getElem?_cons_zero, List.getElem?_cons_succ, List.set_cons_zero, List.set_cons_succ, List.length_map, marks_len, marksG_len, thr_len, and_self, if_true, List.set_set, heapFits, rowFits, obFits, renL_o, true_and, and_true]
    rw [List.map_set]; rfl
  · have hge : i = l.length := by
      have : ¬ i < l.length := by simp at hc; omega
      omega
    subst hge
    rw [mixT_all, List.take_length]
    have fy := Nat.add_zero
    refine goR ?_ ?_ ?_ ?_ ?_ ?_ ?_ ?_ ?_ ?_ ?_ ?_ ?_ ?_ ?_ ?_
    any_goals (first | exact True.intro | skip)
    all_goals (repeat (refine Wh.mk fun hcc => ?_))
    all_goals exact SW.ret (show RetQ _ _ _ _ _ _ _ from RetQ.y [0] [.int .i64 (thr mkSlot l k).2])
theorem heldSlotS_ok (l : List ((Bool × ((Int × (List Int) × (List Int) × Unit)) × Unit))) (k : Int) (hl : Enc.lim 1048576 l) (h0 : 0 ≤ k) (h1 : k ≤ 281474976710656) : CallR Try.prog 48 [.sl .b ((thr mkSlot l k).1.map Enc.b), .int .i64 k] [] (.int .i64 (thr mkSlot l k).2) := by
  refine CallR.of_body (n := 54) (rs := [.tmp 4]) hY.ok Try.func48 rfl (by decide) rfl rfl rfl rfl (fun F => ?_)
  have fx := And.intro Y1 (And.intro Y2 (And.intro Y3 (And.intro Y4 (And.intro Y26 (And.intro Y34 (And.intro Y36 (Y38)))))))
  have hl1 : l.length ≤ 1048576 := hl.1
  have hgrow : ∀ x ∈ l, ∀ c, c ≤ (mkSlot x c).2 ∧ (mkSlot x c).2 ≤ c + 16777216 := fun x hx c => mkSlot_rng (hl.2 x hx) c
  have htl := thr_len mkSlot l k
  have fy := htl
  refine goN ?_ ?_ ?_ ?_ ?_ ?_ ?_ ?_ ?_ ?_ ?_ ?_ ?_ ?_ ?_ ?_
  any_goals (first | exact True.intro | skip)
  skip
  refine SW.loop (fun i : Nat => ⟨[.sl .b ((thr mkSlot l k).1.map Enc.b), .int .i64 (thr mkSlot (l.take i) k).2, .undef, .undef, .undef, .int .i64 (i : Nat), .undef, .undef, .undef, .undef, .undef, .undef, .undef, .undef, .undef, .undef, .undef, .undef, .undef, .undef, .undef, .undef, .undef, .undef, .undef, .undef, .undef, .undef, .undef, .undef, .undef, .undef, .undef, .undef, .undef, .undef, .undef, .undef, .undef, .undef, .undef, .undef, .undef, .undef, .undef, .undef, .undef, .undef, .undef, .undef, .undef, .undef, .undef, .undef], [[]]⟩)
    (fun N i => N = l.length - i ∧ i ≤ l.length) (n := l.length) (x := 0) (Norm.to 0 rfl (by simp [weakL, thr])) ⟨rfl, Nat.zero_le _⟩ ?_
  rintro N i ⟨hn, hi⟩
  have fy := htl
  refine goS ?_
  refine SW.cond rfl (fun hc => ?_) (fun hc => ?_)
  · have hlt : i < l.length := by simp at hc; omega
    have hr := thr_rng mkSlot 16777216 (by decide) (l.take i) k (fun x hx => hgrow x (List.mem_of_mem_take hx))
    rw [List.length_take, Nat.min_eq_left hi] at hr
    have hb : (i : Int) * 16777216 ≤ 1048576 * 16777216 := by omega
    have hg : ((thr mkSlot l k).1.map Enc.b)[i]? = some (Enc.b (mkSlot l[i] (thr mkSlot (l.take i) k).2).1) := by rw [map_get Enc.b _ i (by rw [htl]; exact hlt), thr_get mkSlot l k i hlt]
    have hk2 : (thr mkSlot (l.take (i + 1)) k).2 = (mkSlot l[i] (thr mkSlot (l.take i) k).2).2 := by rw [thr_succ mkSlot l k i hlt]
    have hli := hl.2 l[i] (List.getElem_mem hlt)
    clear hgrow hl
    generalize l[i] = x at *
    generalize (thr mkSlot l k).1 = L at *
    generalize (thr mkSlot (l.take i) k).2 = c at *
    have hg' : (L.map Enc.b)[i]? = some (.nd [.bool (Int.tmod (c) 3 == 0), .nd [.int .i64 (c + 1), .sl .b ((marksG id x.2.1.2.1.length (c + 1 + 1)).map Enc.b), .sl .b ((marksG id x.2.1.2.2.1.length (c + 1 + 1 + x.2.1.2.1.length)).map Enc.b)]]) := hg
    clear hg
    have hw0 : IntKind.i64.wrap (c + 1) = c + 1 := wrap64 _ (by omega) (by omega)
    have hw1 : IntKind.i64.wrap (c + 1 + 1) = c + 1 + 1 := wrap64 _ (by omega) (by omega)
    have q2 : x.2.1.2.1.length ≤ 1048576 := hli.2.1.2.1.1
    have m2 := heldInt_ok x.2.1.2.1.length (c + 1 + 1) q2 (by omega) (by omega)
    have hz2 : decide (c + 1 + 1 + (x.2.1.2.1.length : Int) < 0) = false := by simp; omega
    have q3 : x.2.1.2.2.1.length ≤ 1048576 := hli.2.1.2.2.1.1
    have m3 := heldInt_ok x.2.1.2.2.1.length (c + 1 + 1 + x.2.1.2.1.length) q3 (by omega) (by omega)
    have hz3 : decide (c + 1 + 1 + x.2.1.2.1.length + (x.2.1.2.2.1.length : Int) < 0) = false := by simp; omega
    have hwi : IntKind.i64.wrap ((i : Int) + 1) = ((i + 1 : Nat) : Int) := by rw [wrap64 _ (by omega) (by omega)]; omega
    have hC1 := cx [] (m2)
    have hC2 := cx [] (m3)
    have fy := And.intro hg' (And.intro htl (And.intro hw0 (And.intro hw1 (And.intro hz2 (And.intro hz3 (And.intro hwi (And.intro Nat.zero_add (Int.toNat_natCast))))))))
    refine goR ?_ ?_ ?_ ?_ ?_ ?_ ?_ ?_ ?_ ?_ ?_ ?_ ?_ ?_ ?_ ?_
    any_goals (first | exact True.intro | skip)
    all_goals (repeat (refine Wh.mk fun hcc => ?_))
    all_goals first | (exfalso; simp at hcc; done) | skip
    refine ⟨N - 1, i + 1, by omega, ⟨by omega, by omega⟩, ?_⟩
    rw [hk2]
    exact Norm.re [0] (by decide) rfl (by first | (simp only [eq_self, heapFits, rowFits, obFits, List.getElem?_cons_zero, List.getElem?_cons_succ, renL_o, renL_b, true_and, and_true, and_self]; done) | simp [-List.map_append, heapFits, rowFits, obFits, T.ren, renL]) (by simp [tmFits, T.ren, mkSlot])
  · have hge : i = l.length := by
      have : ¬ i < l.length := by simp at hc; omega
      omega
    subst hge
    rw [List.take_length]
    have fy := htl
    refine goK ?_ ?_ ?_ ?_ ?_ ?_ ?_ ?_ ?_ ?_ ?_ ?_ ?_ ?_ ?_ ?_
    any_goals (first | exact True.intro | skip)
    all_goals (repeat (refine Wh.mk fun hcc => ?_))
    all_goals simp [tupOf, fixEs]
end Q6

namespace Q6
open Go Go.Vm Go.Proofs
set_option maxHeartbeats 4000000
set_option synthInstance.maxSize 2000
set_option synthInstance.maxHeartbeats 400000
set_option maxRecDepth 10000
set_option linter.unusedSimpArgs false
set_option linter.unusedVariables false

open Go.By

def dumpR (v : List SlotT) : List UInt8 := if viewB v = true then dumpL v else []
theorem dumpR_len (v : List SlotT) : (dumpR v).length ≤ 4000 := by
  unfold dumpR
  split
  · rename_i h
    obtain ⟨h32, hall⟩ := viewB_all h
    have h1 := dmpF_len v 0 hall
    have h2 := putI_len (cntS v : Nat)
    have h3 := frameL_len (putI (cntS v : Nat) ++ dmpF v 0)
    unfold dumpL
    rw [List.length_append] at h3 ⊢
    rw [mark_len]; omega
  · simp
theorem iDump_ok (v : List SlotT) (hl : Enc.lim 1048576 v) : CallR Try.prog 14 [.sl .b (v.map Enc.b)] [] (.ow 1 ((dumpR v).map Enc.o)) := by
  unfold dumpR
  by_cases h : viewB v = true
  · rw [if_pos h]; exact iDump_y v hl h
  · rw [if_neg h]; exact iDump_n v hl (by simpa using h)
theorem sDump_ok (v : List SlotT) (hl : Enc.lim 1048576 v) : CallR Try.prog 12 [.sl .b (v.map Enc.b)] [] (.ow 1 ((dumpR v).map Enc.o)) := by
  unfold dumpR
  by_cases h : viewB v = true
  · rw [if_pos h]; exact sDump_y v hl h
  · rw [if_neg h]; exact sDump_n v hl (by simpa using h)

theorem dumpLaw_ok (l : List SlotT) (hl : Enc.lim maxLen l) : CallR Try.prog 3 [.sl .b (l.map Enc.b)] [] (.bool true) := by
  refine CallR.of_body (n := 69) (rs := [.tmp 2]) hY.ok Try.func3 rfl (by decide) rfl rfl rfl rfl (fun F => ?_)
  have fx := And.intro Y3 (And.intro Y4 (And.intro Y5 (And.intro Y22 (And.intro Y24 (And.intro Y26 (And.intro Y34 (And.intro Y36 (And.intro Y38 (And.intro Y77 (Y79))))))))))
  have hz := laws_szSlotS_ok l 1048576 hl (by decide) (by decide)
  by_cases hb : Enc.sz l 1048576 < 0
  · have hd : decide (Enc.sz l 1048576 < 0) = true := decide_eq_true hb
    have hC1 := cx [] (hz)
    have fy := hd
    refine goK ?_ ?_ ?_ ?_ ?_ ?_ ?_ ?_ ?_ ?_ ?_ ?_ ?_ ?_ ?_ ?_
    any_goals (first | exact True.intro | skip)
    all_goals (repeat (refine Wh.mk fun hcc => ?_))
    all_goals rfl
  have hd : decide (Enc.sz l 1048576 < 0) = false := decide_eq_false hb
  have hf : Enc.lim 1048576 l := Enc.szLim l 1048576 (by omega) (by decide)
  have hT := laws_toSlotS_ok l hf
  have hS := sDump_ok l hf
  have hI := iDump_ok l hf
  have hrl := dumpR_len l
  have hE := laws_eqByteS_ok (dumpR l) (dumpR l) ⟨by omega, fun _ _ => trivial⟩
  have hE2 := laws_eqSlotS_ok l l hf
  rw [decide_eq_true rfl] at hE hE2
  have hM := markSlotS_ok l 1 hf (by decide) (by decide)
  have hr := thr_rng mkSlot 16777216 (by decide) l 1 (fun x hx c => mkSlot_rng (hf.2 x hx) c)
  have hk : decide ((thr mkSlot l 1).2 < 0) = false := by simp; omega
  generalize dumpR l = R at *
  have hO := markByte_ok R 1 (by omega) (by decide) (by decide)
  have hH := heldByte_ok R.length 1 (by omega) (by decide) (by decide)
  have hq0 : decide (1 + (R.length : Int) < 0) = false := by simp; omega
  generalize thr mkSlot l 1 = TM at *
  clear hr hf hl
  have hC1 := cx [] (hz)
  have hC2 := cx [] (hT)
  have hC3 := cx [] (hS)
  have hC4 := cx [] (hI)
  have hC5 := cx [] (hE)
  have hC6 := cx [] (hE2)
  have hC7 := cx [.ios] (hM)
  have hC8 := cx [.ios] (hO)
  have hC9 := cx [] (hH)
  have fy := And.intro hd (And.intro hk (hq0))
  refine goK ?_ ?_ ?_ ?_ ?_ ?_ ?_ ?_ ?_ ?_ ?_ ?_ ?_ ?_ ?_ ?_
  any_goals (first | exact True.intro | skip)
  all_goals (repeat (refine Wh.mk fun hcc => ?_))
  all_goals first | rfl | (exfalso; simp at hcc; done)
end Q6

namespace Q6
open Go Go.Vm Go.By
set_option linter.unusedSimpArgs false

/-! ### what was dumped is loaded again: the plain law -/
def v0 : List SlotT := List.replicate 32 slot0'
def hasMark (b : List UInt8) : Bool := decide (3 ≤ b.length) && decide (b.take 3 = mark3)
def oidB (x : Int) : Bool := decide (x ≥ 1) && decide (x ≤ 31)
def ldI (l : List UInt8) : Nat → RS → List SlotT → Option (List SlotT × RS)
  | 0, s, v => some (v, s)
  | n + 1, s, v => if oidB (oneR l s).1 = true then ldI l n (slotI l (oneR l s).2).2 (v.set (oneR l s).1.toNat (slotI l (oneR l s).2).1) else none
def ldS (l : List UInt8) (n : Int) : Nat → RS → List SlotT → List SlotT × RS
  | 0, s, v => (v, s)
  | k + 1, s, v => if (decide (30 - (k : Int) < n) && !s.2) = true then
      ldS l n k (slotS l (oneR l s).2).2 (if (!(slotS l (oneR l s).2).2.2 && rng (oneR l s).1 1 31) = true then v.set (oneR l s).1.toNat (slotS l (oneR l s).2).1 else v) else (v, s)
def ldKI (b u : List UInt8) : List SlotT × Int :=
  match ldI u (manyR u 31 (0, false)).1.toNat (manyR u 31 (0, false)).2 v0 with
  | none => ([], 4)
  | some r => if (((!r.2.2 && decide (r.2.1 = u.length)) && viewB r.1) && decide (dumpR r.1 = b)) = true then (r.1, 0) else ([], 4)
def ldKS (b u : List UInt8) : List SlotT × Int :=
  if (!(ldS u (oneR u (0, false)).1 31 (oneR u (0, false)).2 v0).2.2 && decide (dumpR (ldS u (oneR u (0, false)).1 31 (oneR u (0, false)).2 v0).1 = b)) = true then
    ((ldS u (oneR u (0, false)).1 31 (oneR u (0, false)).2 v0).1, 0) else ([], 4)
def loadI (b : List UInt8) : List SlotT × Int :=
  if 10000 < b.length then ([], 1) else if hasMark b = false then ([], 2) else
  if (decide ((unfI b 3).2.2 = 0) && decide ((unfI b 3).2.1 = b.length)) = true then ldKI b (unfI b 3).1 else ([], 3)
def loadS (b : List UInt8) : List SlotT × Int :=
  if 10000 < b.length then ([], 1) else if hasMark b = false then ([], 2) else
  if (decide ((unfS b 3).2.2 = 0) && decide ((unfS b 3).2.1 = b.length)) = true then ldKS b (unfS b 3).1 else ([], 3)

def putV : List SlotT → List SlotT → Nat → List SlotT
  | v, [], _ => v
  | v, s :: m, k => putV (if s.1 = true then v.set k s else v) m (k + 1)
theorem putV_eq : ∀ (m p : List SlotT), (∀ s ∈ m, slotB s = true) → putV (p ++ List.replicate m.length slot0') m p.length = p ++ m
  | [], p, _ => by simp [putV]
  | s :: m, p, h => by
    have ih := putV_eq m (p ++ [s]) (fun x hx => h x (by simp [hx]))
    rw [List.length_append, List.append_assoc, List.append_assoc] at ih
    simp only [List.length_cons, List.length_nil, Nat.zero_add, List.singleton_append] at ih
    simp only [putV, List.length_cons, List.replicate_succ]
    rw [← ih]
    congr 1
    split
    · rw [List.set_append_right _ _ (Nat.le_refl _), Nat.sub_self]; rfl
    · rename_i hn
      have hs := h s (by simp)
      obtain ⟨b, o, ⟨⟩⟩ := s
      have hb : b = false := by simpa using hn
      subst hb
      have ho : o = (0, [], [], ()) := noObj_eq hs
      subst ho
      rfl
theorem oidB_nat {k : Nat} (h0 : 1 ≤ k) (h1 : k ≤ 31) : oidB (k : Int) = true := by unfold oidB; simp; omega
theorem ldI_put {l : List UInt8} : ∀ (m : List SlotT) (k a : Nat) (r : List UInt8) (v : List SlotT), At l a (dmpF m k ++ r) → (∀ s ∈ m, slotB s = true) → 1 ≤ k → k + m.length ≤ 32 →
    ldI l (cntS m) (a, false) v = some (putV v m k, (a + (dmpF m k).length, false))
  | [], k, a, r, v, _, _, _, _ => by simp [cntS, ldI, putV, dmpF]
  | s :: m, k, a, r, v, h, hs, hk, hm => by
    have hm' : k + 1 + m.length ≤ 32 := by simp only [List.length_cons] at hm; omega
    have hs' := fun x hx => hs x (List.mem_cons_of_mem s hx)
    simp only [dmpF] at h ⊢
    by_cases hb : s.1 = true
    · simp only [hb, if_true, List.append_assoc] at h
      have e1 := one_put h (okN_small (Int.natCast_nonneg k) (by omega))
      have e2 := slot_put h.next (hs s (by simp))
      have ih := ldI_put m (k + 1) _ r (v.set k s) h.next.next hs' (by omega) hm'
      have hc : cntS (s :: m) = cntS m + 1 := by simp [cntS, hb]; omega
      rw [hc]
      simp only [ldI, e1, oidB_nat hk (show k ≤ 31 by omega), if_true, e2, Int.toNat_natCast, ih, putV, hb, List.length_append]
      congr 3
      omega
    · simp only [hb, if_false, List.nil_append, Bool.false_eq_true] at h ⊢
      have hc : cntS (s :: m) = cntS m := by simp [cntS, hb]
      rw [hc]
      have ih := ldI_put m (k + 1) a r v h hs' (by omega) hm'
      simp only [putV, hb, if_false, Bool.false_eq_true]
      exact ih
theorem ldS_put {l : List UInt8} {n : Int} : ∀ (m : List SlotT) (k a : Nat) (r : List UInt8) (v : List SlotT) (K : Nat), At l a (dmpF m k ++ r) → (∀ s ∈ m, slotB s = true) → 1 ≤ k → k + m.length ≤ 32 →
    cntS m ≤ K → n = 31 - (K : Int) + cntS m → ldS l n K (a, false) v = (putV v m k, (a + (dmpF m k).length, false))
  | [], k, a, r, v, K, _, _, _, _, _, hn => by
    simp only [cntS] at hn
    cases K with
    | zero => simp [ldS, putV, dmpF]
    | succ K =>
      have : ¬ (30 - (K : Int) < n) := by omega
      simp [ldS, putV, dmpF, this]
  | s :: m, k, a, r, v, K, h, hs, hk, hm, hK, hn => by
    have hm' : k + 1 + m.length ≤ 32 := by simp only [List.length_cons] at hm; omega
    have hs' := fun x hx => hs x (List.mem_cons_of_mem s hx)
    simp only [dmpF] at h ⊢
    by_cases hb : s.1 = true
    · simp only [hb, if_true, List.append_assoc] at h
      have e1 := one_put h (okN_small (Int.natCast_nonneg k) (by omega))
      have e2 := slotS_put h.next (hs s (by simp))
      have hc : cntS (s :: m) = cntS m + 1 := by simp [cntS, hb]; omega
      rw [hc] at hK hn
      obtain ⟨K, rfl⟩ : ∃ K', K = K' + 1 := ⟨K - 1, by omega⟩
      have ih := ldS_put m (k + 1) _ r (v.set k s) K h.next.next hs' (by omega) hm' (by omega) (n := n) (by omega)
      have hlt : (30 - (K : Int) < n) := by omega
      have hr : rng (k : Int) 1 31 = true := rng_iff.2 (by omega)
      simp only [ldS, e1, e2, hlt, hr, decide_true, Bool.not_false, Bool.and_self, if_true, Int.toNat_natCast, ih, putV, hb, List.length_append]
      congr 2
      omega
    · simp only [hb, if_false, List.nil_append, Bool.false_eq_true] at h ⊢
      have hc : cntS (s :: m) = cntS m := by simp [cntS, hb]
      rw [hc] at hK hn
      have ih := ldS_put m (k + 1) a r v K h hs' (by omega) hm' hK hn
      simp only [putV, hb, if_false, Bool.false_eq_true]
      exact ih
theorem viewB_cons {w : List SlotT} (h : viewB w = true) : ∃ s m, w = s :: m ∧ s = slot0' ∧ m.length = 31 ∧ ∀ x ∈ m, slotB x = true := by
  obtain ⟨h32, hall⟩ := viewB_all h
  cases w with
  | nil => cases h32
  | cons s m =>
    refine ⟨s, m, rfl, ?_, by simpa using h32, fun x hx => hall x (by simp [hx])⟩
    unfold viewB at h
    simp only [Bool.and_eq_true] at h
    have hs := hall s (by simp)
    obtain ⟨b, o, ⟨⟩⟩ := s
    have hb : b = false := by simpa using h.1.2
    subst hb
    have ho : o = (0, [], [], ()) := noObj_eq hs
    subst ho
    rfl
theorem ld_put {w : List SlotT} (h : viewB w = true) : ldKI (dumpL w) (putI (cntS w : Nat) ++ dmpF w 0) = (w, 0) ∧ ldKS (dumpL w) (putI (cntS w : Nat) ++ dmpF w 0) = (w, 0) := by
  obtain ⟨s, m, rfl, rfl, hm, hs⟩ := viewB_cons h
  have hc : cntS (slot0' :: m) = cntS m := by simp [cntS, slot0']
  have hd : dmpF (slot0' :: m) 0 = dmpF m 1 := by simp [dmpF, slot0']
  have hcl := cntS_le m
  have hdr : dumpR (slot0' :: m) = dumpL (slot0' :: m) := by unfold dumpR; rw [if_pos h]
  rw [hc, hd]
  generalize dumpL (slot0' :: m) = b at *
  generalize hu : putI (cntS m : Nat) ++ dmpF m 1 = u at *
  have hA : At u 0 (putI (cntS m : Nat) ++ (dmpF m 1 ++ [])) := ⟨Nat.zero_le _, by rw [← hu]; simp⟩
  have e1 := one_put hA (okN_small (Int.natCast_nonneg _) (by omega))
  have e2 := many_put (most := 31) hA (okN_small (Int.natCast_nonneg _) (by omega)) (Int.natCast_nonneg _) (by omega)
  have e3 := ldI_put m 1 _ [] v0 hA.next hs (Nat.le_refl _) (by omega)
  have e4 := ldS_put m 1 _ [] v0 31 hA.next hs (Nat.le_refl _) (by omega) (n := (cntS m : Nat)) (by omega) (by omega)
  have hv : putV v0 m 1 = slot0' :: m := by
    have := putV_eq m [slot0'] hs
    rw [hm] at this
    exact this
  have hlen : 0 + (putI (cntS m : Nat)).length + (dmpF m 1).length = u.length := by rw [← hu, List.length_append]; omega
  rw [hv, hlen] at e3 e4
  constructor
  · unfold ldKI
    simp only [e2, Int.toNat_natCast, e3, h, hdr, decide_true, Bool.not_false, Bool.and_self, if_true]
  · unfold ldKS
    simp only [e1, e4, hdr, decide_true, Bool.not_false, Bool.and_self, if_true]
theorem unf_at {b : List UInt8} (hb : okN (b.length : Int) = true) {l : List UInt8} {a : Nat} (h : At l a (frameL b)) : unfI l a = (b, l.length, 0) ∧ unfS l a = (b, l.length, 0) := by
  have hl := congrArg List.length h.2
  rw [List.length_drop] at hl
  have h1 := h.1
  have hA : At l a (putI b.length ++ (b ++ four (crc b))) := ⟨h.1, by rw [h.2]; unfold frameL; simp⟩
  have hn := hA.next
  have hlen : (frameL b).length = (putI b.length).length + b.length + 4 := by unfold frameL; simp only [List.length_append, four_len]
  have hg : getR l a = ((b.length : Int), a + (putI b.length).length, true) := by
    have h2 := hA.2
    rw [getR_pI _ a h.1, h2, pI_put _ hb]
    simp only [List.length_append, four_len]
    congr 2
    omega
  have hS : unfS l a = (b, l.length, 0) := by
    unfold unfS
    simp only [hg, Bool.not_true, Bool.false_and, Bool.false_eq_true, if_false, Bool.false_or, decide_eq_true_eq]
    rw [if_neg (by omega)]
    unfold unfK bodyOf
    have e1 : l.drop (a + (putI b.length).length + b.length) = four (crc b) := by rw [← List.drop_drop, hn.2]; simp
    simp only [Int.toNat_natCast, hn.2, e1]
    rw [if_neg (by omega)]
    simp only [List.take_left', List.take_of_length_le (Nat.le_of_eq (four_len _)), decide_true, if_true]
    congr 2
    omega
  exact ⟨by rw [unf_eq _ _ (.inr (by rw [hS])), hS], hS⟩
theorem dump_body {w : List SlotT} (h : viewB w = true) : unfI (dumpL w) 3 = (putI (cntS w : Nat) ++ dmpF w 0, (dumpL w).length, 0) ∧ unfS (dumpL w) 3 = (putI (cntS w : Nat) ++ dmpF w 0, (dumpL w).length, 0) := by
  obtain ⟨h32, hall⟩ := viewB_all h
  have h1 := dmpF_len w 0 hall
  have h2 := putI_len (cntS w : Nat)
  refine unf_at (okN_iff.2 ?_) ⟨?_, ?_⟩
  · rw [List.length_append]
    exact ⟨by unfold M12; omega, by unfold M12; omega⟩
  · unfold dumpL; rw [List.length_append, mark_len]; omega
  · unfold dumpL; rfl
theorem ldKI_ok (b u : List UInt8) : ldKI b u = ([], 4) ∨ ∃ w, viewB w = true ∧ dumpL w = b := by
  unfold ldKI
  split
  · exact .inl rfl
  · rename_i r _
    split
    · rename_i h
      simp only [Bool.and_eq_true, decide_eq_true_eq] at h
      refine .inr ⟨r.1, h.1.2, ?_⟩
      have := h.2
      unfold dumpR at this
      rwa [if_pos h.1.2] at this
    · exact .inl rfl
theorem ldKS_ok (b u : List UInt8) (hb : b ≠ []) : ldKS b u = ([], 4) ∨ ∃ w, viewB w = true ∧ dumpL w = b := by
  unfold ldKS
  split
  · rename_i h
    simp only [Bool.and_eq_true, decide_eq_true_eq] at h
    have h2 := h.2
    unfold dumpR at h2
    split at h2
    · rename_i hv
      exact .inr ⟨_, hv, h2⟩
    · exact absurd h2.symm hb
  · exact .inl rfl
theorem load_eq (b : List UInt8) : loadI b = loadS b := by
  unfold loadI loadS
  split
  · rfl
  split
  · rfl
  rename_i hm
  have hb : b ≠ [] := by rintro rfl; exact hm rfl
  by_cases hw : ∃ w, viewB w = true ∧ dumpL w = b
  · obtain ⟨w, h, rfl⟩ := hw
    obtain ⟨e1, e2⟩ := dump_body h
    obtain ⟨e3, e4⟩ := ld_put h
    rw [e1, e2]
    simp only [decide_true, Bool.and_self, if_true]
    rw [e3, e4]
  · have hI := fun u => (ldKI_ok b u).resolve_right hw
    have hS := fun u => (ldKS_ok b u hb).resolve_right hw
    rw [hI, hS]
    by_cases h1 : (unfI b 3).2.2 = 0
    · rw [unf_eq b 3 (.inl h1)]
    · by_cases h2 : (unfS b 3).2.2 = 0
      · rw [unf_eq b 3 (.inr h2)]
      · simp [h1, h2]
end Q6

namespace Go.Vm
set_option linter.unusedVariables false
/-! ### what an array's elements hold is no longer known, or nil becomes an empty slice -/
theorem fgtL_len : ∀ {l m : List T}, fgtL l m → m.length = l.length
  | [], m, h => by simp only [fgtL] at h; subst h; rfl
  | t :: l, m, h => by
    obtain ⟨u, m', rfl, _, h2⟩ := h
    simp [fgtL_len h2]
theorem fgt_rows {c : Cx} {es : Nat} : ∀ (l : List T) {m : List T} {cs : List Value} {bs : List Nat}, fgtL l m → RRows c es l cs bs → RRows c es m cs bs
  | [], m, cs, bs, h, r => by simp only [fgtL] at h; subst h; exact r
  | t :: l, m, cs, bs, h, r => by
    obtain ⟨u, m', rfl, h1, h2⟩ := h
    obtain ⟨c1, c2, b1, b2, e1, e2, e3, r1, r2⟩ := r
    exact ⟨c1, c2, b1, b2, e1, e2, e3, fgt_rc t h1 r1, fgt_rows l h2 r2⟩
theorem Norm.forgetArr {tm : List T} {H : Heap} (e j : Nat) {es : Nat} {l m : List T} (ha : H.at e j = some (.arr es l false)) (hf : fgtL l m) : Norm ⟨tm, H⟩ ⟨tm, H.put e j (.arr es m false)⟩ := fun F c a bs hi => by
  obtain ⟨p, q, r, hb, ho, hinv⟩ := HR.drop hi.h ha
  have hgone : (H.put e j .gone).at e j = some .gone := at_put (x := .gone) ha
  have hl := fgtL_len hf
  obtain ⟨i, hmu, e1, e2, e3, ho⟩ := ho
  have hnd := hi.h.nd
  rw [hb, List.nodup_append, List.nodup_append] at hnd
  have ho' : HOb c e j (.arr es m false) q := by
    refine ⟨i, hmu, e1, e2, by rw [hl]; exact e3, ?_⟩
    rcases ho with ⟨h0, h1⟩ | ⟨rows, bs', hq, hrows, hcell, hoa⟩
    · exact .inl ⟨h0, h1⟩
    · exact .inr ⟨rows, bs', hq, fgt_rows l hf hrows, hcell, hoa⟩
  obtain ⟨bs2, hfin⟩ := soak_back (q' := q) (ob := .arr es m false) hi.h hb (.refl hinv) hgone ho' (fun x hx => .inl hx) hnd.2.1.1
  rw [put_put] at hfin
  exact ⟨c, bs2, rfl, hfin, hi.tm, hi.df, hi.pin⟩
theorem fgtL_rep {t u : T} (h : fgt t u) : ∀ n : Nat, fgtL (List.replicate n t) (List.replicate n u)
  | 0 => rfl
  | n + 1 => ⟨u, _, rfl, h, fgtL_rep h n⟩
end Go.Vm

namespace Q6
open Go Go.Vm Go.Proofs
set_option maxHeartbeats 4000000
set_option synthInstance.maxSize 2000
set_option synthInstance.maxHeartbeats 400000
set_option maxRecDepth 10000
set_option linter.unusedSimpArgs false
set_option linter.unusedVariables false

open Go.By

def baOf (b : List UInt8) : ByteArray := ⟨b.toArray⟩
theorem toList_loop (bs : ByteArray) : ∀ (n i : Nat) (r : List UInt8), bs.size - i = n → ByteArray.toList.loop bs i r = r.reverse ++ bs.data.toList.drop i
  | 0, i, r, h => by
    rw [ByteArray.toList.loop, if_neg (by omega), List.drop_eq_nil_of_le (by have : bs.data.toList.length = bs.size := Array.length_toList
                                                                             omega), List.append_nil]
  | n + 1, i, r, h => by
    have hlt : i < bs.data.size := by have : bs.data.size = bs.size := rfl
                                      omega
    rw [ByteArray.toList.loop, if_pos (by omega), toList_loop bs n (i + 1) _ (by omega)]
    have hg : bs.get! i = bs.data.toList[i]'(by simpa using hlt) := by
      show bs.data[i]! = _
      rw [getElem!_pos bs.data i hlt, Array.getElem_toList]
    rw [hg, List.reverse_cons, List.append_assoc, List.singleton_append, ← List.drop_eq_getElem_cons]
theorem baOf_toList (b : List UInt8) : (baOf b).toList = b := by
  unfold ByteArray.toList
  rw [toList_loop _ _ 0 [] rfl]
  simp [baOf]
theorem baOf_size (b : List UInt8) : (baOf b).size = b.length := by simp [baOf, ByteArray.size]
theorem baOf_ext (b : List UInt8) (n : Nat) : (baOf b).extract 0 n = baOf (b.take n) := by
  apply ByteArray.ext
  simp [baOf]
theorem byteOf_b (x : UInt8) : byteOf (Enc.b x) = x := by
  show UInt8.ofNat (x.toNat : Int).toNat = x
  simp
theorem bytesOf_b (b : List UInt8) : bytesOf (b.map Enc.b) = baOf b := by
  unfold bytesOf baOf
  rw [List.map_map]
  have : (byteOf ∘ Enc.b : UInt8 → UInt8) = id := funext byteOf_b
  rw [this, List.map_id]
theorem isByte_b (b : List UInt8) : (b.map Enc.b).all isByte = true := by
  rw [List.all_eq_true]
  intro t ht
  obtain ⟨x, _, rfl⟩ := List.mem_map.1 ht
  show (decide (0 ≤ (x.toNat : Int)) && decide ((x.toNat : Int) < 256)) = true
  have := x.toNat_lt
  simp; omega
theorem convStr (b : List UInt8) (g : Tag) (own : Nat) : convertM Y own 24 9 (.sl g (b.map Enc.b)) = .pure { v := .str (baOf b) } := by
  have h5 : (Y 5).k.isU8 = true := by rw [Y5]; rfl
  unfold convertM
  rw [Y24, Y9]
  show (if (Y 5).k.isU8 = true then (elemsM (.sl g (b.map Enc.b))).bind fun l => if l.all isByte = true then RM.pure { v := .str (bytesOf l) } else .fail else .fail : RM Out) = _
  rw [if_pos h5]
  show (if (b.map Enc.b).all isByte = true then RM.pure { v := .str (bytesOf (b.map Enc.b)) } else .fail : RM Out) = _
  rw [if_pos (isByte_b b), bytesOf_b]
theorem extStr (b : List UInt8) (h : 3 ≤ b.length) : sliceM Y 9 (.str (baOf b)) none (some (.int .i64 3)) none = .pure { v := .str (baOf (b.take 3)) } := by
  simp only [sliceM, Y9, loF, hiF, baOf_size]
  rw [if_pos ⟨by decide, by decide, by omega⟩]
  show (RM.pure { v := T.str ((baOf b).extract 0 3) } : RM Out) = _
  rw [baOf_ext]
theorem eqStr (a c : List UInt8) : ((baOf a).toList == (baOf c).toList) = decide (a = c) := by rw [baOf_toList, baOf_toList]; by_cases h : a = c <;> simp [h]
theorem hasPrefix1 (b : List UInt8) : CallR Try.prog 159 [.str (baOf b), .str (baOf mark3)] [] (.bool (hasMark b)) := by
  refine CallR.of_body (n := 18) (rs := [.tmp 4]) hY.ok Try.func159 rfl (by decide) rfl rfl rfl rfl (fun F => ?_)
  have fx := And.intro Y3 (And.intro Y4 (Y9))
  have hs := baOf_size b
  have hs3 : (baOf mark3).size = 3 := rfl
  have he := eqStr (b.take 3) mark3
  unfold hasMark
  by_cases h : 3 ≤ b.length
  · have hx := extStr b h
    have hd : decide ((b.length : Int) ≥ 3) = true := by simp; omega
    rw [decide_eq_true h]
    generalize decide (b.take 3 = mark3) = q at *
    simp only [Bool.true_and]
    have n3 : ((3 : Nat) : Int) = 3 := rfl
    have fy := And.intro hs (And.intro hs3 (And.intro he (And.intro hx (And.intro n3 (hd)))))
    refine goK ?_ ?_ ?_ ?_ ?_ ?_ ?_ ?_ ?_ ?_ ?_ ?_ ?_ ?_ ?_ ?_
    any_goals (first | exact True.intro | skip)
    all_goals (repeat (refine Wh.mk fun hcc => ?_))
    all_goals (first | rfl | simp [tupOf, fixEs])
  · have hd : decide ((b.length : Int) ≥ 3) = false := by simp; omega
    rw [decide_eq_false h]
    simp only [Bool.false_and]
    have n3 : ((3 : Nat) : Int) = 3 := rfl
    have fy := And.intro hs (And.intro hs3 (And.intro n3 (hd)))
    refine goK ?_ ?_ ?_ ?_ ?_ ?_ ?_ ?_ ?_ ?_ ?_ ?_ ?_ ?_ ?_ ?_
    any_goals (first | exact True.intro | skip)
    all_goals (repeat (refine Wh.mk fun hcc => ?_))
    all_goals (first | rfl | simp [tupOf, fixEs])
theorem hasPrefix_ok (b : List UInt8) : CallR Try.prog 116 [.str (baOf b), .str (baOf mark3)] [] (.bool (hasMark b)) := by
  refine CallR.of_body (n := 8) (rs := [.tmp 4]) hY.ok Try.func116 rfl (by decide) rfl rfl rfl rfl (fun F => ?_)
  have fx := And.intro Y4 (Y9)
  have c1 := hasPrefix1 b
  generalize hasMark b = q at *
  have hC1 := cx [] (c1)
  have fy := Nat.add_zero
  refine goK ?_ ?_ ?_ ?_ ?_ ?_ ?_ ?_ ?_ ?_ ?_ ?_ ?_ ?_ ?_ ?_
  any_goals (first | exact True.intro | skip)
  all_goals (repeat (refine Wh.mk fun hcc => ?_))
  all_goals (first | rfl | simp [tupOf, fixEs])
def slotZ : T := .nd [.bool false, .nd [.int .i64 0, .nils 1, .nils 1]]
def slotO : T := .nd [.bool false, .nd [.int .i64 0, .ow 1 [], .ow 1 []]]
theorem v0_map : v0.map Enc.o = List.replicate 32 slotO := by unfold v0; rw [List.map_replicate]; rfl
theorem fgtZ : fgt slotZ slotO := .inr ⟨_, rfl, .bool false, _, rfl, rfl, _, _, rfl, .inr ⟨_, rfl, _, _, rfl, rfl, _, _, rfl, .inr (.inr rfl), _, _, rfl, .inr (.inr rfl), rfl⟩, rfl⟩
theorem mkView (own : Nat) : makeSliceM Y own 26 (.int .i64 32) (.int .i64 32) = .pure { v := .ref own 0 0 32, news := [.arr 4 (List.replicate 32 slotZ) false] } := by
  simp [makeSliceM, Y26, Y38, zeroT, Y3, Y34, Y36, Y4, Ty.isFn, slotZ]
theorem noView_ok  : CallR Try.prog 117 [] [] (.ow 4 (v0.map Enc.o)) := by
  refine CallR.of_body (n := 2) (rs := [.tmp 0]) hY.ok Try.func117 rfl (by decide) rfl rfl rfl rfl (fun F => ?_)
  have fx := And.intro Y3 (And.intro Y4 (And.intro Y26 (And.intro Y34 (And.intro Y36 (Y38)))))
  rw [v0_map]
  have fy := mkView
  refine goR ?_ ?_ ?_ ?_ ?_ ?_ ?_ ?_ ?_ ?_ ?_ ?_ ?_ ?_ ?_ ?_
  any_goals (first | exact True.intro | skip)
  all_goals (repeat (refine Wh.mk fun hcc => ?_))
  all_goals refine SW.norm (Norm.forgetArr 1 0 (m := List.replicate 32 slotO) rfl (fgtL_rep fgtZ 32)) ?_
  all_goals simp only [Heap.put, List.getElem?_cons_zero, List.getElem?_cons_succ, List.set_cons_succ, List.set_cons_zero]
  all_goals exact SW.ret (show RetQ _ _ _ _ _ _ _ from RetQ.y [4] [.ow 4 (List.replicate 32 slotO)])
end Q6

namespace Q6
open Go Go.Vm Go.Proofs
set_option maxHeartbeats 4000000
set_option synthInstance.maxSize 2000
set_option synthInstance.maxHeartbeats 400000
set_option maxRecDepth 10000
set_option linter.unusedSimpArgs false
set_option linter.unusedVariables false

open Go.By
theorem oid_okB (a : Int) : CallR Try.prog 83 [.int .i64 a] [] (.bool (oidB a)) := oid_ok a
theorem lim_set {v : List SlotT} {n : Nat} {s : SlotT} (h : Enc.lim 1048576 v) (hs : s.2.1.2.1.length ≤ 5 ∧ s.2.1.2.2.1.length ≤ 5) : Enc.lim 1048576 (v.set n s) := by
  refine ⟨by rw [List.length_set]; exact h.1, fun x hx => ?_⟩
  rcases List.mem_or_eq_of_mem_set hx with hx | rfl
  · exact h.2 x hx
  · exact ⟨trivial, ⟨trivial, ⟨by omega, fun _ _ => trivial⟩, ⟨by omega, fun _ _ => trivial⟩, trivial⟩, trivial⟩
theorem v0_lim : Enc.lim 1048576 v0 := ⟨by decide, fun x hx => by rw [List.eq_of_mem_replicate hx]; exact ⟨trivial, ⟨trivial, ⟨Nat.zero_le _, fun _ h => by cases h⟩, ⟨Nat.zero_le _, fun _ h => by cases h⟩, trivial⟩, trivial⟩⟩
def ldOut (b u : List UInt8) : Option (List SlotT × RS) → List SlotT × Int
  | none => ([], 4)
  | some r => if (((!r.2.2 && decide (r.2.1 = u.length)) && viewB r.1) && decide (dumpR r.1 = b)) = true then (r.1, 0) else ([], 4)
theorem ldKI_out (b u : List UInt8) : ldKI b u = ldOut b u (ldI u (manyR u 31 (0, false)).1.toNat (manyR u 31 (0, false)).2 v0) := by
  unfold ldKI ldOut; split <;> simp_all
theorem iLoad_ok (b : List UInt8) (hl : b.length ≤ 1048576) : CallR Try.prog 47 [.sl .b (b.map Enc.b)] [] (.tup [.ow 4 ((loadI b).1.map Enc.o), .int .i64 (loadI b).2]) := by
  refine CallR.of_body (n := 70) (rs := [.tmp 2, .tmp 3]) hY.ok Try.func47 rfl (by decide) rfl rfl rfl rfl (fun F => ?_)
  have fx := And.intro Y1 (And.intro Y2 (And.intro Y3 (And.intro Y4 (And.intro Y5 (And.intro Y9 (And.intro Y24 (And.intro Y26 (And.intro Y34 (And.intro Y36 (And.intro Y38 (And.intro Y97 (Y99))))))))))))
  unfold loadI
  by_cases h1 : 10000 < b.length
  · have hd : decide ((b.length : Int) > 10000) = true := by simp; omega
    rw [if_pos h1]
    have fy := hd
    refine goR ?_ ?_ ?_ ?_ ?_ ?_ ?_ ?_ ?_ ?_ ?_ ?_ ?_ ?_ ?_ ?_
    any_goals (first | exact True.intro | skip)
    all_goals (repeat (refine Wh.mk fun hcc => ?_))
    all_goals exact SW.ret (show RetQ _ _ _ _ _ _ _ from RetQ.y [4, 0] [.ow 4 [], .int .i64 1])
  rw [if_neg h1]
  have hd : decide ((b.length : Int) > 10000) = false := by simp; omega
  have hC := hasPrefix_ok b
  have hel : ∀ (g : Tag) (f : List T → RM Out), (elemsM (T.sl g (b.map Enc.b))).bind f = f (b.map Enc.b) := fun _ _ => rfl
  have hib := isByte_b b
  have hbo := bytesOf_b b
  cases hm : hasMark b
  · rw [hm] at hC
    simp only [if_true]
    have hC1 := cx [] (hC)
    have fy := And.intro hd (And.intro hel (And.intro hib (And.intro hbo (mark_u8))))
    refine goR ?_ ?_ ?_ ?_ ?_ ?_ ?_ ?_ ?_ ?_ ?_ ?_ ?_ ?_ ?_ ?_
    any_goals (first | exact True.intro | skip)
    all_goals (repeat (refine Wh.mk fun hcc => ?_))
    all_goals exact SW.ret (show RetQ _ _ _ _ _ _ _ from RetQ.y [4, 0] [.ow 4 [], .int .i64 2])
  rw [hm] at hC
  simp only [Bool.true_eq_false, if_false]
  have h3 : 3 ≤ b.length := by unfold hasMark at hm; simp only [Bool.and_eq_true, decide_eq_true_eq] at hm; exact hm.1
  have hU0 := unframeI_ok b 3 hl h3
  have hle := unfI_le b 3 h3
  generalize unfI b 3 = u at *
  obtain ⟨bd, e, c⟩ := u
  simp only at hU0 hle ⊢
  have hU : CallR Try.prog 97 [.sl .b (b.map Enc.b), .int .i64 3] [] (.tup [.ow 1 (bd.map Enc.o), .int .i64 (e : Nat), .int .i64 c]) := hU0
  clear hU0
  have hcn : (c != 0) = !decide (c = 0) := by by_cases h : c = 0 <;> simp [h]
  have hen : ((e : Int) != (b.length : Int)) = !decide (e = b.length) := by by_cases h : e = b.length <;> simp [h]; omega
  generalize decide (c = 0) = p at *
  generalize decide (e = b.length) = q at *
  cases p
  · cases q
    · simp only [Bool.and_self, Bool.false_and, Bool.and_false, Bool.false_eq_true, if_false]
      have hC1 := cx [] (hC)
      have hC2 := cx [] (hU)
      have fy := And.intro hd (And.intro hel (And.intro hib (And.intro hbo (And.intro mark_u8 (And.intro hcn (hen))))))
      refine goR ?_ ?_ ?_ ?_ ?_ ?_ ?_ ?_ ?_ ?_ ?_ ?_ ?_ ?_ ?_ ?_
      any_goals (first | exact True.intro | skip)
      all_goals (repeat (refine Wh.mk fun hcc => ?_))
      all_goals exact SW.ret (show RetQ _ _ _ _ _ _ _ from RetQ.y [4, 0] [.ow 4 [], .int .i64 3])
    · simp only [Bool.and_self, Bool.false_and, Bool.and_false, Bool.false_eq_true, if_false]
      have hC1 := cx [] (hC)
      have hC2 := cx [] (hU)
      have fy := And.intro hd (And.intro hel (And.intro hib (And.intro hbo (And.intro mark_u8 (And.intro hcn (hen))))))
      refine goR ?_ ?_ ?_ ?_ ?_ ?_ ?_ ?_ ?_ ?_ ?_ ?_ ?_ ?_ ?_ ?_
      any_goals (first | exact True.intro | skip)
      all_goals (repeat (refine Wh.mk fun hcc => ?_))
      all_goals exact SW.ret (show RetQ _ _ _ _ _ _ _ from RetQ.y [4, 0] [.ow 4 [], .int .i64 3])
  · cases q
    · simp only [Bool.and_self, Bool.false_and, Bool.and_false, Bool.false_eq_true, if_false]
      have hC1 := cx [] (hC)
      have hC2 := cx [] (hU)
      have fy := And.intro hd (And.intro hel (And.intro hib (And.intro hbo (And.intro mark_u8 (And.intro hcn (hen))))))
      refine goR ?_ ?_ ?_ ?_ ?_ ?_ ?_ ?_ ?_ ?_ ?_ ?_ ?_ ?_ ?_ ?_
      any_goals (first | exact True.intro | skip)
      all_goals (repeat (refine Wh.mk fun hcc => ?_))
      all_goals exact SW.ret (show RetQ _ _ _ _ _ _ _ from RetQ.y [4, 0] [.ow 4 [], .int .i64 3])
    · simp only [Bool.and_self, if_true]
      have hb := Nat.le_trans hle.1 hl
      clear hle
      rw [ldKI_out]
      have hC1 := cx [] (hC)
      have hC2 := cx [] (hU)
      have fy := And.intro hd (And.intro hel (And.intro hib (And.intro hbo (And.intro mark_u8 (And.intro hcn (hen))))))
      refine goN ?_ ?_ ?_ ?_ ?_ ?_ ?_ ?_ ?_ ?_ ?_ ?_ ?_ ?_ ?_ ?_
      any_goals (first | exact True.intro | skip)
      skip
      refine SW.cond rfl (fun hcc => absurd hcc (by decide)) (fun hcc => ?_)
      clear hC1 hC2 fy
      have hC1 := cx [] (hC)
      have hC2 := cx [] (hU)
      have fy := And.intro hd (And.intro hel (And.intro hib (And.intro hbo (And.intro mark_u8 (And.intro hcn (hen))))))
      refine goN ?_ ?_ ?_ ?_ ?_ ?_ ?_ ?_ ?_ ?_ ?_ ?_ ?_ ?_ ?_ ?_
      any_goals (first | exact True.intro | skip)
      skip
      refine SW.cond rfl (fun hcc => absurd hcc (by decide)) (fun hcc => ?_)
      clear hC1 hC2 fy
      have hC1 := cx [] (hC)
      have hC2 := cx [] (hU)
      have fy := And.intro hd (And.intro hel (And.intro hib (And.intro hbo (And.intro mark_u8 (And.intro hcn (hen))))))
      refine goN ?_ ?_ ?_ ?_ ?_ ?_ ?_ ?_ ?_ ?_ ?_ ?_ ?_ ?_ ?_ ?_
      any_goals (first | exact True.intro | skip)
      skip
      refine SW.cond rfl (fun hcc => absurd hcc (by decide)) (fun hcc => ?_)
      clear hC1 hC2 fy
      refine SW.norm (Norm.frz 4 2 0 rfl rfl (by simp)) ?_
      rw [frz_all]
      simp only [List.set_cons_succ, List.set_cons_zero, Heap.put, List.getElem?_cons_succ, List.getElem?_cons_zero]
      have hM : CallR Try.prog 87 [.io (.nd [.sl .s (bd.map Enc.b), .int .i64 0, .bool false]), .int .i64 31] [.nd [.sl .s (bd.map Enc.b), .int .i64 ((manyR bd 31 (0, false)).2.1 : Nat), .bool (manyR bd 31 (0, false)).2.2]] (.int .i64 (manyR bd 31 (0, false)).1) := many_s bd (0, false) 31 hb (Nat.zero_le _)
      have hMr := manyR_rng bd 31 (by decide) (0, false)
      have hMl := manyR_le bd 31 (0, false) (Nat.zero_le _)
      have hN := noView_ok
      generalize manyR bd 31 (0, false) = m at *
      obtain ⟨n, s0⟩ := m
      simp only at hM hMr hMl ⊢
      obtain ⟨N0, rfl⟩ : ∃ N0 : Nat, n = (N0 : Int) := ⟨n.toNat, by omega⟩
      rw [Int.toNat_natCast]
      have hN31 : N0 ≤ 31 := by omega
      clear hMr
      generalize hR : ldI bd N0 s0 v0 = R at *
      have hC1 := cx [] (hN)
      have hC2 := cx [.io] (hM)
      have fy := Nat.add_zero
      refine goN ?_ ?_ ?_ ?_ ?_ ?_ ?_ ?_ ?_ ?_ ?_ ?_ ?_ ?_ ?_ ?_
      any_goals (first | exact True.intro | skip)
      skip
      rw [show v0.length = 32 from rfl]
      refine SW.loop (fun x : Nat × RS × List SlotT => ⟨[.sl .b (b.map Enc.b), .undef, .undef, .undef, .undef, .undef, .undef, .ptr 1 0 [] 0, .ref 2 0 0 32, .undef, .undef, .undef, .undef, .undef, .undef, .undef, .undef, .undef, .undef, .undef, .undef, .undef, .undef, .undef, .undef, .undef, .undef, .undef, .undef, .undef, .undef, .undef, .undef, .undef, .undef, .undef, .undef, .undef, .undef, .int .i64 (N0 : Nat), .int .i64 (x.1 : Nat), .undef, .undef, .undef, .undef, .undef, .undef, .undef, .undef, .undef, .undef, .undef, .undef, .undef, .undef, .undef, .undef, .undef, .undef, .undef, .undef, .undef, .undef, .undef, .undef, .undef, .undef, .undef, .undef, .undef], [[], [.var (.nd [.sl .s (bd.map Enc.b), .int .i64 (x.2.1.1 : Nat), .bool x.2.1.2])], [.arr 4 (x.2.2.map Enc.o) false]]⟩)
        (fun N x => N = N0 - x.1 ∧ x.1 ≤ N0 ∧ x.2.1.1 ≤ bd.length ∧ x.2.2.length = 32 ∧ Enc.lim 1048576 x.2.2 ∧ ldI bd (N0 - x.1) x.2.1 x.2.2 = R) (n := N0) (x := (0, s0, v0)) (Norm.re [0, 3, 4] (by decide) rfl (by first | (simp only [eq_self, heapFits, rowFits, obFits, List.getElem?_cons_zero, List.getElem?_cons_succ, renL_o, renL_b, true_and, and_true, and_self]; done) | simp [-List.map_append, heapFits, rowFits, obFits, T.ren, renL]) (by simp [tmFits, T.ren])) ⟨rfl, Nat.zero_le _, hMl, rfl, v0_lim, hR⟩ ?_
      clear hR hMl hM hN hC
      rintro N ⟨i, s, v⟩ ⟨hN, hi, hs, hv, hvl, hR⟩
      simp only at hN hi hs hv hvl hR ⊢
      have fy := Nat.add_zero
      refine goS ?_
      refine SW.cond rfl (fun hc => ?_) (fun hc => ?_)
      · have hlt : i < N0 := by simp at hc; omega
        obtain ⟨r, hr⟩ : ∃ r, N0 - i = r + 1 := ⟨N0 - i - 1, by omega⟩
        rw [hr, ldI] at hR
        have h1 : CallR Try.prog 85 [.io (.nd [.sl .s (bd.map Enc.b), .int .i64 (s.1 : Nat), .bool s.2])] [.nd [.sl .s (bd.map Enc.b), .int .i64 ((oneR bd s).2.1 : Nat), .bool (oneR bd s).2.2]] (.int .i64 (oneR bd s).1) := one_s bd s hb hs
        have e1 := oneR_le bd s hs
        have hO := oid_okB (oneR bd s).1
        generalize oneR bd s = o at *
        have h2 := implSlot_s bd o.2 hb e1
        have e2 := slotI_le bd o.2 e1
        have hsl := slotI_lim bd o.2
        generalize slotI bd o.2 = x at *
        obtain ⟨⟨xp, ⟨xk, xA, xB, ⟨⟩⟩, ⟨⟩⟩, s2⟩ := x
        obtain ⟨oi, s1⟩ := o
        simp only at h1 e1 hO h2 e2 hsl hR
        have hwi : IntKind.i64.wrap ((i : Int) + 1) = ((i + 1 : Nat) : Int) := by rw [wrap64 _ (by omega) (by omega)]; omega
        cases ho : oidB oi
        · rw [ho] at hO hR
          simp only [Bool.false_eq_true, if_false] at hR
          subst hR
          unfold ldOut
          have hC1 := cx [.io] (h1)
          have hC2 := cx [.io] (h2)
          have hC3 := cx [] (hO)
          have fy := hwi
          refine goR ?_ ?_ ?_ ?_ ?_ ?_ ?_ ?_ ?_ ?_ ?_ ?_ ?_ ?_ ?_ ?_
          any_goals (first | exact True.intro | skip)
          all_goals (repeat (refine Wh.mk fun hcc => ?_))
          all_goals exact SW.ret (show RetQ _ _ _ _ _ _ _ from RetQ.y [4, 0] [.ow 4 [], .int .i64 4])
        · rw [ho] at hO hR
          simp only [if_true] at hR
          have hkr : 1 ≤ oi ∧ oi ≤ 31 := by unfold oidB at ho; simp only [Bool.and_eq_true, decide_eq_true_eq] at ho; exact ho
          obtain ⟨k, rfl⟩ : ∃ k : Nat, oi = (k : Int) := ⟨oi.toNat, by omega⟩
          rw [Int.toNat_natCast] at hR
          have hk32 : k < v.length := by omega
          have hkI : (k : Int) < ((32 : Nat) : Int) := by omega
          have hkI2 : (k : Int) < 32 := by omega
          have hg : (v.map Enc.o)[k]? = some (.nd [.bool v[k].1, .nd [.int .i64 v[k].2.1.1, .ow 1 (v[k].2.1.2.1.map Enc.o), .ow 1 (v[k].2.1.2.2.1.map Enc.o)]]) := map_get Enc.o v k hk32
          have hvm : (v.map Enc.o).length = 32 := by rw [List.length_map]; exact hv
          have hC1 := cx [.io] (h1)
          have hC2 := cx [.io] (h2)
          have hC3 := cx [] (hO)
          have fy := And.intro hwi (And.intro hg (And.intro hvm (And.intro hkI (And.intro hkI2 (Nat.zero_add)))))
          refine goR ?_ ?_ ?_ ?_ ?_ ?_ ?_ ?_ ?_ ?_ ?_ ?_ ?_ ?_ ?_ ?_
          any_goals (first | exact True.intro | skip)
          all_goals (repeat (refine Wh.mk fun hcc => ?_))
          have key : (v.map Enc.o).set k (.nd [.bool xp, .nd [.int .i64 xk, .ow 1 (xA.map Enc.o), .ow 1 (xB.map Enc.o)]]) = (v.set k ((xp, (xk, xA, xB, ()), ()) : SlotT)).map Enc.o := by rw [List.map_set]; rfl
          have q1 := lim_set (n := k) (s := ((xp, (xk, xA, xB, ()), ()) : SlotT)) hvl hsl
          have q2 : (v.set k ((xp, (xk, xA, xB, ()), ()) : SlotT)).length = 32 := by rw [List.length_set]; exact hv
          generalize v.set k ((xp, (xk, xA, xB, ()), ()) : SlotT) = vv at *
          refine ⟨N - 1, (i + 1, s2, vv), by omega, ⟨by simp only; omega, by simp only; omega, e2, q2, q1, by simp only; rw [show N0 - (i + 1) = r by omega]; exact hR⟩, ?_⟩
          refine Norm.trans (Norm.soakArr 2 0 k rfl (List.getElem?_set_self (by omega))) ?_
          simp only [soakS, soakL, Heap.at, Heap.put, List.getElem?_cons_zero, List.getElem?_cons_succ, List.set_cons_succ, List.set_cons_zero, List.set_set, List.length_map, and_self, if_true, key]
          skip
          exact Norm.re [0, 1, 2] (by decide) rfl (by first | (simp only [eq_self, heapFits, rowFits, obFits, List.getElem?_cons_zero, List.getElem?_cons_succ, renL_o, renL_b, true_and, and_true, and_self]; done) | simp [-List.map_append, heapFits, rowFits, obFits, T.ren, renL]) (by simp [tmFits, T.ren])
      · have hge : i = N0 := by
          have : ¬ i < N0 := by simp at hc; omega
          omega
        subst hge
        rw [Nat.sub_self, ldI] at hR
        subst hR
        unfold ldOut
        simp only
        have hD := done_ok bd s
        have hV := implViewOk_ok v hvl
        have hQ := iDump_ok v hvl
        have hql := dumpR_len v
        have hE := equalBytes_ok (dumpR v) b (by omega)
        generalize decide (dumpR v = b) = q3 at *
        generalize dumpR v = D at *
        generalize viewB v = q2 at *
        generalize (!s.2 && decide (s.1 = bd.length)) = q1 at *
        clear hql hvl
        have e32 : T.ref 2 0 0 32 = T.ref 2 0 0 v.length := by rw [hv]
        rw [e32]
        cases q1
        · skip
          simp only [Bool.and_self, Bool.false_and, Bool.and_false, Bool.true_and, Bool.and_true, Bool.false_eq_true, if_false, if_true]
          have hC1 := cx [] (hD)
          have hC2 := cx [] (hV)
          have hC3 := cx [] (hQ)
          have hC4 := cx [] (hE)
          have fy := Nat.add_zero
          refine goR ?_ ?_ ?_ ?_ ?_ ?_ ?_ ?_ ?_ ?_ ?_ ?_ ?_ ?_ ?_ ?_
          any_goals (first | exact True.intro | skip)
          all_goals (repeat (refine Wh.mk fun hcc => ?_))
          all_goals exact SW.ret (show RetQ _ _ _ _ _ _ _ from RetQ.y [4, 0] [.ow 4 [], .int .i64 4])
        · skip
          cases q2
          · skip
            simp only [Bool.and_self, Bool.false_and, Bool.and_false, Bool.true_and, Bool.and_true, Bool.false_eq_true, if_false, if_true]
            have hC1 := cx [] (hD)
            have hC2 := cx [] (hV)
            have hC3 := cx [] (hQ)
            have hC4 := cx [] (hE)
            have fy := Nat.add_zero
            refine goR ?_ ?_ ?_ ?_ ?_ ?_ ?_ ?_ ?_ ?_ ?_ ?_ ?_ ?_ ?_ ?_
            any_goals (first | exact True.intro | skip)
            all_goals (repeat (refine Wh.mk fun hcc => ?_))
            all_goals exact SW.ret (show RetQ _ _ _ _ _ _ _ from RetQ.y [4, 0] [.ow 4 [], .int .i64 4])
          · skip
            cases q3
            · skip
              simp only [Bool.and_self, Bool.false_and, Bool.and_false, Bool.true_and, Bool.and_true, Bool.false_eq_true, if_false, if_true]
              have hC1 := cx [] (hD)
              have hC2 := cx [] (hV)
              have hC3 := cx [] (hQ)
              have hC4 := cx [] (hE)
              have fy := Nat.add_zero
              refine goR ?_ ?_ ?_ ?_ ?_ ?_ ?_ ?_ ?_ ?_ ?_ ?_ ?_ ?_ ?_ ?_
              any_goals (first | exact True.intro | skip)
              all_goals (repeat (refine Wh.mk fun hcc => ?_))
              all_goals exact SW.ret (show RetQ _ _ _ _ _ _ _ from RetQ.y [4, 0] [.ow 4 [], .int .i64 4])
            · skip
              simp only [Bool.and_self, Bool.false_and, Bool.and_false, Bool.true_and, Bool.and_true, Bool.false_eq_true, if_false, if_true]
              have hC1 := cx [] (hD)
              have hC2 := cx [] (hV)
              have hC3 := cx [] (hQ)
              have hC4 := cx [] (hE)
              have fy := Nat.add_zero
              refine goR ?_ ?_ ?_ ?_ ?_ ?_ ?_ ?_ ?_ ?_ ?_ ?_ ?_ ?_ ?_ ?_
              any_goals (first | exact True.intro | skip)
              all_goals (repeat (refine Wh.mk fun hcc => ?_))
              all_goals exact SW.ret (show RetQ _ _ _ _ _ _ _ from RetQ.y [4, 0] [.ow 4 (v.map Enc.o), .int .i64 0])
end Q6

namespace Q6
open Go Go.Vm Go.Proofs
set_option maxHeartbeats 4000000
set_option synthInstance.maxSize 2000
set_option synthInstance.maxHeartbeats 400000
set_option maxRecDepth 10000
set_option linter.unusedSimpArgs false
set_option linter.unusedVariables false

open Go.By

theorem ldS_stop {l : List UInt8} {n : Int} {s : RS} {v : List SlotT} : ∀ {k : Nat}, (¬ (31 - (k : Int) < n) ∨ k = 0 ∨ s.2 = true) → ldS l n k s v = (v, s)
  | 0, _ => rfl
  | k + 1, h => by
    have hc : (decide (30 - (k : Int) < n) && !s.2) = false := by
      rcases h with h | h | h
      · rw [decide_eq_false (by omega)]; rfl
      · cases h
      · rw [h, Bool.not_true, Bool.and_false]
    rw [ldS, hc]; rfl
theorem ldS_go {l : List UInt8} {n : Int} {s : RS} {v : List SlotT} {k : Nat} (h : 30 - (k : Int) < n) (hs : s.2 = false) : ldS l n (k + 1) s v =
    ldS l n k (slotS l (oneR l s).2).2 (if (!(slotS l (oneR l s).2).2.2 && rng (oneR l s).1 1 31) = true then v.set (oneR l s).1.toNat (slotS l (oneR l s).2).1 else v) := by
  rw [ldS, hs, decide_eq_true h]; rfl
def ldOutS (b : List UInt8) (r : List SlotT × RS) : List SlotT × Int := if (!r.2.2 && decide (dumpR r.1 = b)) = true then (r.1, 0) else ([], 4)
theorem ldKS_out (b u : List UInt8) : ldKS b u = ldOutS b (ldS u (oneR u (0, false)).1 31 (oneR u (0, false)).2 v0) := rfl
theorem goG {A B1 B2 B3 B4 B5 B6 B7 B8 B9 B10 B11 B12 B13 B14 B15 B16 : Prop} (b1 : B1) (b2 : B2) (b3 : B3) (b4 : B4) (b5 : B5) (b6 : B6) (b7 : B7) (b8 : B8) (b9 : B9) (b10 : B10) (b11 : B11) (b12 : B12) (b13 : B13) (b14 : B14) (b15 : B15) (b16 : B16) (k : B1 →  B2 →  B3 →  B4 →  B5 →  B6 →  B7 →  B8 →  B9 →  B10 →  B11 →  B12 →  B13 →  B14 →  B15 →  B16 → A := by intro h1 h2 h3 h4 h5 h6 h7 h8 h9 h10 h11 h12 h13 h14 h15 h16; refine tw ?_ ?_; (focus (repeat' first | ((have hk8 := Nat.add_zero); (first | refine SW.ops_seq hY fun y1 hy1 => ?_ | refine SW.ops hY ?_ | refine SW.seq (SW.draw2x hD1 hY mixed (by kernel_rfl) ?_) | refine SW.draw2x hD1 hY mixed (by kernel_rfl) ?_ | refine SW.seq (SW.draw2x hD2 hY mixed (by kernel_rfl) ?_) | refine SW.draw2x hD2 hY mixed (by kernel_rfl) ?_ | refine SW.seq (SW.draw2x hD3 hY mixed (by kernel_rfl) ?_) | refine SW.draw2x hD3 hY mixed (by kernel_rfl) ?_ | refine SW.draw_seq hY mixed (by kernel_rfl) fun y1 hy1 => ?_ | refine SW.draw hY mixed (by kernel_rfl) ?_ | refine vcall_c hC1 (hK := ?_) | refine vcall_c hC2 (hK := ?_) | refine vcall_c hC3 (hK := ?_) | refine vcall_c hC4 (hK := ?_) | refine vcall_c hC5 (hK := ?_) | refine vcall_c hC6 (hK := ?_) | refine vcall_c hC7 (hK := ?_) | refine vcall_c hC8 (hK := ?_) | refine vcall_c hC9 (hK := ?_) | refine vcall_c hC10 (hK := ?_) | refine vcall_c hC11 (hK := ?_) | refine vcall_c hC12 (hK := ?_) | refine vcall_c hC13 (hK := ?_) | refine vcall_c hC14 (hK := ?_) | refine vcall_c (cx [] (hG1 _)) (hK := ?_) | refine vcall_c (cx [] (hG1 _ _)) (hK := ?_) | refine vcall_c (cx [] (hG1 _ _ _)) (hK := ?_) | refine vcall_c (cx [] (hG1 _ _ _ _)) (hK := ?_) | refine vcall_c (cx [] (hG2 _)) (hK := ?_) | refine vcall_c (cx [] (hG2 _ _)) (hK := ?_) | refine vcall_c (cx [] (hG2 _ _ _)) (hK := ?_) | refine vcall_c (cx [] (hG2 _ _ _ _)) (hK := ?_) | refine vcall_c (cx [] (hG3 _)) (hK := ?_) | refine vcall_c (cx [] (hG3 _ _)) (hK := ?_) | refine vcall_c (cx [] (hG3 _ _ _)) (hK := ?_) | refine vcall_c (cx [] (hG3 _ _ _ _)) (hK := ?_) | refine kgf ?_ | refine kgt ?_ | (refine k8p ?_; (simp only [k13, hk8, upT_g, dnT_g, nb_g, dnT_b, dnT_s, dnT_0, dnT_r, fx, fy, fz, wo, decide_true, decide_false, wz0, wz1, wz2, wz3, wz4, wz5, wz6, wz7, wz8, appM, Ty.isInt, capT, appendZM, buildM, setAll, plSt, plAr, mnmx, Int.reduceLT, vrec, List.drop_succ_cons, List.drop_zero, convertM, indexM, fieldM, Int.toNat_zero, Int.toNat_one, Int.le_refl, Int.zero_le_ofNat, Int.reduceEq, Int.reduceNe, ne_eq, not_false_eq_true, u8_wrap, marksG_len, marks_len, bne_self_eq_false, take_map_len, tgL_byte, T.asArr, T.tg, tgL, indexAddrM, wk, wl, eq_self, isCall, callT, opM, S.ev, S.put, entryS, thawAL, thawA, RM.run, RM.bind, RM.ofOpt, allocs, Heap.ups, Heap.put, Heap.at, List.replicate, Nat.reduceAdd, Nat.reduceSub, ofConst, nilAs, if_false, if_true, binT, binTy, unT, guardT, quietK, reduceIte, boxM, allocM, loadM, storeM, fieldAddrM, lenT, extractT, subM, setOb, T.get, T.setp, T.offs, T.nw, nwL, T.cel, T.isNd, T.size, sizeL, TyI.agg, Ty.agg, Ty.isFn, zeroT, Nat.reduceLT, Nat.reduceEqDiff, sumT, kill]); (first | refine vpure_c hC1 (hK := ?_) | refine vpure_c hC2 (hK := ?_) | refine vpure_c hC3 (hK := ?_) | refine vpure_c hC4 (hK := ?_) | refine vpure_c hC5 (hK := ?_) | refine vpure_c hC6 (hK := ?_) | refine vpure_c hC7 (hK := ?_) | refine vpure_c hC8 (hK := ?_) | refine vpure_c hC9 (hK := ?_) | refine vpure_c hC10 (hK := ?_) | refine vpure_c hC11 (hK := ?_) | refine vpure_c hC12 (hK := ?_) | refine vpure_c hC13 (hK := ?_) | refine vpure_c hC14 (hK := ?_) | refine vpure_c (cx [] (hG1 _)) (hK := ?_) | refine vpure_c (cx [] (hG1 _ _)) (hK := ?_) | refine vpure_c (cx [] (hG1 _ _ _)) (hK := ?_) | refine vpure_c (cx [] (hG1 _ _ _ _)) (hK := ?_) | refine vpure_c (cx [] (hG2 _)) (hK := ?_) | refine vpure_c (cx [] (hG2 _ _)) (hK := ?_) | refine vpure_c (cx [] (hG2 _ _ _)) (hK := ?_) | refine vpure_c (cx [] (hG2 _ _ _ _)) (hK := ?_) | refine vpure_c (cx [] (hG3 _)) (hK := ?_) | refine vpure_c (cx [] (hG3 _ _)) (hK := ?_) | refine vpure_c (cx [] (hG3 _ _ _)) (hK := ?_) | refine vpure_c (cx [] (hG3 _ _ _ _)) (hK := ?_))) | (simp only [k8]; refine .inl ?_; refine ⟨fun hb => ?_, fun hb => ?_⟩ <;> (try replace hb := Bool.eq_false_iff.2 hb) <;> (first | exact absurd hb (by decide) | replace hk8 := hb))) <;> (simp only [k13, hk8, upT_g, dnT_g, nb_g, dnT_b, dnT_s, dnT_0, dnT_r, fx, fy, fz, wo, decide_true, decide_false, wz0, wz1, wz2, wz3, wz4, wz5, wz6, wz7, wz8, appM, Ty.isInt, capT, appendZM, buildM, setAll, plSt, plAr, mnmx, Int.reduceLT, vrec, List.drop_succ_cons, List.drop_zero, convertM, indexM, fieldM, Int.toNat_zero, Int.toNat_one, Int.le_refl, Int.zero_le_ofNat, Int.reduceEq, Int.reduceNe, ne_eq, not_false_eq_true, u8_wrap, marksG_len, marks_len, bne_self_eq_false, take_map_len, tgL_byte, T.asArr, T.tg, tgL, indexAddrM, wk, wl, eq_self, isCall, callT, opM, S.ev, S.put, entryS, thawAL, thawA, RM.run, RM.bind, RM.ofOpt, allocs, Heap.ups, Heap.put, Heap.at, List.replicate, Nat.reduceAdd, Nat.reduceSub, ofConst, nilAs, if_false, if_true, binT, binTy, unT, guardT, quietK, reduceIte, boxM, allocM, loadM, storeM, fieldAddrM, lenT, extractT, subM, setOb, T.get, T.setp, T.offs, T.nw, nwL, T.cel, T.isNd, T.size, sizeL, TyI.agg, Ty.agg, Ty.isFn, zeroT, Nat.reduceLT, Nat.reduceEqDiff, sumT, kill]; clear hk8; first | subst hy1 | (try simp only [thenS, blockS, if_true, if_false, Nat.reduceEqDiff, reduceIte]))) | (refine Chk.mk (by simp only [rdqs, rdq, k13, upT_g, dnT_g, nb_g, dnT_b, dnT_s, dnT_0, dnT_r, fx, fy, fz, wo, decide_true, decide_false, wz0, wz1, wz2, wz3, wz4, wz5, wz6, wz7, wz8, appM, Ty.isInt, capT, appendZM, buildM, setAll, plSt, plAr, mnmx, Int.reduceLT, vrec, List.drop_succ_cons, List.drop_zero, convertM, indexM, fieldM, Int.toNat_zero, Int.toNat_one, Int.le_refl, Int.zero_le_ofNat, Int.reduceEq, Int.reduceNe, ne_eq, not_false_eq_true, u8_wrap, marksG_len, marks_len, bne_self_eq_false, take_map_len, tgL_byte, T.asArr, T.tg, tgL, indexAddrM, wk, wl, eq_self, isCall, callT, opM, S.ev, S.put, entryS, thawAL, thawA, RM.run, RM.bind, RM.ofOpt, allocs, Heap.ups, Heap.put, Heap.at, List.replicate, Nat.reduceAdd, Nat.reduceSub, ofConst, nilAs, if_false, if_true, binT, binTy, unT, guardT, quietK, reduceIte, boxM, allocM, loadM, storeM, fieldAddrM, lenT, extractT, subM, setOb, T.get, T.setp, T.offs, T.nw, nwL, T.cel, T.isNd, T.size, sizeL, TyI.agg, Ty.agg, Ty.isFn, zeroT, Nat.reduceLT, Nat.reduceEqDiff, sumT, kill]; try trivial) ?_) | exact absurd trivial hb | exact absurd hb (by decide) | exact absurd hcc (by decide) | refine SW.seq ?_ | refine SW.block ?_ | (refine SW.exit ?_; simp only [thenS, blockS, if_true, if_false, Nat.reduceEqDiff, reduceIte]) | (refine SW.skip ?_; simp only [thenS, blockS]) | ((repeat (refine Wh.h ?_ hb; clear hb)); (repeat (refine Wh.h ?_ hcc; clear hcc)); (first | exact h1 | exact h2 | exact h3 | exact h4 | exact h5 | exact h6 | exact h7 | exact h8 | exact h9 | exact h10 | exact h11 | exact h12 | exact h13 | exact h14 | exact h15 | exact h16)))); (try (have hq : True := h1)); (try (have hq : True := h2)); (try (have hq : True := h3)); (try (have hq : True := h4)); (try (have hq : True := h5)); (try (have hq : True := h6)); (try (have hq : True := h7)); (try (have hq : True := h8)); (try (have hq : True := h9)); (try (have hq : True := h10)); (try (have hq : True := h11)); (try (have hq : True := h12)); (try (have hq : True := h13)); (try (have hq : True := h14)); (try (have hq : True := h15)); (try (have hq : True := h16)); exact True.intro) : A := k b1 b2 b3 b4 b5 b6 b7 b8 b9 b10 b11 b12 b13 b14 b15 b16
theorem bsv_26 (own : Nat) : buildSliceM Y own 26 0 [] = .pure { v := .ref own 0 0 0, news := [.arr 4 [] false] } := build0 (t := 26) Y26 Y38 rfl (by decide)
theorem sLoad_ok (b : List UInt8) (hl : b.length ≤ 1048576) : CallR Try.prog 46 [.sl .b (b.map Enc.b)] [] (.tup [.ow 4 ((loadS b).1.map Enc.o), .int .i64 (loadS b).2]) := by
  refine CallR.of_body (n := 98) (rs := [.tmp 2, .tmp 3]) hY.ok Try.func46 rfl (by decide) rfl rfl rfl rfl (fun F => ?_)
  have fx := And.intro Y1 (And.intro Y2 (And.intro Y3 (And.intro Y4 (And.intro Y5 (And.intro Y9 (And.intro Y24 (And.intro Y26 (And.intro Y34 (And.intro Y36 (And.intro Y38 (And.intro Y115 (Y117))))))))))))
  unfold loadS
  by_cases h1 : 10000 < b.length
  · have hd : decide ((b.length : Int) > 10000) = true := by simp; omega
    rw [if_pos h1]
    have fy := And.intro bsv_26 (hd)
    refine goR ?_ ?_ ?_ ?_ ?_ ?_ ?_ ?_ ?_ ?_ ?_ ?_ ?_ ?_ ?_ ?_
    any_goals (first | exact True.intro | skip)
    all_goals (repeat (refine Wh.mk fun hcc => ?_))
    all_goals exact SW.ret (show RetQ _ _ _ _ _ _ _ from RetQ.y [4, 0] [.ow 4 [], .int .i64 1])
  rw [if_neg h1]
  have hd : decide ((b.length : Int) > 10000) = false := by simp; omega
  by_cases h3 : 3 ≤ b.length
  rotate_left
  · have hm : hasMark b = false := by unfold hasMark; rw [decide_eq_false h3]; rfl
    have hd3 : decide ((b.length : Int) < 3) = true := by simp; omega
    rw [if_pos hm]
    have fy := And.intro bsv_26 (And.intro hd (hd3))
    refine goR ?_ ?_ ?_ ?_ ?_ ?_ ?_ ?_ ?_ ?_ ?_ ?_ ?_ ?_ ?_ ?_
    any_goals (first | exact True.intro | skip)
    all_goals (repeat (refine Wh.mk fun hcc => ?_))
    all_goals exact SW.ret (show RetQ _ _ _ _ _ _ _ from RetQ.y [4, 0] [.ow 4 [], .int .i64 2])
  have hd3 : decide ((b.length : Int) < 3) = false := by simp; omega
  have hsr := fun (H : Heap) => show (sliceM Y 24 (.sl .b (b.map Enc.b)) none (some (.int .i64 3)) none).run H = some { v := .sl .b ((b.take 3).map Enc.b) } by
    have hc : (0 : Int) ≤ 0 ∧ (0 : Int) ≤ 3 ∧ (3 : Int) ≤ ((b.map (Enc.b : UInt8 → T)).length : Int) ∧ ∀ u ∈ (b.map Enc.b).take 1, u.size = 1 := ⟨by decide, by decide, by rw [List.length_map]; omega, takeB b 1⟩
    simp only [sliceM, Y24, Y5, loF, hiF]
    refine (congrArg (RM.run H) (if_pos hc)).trans ?_
    show some ({ v := T.sl .b (((b.map Enc.b).drop 0).take 3) } : Out) = _
    rw [List.drop_zero, ← List.map_take]
  have hel : ∀ (g : Tag) (f : List T → RM Out), (elemsM (T.sl g ((b.take 3).map Enc.b))).bind f = f ((b.take 3).map Enc.b) := fun _ _ => rfl
  have hib := isByte_b (b.take 3)
  have hbo := bytesOf_b (b.take 3)
  have he : ((baOf (b.take 3)).toList == (ByteArray.mk #[75, 87, 49]).toList) = hasMark b := by
    rw [show (ByteArray.mk #[75, 87, 49]) = baOf mark3 from rfl, eqStr]; unfold hasMark; rw [decide_eq_true h3, Bool.true_and]
  generalize hb3 : b.take 3 = b3 at *
  cases hm : hasMark b
  · rw [hm] at he
    simp only [if_true]
    have fy := And.intro bsv_26 (And.intro hd (And.intro hd3 (And.intro hsr (And.intro hel (And.intro hib (And.intro hbo (And.intro he (mark_u8))))))))
    refine goR ?_ ?_ ?_ ?_ ?_ ?_ ?_ ?_ ?_ ?_ ?_ ?_ ?_ ?_ ?_ ?_
    any_goals (first | exact True.intro | skip)
    all_goals (repeat (refine Wh.mk fun hcc => ?_))
    all_goals exact SW.ret (show RetQ _ _ _ _ _ _ _ from RetQ.y [4, 0] [.ow 4 [], .int .i64 2])
  rw [hm] at he
  simp only [Bool.true_eq_false, if_false]
  have hU0 := unframeS_ok b 3 hl h3
  have hle := unfS_le b 3 h3
  generalize unfS b 3 = u at *
  obtain ⟨bd, e, c⟩ := u
  simp only at hU0 hle ⊢
  have hU : CallR Try.prog 103 [.sl .b (b.map Enc.b), .int .i64 3] [] (.tup [.ow 1 (bd.map Enc.o), .int .i64 (e : Nat), .int .i64 c]) := hU0
  clear hU0
  have hcn : (c != 0) = !decide (c = 0) := by by_cases h : c = 0 <;> simp [h]
  have hen : ((e : Int) != (b.length : Int)) = !decide (e = b.length) := by by_cases h : e = b.length <;> simp [h]; omega
  generalize decide (c = 0) = p at *
  generalize decide (e = b.length) = q at *
  cases p
  · cases q
    · simp only [Bool.and_self, Bool.false_and, Bool.and_false, Bool.false_eq_true, if_false]
      have hC1 := cx [] (hU)
      have fy := And.intro bsv_26 (And.intro hd (And.intro hd3 (And.intro hsr (And.intro hel (And.intro hib (And.intro hbo (And.intro he (And.intro mark_u8 (And.intro hcn (hen))))))))))
      refine goR ?_ ?_ ?_ ?_ ?_ ?_ ?_ ?_ ?_ ?_ ?_ ?_ ?_ ?_ ?_ ?_
      any_goals (first | exact True.intro | skip)
      all_goals (repeat (refine Wh.mk fun hcc => ?_))
      all_goals exact SW.ret (show RetQ _ _ _ _ _ _ _ from RetQ.y [4, 0] [.ow 4 [], .int .i64 3])
    · simp only [Bool.and_self, Bool.false_and, Bool.and_false, Bool.false_eq_true, if_false]
      have hC1 := cx [] (hU)
      have fy := And.intro bsv_26 (And.intro hd (And.intro hd3 (And.intro hsr (And.intro hel (And.intro hib (And.intro hbo (And.intro he (And.intro mark_u8 (And.intro hcn (hen))))))))))
      refine goR ?_ ?_ ?_ ?_ ?_ ?_ ?_ ?_ ?_ ?_ ?_ ?_ ?_ ?_ ?_ ?_
      any_goals (first | exact True.intro | skip)
      all_goals (repeat (refine Wh.mk fun hcc => ?_))
      all_goals exact SW.ret (show RetQ _ _ _ _ _ _ _ from RetQ.y [4, 0] [.ow 4 [], .int .i64 3])
  · cases q
    · simp only [Bool.and_self, Bool.false_and, Bool.and_false, Bool.false_eq_true, if_false]
      have hC1 := cx [] (hU)
      have fy := And.intro bsv_26 (And.intro hd (And.intro hd3 (And.intro hsr (And.intro hel (And.intro hib (And.intro hbo (And.intro he (And.intro mark_u8 (And.intro hcn (hen))))))))))
      refine goR ?_ ?_ ?_ ?_ ?_ ?_ ?_ ?_ ?_ ?_ ?_ ?_ ?_ ?_ ?_ ?_
      any_goals (first | exact True.intro | skip)
      all_goals (repeat (refine Wh.mk fun hcc => ?_))
      all_goals exact SW.ret (show RetQ _ _ _ _ _ _ _ from RetQ.y [4, 0] [.ow 4 [], .int .i64 3])
    · simp only [Bool.and_self, if_true]
      have hb := Nat.le_trans hle.1 hl
      clear hle
      rw [ldKS_out]
      have hC1 := cx [] (hU)
      have fy := And.intro bsv_26 (And.intro hd (And.intro hd3 (And.intro hsr (And.intro hel (And.intro hib (And.intro hbo (And.intro he (And.intro mark_u8 (And.intro hcn (hen))))))))))
      refine goG ?_ ?_ ?_ ?_ ?_ ?_ ?_ ?_ ?_ ?_ ?_ ?_ ?_ ?_ ?_ ?_
      any_goals (first | exact True.intro | skip)
      skip
      (repeat (refine Wh.mk fun hcc => ?_))
      refine SW.cond rfl (fun hcc => absurd hcc (by decide)) (fun hcc => ?_)
      clear hC1 fy
      have hC1 := cx [] (hU)
      have fy := And.intro bsv_26 (And.intro hd (And.intro hd3 (And.intro hsr (And.intro hel (And.intro hib (And.intro hbo (And.intro he (And.intro mark_u8 (And.intro hcn (hen))))))))))
      refine goG ?_ ?_ ?_ ?_ ?_ ?_ ?_ ?_ ?_ ?_ ?_ ?_ ?_ ?_ ?_ ?_
      any_goals (first | exact True.intro | skip)
      skip
      (repeat (refine Wh.mk fun hcc => ?_))
      refine SW.cond rfl (fun hcc => absurd hcc (by decide)) (fun hcc => ?_)
      clear hC1 fy
      have hC1 := cx [] (hU)
      have fy := And.intro bsv_26 (And.intro hd (And.intro hd3 (And.intro hsr (And.intro hel (And.intro hib (And.intro hbo (And.intro he (And.intro mark_u8 (And.intro hcn (hen))))))))))
      refine goG ?_ ?_ ?_ ?_ ?_ ?_ ?_ ?_ ?_ ?_ ?_ ?_ ?_ ?_ ?_ ?_
      any_goals (first | exact True.intro | skip)
      skip
      (repeat (refine Wh.mk fun hcc => ?_))
      refine SW.cond rfl (fun hcc => absurd hcc (by decide)) (fun hcc => ?_)
      clear hC1 fy
      refine SW.norm (Norm.frz 5 2 0 rfl rfl (by simp)) ?_
      rw [frz_all]
      simp only [List.set_cons_succ, List.set_cons_zero, Heap.put, List.getElem?_cons_succ, List.getElem?_cons_zero]
      have hM : CallR Try.prog 104 [.io (.nd [.sl .s (bd.map Enc.b), .int .i64 0, .bool false])] [.nd [.sl .s (bd.map Enc.b), .int .i64 ((oneR bd (0, false)).2.1 : Nat), .bool (oneR bd (0, false)).2.2]] (.int .i64 (oneR bd (0, false)).1) := next_s bd (0, false) hb (Nat.zero_le _)
      have hMl := oneR_le bd (0, false) (Nat.zero_le _)
      generalize oneR bd (0, false) = m at *
      obtain ⟨n, s0⟩ := m
      simp only at hM hMl ⊢
      generalize hR : ldS bd n 31 s0 v0 = R at *
      have hC1 := cx [.io] (hM)
      have fy := mkView
      refine goG ?_ ?_ ?_ ?_ ?_ ?_ ?_ ?_ ?_ ?_ ?_ ?_ ?_ ?_ ?_ ?_
      any_goals (first | exact True.intro | skip)
      skip
      (repeat (refine Wh.mk fun hcc => ?_))
      refine SW.norm (Norm.forgetArr 4 0 (m := v0.map Enc.o) rfl (by rw [v0_map]; exact fgtL_rep fgtZ 32)) ?_
      simp only [Heap.put, List.getElem?_cons_zero, List.getElem?_cons_succ, List.set_cons_succ, List.set_cons_zero]
      refine SW.loop (fun x : Nat × RS × List SlotT => ⟨[.sl .b (b.map Enc.b), .undef, .undef, .undef, .ref 1 0 0 0, .undef, .undef, .undef, .ptr 2 0 [] 0, .ref 3 0 0 32, .int .i64 n, .int .i64 (x.1 : Nat), .undef, .undef, .undef, .undef, .undef, .undef, .undef, .undef, .undef, .undef, .undef, .undef, .undef, .undef, .undef, .undef, .undef, .undef, .undef, .undef, .undef, .undef, .undef, .undef, .undef, .undef, .undef, .undef, .undef, .undef, .undef, .undef, .undef, .undef, .undef, .undef, .undef, .undef, .undef, .undef, .undef, .undef, .undef, .undef, .undef, .undef, .undef, .undef, .undef, .undef, .undef, .undef, .undef, .undef, .undef, .undef, .undef, .undef, .undef, .undef, .undef, .undef, .undef, .undef, .undef, .undef, .undef, .undef, .undef, .undef, .undef, .undef, .undef, .undef, .undef, .undef, .undef, .undef, .undef, .undef, .undef, .undef, .undef, .undef, .undef, .undef], [[], [.arr 4 [] false], [.var (.nd [.sl .s (bd.map Enc.b), .int .i64 (x.2.1.1 : Nat), .bool x.2.1.2])], [.arr 4 (x.2.2.map Enc.o) false]]⟩)
        (fun N x => N = 31 - x.1 ∧ x.1 ≤ 31 ∧ x.2.1.1 ≤ bd.length ∧ x.2.2.length = 32 ∧ Enc.lim 1048576 x.2.2 ∧ ldS bd n (31 - x.1) x.2.1 x.2.2 = R) (n := 31) (x := (0, s0, v0)) (Norm.re [0, 1, 3, 4] (by decide) rfl (by first | (simp only [eq_self, heapFits, rowFits, obFits, List.getElem?_cons_zero, List.getElem?_cons_succ, renL_o, renL_b, true_and, and_true, and_self]; done) | simp [-List.map_append, heapFits, rowFits, obFits, T.ren, renL]) (by simp [tmFits, T.ren])) ⟨rfl, Nat.zero_le _, hMl, rfl, v0_lim, hR⟩ ?_
      clear hR hMl hM hU hsr hel hib hbo he hcn hen
      rintro N ⟨i, s, v⟩ ⟨hN, hi, hs, hv, hvl, hR⟩
      simp only at hN hi hs hv hvl hR ⊢
      obtain ⟨at_, bad⟩ := s
      simp only at hs ⊢
      by_cases a1 : (i : Int) < n
      rotate_left
      · have f1 : decide ((i : Int) < n) = false := decide_eq_false a1
        rw [ldS_stop (.inl (by omega))] at hR
        subst hR
        have e32 : T.ref 3 0 0 32 = T.ref 3 0 0 v.length := by rw [hv]
        rw [e32]
        unfold ldOutS
        simp only
        have hQ := sDump_ok v hvl
        have hql := dumpR_len v
        have hE := spec_l2Same_ok (dumpR v) b ⟨by omega, fun _ _ => trivial⟩
        generalize decide (dumpR v = b) = q3 at *
        generalize dumpR v = D at *
        clear hql hvl
        cases bad
        · cases q3
          · skip
            simp only [Bool.and_self, Bool.false_and, Bool.and_false, Bool.true_and, Bool.and_true, Bool.not_true, Bool.not_false, Bool.false_eq_true, if_false, if_true]
            have hC1 := cx [] (hQ)
            have hC2 := cx [] (hE)
            have fy := f1
            refine goR ?_ ?_ ?_ ?_ ?_ ?_ ?_ ?_ ?_ ?_ ?_ ?_ ?_ ?_ ?_ ?_
            any_goals (first | exact True.intro | skip)
            all_goals (repeat (refine Wh.mk fun hcc => ?_))
            all_goals exact SW.ret (show RetQ _ _ _ _ _ _ _ from RetQ.y [4, 0] [.ow 4 [], .int .i64 4])
          · skip
            simp only [Bool.and_self, Bool.false_and, Bool.and_false, Bool.true_and, Bool.and_true, Bool.not_true, Bool.not_false, Bool.false_eq_true, if_false, if_true]
            have hC1 := cx [] (hQ)
            have hC2 := cx [] (hE)
            have fy := f1
            refine goR ?_ ?_ ?_ ?_ ?_ ?_ ?_ ?_ ?_ ?_ ?_ ?_ ?_ ?_ ?_ ?_
            any_goals (first | exact True.intro | skip)
            all_goals (repeat (refine Wh.mk fun hcc => ?_))
            all_goals exact SW.ret (show RetQ _ _ _ _ _ _ _ from RetQ.y [4, 0] [.ow 4 (v.map Enc.o), .int .i64 0])
        · skip
          simp only [Bool.and_self, Bool.false_and, Bool.and_false, Bool.true_and, Bool.and_true, Bool.not_true, Bool.not_false, Bool.false_eq_true, if_false, if_true]
          have hC1 := cx [] (hQ)
          have hC2 := cx [] (hE)
          have fy := f1
          refine goR ?_ ?_ ?_ ?_ ?_ ?_ ?_ ?_ ?_ ?_ ?_ ?_ ?_ ?_ ?_ ?_
          any_goals (first | exact True.intro | skip)
          all_goals (repeat (refine Wh.mk fun hcc => ?_))
          all_goals exact SW.ret (show RetQ _ _ _ _ _ _ _ from RetQ.y [4, 0] [.ow 4 [], .int .i64 4])
      have f1 : decide ((i : Int) < n) = true := decide_eq_true a1
      by_cases a2 : i < 31
      rotate_left
      · have f2 : decide ((i : Int) < 31) = false := by simp; omega
        rw [ldS_stop (.inr (.inl (by omega)))] at hR
        subst hR
        have e32 : T.ref 3 0 0 32 = T.ref 3 0 0 v.length := by rw [hv]
        rw [e32]
        unfold ldOutS
        simp only
        have hQ := sDump_ok v hvl
        have hql := dumpR_len v
        have hE := spec_l2Same_ok (dumpR v) b ⟨by omega, fun _ _ => trivial⟩
        generalize decide (dumpR v = b) = q3 at *
        generalize dumpR v = D at *
        clear hql hvl
        cases bad
        · cases q3
          · skip
            simp only [Bool.and_self, Bool.false_and, Bool.and_false, Bool.true_and, Bool.and_true, Bool.not_true, Bool.not_false, Bool.false_eq_true, if_false, if_true]
            have hC1 := cx [] (hQ)
            have hC2 := cx [] (hE)
            have fy := And.intro f1 (f2)
            refine goR ?_ ?_ ?_ ?_ ?_ ?_ ?_ ?_ ?_ ?_ ?_ ?_ ?_ ?_ ?_ ?_
            any_goals (first | exact True.intro | skip)
            all_goals (repeat (refine Wh.mk fun hcc => ?_))
            all_goals exact SW.ret (show RetQ _ _ _ _ _ _ _ from RetQ.y [4, 0] [.ow 4 [], .int .i64 4])
          · skip
            simp only [Bool.and_self, Bool.false_and, Bool.and_false, Bool.true_and, Bool.and_true, Bool.not_true, Bool.not_false, Bool.false_eq_true, if_false, if_true]
            have hC1 := cx [] (hQ)
            have hC2 := cx [] (hE)
            have fy := And.intro f1 (f2)
            refine goR ?_ ?_ ?_ ?_ ?_ ?_ ?_ ?_ ?_ ?_ ?_ ?_ ?_ ?_ ?_ ?_
            any_goals (first | exact True.intro | skip)
            all_goals (repeat (refine Wh.mk fun hcc => ?_))
            all_goals exact SW.ret (show RetQ _ _ _ _ _ _ _ from RetQ.y [4, 0] [.ow 4 (v.map Enc.o), .int .i64 0])
        · skip
          simp only [Bool.and_self, Bool.false_and, Bool.and_false, Bool.true_and, Bool.and_true, Bool.not_true, Bool.not_false, Bool.false_eq_true, if_false, if_true]
          have hC1 := cx [] (hQ)
          have hC2 := cx [] (hE)
          have fy := And.intro f1 (f2)
          refine goR ?_ ?_ ?_ ?_ ?_ ?_ ?_ ?_ ?_ ?_ ?_ ?_ ?_ ?_ ?_ ?_
          any_goals (first | exact True.intro | skip)
          all_goals (repeat (refine Wh.mk fun hcc => ?_))
          all_goals exact SW.ret (show RetQ _ _ _ _ _ _ _ from RetQ.y [4, 0] [.ow 4 [], .int .i64 4])
      have f2 : decide ((i : Int) < 31) = true := by simp; omega
      cases bad
      rotate_left
      · skip
        rw [ldS_stop (.inr (.inr rfl))] at hR
        subst hR
        have e32 : T.ref 3 0 0 32 = T.ref 3 0 0 v.length := by rw [hv]
        rw [e32]
        unfold ldOutS
        simp only
        have hQ := sDump_ok v hvl
        have hql := dumpR_len v
        have hE := spec_l2Same_ok (dumpR v) b ⟨by omega, fun _ _ => trivial⟩
        generalize decide (dumpR v = b) = q3 at *
        generalize dumpR v = D at *
        clear hql hvl
        simp only [Bool.and_self, Bool.false_and, Bool.and_false, Bool.true_and, Bool.and_true, Bool.not_true, Bool.not_false, Bool.false_eq_true, if_false, if_true]
        have hC1 := cx [] (hQ)
        have hC2 := cx [] (hE)
        have fy := And.intro f1 (f2)
        refine goR ?_ ?_ ?_ ?_ ?_ ?_ ?_ ?_ ?_ ?_ ?_ ?_ ?_ ?_ ?_ ?_
        any_goals (first | exact True.intro | skip)
        all_goals (repeat (refine Wh.mk fun hcc => ?_))
        all_goals exact SW.ret (show RetQ _ _ _ _ _ _ _ from RetQ.y [4, 0] [.ow 4 [], .int .i64 4])
      · obtain ⟨r, hr⟩ : ∃ r, 31 - i = r + 1 := ⟨31 - i - 1, by omega⟩
        rw [hr, ldS_go (by omega) rfl] at hR
        have h1 : CallR Try.prog 104 [.io (.nd [.sl .s (bd.map Enc.b), .int .i64 (at_ : Nat), .bool false])] [.nd [.sl .s (bd.map Enc.b), .int .i64 ((oneR bd (at_, false)).2.1 : Nat), .bool (oneR bd (at_, false)).2.2]] (.int .i64 (oneR bd (at_, false)).1) := next_s bd (at_, false) hb hs
        have e1 := oneR_le bd (at_, false) hs
        have hO := l1InR_ok (oneR bd (at_, false)).1 1 31
        generalize oneR bd (at_, false) = o at *
        have h2 := specSlot_s bd o.2 hb e1
        have e2 := slotS_le bd o.2 e1
        have hsl := slotS_lim bd o.2
        generalize slotS bd o.2 = x at *
        obtain ⟨⟨xp, ⟨xk, xA, xB, ⟨⟩⟩, ⟨⟩⟩, s2, bad2⟩ := x
        obtain ⟨oi, s1⟩ := o
        simp only at h1 e1 hO h2 e2 hsl hR
        have hwi : IntKind.i64.wrap ((i : Int) + 1) = ((i + 1 : Nat) : Int) := by rw [wrap64 _ (by omega) (by omega)]; omega
        cases bad2
        rotate_left
        · simp only [Bool.not_true, Bool.false_and, Bool.false_eq_true, if_false] at hR
          have hC1 := cx [.io] (h1)
          have hC2 := cx [.io] (h2)
          have hC3 := cx [] (hO)
          have fy := And.intro f1 (And.intro f2 (hwi))
          refine goR ?_ ?_ ?_ ?_ ?_ ?_ ?_ ?_ ?_ ?_ ?_ ?_ ?_ ?_ ?_ ?_
          any_goals (first | exact True.intro | skip)
          all_goals (repeat (refine Wh.mk fun hcc => ?_))
          refine ⟨N - 1, (i + 1, (s2, true), v), by omega, ⟨by simp only; omega, by simp only; omega, e2, hv, hvl, by simp only; rw [show 31 - (i + 1) = r by omega]; exact hR⟩, ?_⟩
          exact Norm.re [0, 1, 2, 3] (by decide) rfl (by first | (simp only [eq_self, heapFits, rowFits, obFits, List.getElem?_cons_zero, List.getElem?_cons_succ, renL_o, renL_b, true_and, and_true, and_self]; done) | simp [-List.map_append, heapFits, rowFits, obFits, T.ren, renL]) (by simp [tmFits, T.ren])
        cases ho : rng oi 1 31
        · rw [ho] at hO hR
          simp only [Bool.and_false, Bool.false_eq_true, if_false] at hR
          have hC1 := cx [.io] (h1)
          have hC2 := cx [.io] (h2)
          have hC3 := cx [] (hO)
          have fy := And.intro f1 (And.intro f2 (hwi))
          refine goR ?_ ?_ ?_ ?_ ?_ ?_ ?_ ?_ ?_ ?_ ?_ ?_ ?_ ?_ ?_ ?_
          any_goals (first | exact True.intro | skip)
          all_goals (repeat (refine Wh.mk fun hcc => ?_))
          refine ⟨N - 1, (i + 1, (s2, false), v), by omega, ⟨by simp only; omega, by simp only; omega, e2, hv, hvl, by simp only; rw [show 31 - (i + 1) = r by omega]; exact hR⟩, ?_⟩
          exact Norm.re [0, 1, 2, 3] (by decide) rfl (by first | (simp only [eq_self, heapFits, rowFits, obFits, List.getElem?_cons_zero, List.getElem?_cons_succ, renL_o, renL_b, true_and, and_true, and_self]; done) | simp [-List.map_append, heapFits, rowFits, obFits, T.ren, renL]) (by simp [tmFits, T.ren])
        · rw [ho] at hO hR
          simp only [Bool.not_false, Bool.and_self, if_true] at hR
          have hkr := rng_iff.1 ho
          obtain ⟨k, rfl⟩ : ∃ k : Nat, oi = (k : Int) := ⟨oi.toNat, by omega⟩
          rw [Int.toNat_natCast] at hR
          have hk32 : k < v.length := by omega
          have hkI : (k : Int) < ((32 : Nat) : Int) := by omega
          have hkI2 : (k : Int) < 32 := by omega
          have hg : (v.map Enc.o)[k]? = some (.nd [.bool v[k].1, .nd [.int .i64 v[k].2.1.1, .ow 1 (v[k].2.1.2.1.map Enc.o), .ow 1 (v[k].2.1.2.2.1.map Enc.o)]]) := map_get Enc.o v k hk32
          have hvm : (v.map Enc.o).length = 32 := by rw [List.length_map]; exact hv
          have hC1 := cx [.io] (h1)
          have hC2 := cx [.io] (h2)
          have hC3 := cx [] (hO)
          have fy := And.intro f1 (And.intro f2 (And.intro hwi (And.intro hg (And.intro hvm (And.intro hkI (And.intro hkI2 (Nat.zero_add)))))))
          refine goR ?_ ?_ ?_ ?_ ?_ ?_ ?_ ?_ ?_ ?_ ?_ ?_ ?_ ?_ ?_ ?_
          any_goals (first | exact True.intro | skip)
          all_goals (repeat (refine Wh.mk fun hcc => ?_))
          have key : (v.map Enc.o).set k (.nd [.bool xp, .nd [.int .i64 xk, .ow 1 (xA.map Enc.o), .ow 1 (xB.map Enc.o)]]) = (v.set k ((xp, (xk, xA, xB, ()), ()) : SlotT)).map Enc.o := by rw [List.map_set]; rfl
          have q1 := lim_set (n := k) (s := ((xp, (xk, xA, xB, ()), ()) : SlotT)) hvl hsl
          have q2 : (v.set k ((xp, (xk, xA, xB, ()), ()) : SlotT)).length = 32 := by rw [List.length_set]; exact hv
          generalize v.set k ((xp, (xk, xA, xB, ()), ()) : SlotT) = vv at *
          refine ⟨N - 1, (i + 1, (s2, false), vv), by omega, ⟨by simp only; omega, by simp only; omega, e2, q2, q1, by simp only; rw [show 31 - (i + 1) = r by omega]; exact hR⟩, ?_⟩
          refine Norm.trans (Norm.soakArr 3 0 k rfl (List.getElem?_set_self (by omega))) ?_
          simp only [soakS, soakL, Heap.at, Heap.put, List.getElem?_cons_zero, List.getElem?_cons_succ, List.set_cons_succ, List.set_cons_zero, List.set_set, List.length_map, and_self, if_true, key]
          exact Norm.re [0, 1, 2, 3] (by decide) rfl (by first | (simp only [eq_self, heapFits, rowFits, obFits, List.getElem?_cons_zero, List.getElem?_cons_succ, renL_o, renL_b, true_and, and_true, and_self]; done) | simp [-List.map_append, heapFits, rowFits, obFits, T.ren, renL]) (by simp [tmFits, T.ren])
end Q6

namespace Q6
open Go Go.Vm Go.Proofs
set_option maxHeartbeats 4000000
set_option synthInstance.maxSize 2000
set_option synthInstance.maxHeartbeats 400000
set_option maxRecDepth 10000
set_option linter.unusedSimpArgs false
set_option linter.unusedVariables false

open Go.By

theorem slotB_lim2 {s : SlotT} (h : slotB s = true) : s.2.1.2.1.length ≤ 5 ∧ s.2.1.2.2.1.length ≤ 5 := by
  unfold slotB at h
  split at h
  · exact objB_len h
  · unfold noObjB at h
    simp only [Bool.and_eq_true, decide_eq_true_eq] at h
    omega
theorem view_lim {v : List SlotT} (h : viewB v = true) : Enc.lim 1048576 v := by
  obtain ⟨h32, hall⟩ := viewB_all h
  refine ⟨by omega, fun s hs => ?_⟩
  have := slotB_lim2 (hall s hs)
  exact ⟨trivial, ⟨trivial, ⟨by omega, fun _ _ => trivial⟩, ⟨by omega, fun _ _ => trivial⟩, trivial⟩, trivial⟩
theorem nil_lim : Enc.lim 1048576 ([] : List SlotT) := ⟨by decide, fun _ h => by cases h⟩
theorem ldKI_lim (b u : List UInt8) : Enc.lim 1048576 (ldKI b u).1 := by
  unfold ldKI
  split
  · exact nil_lim
  · split
    · rename_i h
      simp only [Bool.and_eq_true] at h
      exact view_lim h.1.2
    · exact nil_lim
theorem load_lim (b : List UInt8) : Enc.lim 1048576 (loadI b).1 := by
  unfold loadI
  split
  · exact nil_lim
  split
  · exact nil_lim
  split
  · exact ldKI_lim b _
  · exact nil_lim
theorem take_thr {α : Type} [Enc α] (f : α → Int → α × Int) (l : List α) (k : Int) : List.take l.length ((thr f l k).1.map (Enc.o : α → T)) = (thr f l k).1.map Enc.o := by
  rw [List.take_of_length_le]; simp [thr_len]
attribute [local simp] thr_len take_thr
theorem loadLaw_ok (l : List UInt8) (hl : Enc.lim maxLen l) : CallR Try.prog 8 [.sl .b (l.map Enc.b)] [] (.bool true) := by
  refine CallR.of_body (n := 93) (rs := [.tmp 2]) hY.ok Try.func8 rfl (by decide) rfl rfl rfl rfl (fun F => ?_)
  have fx := And.intro Y1 (And.intro Y3 (And.intro Y4 (And.intro Y5 (And.intro Y24 (And.intro Y26 (And.intro Y34 (And.intro Y36 (Y38))))))))
  by_cases hb : l.length > 1048576
  · have hd : decide ((l.length : Int) > 1048576) = true := by simp; omega
    have fy := hd
    refine goK ?_ ?_ ?_ ?_ ?_ ?_ ?_ ?_ ?_ ?_ ?_ ?_ ?_ ?_ ?_ ?_
    any_goals (first | exact True.intro | skip)
    all_goals (repeat (refine Wh.mk fun hcc => ?_))
    all_goals rfl
  have hd : decide ((l.length : Int) > 1048576) = false := by simp; omega
  have hf : Enc.lim 1048576 l := ⟨by omega, fun _ _ => trivial⟩
  have hl1 : l.length ≤ 1048576 := by omega
  have hT := laws_toByteS_ok l hf
  have hS := sLoad_ok l hl1
  rw [← load_eq] at hS
  have hI := iLoad_ok l hl1
  have hx := load_lim l
  generalize loadI l = R at *
  obtain ⟨v, a⟩ := R
  simp only at hS hI hx
  have hE := laws_eqSlotS_ok v v hx
  have hE2 := laws_eqByteS_ok l l hf
  rw [decide_eq_true rfl] at hE hE2
  have hM := markByte_ok l 1 hl1 (by decide) (by decide)
  have hk0 : decide (1 + (l.length : Int) < 0) = false := by simp; omega
  have hO := markSlotS_ok v 1 hx (by decide) (by decide)
  have hH := heldSlotS_ok v 1 hx (by decide) (by decide)
  have hr := thr_rng mkSlot 16777216 (by decide) v 1 (fun x hx' c => mkSlot_rng (hx.2 x hx') c)
  have hq0 : decide ((thr mkSlot v 1).2 < 0) = false := by simp; omega
  clear hx hf hl hb hr
  have hC1 := cx [] (hT)
  have hC2 := cx [] (hS)
  have hC3 := cx [] (hI)
  have hC4 := cx [] (hE)
  have hC5 := cx [] (hE2)
  have hC6 := cx [.ios] (hM)
  have hC7 := cx [.ios] (hO)
  have hC8 := cx [] (hH)
  have fy := And.intro hd (And.intro hk0 (hq0))
  refine goK ?_ ?_ ?_ ?_ ?_ ?_ ?_ ?_ ?_ ?_ ?_ ?_ ?_ ?_ ?_ ?_
  any_goals (first | exact True.intro | skip)
  all_goals (repeat (refine Wh.mk fun hcc => ?_))
  all_goals first | rfl | (exfalso; simp at hcc; done)
end Q6

namespace Q6.Load
open Go Go.Vm Go.Proofs
set_option maxHeartbeats 4000000
set_option synthInstance.maxSize 2000
set_option synthInstance.maxHeartbeats 400000
set_option maxRecDepth 10000
set_option linter.unusedSimpArgs false
set_option linter.unusedVariables false

open Go.Proofs.Ytalhmcbkmpggiaa
open Go.ChangeShapes Go.WideShapes Go.ChangeAt Go.RowKit
theorem own : ownKnob Try.prog.godebug = none := by kernel_rfl
theorem laidOut : laidOutB Try.prog = true := by kernel_rfl
theorem plain24 : plainT Y 12 24 = true := by kernel_rfl

set_option maxRecDepth 100000 in
theorem lifted (os : Os) (started : os.Started) (H : Type) (enc : TypeId × Value → H) :
    ReturnsInHanded {} Try.checked os 8 .any (Rows.fnExactLoadSpec.pre6 enc Try.prog Try.f8 Rows.fnExactLoadRow.domain false) (Rows.fnExactLoadSpec.post enc Try.prog Try.f8 false true false false) := by
  refine returnsInHanded_of_change (C := Try.checked) own started (by kernel_rfl) Try.func8
    (ChangeSpec.witness6 (enc := enc) (C := Try.checked) false ⟨#[], #[.slice none 0 0], []⟩ 8 (by kernel_rfl) (by kernel_rfl) (by kernel_rfl) (by kernel_rfl)) ?_
  intro W base args ds gs before hval0 hW hcnd _
  have hval : ∀ (j : Nat) t v, Try.f8.params[j]? = some t → args[j]? = some v → Value.okWide Try.prog W .any base t v := hval0
  have hW' := hW
  obtain ⟨p, q, hA0, hV, rfl, _, _⟩ := hW
  have hA : DataW.TrodAll enc Try.prog W 0 (fun _ => true) true Try.f8.params.toList args.toList ds p := hA0
  have hV' : DataW.TrodVars enc Try.prog W (fun _ => true) [] gs q := hV
  obtain ⟨rfl, rfl⟩ := trodVars_none hV'
  rw [Try.params8] at hA hval
  have one := trodAll_one hA
  refine (calls_of hY 12 (by simp [plain24]) hA (fun j t v h1 h2 => hval j t v (by simpa using h1) (by simpa using h2)) ?_).mono ?_
  · intro us hu ht
    match us, hu with
    | [u0], _ =>
      obtain ⟨x0, rfl, hx0⟩ := Enc.dec (α := List UInt8) Y 12 24 u0 (by kernel_rfl) (ht 0 24 u0 rfl rfl)
      exact loadLaw_ok x0 hx0
  · rintro e W' ⟨rfl, h1, h2⟩
    obtain ⟨v, d, _, rfl, _⟩ := one
    exact ⟨_, rfl, post_true (tb := 4) laidOut (by rw [Try.params8]; exact of_decide_eq_true (by kernel_rfl)) rfl hW' rfl rfl rfl rfl (by kernel_rfl) h1 h2⟩

theorem fnExactLoad_holds : Rows.FnExactLoadSaid :=
  OpenClaim.holds_of_wide 8 Try.f8 rfl rfl rfl rfl rfl rfl rfl ⟨rfl, rfl, rfl, rfl, rfl⟩ rfl rfl rfl rfl rfl (by kernel_rfl) Try.func8 (by kernel_rfl)
    (of_decide_eq_true (by kernel_rfl)) (by unfold Func.isWrapper; first | (rw [if_pos (by decide +kernel)]; kernel_rfl) | (rw [if_neg (by decide +kernel)]; exact ⟨rfl, rfl⟩))
    (fun os started H enc _ => lifted os started H enc)
end Q6.Load

namespace Go.Proofs.Ytalhmcbkmpggiaa
/-- The program's Load returns what the reference's returns, for all arguments: the law laws.FnExactLoad answers true whatever bytes it is given; no conditions. -/
theorem fnExactLoad_holds : Rows.FnExactLoadSaid := Q6.Load.fnExactLoad_holds
#print axioms fnExactLoad_holds
end Go.Proofs.Ytalhmcbkmpggiaa
