/- Shows what the parts of the program do that the claim reaches: a machine of values over the model, and the contracts of functions, for all arguments within the lengths that each theorem names. -/
import Derived.Test.YtalhmcbkmpggiaaPagesP1
import Derived.Test.YtalhmcbkmpggiaaVm5
import Derived.Test.YtalhmcbkmpggiaaVm4
set_option linter.all false

namespace Q6
open Go Go.Vm Go.Proofs
set_option maxHeartbeats 4000000
set_option synthInstance.maxSize 2000
set_option synthInstance.maxHeartbeats 400000
set_option maxRecDepth 10000
set_option linter.unusedSimpArgs false
set_option linter.unusedVariables false

abbrev PageT := (Int × ((((Bool × ((Int × (List Int) × (List Int) × Unit)) × Unit)) × ((Bool × ((Int × (List Int) × (List Int) × Unit)) × Unit)) × ((Bool × ((Int × (List Int) × (List Int) × Unit)) × Unit)) × ((Bool × ((Int × (List Int) × (List Int) × Unit)) × Unit)) × Unit)) × Unit)
def pageB (x : PageT) : Bool := rng x.1 0 1000000 && (slotB x.2.1.1 && (slotB x.2.1.2.1 && (slotB x.2.1.2.2.1 && slotB x.2.1.2.2.2.1)))
theorem page1_ok (x : SlotT) (hx : Enc.lim 1048576 x) : CallR Try.prog 96 [.nd [.bool x.1, .nd [.int .i64 x.2.1.1, .sl .b (x.2.1.2.1.map Enc.b), .sl .b (x.2.1.2.2.1.map Enc.b)]]] [] (.bool (!slotB x)) := by
  refine CallR.of_body (n := 6) (rs := [.tmp 2]) hY.ok Try.func96 rfl (by decide) rfl rfl rfl rfl (fun F => ?_)
  have fx := And.intro Y3 (And.intro Y4 (And.intro Y34 (And.intro Y36 (Y38))))
  have hC1 := cx [] (slotOk_ok x hx)
  have fy := Nat.add_zero
  refine goK ?_ ?_ ?_ ?_ ?_ ?_ ?_ ?_ ?_ ?_ ?_ ?_ ?_ ?_ ?_ ?_
  any_goals (first | exact True.intro | skip)
  all_goals (repeat (refine Wh.mk fun hcc => ?_))
  all_goals (first | rfl | ((try simp only [tupOf, fixEs]); (first | done | rfl | (simp_all []; done) | grind [])))
theorem idxSlotP_ok (l : List ((Bool × ((Int × (List Int) × (List Int) × Unit)) × Unit))) (hl : Enc.lim 1048576 l) : CallR Try.prog 101 [.sl .b (l.map Enc.b), .fn 96 [] []] [] (.int .i64 (idxOf (fun x => !slotB x) l)) := by
  refine CallR.of_body (n := 19) (rs := [.tmp 4]) hY.ok Try.func101 rfl (by decide) rfl rfl rfl rfl (fun F => ?_)
  have fx := And.intro Y3 (And.intro Y4 (And.intro Y26 (And.intro Y34 (And.intro Y36 (And.intro Y38 (Y93))))))
  have hl1 : l.length ≤ 1048576 := hl.1
  have fy := Nat.add_zero
  refine goN ?_ ?_ ?_ ?_ ?_ ?_ ?_ ?_ ?_ ?_ ?_ ?_ ?_ ?_ ?_ ?_
  any_goals (first | exact True.intro | skip)
  skip
  refine SW.loop (fun i : Nat => ⟨[.sl .b (l.map Enc.b), .fn 96 [] [], .undef, .undef, .undef, .undef, .undef, .int .i64 l.length, .int .i64 i, .undef, .undef, .undef, .undef, .undef, .undef, .undef, .undef, .undef, .undef], [[]]⟩)
    (fun n i => n = l.length - i ∧ i ≤ l.length ∧ ∀ j (h : j < l.length), j < i → (fun x => !slotB x) l[j] = false) (n := l.length) (x := 0) (Norm.to 0 rfl (by simp [weakL])) ⟨rfl, Nat.zero_le _, fun j _ h => absurd h (Nat.not_lt_zero _)⟩ ?_
  rintro n i ⟨hn, hi, hp⟩
  have fy := Nat.add_zero
  refine goS ?_
  refine SW.cond rfl (fun hc => ?_) (fun hc => ?_)
  · have hlt : i < l.length := by simpa using hc
    have hg : (l.map Enc.b)[i]? = some (.nd [.bool l[i].1, .nd [.int .i64 l[i].2.1.1, .sl .b (l[i].2.1.2.1.map Enc.b), .sl .b (l[i].2.1.2.2.1.map Enc.b)]]) := map_get Enc.b l i hlt
    have hC1 := cx [] (page1_ok l[i] (hl.2 _ (List.getElem_mem hlt)))
    have fy := hg
    refine goK ?_ ?_ ?_ ?_ ?_ ?_ ?_ ?_ ?_ ?_ ?_ ?_ ?_ ?_ ?_ ?_
    any_goals (first | exact True.intro | skip)
    all_goals (repeat (refine Wh.mk fun hcc => ?_))
    · have hx := hcc
      have hx' : (fun x => !slotB x) l[i] = true := by simpa using hx
      simp only [tupOf, fixEs, idxOf_eq (fun x => !slotB x) l hlt hx' (fun j hj => hp j (by omega) hj)]
    · have hx := hcc
      have hx' : (fun x => !slotB x) l[i] = false := by simpa using hx
      refine ⟨n - 1, i + 1, by omega, ⟨by omega, by omega, fun j hj hji => ?_⟩, ?_⟩
      · by_cases he : j = i
        · subst he; exact hx'
        · exact hp j hj (by omega)
      · rw [wrap64 _ (by omega) (by omega)]
        first | exact Norm.to 0 rfl (by simp [weakL]) | exact Norm.to 1 rfl (by simp [weakL]) | exact Norm.to 2 rfl (by simp [weakL])
  · have hge : i = l.length := by
      have : ¬ i < l.length := by simpa using hc
      omega
    have fy := Nat.add_zero
    refine goK ?_ ?_ ?_ ?_ ?_ ?_ ?_ ?_ ?_ ?_ ?_ ?_ ?_ ?_ ?_ ?_
    any_goals (first | exact True.intro | skip)
    all_goals (repeat (refine Wh.mk fun hcc => ?_))
    simp only [tupOf, fixEs, idxOf_none (fun x => !slotB x) l (fun j hj => hp j hj (by omega))]
theorem anySlotP_ok (l : List ((Bool × ((Int × (List Int) × (List Int) × Unit)) × Unit))) (hl : Enc.lim 1048576 l) : CallR Try.prog 95 [.sl .b (l.map Enc.b), .fn 96 [] []] [] (.bool (l.any (fun x => !slotB x))) := by
  refine CallR.of_body (n := 9) (rs := [.tmp 4]) hY.ok Try.func95 rfl (by decide) rfl rfl rfl rfl (fun F => ?_)
  have fx := And.intro Y3 (And.intro Y4 (And.intro Y26 (And.intro Y34 (And.intro Y36 (And.intro Y38 (Y93))))))
  have hC1 := cx [] (idxSlotP_ok l hl)
  have fy := Nat.add_zero
  refine goK ?_ ?_ ?_ ?_ ?_ ?_ ?_ ?_ ?_ ?_ ?_ ?_ ?_ ?_ ?_ ?_
  any_goals (first | exact True.intro | skip)
  all_goals (repeat (refine Wh.mk fun hcc => ?_))
  all_goals simp only [tupOf, fixEs, ge_iff_le, idx_any]
theorem implPageOk_ok (x : PageT) (hx : Enc.lim 1048576 x) : CallR Try.prog 31 [.nd [.int .i64 x.1, .nd [.nd [.bool x.2.1.1.1, .nd [.int .i64 x.2.1.1.2.1.1, .sl .b (x.2.1.1.2.1.2.1.map Enc.b), .sl .b (x.2.1.1.2.1.2.2.1.map Enc.b)]], .nd [.bool x.2.1.2.1.1, .nd [.int .i64 x.2.1.2.1.2.1.1, .sl .b (x.2.1.2.1.2.1.2.1.map Enc.b), .sl .b (x.2.1.2.1.2.1.2.2.1.map Enc.b)]], .nd [.bool x.2.1.2.2.1.1, .nd [.int .i64 x.2.1.2.2.1.2.1.1, .sl .b (x.2.1.2.2.1.2.1.2.1.map Enc.b), .sl .b (x.2.1.2.2.1.2.1.2.2.1.map Enc.b)]], .nd [.bool x.2.1.2.2.2.1.1, .nd [.int .i64 x.2.1.2.2.2.1.2.1.1, .sl .b (x.2.1.2.2.2.1.2.1.2.1.map Enc.b), .sl .b (x.2.1.2.2.2.1.2.1.2.2.1.map Enc.b)]]]]] [] (.bool (pageB x)) := by
  refine CallR.of_body (n := 12) (rs := [.tmp 2]) hY.ok Try.func31 rfl (by decide) rfl rfl rfl rfl (fun F => ?_)
  have fx := And.intro Y1 (And.intro Y3 (And.intro Y4 (And.intro Y26 (And.intro Y34 (And.intro Y36 (And.intro Y38 (And.intro Y47 (And.intro Y49 (Y93)))))))))
  obtain ⟨lsn, ⟨a, b, c, d, ⟨⟩⟩, ⟨⟩⟩ := x
  have hL : Enc.lim 1048576 [a, b, c, d] := ⟨by simp, fun y hy => by
    simp only [List.mem_cons, List.not_mem_nil, or_false] at hy
    rcases hy with rfl | rfl | rfl | rfl
    · exact hx.2.1.1
    · exact hx.2.1.2.1
    · exact hx.2.1.2.2.1
    · exact hx.2.1.2.2.2.1⟩
  have hA0 := anySlotP_ok [a, b, c, d] hL
  rw [show ([a, b, c, d] : List SlotT).any (fun x => !slotB x) = !(slotB a && (slotB b && (slotB c && slotB d))) by simp] at hA0
  have hA : CallR Try.prog 95 [.sl .b [.nd [.bool a.1, .nd [.int .i64 a.2.1.1, .sl .b (a.2.1.2.1.map Enc.b), .sl .b (a.2.1.2.2.1.map Enc.b)]], .nd [.bool b.1, .nd [.int .i64 b.2.1.1, .sl .b (b.2.1.2.1.map Enc.b), .sl .b (b.2.1.2.2.1.map Enc.b)]], .nd [.bool c.1, .nd [.int .i64 c.2.1.1, .sl .b (c.2.1.2.1.map Enc.b), .sl .b (c.2.1.2.2.1.map Enc.b)]], .nd [.bool d.1, .nd [.int .i64 d.2.1.1, .sl .b (d.2.1.2.1.map Enc.b), .sl .b (d.2.1.2.2.1.map Enc.b)]]], .fn 96 [] []] [] (.bool (!(slotB a && (slotB b && (slotB c && slotB d))))) := hA0
  have hs4 : ∀ e j p o, sliceM Y 47 (.ptr e j p o) none none none = .pure { v := .vr e j p o 4 0 4 } := fun e j p o => by simp [sliceM, Y47, Y38]
  have hI := inR_ok lsn 0 1000000
  unfold pageB
  simp only
  generalize (slotB a && (slotB b && (slotB c && slotB d))) = q at *
  generalize rng lsn 0 1000000 = r at *
  have hC1 := cx [] (hI)
  have hC2 := cx [] (hA)
  have fy := And.intro nc4 (And.intro nc8 (And.intro wa (And.intro tn (hs4))))
  refine goK ?_ ?_ ?_ ?_ ?_ ?_ ?_ ?_ ?_ ?_ ?_ ?_ ?_ ?_ ?_ ?_
  any_goals (first | exact True.intro | skip)
  all_goals (repeat (refine Wh.mk fun hcc => ?_))
  all_goals (first | rfl | ((try simp only [tupOf, fixEs]); (first | done | rfl | (simp_all []; done) | grind [])))
theorem specPageOk_ok (x : PageT) (hx : Enc.lim 1048576 x) : CallR Try.prog 29 [.nd [.int .i64 x.1, .nd [.nd [.bool x.2.1.1.1, .nd [.int .i64 x.2.1.1.2.1.1, .sl .b (x.2.1.1.2.1.2.1.map Enc.b), .sl .b (x.2.1.1.2.1.2.2.1.map Enc.b)]], .nd [.bool x.2.1.2.1.1, .nd [.int .i64 x.2.1.2.1.2.1.1, .sl .b (x.2.1.2.1.2.1.2.1.map Enc.b), .sl .b (x.2.1.2.1.2.1.2.2.1.map Enc.b)]], .nd [.bool x.2.1.2.2.1.1, .nd [.int .i64 x.2.1.2.2.1.2.1.1, .sl .b (x.2.1.2.2.1.2.1.2.1.map Enc.b), .sl .b (x.2.1.2.2.1.2.1.2.2.1.map Enc.b)]], .nd [.bool x.2.1.2.2.2.1.1, .nd [.int .i64 x.2.1.2.2.2.1.2.1.1, .sl .b (x.2.1.2.2.2.1.2.1.2.1.map Enc.b), .sl .b (x.2.1.2.2.2.1.2.1.2.2.1.map Enc.b)]]]]] [] (.bool (pageB x)) := by
  refine CallR.of_body (n := 17) (rs := [.tmp 2]) hY.ok Try.func29 rfl (by decide) rfl rfl rfl rfl (fun F => ?_)
  have fx := And.intro Y1 (And.intro Y3 (And.intro Y4 (And.intro Y34 (And.intro Y36 (And.intro Y38 (And.intro Y47 (Y49)))))))
  obtain ⟨lsn, ⟨a, b, c, d, ⟨⟩⟩, ⟨⟩⟩ := x
  have hA := l3Slot_ok a hx.2.1.1
  have hB := l3Slot_ok b hx.2.1.2.1
  have hC := l3Slot_ok c hx.2.1.2.2.1
  have hD := l3Slot_ok d hx.2.1.2.2.2.1
  have hI := l1InR_ok lsn 0 1000000
  unfold pageB
  simp only
  generalize slotB a = p1 at *
  generalize slotB b = p2 at *
  generalize slotB c = p3 at *
  generalize slotB d = p4 at *
  generalize rng lsn 0 1000000 = r at *
  have hC1 := cx [] (hI)
  have hC2 := cx [] (hA)
  have hC3 := cx [] (hB)
  have hC4 := cx [] (hC)
  have hC5 := cx [] (hD)
  have fy := And.intro nc4 (And.intro nc8 (And.intro wa (tn)))
  refine goV ?_ ?_ ?_ ?_ ?_ ?_ ?_ ?_ ?_ ?_ ?_ ?_ ?_ ?_ ?_ ?_
  any_goals (first | exact True.intro | skip)
  all_goals (repeat (refine Wh.mk fun hcc => ?_))
  all_goals (first | rfl | ((try simp only [tupOf, fixEs]); (first | done | rfl | (simp_all []; done) | grind [])))
end Q6

namespace Q6
open Go Go.Vm Go.Proofs
/-! ### Bits: what the operations on 64 and 32 bits do to numbers below 2^32 -/
theorem xor_lt32 {a b : Nat} (ha : a < 4294967296) (hb : b < 4294967296) : a ^^^ b < 4294967296 := Nat.xor_lt_two_pow (n := 32) ha hb
theorem xor64 (a b : Nat) (ha : a < 4294967296) (hb : b < 4294967296) : IntKind.i64.wrap ((BitVec.ofInt 64 (a : Int) ^^^ BitVec.ofInt 64 (b : Int)).toNat : Int) = ((a ^^^ b : Nat) : Int) := by
  have h := xor_lt32 ha hb
  rw [BitVec.toNat_xor, BitVec.ofInt_natCast, BitVec.ofInt_natCast, BitVec.toNat_ofNat, BitVec.toNat_ofNat, Nat.mod_eq_of_lt (by omega), Nat.mod_eq_of_lt (by omega), wrap64 _ (by omega) (by omega)]
theorem and64 (a : Nat) (ha : a < 4294967296) : IntKind.i64.wrap ((BitVec.ofInt 64 (a : Int) &&& BitVec.ofInt 64 1).toNat : Int) = ((a % 2 : Nat) : Int) := by
  have : (BitVec.ofInt 64 1) = BitVec.ofNat 64 1 := rfl
  rw [this, BitVec.toNat_and, BitVec.ofInt_natCast, BitVec.toNat_ofNat, BitVec.toNat_ofNat, Nat.mod_eq_of_lt (by omega), Nat.mod_eq_of_lt (by omega), Nat.and_one_is_mod, wrap64 _ (by omega) (by omega)]
theorem shr1 (a : Nat) : ((a : Int).fdiv (2 ^ 1)) = ((a / 2 : Nat) : Int) := by
  rw [Int.fdiv_eq_ediv_of_nonneg _ (by decide)]; omega
theorem wrap32 (n : Int) (h0 : 0 ≤ n) (h1 : n < 4294967296) : IntKind.u32.wrap n = n := by
  simp [IntKind.wrap, IntKind.bits, IntKind.signed]; omega
theorem xor32 (a b : Nat) (ha : a < 4294967296) (hb : b < 4294967296) : IntKind.u32.wrap ((BitVec.ofInt 32 (a : Int) ^^^ BitVec.ofInt 32 (b : Int)).toNat : Int) = ((a ^^^ b : Nat) : Int) := by
  have h := xor_lt32 ha hb
  rw [BitVec.toNat_xor, BitVec.ofInt_natCast, BitVec.ofInt_natCast, BitVec.toNat_ofNat, BitVec.toNat_ofNat, Nat.mod_eq_of_lt (by omega), Nat.mod_eq_of_lt (by omega), wrap32 _ (by omega) (by omega)]
theorem and32 (a : Nat) (ha : a < 4294967296) : IntKind.u32.wrap ((BitVec.ofInt 32 (a : Int) &&& BitVec.ofInt 32 1).toNat : Int) = ((a % 2 : Nat) : Int) := by
  have : (BitVec.ofInt 32 1) = BitVec.ofNat 32 1 := rfl
  rw [this, BitVec.toNat_and, BitVec.ofInt_natCast, BitVec.toNat_ofNat, BitVec.toNat_ofNat, Nat.mod_eq_of_lt (by omega), Nat.mod_eq_of_lt (by omega), Nat.and_one_is_mod, wrap32 _ (by omega) (by omega)]
/-- One round of the sum: eight of these a byte. -/
def crc1 (r : Nat) : Nat := if r % 2 = 1 then (r / 2) ^^^ 3988292384 else r / 2
def crc8 : Nat → Nat → Nat
  | 0, r => r
  | n + 1, r => crc8 n (crc1 r)
def crcB (r : Nat) (b : UInt8) : Nat := crc8 8 (r ^^^ b.toNat)
def crc (l : List UInt8) : Nat := (l.foldl crcB 4294967295) ^^^ 4294967295
theorem crc1_lt {r : Nat} (h : r < 4294967296) : crc1 r < 4294967296 := by
  unfold crc1
  split
  · exact xor_lt32 (by omega) (by decide)
  · omega
theorem crc8_lt : ∀ (n : Nat) {r : Nat}, r < 4294967296 → crc8 n r < 4294967296
  | 0, _, h => h
  | n + 1, _, h => crc8_lt n (crc1_lt h)
theorem crc8_succ : ∀ (n r : Nat), crc8 (n + 1) r = crc1 (crc8 n r)
  | 0, _ => rfl
  | n + 1, r => crc8_succ n (crc1 r)
theorem crcB_lt {r : Nat} (h : r < 4294967296) (b : UInt8) : crcB r b < 4294967296 := crc8_lt 8 (xor_lt32 h (by have := b.toNat_lt; omega))
theorem crcF_lt : ∀ (l : List UInt8) {r : Nat}, r < 4294967296 → l.foldl crcB r < 4294967296
  | [], _, h => h
  | b :: l, _, h => crcF_lt l (crcB_lt h b)
theorem crc_lt (l : List UInt8) : crc l < 4294967296 := xor_lt32 (crcF_lt l (by decide)) (by decide)
theorem crcF_take (l : List UInt8) (i : Nat) (h : i < l.length) (r : Nat) : (l.take (i + 1)).foldl crcB r = crcB ((l.take i).foldl crcB r) l[i] := by
  rw [List.take_succ_eq_append_getElem h, List.foldl_append]; rfl
end Q6

namespace Q6
open Go Go.Vm Go.Proofs
set_option maxHeartbeats 4000000
set_option synthInstance.maxSize 2000
set_option synthInstance.maxHeartbeats 400000
set_option maxRecDepth 10000
set_option linter.unusedSimpArgs false
set_option linter.unusedVariables false

theorem specCrc_ok (l : List UInt8) (hl : l.length ≤ 1048576) : CallR Try.prog 130 [.sl .b (l.map Enc.b)] [] (.int .i64 (crc l)) := by
  refine CallR.of_body (n := 34) (rs := [.tmp 2]) hY.ok Try.func130 rfl (by decide) rfl rfl rfl rfl (fun F => ?_)
  have fx := And.intro Y3 (And.intro Y4 (And.intro Y5 (And.intro Y24 (Y133))))
  have fy := Nat.add_zero
  refine goN ?_ ?_ ?_ ?_ ?_ ?_ ?_ ?_ ?_ ?_ ?_ ?_ ?_ ?_ ?_ ?_
  any_goals (first | exact True.intro | skip)
  skip
  refine SW.loop (fun i : Nat => ⟨[.sl .b (l.map Enc.b), .undef, .undef, .int .i64 (((l.take i).foldl crcB 4294967295 : Nat) : Int), .int .i64 (i : Nat), .undef, .undef, .undef, .undef, .undef, .undef, .undef, .undef, .undef, .undef, .undef, .undef, .undef, .undef, .undef, .undef, .undef, .undef, .undef, .undef, .undef, .undef, .undef, .undef, .undef, .undef, .undef, .undef, .undef], [[]]⟩)
    (fun N i => N = l.length - i ∧ i ≤ l.length) (n := l.length) (x := 0) (Norm.to 0 rfl (by simp [weakL])) ⟨rfl, Nat.zero_le _⟩ ?_
  rintro N i ⟨hn, hi⟩
  have fy := Nat.add_zero
  refine goS ?_
  refine SW.cond rfl (fun hc => ?_) (fun hc => ?_)
  · have hlt : i < l.length := by simp at hc; omega
    have hgl : (l.map Enc.b)[i]? = some (T.int .u8 (l[i].toNat : Int)) := map_get Enc.b l i hlt
    have hr : (l.take i).foldl crcB 4294967295 < 4294967296 := crcF_lt _ (by decide)
    have hb8 : l[i].toNat < 4294967296 := by have := l[i].toNat_lt; omega
    have hx : IntKind.i64.wrap ((BitVec.ofInt IntKind.i64.bits (((l.take i).foldl crcB 4294967295 : Nat) : Int) ^^^ BitVec.ofInt IntKind.i64.bits (l[i].toNat : Int)).toNat : Int) = ((((l.take i).foldl crcB 4294967295) ^^^ l[i].toNat : Nat) : Int) := xor64 _ _ hr hb8
    have hq : ((l.take i).foldl crcB 4294967295) ^^^ l[i].toNat < 4294967296 := xor_lt32 hr hb8
    have hwb : IntKind.i64.wrap (l[i].toNat : Int) = (l[i].toNat : Int) := wrap64 _ (by omega) (by omega)
    have hwc : IntKind.u32.wrap (l[i].toNat : Int) = (l[i].toNat : Int) := wrap32 _ (by omega) (by omega)
    have hwi : IntKind.i64.wrap ((i : Int) + 1) = ((i + 1 : Nat) : Int) := by rw [wrap64 _ (by omega) (by omega)]; omega
    have fy := And.intro hgl (And.intro hx (And.intro hwb (And.intro hwc (hwi))))
    refine goN ?_ ?_ ?_ ?_ ?_ ?_ ?_ ?_ ?_ ?_ ?_ ?_ ?_ ?_ ?_ ?_
    any_goals (first | exact True.intro | skip)
    skip
    refine SW.loop (fun j : Nat => ⟨[.sl .b (l.map Enc.b), .undef, .undef, .int .i64 ((crc8 j (((l.take i).foldl crcB 4294967295) ^^^ l[i].toNat) : Nat) : Int), .int .i64 (i : Nat), .int .i64 (j : Nat), .undef, .undef, .undef, .undef, .undef, .undef, .undef, .undef, .undef, .undef, .undef, .undef, .undef, .undef, .undef, .undef, .undef, .undef, .undef, .undef, .undef, .undef, .undef, .undef, .undef, .undef, .undef, .undef], [[]]⟩)
      (fun M j => M = 8 - j ∧ j ≤ 8) (n := 8) (x := 0) (Norm.to 0 rfl (by simp [weakL, crc8])) ⟨rfl, Nat.zero_le _⟩ ?_
    rintro M j ⟨hm, hj⟩
    have fy := Nat.add_zero
    refine goS ?_
    refine SW.cond rfl (fun hc => ?_) (fun hc => ?_)
    · have hlj : j < 8 := by simp at hc; omega
      have hrj : crc8 j (((l.take i).foldl crcB 4294967295) ^^^ l[i].toNat) < 4294967296 := crc8_lt j hq
      have hwj : IntKind.i64.wrap ((j : Int) + 1) = ((j + 1 : Nat) : Int) := by rw [wrap64 _ (by omega) (by omega)]; omega
      have hsj := crc8_succ j (((l.take i).foldl crcB 4294967295) ^^^ l[i].toNat)
      rw [crc1] at hsj
      generalize crc8 j (((l.take i).foldl crcB 4294967295) ^^^ l[i].toNat) = r at *
      have ha : IntKind.i64.wrap ((BitVec.ofInt IntKind.i64.bits (r : Int) &&& BitVec.ofInt IntKind.i64.bits 1).toNat : Int) = ((r % 2 : Nat) : Int) := and64 r hrj
      have hh : IntKind.i64.wrap ((BitVec.ofInt IntKind.i64.bits ((r / 2 : Nat) : Int) ^^^ BitVec.ofInt IntKind.i64.bits 3988292384).toNat : Int) = (((r / 2) ^^^ 3988292384 : Nat) : Int) := xor64 (r / 2) 3988292384 (by omega) (by decide)
      have hs : ((r : Int).fdiv (2 ^ (min 1 IntKind.i64.bits))) = ((r / 2 : Nat) : Int) := shr1 r
      have fy := And.intro ha (And.intro hh (And.intro hs (hwj)))
      refine goR ?_ ?_ ?_ ?_ ?_ ?_ ?_ ?_ ?_ ?_ ?_ ?_ ?_ ?_ ?_ ?_
      any_goals (first | exact True.intro | skip)
      all_goals (repeat (refine Wh.mk fun hcc => ?_))
      · refine ⟨M - 1, j + 1, by omega, ⟨by omega, by omega⟩, ?_⟩
        rw [hsj, if_pos (by have := hcc; simp at this; omega)]
        exact Norm.to 0 rfl (by simp [weakL])
      · refine ⟨M - 1, j + 1, by omega, ⟨by omega, by omega⟩, ?_⟩
        rw [hsj, if_neg (by have := hcc; simp at this; omega)]
        exact Norm.to 0 rfl (by simp [weakL])
    · have hj8 : j = 8 := by
        have : ¬ j < 8 := by simp at hc; omega
        omega
      subst hj8
      rw [show crc8 8 (((l.take i).foldl crcB 4294967295) ^^^ l[i].toNat) = (l.take (i + 1)).foldl crcB 4294967295 from (crcF_take l i hlt _).symm]
      have fy := hwi
      refine goR ?_ ?_ ?_ ?_ ?_ ?_ ?_ ?_ ?_ ?_ ?_ ?_ ?_ ?_ ?_ ?_
      any_goals (first | exact True.intro | skip)
      all_goals (repeat (refine Wh.mk fun hcc => ?_))
      refine ⟨N - 1, i + 1, by omega, ⟨by omega, by omega⟩, ?_⟩
      exact Norm.to 0 rfl (by simp [weakL])
  · have hge : i = l.length := by
      have : ¬ i < l.length := by simp at hc; omega
      omega
    subst hge
    have hr : (l.take l.length).foldl crcB 4294967295 < 4294967296 := crcF_lt _ (by decide)
    have hf : IntKind.i64.wrap ((BitVec.ofInt IntKind.i64.bits (((l.take l.length).foldl crcB 4294967295 : Nat) : Int) ^^^ BitVec.ofInt IntKind.i64.bits 4294967295).toNat : Int) = (crc l : Int) := by
      have := xor64 _ 4294967295 hr (by decide)
      rw [List.take_length] at this ⊢
      exact this
    have hcl := crc_lt l
    have hwz : IntKind.i64.wrap (crc l : Int) = (crc l : Int) := wrap64 _ (by omega) (by omega)
    have fy := And.intro hf (hwz)
    refine goK ?_ ?_ ?_ ?_ ?_ ?_ ?_ ?_ ?_ ?_ ?_ ?_ ?_ ?_ ?_ ?_
    any_goals (first | exact True.intro | skip)
    all_goals (repeat (refine Wh.mk fun hcc => ?_))
    all_goals (first | rfl | ((try simp only [tupOf, fixEs]); (first | done | rfl | (simp_all []; done) | grind [])))
theorem implCrc_ok (l : List UInt8) (hl : l.length ≤ 1048576) : CallR Try.prog 166 [.sl .b (l.map Enc.b)] [] (.int .i64 (crc l)) := by
  refine CallR.of_body (n := 32) (rs := [.tmp 2]) hY.ok Try.func166 rfl (by decide) rfl rfl rfl rfl (fun F => ?_)
  have fx := And.intro Y3 (And.intro Y4 (And.intro Y5 (And.intro Y24 (And.intro Y133 (Y171)))))
  have fy := Nat.add_zero
  refine goN ?_ ?_ ?_ ?_ ?_ ?_ ?_ ?_ ?_ ?_ ?_ ?_ ?_ ?_ ?_ ?_
  any_goals (first | exact True.intro | skip)
  skip
  refine SW.loop (fun i : Nat => ⟨[.undef, .undef, .undef, .int .u32 (((l.take i).foldl crcB 4294967295 : Nat) : Int), .undef, .undef, .undef, .sl .b (l.map Enc.b), .int .i64 (l.length : Nat), .int .i64 (i : Nat), .undef, .undef, .undef, .undef, .undef, .undef, .undef, .undef, .undef, .undef, .undef, .undef, .undef, .undef, .undef, .undef, .undef, .undef, .undef, .undef, .undef, .undef], [[]]⟩)
    (fun N i => N = l.length - i ∧ i ≤ l.length) (n := l.length) (x := 0) (Norm.to 0 rfl (by simp [weakL])) ⟨rfl, Nat.zero_le _⟩ ?_
  rintro N i ⟨hn, hi⟩
  have fy := Nat.add_zero
  refine goS ?_
  refine SW.cond rfl (fun hc => ?_) (fun hc => ?_)
  · have hlt : i < l.length := by simp at hc; omega
    have hgl : (l.map Enc.b)[i]? = some (T.int .u8 (l[i].toNat : Int)) := map_get Enc.b l i hlt
    have hr : (l.take i).foldl crcB 4294967295 < 4294967296 := crcF_lt _ (by decide)
    have hb8 : l[i].toNat < 4294967296 := by have := l[i].toNat_lt; omega
    have hx : IntKind.u32.wrap ((BitVec.ofInt IntKind.u32.bits (((l.take i).foldl crcB 4294967295 : Nat) : Int) ^^^ BitVec.ofInt IntKind.u32.bits (l[i].toNat : Int)).toNat : Int) = ((((l.take i).foldl crcB 4294967295) ^^^ l[i].toNat : Nat) : Int) := xor32 _ _ hr hb8
    have hq : ((l.take i).foldl crcB 4294967295) ^^^ l[i].toNat < 4294967296 := xor_lt32 hr hb8
    have hwb : IntKind.i64.wrap (l[i].toNat : Int) = (l[i].toNat : Int) := wrap64 _ (by omega) (by omega)
    have hwc : IntKind.u32.wrap (l[i].toNat : Int) = (l[i].toNat : Int) := wrap32 _ (by omega) (by omega)
    have hwi : IntKind.i64.wrap ((i : Int) + 1) = ((i + 1 : Nat) : Int) := by rw [wrap64 _ (by omega) (by omega)]; omega
    have fy := And.intro hgl (And.intro hx (And.intro hwb (And.intro hwc (hwi))))
    refine goN ?_ ?_ ?_ ?_ ?_ ?_ ?_ ?_ ?_ ?_ ?_ ?_ ?_ ?_ ?_ ?_
    any_goals (first | exact True.intro | skip)
    skip
    refine SW.loop (fun j : Nat => ⟨[.undef, .undef, .undef, .int .u32 ((crc8 j (((l.take i).foldl crcB 4294967295) ^^^ l[i].toNat) : Nat) : Int), .undef, .undef, .undef, .sl .b (l.map Enc.b), .int .i64 (l.length : Nat), .int .i64 (i : Nat), .undef, .undef, .undef, .undef, .undef, .undef, .undef, .int .i64 (j : Nat), .undef, .undef, .undef, .undef, .undef, .undef, .undef, .undef, .undef, .undef, .undef, .undef, .undef, .undef], [[]]⟩)
      (fun M j => M = 8 - j ∧ j ≤ 8) (n := 8) (x := 0) (Norm.to 0 rfl (by simp [weakL, crc8])) ⟨rfl, Nat.zero_le _⟩ ?_
    rintro M j ⟨hm, hj⟩
    have fy := Nat.add_zero
    refine goS ?_
    refine SW.cond rfl (fun hc => ?_) (fun hc => ?_)
    · have hlj : j < 8 := by simp at hc; omega
      have hrj : crc8 j (((l.take i).foldl crcB 4294967295) ^^^ l[i].toNat) < 4294967296 := crc8_lt j hq
      have hwj : IntKind.i64.wrap ((j : Int) + 1) = ((j + 1 : Nat) : Int) := by rw [wrap64 _ (by omega) (by omega)]; omega
      have hsj := crc8_succ j (((l.take i).foldl crcB 4294967295) ^^^ l[i].toNat)
      rw [crc1] at hsj
      generalize crc8 j (((l.take i).foldl crcB 4294967295) ^^^ l[i].toNat) = r at *
      have ha : IntKind.u32.wrap ((BitVec.ofInt IntKind.u32.bits (r : Int) &&& BitVec.ofInt IntKind.u32.bits 1).toNat : Int) = ((r % 2 : Nat) : Int) := and32 r hrj
      have hh : IntKind.u32.wrap ((BitVec.ofInt IntKind.u32.bits ((r / 2 : Nat) : Int) ^^^ BitVec.ofInt IntKind.u32.bits 3988292384).toNat : Int) = (((r / 2) ^^^ 3988292384 : Nat) : Int) := xor32 (r / 2) 3988292384 (by omega) (by decide)
      have hs : ((r : Int).fdiv (2 ^ (min 1 IntKind.u32.bits))) = ((r / 2 : Nat) : Int) := shr1 r
      have fy := And.intro ha (And.intro hh (And.intro hs (hwj)))
      refine goR ?_ ?_ ?_ ?_ ?_ ?_ ?_ ?_ ?_ ?_ ?_ ?_ ?_ ?_ ?_ ?_
      any_goals (first | exact True.intro | skip)
      all_goals (repeat (refine Wh.mk fun hcc => ?_))
      · refine ⟨M - 1, j + 1, by omega, ⟨by omega, by omega⟩, ?_⟩
        rw [hsj, if_pos (by have := hcc; simp at this; omega)]
        exact Norm.to 0 rfl (by simp [weakL])
      · refine ⟨M - 1, j + 1, by omega, ⟨by omega, by omega⟩, ?_⟩
        rw [hsj, if_neg (by have := hcc; simp at this; omega)]
        exact Norm.to 0 rfl (by simp [weakL])
    · have hj8 : j = 8 := by
        have : ¬ j < 8 := by simp at hc; omega
        omega
      subst hj8
      rw [show crc8 8 (((l.take i).foldl crcB 4294967295) ^^^ l[i].toNat) = (l.take (i + 1)).foldl crcB 4294967295 from (crcF_take l i hlt _).symm]
      have fy := hwi
      refine goR ?_ ?_ ?_ ?_ ?_ ?_ ?_ ?_ ?_ ?_ ?_ ?_ ?_ ?_ ?_ ?_
      any_goals (first | exact True.intro | skip)
      all_goals (repeat (refine Wh.mk fun hcc => ?_))
      refine ⟨N - 1, i + 1, by omega, ⟨by omega, by omega⟩, ?_⟩
      exact Norm.to 0 rfl (by simp [weakL])
  · have hge : i = l.length := by
      have : ¬ i < l.length := by simp at hc; omega
      omega
    subst hge
    have hr : (l.take l.length).foldl crcB 4294967295 < 4294967296 := crcF_lt _ (by decide)
    have hf : IntKind.u32.wrap ((BitVec.ofInt IntKind.u32.bits (((l.take l.length).foldl crcB 4294967295 : Nat) : Int) ^^^ BitVec.ofInt IntKind.u32.bits 4294967295).toNat : Int) = (crc l : Int) := by
      have := xor32 _ 4294967295 hr (by decide)
      rw [List.take_length] at this ⊢
      exact this
    have hcl := crc_lt l
    have hwz : IntKind.i64.wrap (crc l : Int) = (crc l : Int) := wrap64 _ (by omega) (by omega)
    have fy := And.intro hf (hwz)
    refine goK ?_ ?_ ?_ ?_ ?_ ?_ ?_ ?_ ?_ ?_ ?_ ?_ ?_ ?_ ?_ ?_
    any_goals (first | exact True.intro | skip)
    all_goals (repeat (refine Wh.mk fun hcc => ?_))
    all_goals (first | rfl | ((try simp only [tupOf, fixEs]); (first | done | rfl | (simp_all []; done) | grind [])))
end Q6

namespace Q6
open Go Go.Vm Go.Proofs
set_option maxHeartbeats 4000000
set_option synthInstance.maxSize 2000
set_option synthInstance.maxHeartbeats 400000
set_option maxRecDepth 10000
set_option linter.unusedSimpArgs false
set_option linter.unusedVariables false


/-- The four bytes of a sum, the lowest first. -/
def four (c : Nat) : List UInt8 := [byt (c : Nat), byt ((c / 256 : Nat) : Int), byt ((c / 65536 : Nat) : Int), byt ((c / 16777216 : Nat) : Int)]
theorem four_len (c : Nat) : (four c).length = 4 := rfl
theorem shr8 (a : Nat) : ((a : Int).fdiv (2 ^ 8)) = ((a / 256 : Nat) : Int) := by
  rw [Int.fdiv_eq_ediv_of_nonneg _ (by decide)]; omega
theorem shr16 (a : Nat) : ((a : Int).fdiv (2 ^ 16)) = ((a / 65536 : Nat) : Int) := by
  rw [Int.fdiv_eq_ediv_of_nonneg _ (by decide)]; omega
theorem shr24 (a : Nat) : ((a : Int).fdiv (2 ^ 24)) = ((a / 16777216 : Nat) : Int) := by
  rw [Int.fdiv_eq_ediv_of_nonneg _ (by decide)]; omega
theorem build4 {Y : TypeId → TyI} {own t el by' : Nat} {k : Ty} {a b c d : T} (h1 : Y t = ⟨.sl el, 1, 24⟩) (h2 : Y el = ⟨k, 1, by'⟩) (h3 : k.isFn = false)
    (hs : setAll (plAr 1) (List.replicate 4 (zeroT Y 9 el)) [(0, a), (1, b), (2, c), (3, d)] = some [a, b, c, d]) :
    buildSliceM Y own t 4 [(0, a), (1, b), (2, c), (3, d)] = .pure { v := .ref own 0 0 4, news := [.arr 1 [a, b, c, d] false] } := by
  simp only [buildSliceM, h1, h2, h3]
  rw [if_pos ⟨by decide, by decide, trivial⟩, hs]
theorem bs4_24 (own : Nat) (x y z w : UInt8) : buildSliceM Y own 24 4 [(0, .int .u8 (x.toNat : Int)), (1, .int .u8 (y.toNat : Int)), (2, .int .u8 (z.toNat : Int)), (3, .int .u8 (w.toNat : Int))] = .pure { v := .ref own 0 0 4, news := [.arr 1 [.int .u8 (x.toNat : Int), .int .u8 (y.toNat : Int), .int .u8 (z.toNat : Int), .int .u8 (w.toNat : Int)] false] } :=
  build4 Y24 Y5 rfl rfl

theorem l1Four_ok (c : Nat) : CallR Try.prog 129 [.int .i64 (c : Int)] [] (.ow 1 ((four c).map Enc.o)) := by
  refine CallR.of_body (n := 15) (rs := [.tmp 2]) hY.ok Try.func129 rfl (by decide) rfl rfl rfl rfl (fun F => ?_)
  have fx := And.intro Y1 (And.intro Y2 (And.intro Y3 (And.intro Y4 (And.intro Y5 (And.intro Y24 (Y133))))))
  have e8 : ((c : Int).fdiv (2 ^ (min (Int.toNat 8) IntKind.i64.bits))) = ((c / 256 : Nat) : Int) := shr8 c
  have e16 : ((c : Int).fdiv (2 ^ (min (Int.toNat 16) IntKind.i64.bits))) = ((c / 65536 : Nat) : Int) := shr16 c
  have e24 : ((c : Int).fdiv (2 ^ (min (Int.toNat 24) IntKind.i64.bits))) = ((c / 16777216 : Nat) : Int) := shr24 c
  have fy := And.intro e8 (And.intro e16 (And.intro e24 (bs4_24)))
  refine goR ?_ ?_ ?_ ?_ ?_ ?_ ?_ ?_ ?_ ?_ ?_ ?_ ?_ ?_ ?_ ?_
  any_goals (first | exact True.intro | skip)
  all_goals (repeat (refine Wh.mk fun hcc => ?_))
  all_goals exact SW.ret (show RetQ _ _ _ _ _ _ _ from RetQ.y [0] [.ow 1 ((four c).map Enc.o)])
theorem sumBytes_ok (l : List UInt8) (hl : l.length ≤ 1048576) : CallR Try.prog 135 [.sl .b (l.map Enc.b)] [] (.ow 1 ((four (crc l)).map Enc.o)) := by
  refine CallR.of_body (n := 18) (rs := [.tmp 2]) hY.ok Try.func135 rfl (by decide) rfl rfl rfl rfl (fun F => ?_)
  have fx := And.intro Y1 (And.intro Y2 (And.intro Y3 (And.intro Y4 (And.intro Y5 (And.intro Y24 (Y133))))))
  have hC := implCrc_ok l hl
  generalize crc l = c at *
  have e8 : ((c : Int).fdiv (2 ^ (min (Int.toNat 8) IntKind.i64.bits))) = ((c / 256 : Nat) : Int) := shr8 c
  have e16 : ((c : Int).fdiv (2 ^ (min (Int.toNat 16) IntKind.i64.bits))) = ((c / 65536 : Nat) : Int) := shr16 c
  have e24 : ((c : Int).fdiv (2 ^ (min (Int.toNat 24) IntKind.i64.bits))) = ((c / 16777216 : Nat) : Int) := shr24 c
  have hC1 := cx [] (hC)
  have fy := And.intro e8 (And.intro e16 (And.intro e24 (bs4_24)))
  refine goR ?_ ?_ ?_ ?_ ?_ ?_ ?_ ?_ ?_ ?_ ?_ ?_ ?_ ?_ ?_ ?_
  any_goals (first | exact True.intro | skip)
  all_goals (repeat (refine Wh.mk fun hcc => ?_))
  all_goals exact SW.ret (show RetQ _ _ _ _ _ _ _ from RetQ.y [0] [.ow 1 ((four c).map Enc.o)])
end Q6

namespace Q6
open Go Go.Vm Go.Proofs
set_option maxHeartbeats 4000000
set_option synthInstance.maxSize 2000
set_option synthInstance.maxHeartbeats 400000
set_option maxRecDepth 10000
set_option linter.unusedSimpArgs false
set_option linter.unusedVariables false

def endsB (l : List UInt8) (a : Nat) : Bool := (l.drop a).all (fun b => !decide ((b.toNat : Int) < 128)) && decide ((l.length : Int) - (a : Int) < 6)
theorem drop_all {l : List UInt8} {p : UInt8 → Bool} {i : Nat} (h : i < l.length) : (l.drop i).all p = (p l[i] && (l.drop (i + 1)).all p) := by
  rw [List.drop_eq_getElem_cons h]; rfl
theorem ends_ok (l : List UInt8) (a : Nat) (hl : l.length ≤ 1048576) (ha : a ≤ l.length) : CallR Try.prog 154 [.sl .b (l.map Enc.b), .int .i64 (a : Nat)] [] (.bool (endsB l a)) := by
  refine CallR.of_body (n := 23) (rs := [.tmp 4]) hY.ok Try.func154 rfl (by decide) rfl rfl rfl rfl (fun F => ?_)
  have fx := And.intro Y3 (And.intro Y4 (And.intro Y5 (Y24)))
  have fy := Nat.add_zero
  refine goN ?_ ?_ ?_ ?_ ?_ ?_ ?_ ?_ ?_ ?_ ?_ ?_ ?_ ?_ ?_ ?_
  any_goals (first | exact True.intro | skip)
  skip
  unfold endsB
  generalize hp : (fun b : UInt8 => !decide ((b.toNat : Int) < 128)) = p
  refine SW.loop (fun i : Nat => ⟨[.sl .b (l.map Enc.b), .int .i64 (a : Nat), .undef, .undef, .undef, .int .i64 (i : Nat), .undef, .undef, .undef, .undef, .undef, .undef, .undef, .undef, .undef, .undef, .undef, .undef, .undef, .undef, .undef, .undef, .undef], [[]]⟩)
    (fun N i => N = l.length - i ∧ i ≤ l.length ∧ (l.drop a).all p = (l.drop i).all p) (n := l.length - a) (x := a) (Norm.to 0 rfl (by simp [weakL])) ⟨rfl, ha, rfl⟩ ?_
  rintro N i ⟨hn, hi, hall⟩
  have fy := Nat.add_zero
  refine goS ?_
  refine SW.cond rfl (fun hc => ?_) (fun hc => ?_)
  · have hlt : i < l.length := by simp at hc; omega
    have hgl : (l.map Enc.b)[i]? = some (T.int .u8 (l[i].toNat : Int)) := map_get Enc.b l i hlt
    have hwi : IntKind.i64.wrap ((i : Int) + 1) = ((i + 1 : Nat) : Int) := by rw [wrap64 _ (by omega) (by omega)]; omega
    rw [drop_all hlt] at hall
    have hpi : p l[i] = !decide ((l[i].toNat : Int) < 128) := by rw [← hp]
    rw [hpi] at hall
    have fy := And.intro hgl (hwi)
    refine goK ?_ ?_ ?_ ?_ ?_ ?_ ?_ ?_ ?_ ?_ ?_ ?_ ?_ ?_ ?_ ?_
    any_goals (first | exact True.intro | skip)
    all_goals (repeat (refine Wh.mk fun hcc => ?_))
    · rw [hcc] at hall
      rw [hall]
      simp [tupOf, fixEs]
    · rw [hcc] at hall
      refine ⟨N - 1, i + 1, by omega, ⟨by omega, by omega, by rw [hall]; simp⟩, ?_⟩
      exact Norm.to 0 rfl (by simp [weakL])
  · have hge : i = l.length := by
      have : ¬ i < l.length := by simp at hc; omega
      omega
    subst hge
    rw [List.drop_length, List.all_nil] at hall
    rw [hall]
    have hw : IntKind.i64.wrap ((l.length : Int) - (a : Int)) = (l.length : Int) - (a : Int) := wrap64 _ (by omega) (by omega)
    have fy := hw
    refine goK ?_ ?_ ?_ ?_ ?_ ?_ ?_ ?_ ?_ ?_ ?_ ?_ ?_ ?_ ?_ ?_
    any_goals (first | exact True.intro | skip)
    all_goals (repeat (refine Wh.mk fun hcc => ?_))
    all_goals (first | rfl | ((try simp only [tupOf, fixEs]); (first | done | rfl | (simp_all []; done) | grind [])))
end Q6

namespace Q6
open Go Go.Vm Go.Proofs
set_option maxHeartbeats 4000000
set_option synthInstance.maxSize 2000
set_option synthInstance.maxHeartbeats 400000
set_option maxRecDepth 10000
set_option linter.unusedSimpArgs false
set_option linter.unusedVariables false

theorem equalBytes_ok (l m : List UInt8) (hl : l.length ≤ 1048576) : CallR Try.prog 118 [.sl .b (l.map Enc.b), .sl .b (m.map Enc.b)] [] (.bool (decide (l = m))) := by
  refine CallR.of_body (n := 26) (rs := [.tmp 4]) hY.ok Try.func118 rfl (by decide) rfl rfl rfl rfl (fun F => ?_)
  have fx := And.intro Y3 (And.intro Y4 (And.intro Y5 (Y24)))
  have fy := Nat.add_zero
  refine goS ?_
  refine SW.cond rfl (fun hc => ?_) (fun hc => ?_)
  · have hne : ¬ l = m := by intro e; subst e; simp at hc
    have fy := Nat.add_zero
    refine goK ?_ ?_ ?_ ?_ ?_ ?_ ?_ ?_ ?_ ?_ ?_ ?_ ?_ ?_ ?_ ?_
    any_goals (first | exact True.intro | skip)
    all_goals (repeat (refine Wh.mk fun hcc => ?_))
    simp [tupOf, fixEs, hne]
  have hlen : l.length = m.length := by have : (l.length : Int) = m.length := by simpa using hc
                                        omega
  refine SW.skip ?_
  simp only [thenS]
  have fy := Nat.add_zero
  refine goN ?_ ?_ ?_ ?_ ?_ ?_ ?_ ?_ ?_ ?_ ?_ ?_ ?_ ?_ ?_ ?_
  any_goals (first | exact True.intro | skip)
  skip
  refine SW.loop (fun i : Nat => ⟨[.sl .b (l.map Enc.b), .sl .b (m.map Enc.b), .undef, .undef, .undef, .undef, .undef, .undef, .undef, .undef, .undef, .undef, .int .i64 (l.length : Nat), .int .i64 (i : Nat), .undef, .undef, .undef, .undef, .undef, .undef, .undef, .undef, .undef, .undef, .undef, .undef], [[]]⟩)
    (fun n i => n = l.length - i ∧ i ≤ l.length ∧ ∀ j (h : j < l.length), j < i → l[j] = m[j]'(by omega)) (n := l.length) (x := 0) (Norm.to 0 rfl (by simp [weakL])) ⟨rfl, Nat.zero_le _, fun j _ h => absurd h (Nat.not_lt_zero j)⟩ ?_
  rintro n i ⟨hn, hi, hp⟩
  have fy := Nat.add_zero
  refine goS ?_
  refine SW.cond rfl (fun hc => ?_) (fun hc => ?_)
  · have hlt : i < l.length := by simpa using hc
    have hlt' : i < m.length := by omega
    have hgl : (l.map Enc.b)[i]? = some (T.int .u8 (l[i].toNat : Int)) := map_get Enc.b l i hlt
    have hgm : (m.map Enc.b)[i]? = some (T.int .u8 (m[i].toNat : Int)) := map_get Enc.b m i hlt'
    have hwi : IntKind.i64.wrap ((i : Int) + 1) = ((i + 1 : Nat) : Int) := by rw [wrap64 _ (by omega) (by omega)]; omega
    have fy := And.intro hgl (And.intro hgm (hwi))
    refine goK ?_ ?_ ?_ ?_ ?_ ?_ ?_ ?_ ?_ ?_ ?_ ?_ ?_ ?_ ?_ ?_
    any_goals (first | exact True.intro | skip)
    all_goals (repeat (refine Wh.mk fun hcc => ?_))
    · have hx := hcc
      have hne : ¬ l[i] = m[i] := by intro e; simp [e] at hx
      have hlm : ¬ l = m := by intro e; subst e; exact hne rfl
      simp [tupOf, fixEs, hlm]
    · have hx := hcc
      have hx' : l[i] = m[i] := by apply UInt8.toNat_inj.1; simp at hx; omega
      refine ⟨n - 1, i + 1, by omega, ⟨by omega, by omega, fun j hj hji => ?_⟩, ?_⟩
      · by_cases he : j = i
        · subst he; exact hx'
        · exact hp j hj (by omega)
      · first | exact Norm.to 0 rfl (by simp [weakL]) | exact Norm.to 1 rfl (by simp [weakL])
  · have hge : i = l.length := by
      have : ¬ i < l.length := by simpa using hc
      omega
    have hlm : l = m := List.ext_getElem hlen fun j h1 h2 => hp j h1 (by omega)
    have fy := Nat.add_zero
    refine goK ?_ ?_ ?_ ?_ ?_ ?_ ?_ ?_ ?_ ?_ ?_ ?_ ?_ ?_ ?_ ?_
    any_goals (first | exact True.intro | skip)
    all_goals (repeat (refine Wh.mk fun hcc => ?_))
    simp [tupOf, fixEs, hlm]
end Q6

namespace Q6
open Go Go.Vm Go.Proofs
set_option maxHeartbeats 4000000
set_option synthInstance.maxSize 2000
set_option synthInstance.maxHeartbeats 400000
set_option maxRecDepth 10000
set_option linter.unusedSimpArgs false
set_option linter.unusedVariables false

theorem cloneBytes_ok (l : List UInt8) (hl : l.length ≤ 1048576) : CallR Try.prog 150 [.sl .b (l.map Enc.b)] [] (.ow 1 (l.map Enc.o)) := by
  refine CallR.of_body (n := 8) (rs := [.tmp 2]) hY.ok Try.func150 rfl (by decide) rfl rfl rfl rfl (fun F => ?_)
  have fx := And.intro Y4 (And.intro Y5 (Y24))
  have hap := @append_run Y 2 24 24 1 0 0 0 5 1 1 _ .b [] (l.map Enc.b) [[], [.arr 1 [] false], []] Y24 Y24 Y5 rfl (by decide) rfl (by simp) (by simp; omega) (nwL_b l) (fun z hz => by have := List.mem_of_mem_take hz; obtain ⟨x, _, rfl⟩ := List.mem_map.1 this; rfl)
  have hbo : l.map (Enc.b : UInt8 → T) = l.map Enc.o := rfl
  simp only [List.drop_nil, List.take_nil, List.nil_append, List.length_map, Nat.zero_add, kill] at hap
  refine SW.ops_seq hY fun y1 hy1 => ?_
  simp only [k13, upT_g, dnT_g, nb_g, dnT_b, dnT_s, dnT_0, dnT_r, fx, wo, decide_true, decide_false, wz0, wz1, wz2, wz3, wz4, wz5, wz6, wz7, wz8, appM, Ty.isInt, capT, appendZM, buildM, setAll, plSt, plAr, mnmx, Int.reduceLT, vrec, List.drop_succ_cons, List.drop_zero, convertM, indexM, fieldM, Int.toNat_zero, Int.toNat_one, Int.le_refl, Int.zero_le_ofNat, Int.reduceEq, Int.reduceNe, ne_eq, not_false_eq_true, u8_wrap, marksG_len, marks_len, bne_self_eq_false, take_map_len, tgL_byte, T.asArr, T.tg, tgL, indexAddrM, wk, wl, eq_self, isCall, callT, opM, S.ev, S.put, entryS, thawAL, thawA, RM.run, RM.bind, RM.ofOpt, allocs, Heap.ups, Heap.put, Heap.at, List.replicate, Nat.reduceAdd, Nat.reduceSub, ofConst, nilAs, if_false, if_true, binT, binTy, unT, guardT, quietK, reduceIte, boxM, allocM, loadM, storeM, fieldAddrM, lenT, extractT, subM, setOb, T.get, T.setp, T.offs, T.nw, nwL, T.cel, T.isNd, T.size, sizeL, TyI.agg, Ty.agg, Ty.isFn, zeroT, Nat.reduceLT, Nat.reduceEqDiff, sumT, kill]
  subst hy1
  refine SW.seq ?_
  refine SW.seq ?_
  refine SW.nilq hY rfl (by rw [Y24]) (by rw [Y24]; decide) (by simp) fun b hb => ?_
  simp only [thenS, List.set_cons_succ, List.set_cons_zero]
  cases b with
  | true =>
    have hl0 : l = [] := by cases l with | nil => rfl | cons x m => exact absurd (hb (by simp)) (by decide)
    subst hl0
    have fy := Nat.add_zero
    refine goK ?_ ?_ ?_ ?_ ?_ ?_ ?_ ?_ ?_ ?_ ?_ ?_ ?_ ?_ ?_ ?_
    any_goals (first | exact True.intro | skip)
    all_goals (repeat (refine Wh.mk fun hcc => ?_))
    all_goals simp [tupOf, fixEs]
  | false =>
    have fy := And.intro bs0_24 (hap)
    refine goR ?_ ?_ ?_ ?_ ?_ ?_ ?_ ?_ ?_ ?_ ?_ ?_ ?_ ?_ ?_ ?_
    any_goals (first | exact True.intro | skip)
    all_goals (repeat (refine Wh.mk fun hcc => ?_))
    rw [hbo]
    exact SW.ret (show RetQ _ _ _ _ _ _ _ from RetQ.y [1] [.ow 1 (l.map Enc.o)])
end Q6

namespace Go.By
open Go Go.Vm

/-! ### words -/
theorem bits64 : IntKind.i64.bits = 64 := rfl
theorem i64_and127 (a : Nat) (h : a < 2 ^ 63) : IntKind.i64.wrap ((BitVec.ofInt IntKind.i64.bits (a : Int) &&& BitVec.ofInt IntKind.i64.bits 127).toNat : Int) = ((a % 128 : Nat) : Int) := by
  have e : (BitVec.ofInt 64 (a : Int) &&& BitVec.ofInt 64 127).toNat = a % 128 := by
    rw [BitVec.toNat_and, show BitVec.ofInt 64 (127 : Int) = 127#64 from rfl, BitVec.ofInt_natCast, BitVec.toNat_ofNat, show (127#64).toNat = 2 ^ 7 - 1 from rfl, Nat.and_two_pow_sub_one_eq_mod]; omega
  rw [bits64, e, wrap64 _ (by omega) (by omega)]
theorem i64_or128 (a : Nat) (h : a < 128) : IntKind.i64.wrap ((BitVec.ofInt IntKind.i64.bits (a : Int) ||| BitVec.ofInt IntKind.i64.bits 128).toNat : Int) = ((a + 128 : Nat) : Int) := by
  have e : (BitVec.ofInt 64 (a : Int) ||| BitVec.ofInt 64 128).toNat = a + 128 := by
    rw [BitVec.toNat_or, show BitVec.ofInt 64 (128 : Int) = 128#64 from rfl, BitVec.ofInt_natCast, BitVec.toNat_ofNat, show (128#64).toNat = 2 ^ 7 * 1 from rfl, Nat.mod_eq_of_lt (by omega), Nat.or_comm, ← Nat.two_pow_add_eq_or_of_lt (by omega)]; omega
  rw [bits64, e, wrap64 _ (by omega) (by omega)]
theorem i64_shr7 (a : Nat) : ((a : Int)).fdiv (2 ^ (min (7 : Int).toNat IntKind.i64.bits)) = ((a / 128 : Nat) : Int) := by
  rw [bits64, show (min (7 : Int).toNat 64) = 7 from rfl, Int.fdiv_eq_ediv_of_nonneg _ (by decide)]
  simp
/-- a group laid upon those ahead of it -/
theorem i64_grp (n x k : Nat) (hn : n < 2 ^ (7 * k)) (hx : x < 128) (hk : k < 6) :
    IntKind.i64.wrap ((BitVec.ofInt IntKind.i64.bits (n : Int) ||| BitVec.ofInt IntKind.i64.bits (IntKind.i64.wrap ((x : Int) * 2 ^ (min (IntKind.i64.wrap (7 * (k : Int))).toNat IntKind.i64.bits)))).toNat : Int) = ((n + x * 2 ^ (7 * k) : Nat) : Int) := by
  have h7 : IntKind.i64.wrap (7 * (k : Int)) = ((7 * k : Nat) : Int) := by rw [wrap64 _ (by omega) (by omega)]; simp
  have hle : 2 ^ (7 * k) ≤ 2 ^ 35 := Nat.pow_le_pow_right (by decide) (by omega)
  have hxm : x * 2 ^ (7 * k) < 2 ^ 42 := by
    calc x * 2 ^ (7 * k) ≤ 127 * 2 ^ 35 := Nat.mul_le_mul (by omega) hle
      _ < 2 ^ 42 := by decide
  have hmin : min (((7 * k : Nat) : Int)).toNat IntKind.i64.bits = 7 * k := by rw [bits64, Int.toNat_natCast]; omega
  rw [h7, hmin]
  have e1 : (x : Int) * 2 ^ (7 * k) = ((x * 2 ^ (7 * k) : Nat) : Int) := by simp
  have hw : IntKind.i64.wrap ((x * 2 ^ (7 * k) : Nat) : Int) = ((x * 2 ^ (7 * k) : Nat) : Int) := wrap64 _ (by omega) (by omega)
  rw [e1, hw]
  have e : (BitVec.ofInt 64 (n : Int) ||| BitVec.ofInt 64 ((x * 2 ^ (7 * k) : Nat) : Int)).toNat = n + x * 2 ^ (7 * k) := by
    rw [BitVec.toNat_or, BitVec.ofInt_natCast, BitVec.ofInt_natCast, BitVec.toNat_ofNat, BitVec.toNat_ofNat, Nat.mod_eq_of_lt (by omega), Nat.mod_eq_of_lt (by omega), Nat.mul_comm x, Nat.or_comm, ← Nat.two_pow_add_eq_or_of_lt hn]; omega
  rw [bits64, e, wrap64 _ (by omega) (by omega)]

/-! ### a number's bytes -/
def M12 : Int := 1000000000000
def encN (m : Nat) : List UInt8 := if h : m ≤ 127 then [byt m] else byt ((m % 128 + 128 : Nat) : Int) :: encN (m / 128)
termination_by m
decreasing_by omega
theorem encN_lo {m : Nat} (h : m ≤ 127) : encN m = [byt m] := by rw [encN, dif_pos h]
theorem encN_hi {m : Nat} (h : ¬ m ≤ 127) : encN m = byt ((m % 128 + 128 : Nat) : Int) :: encN (m / 128) := by rw [encN, dif_neg h]
def zig (n : Int) : Nat := if n < 0 then (-2 * n - 1).toNat else (2 * n).toNat
def clampI (n : Int) : Int := if n > M12 then M12 else if n < -M12 then -M12 else n
def putI (n : Int) : List UInt8 := encN (zig (clampI n))
theorem clamp_le (n : Int) : -M12 ≤ clampI n ∧ clampI n ≤ M12 := by unfold clampI M12; split <;> (try split) <;> omega
theorem clamp_of {n : Int} (h0 : -M12 ≤ n) (h1 : n ≤ M12) : clampI n = n := by unfold clampI; rw [if_neg (by omega), if_neg (by omega)]
theorem zig_lt (n : Int) : zig (clampI n) < 2 ^ 42 := by
  have := clamp_le n
  unfold zig M12 at *; split <;> omega
theorem encN_len : ∀ (k m : Nat), m < 2 ^ (7 * (k + 1)) → (encN m).length ≤ k + 1
  | 0, m, h => by rw [encN_lo (by omega)]; simp
  | k + 1, m, h => by
    by_cases hm : m ≤ 127
    · rw [encN_lo hm]; simp
    · rw [encN_hi hm]
      have := encN_len k (m / 128) (by
        rw [Nat.div_lt_iff_lt_mul (by decide)]
        rw [show 7 * (k + 1 + 1) = 7 * (k + 1) + 7 by omega, Nat.pow_add] at h
        exact h)
      simp; omega
theorem putI_len (n : Int) : (putI n).length ≤ 6 := encN_len 5 _ (by have := zig_lt n; omega)

/-! ### and back -/
def dec : List UInt8 → Nat → Nat → Option (Nat × Nat)
  | [], _, _ => none
  | v :: l, k, acc => if 6 ≤ k then none else if v.toNat > 127 then dec l (k + 1) (acc + v.toNat % 128 * 2 ^ (7 * k)) else if v.toNat = 0 ∧ k ≠ 0 then none else some (acc + v.toNat % 128 * 2 ^ (7 * k), k + 1)
def unz (m : Nat) : Int := if m % 2 = 1 then -(((m + 1) / 2 : Nat) : Int) else ((m / 2 : Nat) : Int)
def okN (n : Int) : Bool := decide (n ≥ -M12) && decide (n ≤ M12)
def getR (l : List UInt8) (a : Nat) : Int × Nat × Bool :=
  match dec (l.drop a) 0 0 with
  | some x => if okN (unz x.1) = true then (unz x.1, a + x.2, true) else (0, 0, false)
  | none => (0, 0, false)

/-- the program's own walk: no end at six -/
def grp : List UInt8 → Nat → Nat → Bool → Nat × Nat × Bool × Bool
  | [], _, _, _ => (0, 0, false, true)
  | v :: l, k, n, g =>
    let n' := if k < 6 then n + v.toNat % 128 * 2 ^ (7 * k) else n
    let g' := if k < 6 then g else if v.toNat % 128 ≠ 0 then false else g
    if v.toNat > 127 then grp l (k + 1) n' g' else (n', k + 1, g' && (decide (v.toNat ≠ 0) || decide (k = 0)), false)

theorem grp_bad : ∀ (l : List UInt8) (k n : Nat) (g : Bool), 6 ≤ k → (grp l k n g).2.2.1 = false
  | [], _, _, _, _ => rfl
  | v :: l, k, n, g, h => by
    unfold grp
    simp only
    split
    · exact grp_bad l _ _ _ (by omega)
    · rename_i hv
      simp only
      rw [if_neg (by omega)]
      by_cases h0 : v.toNat = 0
      · simp [h0]; omega
      · have : v.toNat % 128 ≠ 0 := by omega
        rw [if_pos this]; simp
theorem grp_dec : ∀ (l : List UInt8) (k n : Nat), k ≤ 6 → (∀ x, dec l k n = some x → (grp l k n true).1 = x.1 ∧ (grp l k n true).2.1 = x.2 ∧ (grp l k n true).2.2.1 = true) ∧
    (dec l k n = none → (grp l k n true).2.2.1 = false)
  | [], _, _, _ => ⟨fun x h => (by simp [dec] at h), fun _ => rfl⟩
  | v :: l, k, n, hk => by
    by_cases h6 : 6 ≤ k
    · refine ⟨fun x h => ?_, fun _ => grp_bad _ _ _ _ h6⟩
      unfold dec at h; rw [if_pos h6] at h; cases h
    · have hk6 : k < 6 := by omega
      simp only [dec, grp, if_neg h6, if_pos hk6]
      by_cases hv : v.toNat > 127
      · rw [if_pos hv, if_pos hv]
        exact grp_dec l (k + 1) _ (by omega)
      · rw [if_neg hv, if_neg hv]
        by_cases h0 : v.toNat = 0 ∧ k ≠ 0
        · rw [if_pos h0]
          refine ⟨fun x h => (by cases h), fun _ => ?_⟩
          simp [h0.1, h0.2]
        · rw [if_neg h0]
          refine ⟨fun x h => ?_, fun h => (by cases h)⟩
          simp only [Option.some.injEq] at h; subst h
          refine ⟨rfl, rfl, ?_⟩
          simp; omega
theorem dec_lt : ∀ (l : List UInt8) (k n : Nat) {x : Nat × Nat}, n < 2 ^ (7 * k) → dec l k n = some x → x.1 < 2 ^ 42
  | [], _, _, _, _, h => by cases h
  | v :: l, k, n, x, hn, h => by
    unfold dec at h
    split at h
    · cases h
    · rename_i h6
      have hstep : n + v.toNat % 128 * 2 ^ (7 * k) < 2 ^ (7 * (k + 1)) := by
        have h1 : v.toNat % 128 * 2 ^ (7 * k) ≤ 127 * 2 ^ (7 * k) := Nat.mul_le_mul_right _ (by omega)
        rw [show 7 * (k + 1) = 7 * k + 7 by omega, Nat.pow_add]
        omega
      split at h
      · exact dec_lt l (k + 1) _ hstep h
      · split at h
        · cases h
        · simp only [Option.some.injEq] at h; subst h
          have : 2 ^ (7 * (k + 1)) ≤ 2 ^ 42 := Nat.pow_le_pow_right (by decide) (by omega)
          simp only; omega
theorem grp_big : ∀ (l : List UInt8) (k n : Nat) (g : Bool), 6 ≤ k → n < 2 ^ 42 → (grp l k n g).1 < 2 ^ 42
  | [], _, _, _, _, _ => by simp [grp]
  | v :: l, k, n, g, hk, hn => by
    have h6 : ¬ k < 6 := by omega
    simp only [grp, if_neg h6]
    split
    · exact grp_big l (k + 1) n _ (by omega) hn
    · exact hn
theorem grp_lt : ∀ (l : List UInt8) (k n : Nat) (g : Bool), k ≤ 6 → n < 2 ^ (7 * k) → (grp l k n g).1 < 2 ^ 42
  | [], _, _, _, _, _ => by simp [grp]
  | v :: l, k, n, g, hk, hn => by
    unfold grp
    simp only
    have hp : 2 ^ (7 * (k + 1)) ≤ 2 ^ 42 ∨ ¬ k < 6 := by
      by_cases h : k < 6
      · exact .inl (Nat.pow_le_pow_right (by decide) (by omega))
      · exact .inr h
    have hstep : n + v.toNat % 128 * 2 ^ (7 * k) < 2 ^ (7 * (k + 1)) := by
      have h1 : v.toNat % 128 * 2 ^ (7 * k) ≤ 127 * 2 ^ (7 * k) := Nat.mul_le_mul_right _ (by omega)
      rw [show 7 * (k + 1) = 7 * k + 7 by omega, Nat.pow_add]
      omega
    have h42 : 2 ^ (7 * k) ≤ 2 ^ 42 := Nat.pow_le_pow_right (by decide) (by omega)
    split
    · by_cases h : k < 6
      · rw [if_pos h, if_pos h]; exact grp_lt l (k + 1) _ _ (by omega) hstep
      · rw [if_neg h, if_neg h]
        have hk6 : k = 6 := by omega
        subst hk6
        exact grp_big l 7 n _ (by omega) hn
    · simp only
      by_cases h : k < 6
      · rw [if_pos h]; omega
      · rw [if_neg h]; omega

/-! ### the bytes of a number are the only ones -/
theorem byt_small {m : Nat} (h : m < 256) : (byt (m : Int)).toNat = m := by
  have := byt_nat (m : Int); omega
theorem dec_enc : ∀ (m k acc : Nat) (r : List UInt8), m < 2 ^ (42 - 7 * k) → k < 6 → (k ≠ 0 → m ≠ 0) → dec (encN m ++ r) k acc = some (acc + m * 2 ^ (7 * k), k + (encN m).length) := by
  intro m
  induction m using Nat.strongRecOn with
  | _ m ih =>
    intro k acc r hm hk h0
    by_cases h : m ≤ 127
    · rw [encN_lo h]
      have e : (byt (m : Int)).toNat = m := byt_small (by omega)
      simp only [List.cons_append, List.nil_append, dec, e]
      rw [if_neg (by omega), if_neg (by omega), if_neg (by intro hh; exact h0 hh.2 hh.1), Nat.mod_eq_of_lt (by omega)]; rfl
    · rw [encN_hi h]
      have e : (byt ((m % 128 + 128 : Nat) : Int)).toNat = m % 128 + 128 := byt_small (by omega)
      simp only [List.cons_append, dec, e]
      have hk5 : k < 5 := by
        rcases Nat.lt_or_ge k 5 with h' | h'
        · exact h'
        · exfalso
          have : k = 5 := by omega
          subst this; omega
      rw [if_neg (by omega), if_pos (by omega)]
      rw [ih (m / 128) (by omega) (k + 1) _ r (by
        rw [Nat.div_lt_iff_lt_mul (by decide)]
        have : 42 - 7 * k = (42 - 7 * (k + 1)) + 7 := by omega
        rw [this, Nat.pow_add] at hm
        exact hm) (by omega) (fun _ => by omega)]
      congr 1
      simp only [List.length_cons, Prod.mk.injEq]
      refine ⟨?_, by omega⟩
      have e1 : (m % 128 + 128) % 128 = m % 128 := by omega
      rw [e1, show 7 * (k + 1) = 7 + 7 * k by omega, Nat.pow_add, ← Nat.mul_assoc, Nat.add_assoc, ← Nat.add_mul]
      congr 2
      omega
theorem enc_dec : ∀ (l : List UInt8) (k acc : Nat) {x : Nat × Nat}, dec l k acc = some x → ∃ m r, l = encN m ++ r ∧ x.1 = acc + m * 2 ^ (7 * k) ∧ x.2 = k + (encN m).length ∧ (k ≠ 0 → m ≠ 0) ∧ m < 2 ^ (42 - 7 * k)
  | [], _, _, _, h => by cases h
  | v :: l, k, acc, x, h => by
    unfold dec at h
    split at h
    · cases h
    · rename_i h6
      have hv := v.toNat_lt
      split at h
      · rename_i hgt
        obtain ⟨m, r, rfl, h1, h2, h3, h4⟩ := enc_dec l (k + 1) _ h
        have hm0 := h3 (by omega)
        have hk5 : k < 5 := by
          rcases Nat.lt_or_ge k 5 with h' | h'
          · exact h'
          · exfalso
            have e : 42 - 7 * (k + 1) = 0 := by omega
            rw [e, Nat.pow_zero] at h4
            omega
        refine ⟨v.toNat % 128 + 128 * m, r, ?_, ?_, ?_, fun _ => by omega, ?_⟩
        · rw [encN_hi (m := v.toNat % 128 + 128 * m) (by omega)]
          have e1 : (v.toNat % 128 + 128 * m) % 128 + 128 = v.toNat := by omega
          have e2 : (v.toNat % 128 + 128 * m) / 128 = m := by omega
          rw [e1, e2, byt_of]; rfl
        · rw [h1, Nat.add_mul, show 7 * (k + 1) = 7 + 7 * k by omega, Nat.pow_add, ← Nat.mul_assoc, Nat.mul_comm m, show (2 : Nat) ^ 7 = 128 from rfl]; omega
        · rw [h2, encN_hi (m := v.toNat % 128 + 128 * m) (by omega)]
          have e2 : (v.toNat % 128 + 128 * m) / 128 = m := by omega
          rw [e2]; simp; omega
        · have e : 42 - 7 * k = (42 - 7 * (k + 1)) + 7 := by omega
          rw [e, Nat.pow_add]
          omega
      · split at h
        · cases h
        · rename_i h7 h8
          simp only [Option.some.injEq] at h; subst h
          have hvl : v.toNat ≤ 127 := by omega
          refine ⟨v.toNat, l, ?_, ?_, ?_, fun hk hz => h8 ⟨hz, hk⟩, ?_⟩
          · rw [encN_lo hvl, byt_of]; rfl
          · simp only; rw [Nat.mod_eq_of_lt (by omega)]
          · rw [encN_lo hvl]; rfl
          · have : 2 ^ 7 ≤ 2 ^ (42 - 7 * k) := Nat.pow_le_pow_right (by decide) (by omega)
            omega

theorem unz_zig {n : Int} : unz (zig n) = n := by
  unfold unz zig; split <;> split <;> omega
theorem zig_unz {m : Nat} : zig (unz m) = m := by
  unfold unz zig; split <;> split <;> omega

/-- a number taken off the front -/
def pI (l : List UInt8) : Option (Int × List UInt8) := match dec l 0 0 with
  | some x => if okN (unz x.1) = true then some (unz x.1, l.drop x.2) else none
  | none => none
theorem okN_iff {n : Int} : okN n = true ↔ -M12 ≤ n ∧ n ≤ M12 := by unfold okN; simp
theorem pI_put (n : Int) (h : okN n = true) (r : List UInt8) : pI (putI n ++ r) = some (n, r) := by
  have hc := clamp_of (okN_iff.1 h).1 (okN_iff.1 h).2
  have hz := zig_lt n
  unfold pI putI
  rw [hc] at hz ⊢
  rw [dec_enc (zig n) 0 0 r (by simpa using hz) (by decide) (fun h => absurd rfl h)]
  simp only [Nat.zero_add, Nat.mul_zero, Nat.pow_zero, Nat.mul_one, unz_zig, h, if_true, List.drop_left]
theorem pI_inv {l r : List UInt8} {n : Int} (h : pI l = some (n, r)) : l = putI n ++ r ∧ okN n = true := by
  unfold pI at h
  split at h
  · rename_i x hx
    split at h
    · rename_i hok
      simp only [Option.some.injEq, Prod.mk.injEq] at h
      obtain ⟨rfl, rfl⟩ := h
      obtain ⟨m, r, rfl, h1, h2, _, _⟩ := enc_dec l 0 0 hx
      refine ⟨?_, hok⟩
      simp only [Nat.zero_add, Nat.mul_zero, Nat.pow_zero, Nat.mul_one] at h1 h2
      rw [h2, List.drop_left]
      unfold putI
      rw [clamp_of (okN_iff.1 hok).1 (okN_iff.1 hok).2, zig_unz, h1]
    · cases h
  · cases h
theorem getR_pI (l : List UInt8) (a : Nat) (ha : a ≤ l.length) : getR l a = match pI (l.drop a) with
    | some x => (x.1, l.length - x.2.length, true)
    | none => (0, 0, false) := by
  unfold getR pI
  cases hd : dec (l.drop a) 0 0 with
  | none => rfl
  | some x =>
    simp only
    split
    · obtain ⟨m, r, hl, h1, h2, _, _⟩ := enc_dec _ 0 0 hd
      simp only [Prod.mk.injEq, and_true, true_and]
      have : (l.drop a).length = x.2 + ((l.drop a).drop x.2).length := by
        rw [List.length_drop (i := x.2)]
        have : x.2 ≤ (l.drop a).length := by rw [hl, h2]; simp
        omega
      rw [List.length_drop (i := a)] at this
      omega
    · rfl
end Go.By

namespace Q6
open Go Go.Vm Go.Proofs
set_option maxHeartbeats 4000000
set_option synthInstance.maxSize 2000
set_option synthInstance.maxHeartbeats 400000
set_option maxRecDepth 10000
set_option linter.unusedSimpArgs false
set_option linter.unusedVariables false

open Go.By

def grpR (l : List UInt8) (a : Nat) : Nat × Nat × Bool × Bool := let x := grp (l.drop a) 0 0 true; (x.1, if x.2.2.2 = true then 0 else a + x.2.1, x.2.2.1, x.2.2.2)

theorem groups_ok (l : List UInt8) (a : Nat) (hl : l.length ≤ 1048576) (ha : a ≤ l.length) : CallR Try.prog 149 [.sl .b (l.map Enc.b), .int .i64 (a : Nat)] [] (.tup [.int .i64 ((grpR l a).1 : Nat), .int .i64 ((grpR l a).2.1 : Nat), .bool (grpR l a).2.2.1, .bool (grpR l a).2.2.2]) := by
  refine CallR.of_body (n := 57) (rs := [.tmp 4, .tmp 5, .tmp 6, .tmp 7]) hY.ok Try.func149 rfl (by decide) rfl rfl rfl rfl (fun F => ?_)
  have fx := And.intro Y3 (And.intro Y4 (And.intro Y5 (Y24)))
  have fy := Nat.add_zero
  refine goN ?_ ?_ ?_ ?_ ?_ ?_ ?_ ?_ ?_ ?_ ?_ ?_ ?_ ?_ ?_ ?_
  any_goals (first | exact True.intro | skip)
  skip
  refine SW.loop (fun x : Nat × Nat × Bool => ⟨[.sl .b (l.map Enc.b), .int .i64 (a : Nat), .undef, .undef, .undef, .undef, .undef, .undef, .int .i64 (x.2.1 : Nat), .bool x.2.2, .int .i64 (x.1 : Nat), .undef, .undef, .undef, .undef, .undef, .undef, .undef, .undef, .undef, .undef, .undef, .undef, .undef, .undef, .undef, .undef, .undef, .undef, .undef, .undef, .undef, .undef, .undef, .undef, .undef, .undef, .undef, .undef, .undef, .undef, .undef, .undef, .undef, .undef, .undef, .undef, .undef, .undef, .undef, .undef, .undef, .undef, .undef, .undef, .undef, .undef], [[]]⟩)
    (fun N x => N = l.length - (a + x.1) ∧ a + x.1 ≤ l.length ∧ grp (l.drop (a + x.1)) x.1 x.2.1 x.2.2 = grp (l.drop a) 0 0 true ∧ (x.1 ≤ 6 → x.2.1 < 2 ^ (7 * x.1)) ∧ x.2.1 < 2 ^ 42) (n := l.length - a) (x := (0, 0, true)) (Norm.to 0 rfl (by simp [weakL])) ⟨rfl, ha, rfl, fun _ => by decide, by decide⟩ ?_
  rintro N ⟨k, m, g⟩ ⟨hN, hk, hg, hm6, hm42⟩
  simp only at hN hk hg hm6 hm42 ⊢
  have hw0 : IntKind.i64.wrap ((a : Int) + (k : Int)) = ((a + k : Nat) : Int) := by rw [wrap64 _ (by omega) (by omega)]; omega
  have fy := hw0
  refine goS ?_
  refine SW.cond rfl (fun hc => ?_) (fun hc => ?_)
  · have hlt : a + k < l.length := by simp at hc; omega
    have hgb : (l.map Enc.b)[a + k]? = some (.int .u8 ((l[a + k]).toNat : Int)) := map_get Enc.b l _ hlt
    have hd : l.drop (a + k) = l[a + k] :: l.drop (a + (k + 1)) := List.drop_eq_getElem_cons hlt
    rw [hd] at hg
    generalize hv : l[a + k] = v at *
    have hvl := v.toNat_lt
    have hbi := byte_i64 v
    have h127 := i64_and127 v.toNat (by omega)
    have hwk : IntKind.i64.wrap ((k : Int) + 1) = ((k + 1 : Nat) : Int) := by rw [wrap64 _ (by omega) (by omega)]; omega
    have hw1 : IntKind.i64.wrap (((a + k : Nat) : Int) + 1) = ((a + (k + 1) : Nat) : Int) := by rw [wrap64 _ (by omega) (by omega)]; omega
    have hk0 : ((k : Int) == 0) = decide (k = 0) := by by_cases h : k = 0 <;> simp [h]
    by_cases h6 : k < 6
    · have h6d : decide ((k : Int) < 6) = true := by simp; omega
      have hw7 : IntKind.i64.wrap (7 * (k : Int)) = ((7 * k : Nat) : Int) := by rw [wrap64 _ (by omega) (by omega)]; simp
      have h70 : (((7 * k : Nat) : Int) < 0) = False := by simp; omega
      have hgr := i64_grp m (v.toNat % 128) k (hm6 (by omega)) (by omega) h6
      rw [hw7, Int.toNat_natCast] at hgr
      rw [grp] at hg; simp only [if_pos h6] at hg
      by_cases hhi : v.toNat > 127
      · have hhd : decide ((v.toNat : Int) > 127) = true := by simp; omega
        rw [if_pos hhi] at hg
        have fy := And.intro hw0 (And.intro hgb (And.intro hbi (And.intro h127 (And.intro hwk (And.intro hw1 (And.intro h6d (And.intro hhd (And.intro hk0 (And.intro hw7 (And.intro h70 (hgr)))))))))))
        refine goR ?_ ?_ ?_ ?_ ?_ ?_ ?_ ?_ ?_ ?_ ?_ ?_ ?_ ?_ ?_ ?_
        any_goals (first | exact True.intro | skip)
        all_goals (repeat (refine Wh.mk fun hcc => ?_))
        refine ⟨N - 1, (k + 1, m + v.toNat % 128 * 2 ^ (7 * k), g), by omega, ⟨by simp only; omega, by simp only; omega, hg, fun _ => ?_, ?_⟩, Norm.to 0 rfl (by simp [weakL])⟩
        · have h1 : v.toNat % 128 * 2 ^ (7 * k) ≤ 127 * 2 ^ (7 * k) := Nat.mul_le_mul_right _ (by omega)
          have := hm6 (by omega)
          simp only; rw [show 7 * (k + 1) = 7 * k + 7 by omega, Nat.pow_add]; omega
        · have h1 : v.toNat % 128 * 2 ^ (7 * k) ≤ 127 * 2 ^ (7 * k) := Nat.mul_le_mul_right _ (by omega)
          have h2 := hm6 (by omega)
          have h3 : 2 ^ (7 * k) ≤ 2 ^ 35 := Nat.pow_le_pow_right (by decide) (by omega)
          simp only; omega
      · have hhd : decide ((v.toNat : Int) > 127) = false := by simp; omega
        rw [if_neg hhi] at hg
        have hgR : grpR l a = (m + v.toNat % 128 * 2 ^ (7 * k), a + (k + 1), g && (decide (v.toNat ≠ 0) || decide (k = 0)), false) := by unfold grpR; simp only [← hg]; simp
        rw [hgR]
        cases g <;> by_cases hz : v.toNat = 0
        · have hv0 : ((v.toNat : Int) != 0) = false := by simp [hz]
          have fy := And.intro hw0 (And.intro hgb (And.intro hbi (And.intro h127 (And.intro hwk (And.intro hw1 (And.intro h6d (And.intro hhd (And.intro hk0 (And.intro hw7 (And.intro h70 (And.intro hgr (hv0))))))))))))
          refine goK ?_ ?_ ?_ ?_ ?_ ?_ ?_ ?_ ?_ ?_ ?_ ?_ ?_ ?_ ?_ ?_
          any_goals (first | exact True.intro | skip)
          all_goals (repeat (refine Wh.mk fun hcc => ?_))
          all_goals (first | rfl | (simp [tupOf, fixEs, hz]; done))
        · have hv0 : ((v.toNat : Int) != 0) = true := by simp [hz]
          have fy := And.intro hw0 (And.intro hgb (And.intro hbi (And.intro h127 (And.intro hwk (And.intro hw1 (And.intro h6d (And.intro hhd (And.intro hk0 (And.intro hw7 (And.intro h70 (And.intro hgr (hv0))))))))))))
          refine goK ?_ ?_ ?_ ?_ ?_ ?_ ?_ ?_ ?_ ?_ ?_ ?_ ?_ ?_ ?_ ?_
          any_goals (first | exact True.intro | skip)
          all_goals (repeat (refine Wh.mk fun hcc => ?_))
          all_goals (first | rfl | (simp [tupOf, fixEs, hz]; done))
        · have hv0 : ((v.toNat : Int) != 0) = false := by simp [hz]
          have fy := And.intro hw0 (And.intro hgb (And.intro hbi (And.intro h127 (And.intro hwk (And.intro hw1 (And.intro h6d (And.intro hhd (And.intro hk0 (And.intro hw7 (And.intro h70 (And.intro hgr (hv0))))))))))))
          refine goK ?_ ?_ ?_ ?_ ?_ ?_ ?_ ?_ ?_ ?_ ?_ ?_ ?_ ?_ ?_ ?_
          any_goals (first | exact True.intro | skip)
          all_goals (repeat (refine Wh.mk fun hcc => ?_))
          all_goals (first | rfl | (simp [tupOf, fixEs, hz]; done))
        · have hv0 : ((v.toNat : Int) != 0) = true := by simp [hz]
          have fy := And.intro hw0 (And.intro hgb (And.intro hbi (And.intro h127 (And.intro hwk (And.intro hw1 (And.intro h6d (And.intro hhd (And.intro hk0 (And.intro hw7 (And.intro h70 (And.intro hgr (hv0))))))))))))
          refine goK ?_ ?_ ?_ ?_ ?_ ?_ ?_ ?_ ?_ ?_ ?_ ?_ ?_ ?_ ?_ ?_
          any_goals (first | exact True.intro | skip)
          all_goals (repeat (refine Wh.mk fun hcc => ?_))
          all_goals (first | rfl | (simp [tupOf, fixEs, hz]; done))
    · have h6d : decide ((k : Int) < 6) = false := by simp; omega
      rw [grp] at hg; simp only [if_neg h6] at hg
      have hv1 : (((v.toNat % 128 : Nat) : Int) != 0) = decide (v.toNat % 128 ≠ 0) := by by_cases h : v.toNat % 128 = 0 <;> simp [h]; omega
      by_cases hhi : v.toNat > 127
      · have hhd : decide ((v.toNat : Int) > 127) = true := by simp; omega
        rw [if_pos hhi] at hg
        by_cases h1 : v.toNat % 128 = 0
        · have hv1 : (((v.toNat % 128 : Nat) : Int) != 0) = false := by simp [h1]
          rw [if_neg (by simpa using h1)] at hg
          have fy := And.intro hw0 (And.intro hgb (And.intro hbi (And.intro h127 (And.intro hwk (And.intro hw1 (And.intro h6d (And.intro hhd (And.intro hk0 (hv1)))))))))
          refine goR ?_ ?_ ?_ ?_ ?_ ?_ ?_ ?_ ?_ ?_ ?_ ?_ ?_ ?_ ?_ ?_
          any_goals (first | exact True.intro | skip)
          all_goals (repeat (refine Wh.mk fun hcc => ?_))
          refine ⟨N - 1, (k + 1, m, g), by omega, ⟨by simp only; omega, by simp only; omega, hg, fun h => absurd h (by simp only; omega), hm42⟩, Norm.to 0 rfl (by simp [weakL])⟩
        · have hv1 : (((v.toNat % 128 : Nat) : Int) != 0) = true := by simp; omega
          rw [if_pos h1] at hg
          have fy := And.intro hw0 (And.intro hgb (And.intro hbi (And.intro h127 (And.intro hwk (And.intro hw1 (And.intro h6d (And.intro hhd (And.intro hk0 (hv1)))))))))
          refine goR ?_ ?_ ?_ ?_ ?_ ?_ ?_ ?_ ?_ ?_ ?_ ?_ ?_ ?_ ?_ ?_
          any_goals (first | exact True.intro | skip)
          all_goals (repeat (refine Wh.mk fun hcc => ?_))
          refine ⟨N - 1, (k + 1, m, false), by omega, ⟨by simp only; omega, by simp only; omega, hg, fun h => absurd h (by simp only; omega), hm42⟩, Norm.to 0 rfl (by simp [weakL])⟩
      · have hhd : decide ((v.toNat : Int) > 127) = false := by simp; omega
        rw [if_neg hhi] at hg
        have hgR : grpR l a = (m, a + (k + 1), (if v.toNat % 128 ≠ 0 then false else g) && (decide (v.toNat ≠ 0) || decide (k = 0)), false) := by unfold grpR; simp only [← hg]; simp
        rw [hgR]
        cases g <;> by_cases hz : v.toNat = 0
        · have hv0 : ((v.toNat : Int) != 0) = false := by simp [hz]
          have hv1 : (((v.toNat % 128 : Nat) : Int) != 0) = false := by simp [hz]
          have fy := And.intro hw0 (And.intro hgb (And.intro hbi (And.intro h127 (And.intro hwk (And.intro hw1 (And.intro h6d (And.intro hhd (And.intro hk0 (And.intro hv0 (hv1))))))))))
          refine goK ?_ ?_ ?_ ?_ ?_ ?_ ?_ ?_ ?_ ?_ ?_ ?_ ?_ ?_ ?_ ?_
          any_goals (first | exact True.intro | skip)
          all_goals (repeat (refine Wh.mk fun hcc => ?_))
          all_goals (first | rfl | (simp [tupOf, fixEs, hz]; done) | (have h9 : ¬ v.toNat % 128 = 0 := (by omega); simp [tupOf, fixEs, hz, h9]))
        · have hv0 : ((v.toNat : Int) != 0) = true := by simp [hz]
          have hv1 : (((v.toNat % 128 : Nat) : Int) != 0) = true := by simp; omega
          have fy := And.intro hw0 (And.intro hgb (And.intro hbi (And.intro h127 (And.intro hwk (And.intro hw1 (And.intro h6d (And.intro hhd (And.intro hk0 (And.intro hv0 (hv1))))))))))
          refine goK ?_ ?_ ?_ ?_ ?_ ?_ ?_ ?_ ?_ ?_ ?_ ?_ ?_ ?_ ?_ ?_
          any_goals (first | exact True.intro | skip)
          all_goals (repeat (refine Wh.mk fun hcc => ?_))
          all_goals (first | rfl | (simp [tupOf, fixEs, hz]; done) | (have h9 : ¬ v.toNat % 128 = 0 := (by omega); simp [tupOf, fixEs, hz, h9]))
        · have hv0 : ((v.toNat : Int) != 0) = false := by simp [hz]
          have hv1 : (((v.toNat % 128 : Nat) : Int) != 0) = false := by simp [hz]
          have fy := And.intro hw0 (And.intro hgb (And.intro hbi (And.intro h127 (And.intro hwk (And.intro hw1 (And.intro h6d (And.intro hhd (And.intro hk0 (And.intro hv0 (hv1))))))))))
          refine goK ?_ ?_ ?_ ?_ ?_ ?_ ?_ ?_ ?_ ?_ ?_ ?_ ?_ ?_ ?_ ?_
          any_goals (first | exact True.intro | skip)
          all_goals (repeat (refine Wh.mk fun hcc => ?_))
          all_goals (first | rfl | (simp [tupOf, fixEs, hz]; done) | (have h9 : ¬ v.toNat % 128 = 0 := (by omega); simp [tupOf, fixEs, hz, h9]))
        · have hv0 : ((v.toNat : Int) != 0) = true := by simp [hz]
          have hv1 : (((v.toNat % 128 : Nat) : Int) != 0) = true := by simp; omega
          have fy := And.intro hw0 (And.intro hgb (And.intro hbi (And.intro h127 (And.intro hwk (And.intro hw1 (And.intro h6d (And.intro hhd (And.intro hk0 (And.intro hv0 (hv1))))))))))
          refine goK ?_ ?_ ?_ ?_ ?_ ?_ ?_ ?_ ?_ ?_ ?_ ?_ ?_ ?_ ?_ ?_
          any_goals (first | exact True.intro | skip)
          all_goals (repeat (refine Wh.mk fun hcc => ?_))
          all_goals (first | rfl | (simp [tupOf, fixEs, hz]; done) | (have h9 : ¬ v.toNat % 128 = 0 := (by omega); simp [tupOf, fixEs, hz, h9]))
  · have hge : a + k = l.length := by
      have : ¬ a + k < l.length := by simp at hc; omega
      omega
    rw [hge, List.drop_length] at hg
    have hgR : grpR l a = (0, 0, false, true) := by unfold grpR; simp only [← hg]; rfl
    rw [hgR]
    have fy := hw0
    refine goK ?_ ?_ ?_ ?_ ?_ ?_ ?_ ?_ ?_ ?_ ?_ ?_ ?_ ?_ ?_ ?_
    any_goals (first | exact True.intro | skip)
    all_goals (repeat (refine Wh.mk fun hcc => ?_))
    all_goals (first | rfl | (simp [tupOf, fixEs]; done))
end Q6

namespace Q6
open Go Go.Vm Go.Proofs
set_option maxHeartbeats 4000000
set_option synthInstance.maxSize 2000
set_option synthInstance.maxHeartbeats 400000
set_option maxRecDepth 10000
set_option linter.unusedSimpArgs false
set_option linter.unusedVariables false

open Go.By

theorem grp_ends : ∀ (l : List UInt8) (k n : Nat) (g : Bool), (grp l k n g).2.2.2 = true → (grp l k n g).2.2.1 = false
  | [], _, _, _, _ => rfl
  | v :: l, k, n, g, h => by
    unfold grp at h ⊢
    simp only at h ⊢
    split
    · rename_i hv; rw [if_pos hv] at h; exact grp_ends l _ _ _ h
    · rename_i hv; rw [if_neg hv] at h; cases h
theorem getR_grp (l : List UInt8) (a : Nat) : getR l a = if ((grpR l a).2.2.1 && okN (unz (grpR l a).1)) = true then (unz (grpR l a).1, (grpR l a).2.1, true) else (0, 0, false) := by
  obtain ⟨h1, h2⟩ := grp_dec (l.drop a) 0 0 (by decide)
  have h3 := grp_ends (l.drop a) 0 0 true
  unfold getR grpR
  simp only
  cases hd : dec (l.drop a) 0 0 with
  | none => rw [h2 hd]; simp
  | some x =>
    obtain ⟨e1, e2, e3⟩ := h1 x hd
    have e4 : (grp (l.drop a) 0 0 true).2.2.2 = false := by
      cases he : (grp (l.drop a) 0 0 true).2.2.2 with
      | false => rfl
      | true => rw [h3 he] at e3; cases e3
    rw [e1, e2, e3, e4]; simp
theorem grpR_lt (l : List UInt8) (a : Nat) : (grpR l a).1 < 2 ^ 42 := grp_lt _ 0 0 true (by decide) (by decide)
theorem half_q (m : Nat) (h : m < 2 ^ 42) : IntKind.i64.wrap ((m : Int).tdiv 2) = ((m / 2 : Nat) : Int) := by
  rw [Int.tdiv_eq_ediv_of_nonneg (by omega), wrap64 _ (by omega) (by omega)]; omega
theorem half_r (m : Nat) : ((m : Int).tmod 2 == 1) = decide (m % 2 = 1) := by
  rw [Int.tmod_eq_emod_of_nonneg (by omega)]
  by_cases h : m % 2 = 1
  · have : (m : Int) % 2 = 1 := by omega
    simp [h, this]
  · have : ¬ (m : Int) % 2 = 1 := by omega
    simp [h, this]
theorem half_n (m : Nat) (h : m < 2 ^ 42) (ho : m % 2 = 1) : IntKind.i64.wrap ((IntKind.i64.wrap (0 - IntKind.i64.wrap ((m : Int) + 1))).tdiv 2) = unz m := by
  unfold unz
  rw [if_pos ho, wrap64 ((m : Int) + 1) (by omega) (by omega), wrap64 (0 - ((m : Int) + 1)) (by omega) (by omega)]
  have : (0 - ((m : Int) + 1)) = 2 * -(((m + 1) / 2 : Nat) : Int) := by omega
  rw [this, Int.mul_tdiv_cancel_left _ (by decide), wrap64 _ (by omega) (by omega)]
theorem unz_e (m : Nat) (ho : ¬ m % 2 = 1) : ((m / 2 : Nat) : Int) = unz m := by unfold unz; rw [if_neg ho]

theorem GetInt_ok (l : List UInt8) (a : Nat) (hl : l.length ≤ 1048576) (ha : a ≤ l.length) : CallR Try.prog 142 [.sl .b (l.map Enc.b), .int .i64 (a : Nat)] [] (.tup [.int .i64 (getR l a).1, .int .i64 ((getR l a).2.1 : Nat), .bool (getR l a).2.2]) := by
  refine CallR.of_body (n := 43) (rs := [.tmp 4, .tmp 5, .tmp 6]) hY.ok Try.func142 rfl (by decide) rfl rfl rfl rfl (fun F => ?_)
  have fx := And.intro Y1 (And.intro Y2 (And.intro Y3 (And.intro Y4 (And.intro Y5 (Y24)))))
  have hG := groups_ok l a hl ha
  have hm := grpR_lt l a
  have hR := getR_grp l a
  have hI := in_ok (a : Int) 0 (l.length : Int)
  rw [show (decide ((a : Int) ≥ 0) && decide ((a : Int) ≤ (l.length : Int))) = true by simp; omega] at hI
  generalize hg1 : (grpR l a).1 = m at *
  generalize hg2 : (grpR l a).2.1 = e at *
  generalize hg3 : (grpR l a).2.2.1 = ok at *
  generalize hg4 : (grpR l a).2.2.2 = en at *
  have hI2 := in_ok (unz m) (-1000000000000) 1000000000000
  rw [show (decide (unz m ≥ -1000000000000) && decide (unz m ≤ 1000000000000)) = okN (unz m) from rfl] at hI2
  have hq := half_q m hm
  have hr := half_r m
  rw [hR]
  clear hR hg1 hg2 hg3 hg4
  cases ok <;> cases hok : okN (unz m) <;> by_cases ho : m % 2 = 1
  · rw [hok] at hI2
    rw [show decide (m % 2 = 1) = true by simp [ho]] at hr
    have hn := half_n m hm ho
    have hC1 := cx [] (hG)
    have hC2 := cx [] (hI)
    have hC3 := cx [] (hI2)
    have fy := And.intro hq (And.intro hr (hn))
    refine goK ?_ ?_ ?_ ?_ ?_ ?_ ?_ ?_ ?_ ?_ ?_ ?_ ?_ ?_ ?_ ?_
    any_goals (first | exact True.intro | skip)
    all_goals (repeat (refine Wh.mk fun hcc => ?_))
    all_goals (first | rfl | (simp [tupOf, fixEs]; done))
  · rw [hok] at hI2
    rw [show decide (m % 2 = 1) = false by simp [ho]] at hr
    have hn := unz_e m ho
    have hC1 := cx [] (hG)
    have hC2 := cx [] (hI)
    have hC3 := cx [] (hI2)
    have fy := And.intro hq (And.intro hr (hn))
    refine goK ?_ ?_ ?_ ?_ ?_ ?_ ?_ ?_ ?_ ?_ ?_ ?_ ?_ ?_ ?_ ?_
    any_goals (first | exact True.intro | skip)
    all_goals (repeat (refine Wh.mk fun hcc => ?_))
    all_goals (first | rfl | (simp [tupOf, fixEs]; done))
  · rw [hok] at hI2
    rw [show decide (m % 2 = 1) = true by simp [ho]] at hr
    have hn := half_n m hm ho
    have hC1 := cx [] (hG)
    have hC2 := cx [] (hI)
    have hC3 := cx [] (hI2)
    have fy := And.intro hq (And.intro hr (hn))
    refine goK ?_ ?_ ?_ ?_ ?_ ?_ ?_ ?_ ?_ ?_ ?_ ?_ ?_ ?_ ?_ ?_
    any_goals (first | exact True.intro | skip)
    all_goals (repeat (refine Wh.mk fun hcc => ?_))
    all_goals (first | rfl | (simp [tupOf, fixEs]; done))
  · rw [hok] at hI2
    rw [show decide (m % 2 = 1) = false by simp [ho]] at hr
    have hn := unz_e m ho
    have hC1 := cx [] (hG)
    have hC2 := cx [] (hI)
    have hC3 := cx [] (hI2)
    have fy := And.intro hq (And.intro hr (hn))
    refine goK ?_ ?_ ?_ ?_ ?_ ?_ ?_ ?_ ?_ ?_ ?_ ?_ ?_ ?_ ?_ ?_
    any_goals (first | exact True.intro | skip)
    all_goals (repeat (refine Wh.mk fun hcc => ?_))
    all_goals (first | rfl | (simp [tupOf, fixEs]; done))
  · rw [hok] at hI2
    rw [show decide (m % 2 = 1) = true by simp [ho]] at hr
    have hn := half_n m hm ho
    have hC1 := cx [] (hG)
    have hC2 := cx [] (hI)
    have hC3 := cx [] (hI2)
    have fy := And.intro hq (And.intro hr (hn))
    refine goK ?_ ?_ ?_ ?_ ?_ ?_ ?_ ?_ ?_ ?_ ?_ ?_ ?_ ?_ ?_ ?_
    any_goals (first | exact True.intro | skip)
    all_goals (repeat (refine Wh.mk fun hcc => ?_))
    all_goals (first | rfl | (simp [tupOf, fixEs]; done))
  · rw [hok] at hI2
    rw [show decide (m % 2 = 1) = false by simp [ho]] at hr
    have hn := unz_e m ho
    have hC1 := cx [] (hG)
    have hC2 := cx [] (hI)
    have hC3 := cx [] (hI2)
    have fy := And.intro hq (And.intro hr (hn))
    refine goK ?_ ?_ ?_ ?_ ?_ ?_ ?_ ?_ ?_ ?_ ?_ ?_ ?_ ?_ ?_ ?_
    any_goals (first | exact True.intro | skip)
    all_goals (repeat (refine Wh.mk fun hcc => ?_))
    all_goals (first | rfl | (simp [tupOf, fixEs]; done))
  · rw [hok] at hI2
    rw [show decide (m % 2 = 1) = true by simp [ho]] at hr
    have hn := half_n m hm ho
    have hC1 := cx [] (hG)
    have hC2 := cx [] (hI)
    have hC3 := cx [] (hI2)
    have fy := And.intro hq (And.intro hr (hn))
    refine goK ?_ ?_ ?_ ?_ ?_ ?_ ?_ ?_ ?_ ?_ ?_ ?_ ?_ ?_ ?_ ?_
    any_goals (first | exact True.intro | skip)
    all_goals (repeat (refine Wh.mk fun hcc => ?_))
    all_goals (first | rfl | (simp [tupOf, fixEs]; done))
  · rw [hok] at hI2
    rw [show decide (m % 2 = 1) = false by simp [ho]] at hr
    have hn := unz_e m ho
    have hC1 := cx [] (hG)
    have hC2 := cx [] (hI)
    have hC3 := cx [] (hI2)
    have fy := And.intro hq (And.intro hr (hn))
    refine goK ?_ ?_ ?_ ?_ ?_ ?_ ?_ ?_ ?_ ?_ ?_ ?_ ?_ ?_ ?_ ?_
    any_goals (first | exact True.intro | skip)
    all_goals (repeat (refine Wh.mk fun hcc => ?_))
    all_goals (first | rfl | (simp [tupOf, fixEs]; done))
end Q6

namespace Q6
open Go Go.Vm Go.Proofs
set_option maxHeartbeats 4000000
set_option synthInstance.maxSize 2000
set_option synthInstance.maxHeartbeats 400000
set_option maxRecDepth 10000
set_option linter.unusedSimpArgs false
set_option linter.unusedVariables false

open Go.By

theorem i64_and1 (a : Nat) (h : a < 2 ^ 63) : IntKind.i64.wrap ((BitVec.ofInt IntKind.i64.bits (a : Int) &&& BitVec.ofInt IntKind.i64.bits 1).toNat : Int) = ((a % 2 : Nat) : Int) := by
  have e : (BitVec.ofInt 64 (a : Int) &&& BitVec.ofInt 64 1).toNat = a % 2 := by
    rw [BitVec.toNat_and, show BitVec.ofInt 64 (1 : Int) = 1#64 from rfl, BitVec.ofInt_natCast, BitVec.toNat_ofNat, show (1#64).toNat = 2 ^ 1 - 1 from rfl, Nat.and_two_pow_sub_one_eq_mod]; omega
  rw [bits64, e, wrap64 _ (by omega) (by omega)]
theorem i64_shr1 (a : Nat) : ((a : Int)).fdiv (2 ^ (min (1 : Int).toNat IntKind.i64.bits)) = ((a / 2 : Nat) : Int) := by
  rw [bits64, show (min (1 : Int).toNat 64) = 1 from rfl, Int.fdiv_eq_ediv_of_nonneg _ (by decide)]; simp
theorem unz_s (m : Nat) (h : m < 2 ^ 42) (ho : m % 2 = 1) : IntKind.i64.wrap (IntKind.i64.wrap (0 - ((m / 2 : Nat) : Int)) - 1) = unz m := by
  unfold unz
  rw [if_pos ho, wrap64 (0 - _) (by omega) (by omega), wrap64 _ (by omega) (by omega)]; omega

theorem sGetInt_ok (l : List UInt8) (a : Nat) (hl : l.length ≤ 1048576) (ha : a ≤ l.length) : CallR Try.prog 153 [.sl .b (l.map Enc.b), .int .i64 (a : Nat)] [] (.tup [.int .i64 (getR l a).1, .int .i64 ((getR l a).2.1 : Nat), .bool (getR l a).2.2]) := by
  refine CallR.of_body (n := 74) (rs := [.tmp 4, .tmp 5, .tmp 6]) hY.ok Try.func153 rfl (by decide) rfl rfl rfl rfl (fun F => ?_)
  have fx := And.intro Y3 (And.intro Y4 (And.intro Y5 (And.intro Y24 (Y133))))
  have fy := Nat.add_zero
  refine goN ?_ ?_ ?_ ?_ ?_ ?_ ?_ ?_ ?_ ?_ ?_ ?_ ?_ ?_ ?_ ?_
  any_goals (first | exact True.intro | skip)
  skip
  refine SW.loop (fun x : Nat × Nat => ⟨[.sl .b (l.map Enc.b), .int .i64 (a : Nat), .undef, .undef, .undef, .undef, .undef, .int .i64 (x.2 : Nat), .int .i64 (x.1 : Nat), .undef, .undef, .undef, .undef, .undef, .undef, .undef, .undef, .undef, .undef, .undef, .undef, .undef, .undef, .undef, .undef, .undef, .undef, .undef, .undef, .undef, .undef, .undef, .undef, .undef, .undef, .undef, .undef, .undef, .undef, .undef, .undef, .undef, .undef, .undef, .undef, .undef, .undef, .undef, .undef, .undef, .undef, .undef, .undef, .undef, .undef, .undef, .undef, .undef, .undef, .undef, .undef, .undef, .undef, .undef, .undef, .undef, .undef, .undef, .undef, .undef, .undef, .undef, .undef, .undef], [[]]⟩)
    (fun N x => N = 6 - x.1 ∧ x.1 ≤ 6 ∧ a + x.1 ≤ l.length ∧ dec (l.drop (a + x.1)) x.1 x.2 = dec (l.drop a) 0 0 ∧ x.2 < 2 ^ (7 * x.1)) (n := 6) (x := (0, 0)) (Norm.to 0 rfl (by simp [weakL])) ⟨rfl, by decide, ha, rfl, by decide⟩ ?_
  rintro N ⟨k, m⟩ ⟨hN, hk6, hk, hg, hm⟩
  simp only at hN hk6 hk hg hm ⊢
  have hw0 : IntKind.i64.wrap ((a : Int) + (k : Int)) = ((a + k : Nat) : Int) := by rw [wrap64 _ (by omega) (by omega)]; omega
  have ha0 : decide ((a : Int) ≥ 0) = true := by simp
  have hk0 : decide ((k : Int) > 0) = decide (k ≠ 0) := by by_cases h : k = 0 <;> simp [h]; omega
  by_cases h6 : k < 6
  · have h6d : decide ((k : Int) < 6) = true := by simp; omega
    by_cases hlt : a + k < l.length
    · have hal : decide ((a : Int) < (l.length : Int)) = true := by simp; omega
      have hkl : decide (((a + k : Nat) : Int) < (l.length : Int)) = true := by simp; omega
      have hgb : (l.map Enc.b)[a + k]? = some (.int .u8 ((l[a + k]).toNat : Int)) := map_get Enc.b l _ hlt
      have hd : l.drop (a + k) = l[a + k] :: l.drop (a + (k + 1)) := List.drop_eq_getElem_cons hlt
      rw [hd, dec, if_neg (by omega)] at hg
      generalize hv : l[a + k] = v at *
      have hvl := v.toNat_lt
      have hbi := byte_i64 v
      have h127 := i64_and127 v.toNat (by omega)
      have hwk : IntKind.i64.wrap ((k : Int) + 1) = ((k + 1 : Nat) : Int) := by rw [wrap64 _ (by omega) (by omega)]; omega
      have hw1 : IntKind.i64.wrap (((a + k : Nat) : Int) + 1) = ((a + (k + 1) : Nat) : Int) := by rw [wrap64 _ (by omega) (by omega)]; omega
      have hw7 : IntKind.i64.wrap (7 * (k : Int)) = ((7 * k : Nat) : Int) := by rw [wrap64 _ (by omega) (by omega)]; simp
      have hu7 : IntKind.u64.wrap ((7 * k : Nat) : Int) = ((7 * k : Nat) : Int) := by simp [IntKind.wrap, IntKind.bits, IntKind.signed]; omega
      have h70 : (((7 * k : Nat) : Int) < 0) = False := by simp; omega
      have hgr := i64_grp m (v.toNat % 128) k hm (by omega) h6
      rw [hw7, Int.toNat_natCast] at hgr
      have hstep : m + v.toNat % 128 * 2 ^ (7 * k) < 2 ^ (7 * (k + 1)) := by
        have h1 : v.toNat % 128 * 2 ^ (7 * k) ≤ 127 * 2 ^ (7 * k) := Nat.mul_le_mul_right _ (by omega)
        rw [show 7 * (k + 1) = 7 * k + 7 by omega, Nat.pow_add]; omega
      have hM42 : m + v.toNat % 128 * 2 ^ (7 * k) < 2 ^ 42 := by
        have : 2 ^ (7 * (k + 1)) ≤ 2 ^ 42 := Nat.pow_le_pow_right (by decide) (by omega)
        omega
      generalize hMd : m + v.toNat % 128 * 2 ^ (7 * k) = M at *
      by_cases hhi : v.toNat > 127
      · have hhd : decide ((v.toNat : Int) > 127) = true := by simp; omega
        rw [if_pos hhi] at hg
        have fy := And.intro hw0 (And.intro ha0 (And.intro hk0 (And.intro h6d (And.intro hal (And.intro hkl (And.intro hgb (And.intro hbi (And.intro h127 (And.intro hwk (And.intro hw1 (And.intro hw7 (And.intro hu7 (And.intro h70 (And.intro hgr (hhd)))))))))))))))
        refine goR ?_ ?_ ?_ ?_ ?_ ?_ ?_ ?_ ?_ ?_ ?_ ?_ ?_ ?_ ?_ ?_
        any_goals (first | exact True.intro | skip)
        all_goals (repeat (refine Wh.mk fun hcc => ?_))
        refine ⟨N - 1, (k + 1, M), by omega, ⟨by simp only; omega, by simp only; omega, by simp only; omega, hg, hstep⟩, Norm.to 0 rfl (by simp [weakL])⟩
      · have hhd : decide ((v.toNat : Int) > 127) = false := by simp; omega
        rw [if_neg hhi] at hg
        have hsh := i64_shr1 M
        rw [Int.toNat_one] at hsh
        have hand := i64_and1 M (by omega)
        have hI2 := l1In_ok (unz M) (-1000000000000) 1000000000000
        rw [show (decide (unz M ≥ -1000000000000) && decide (unz M ≤ 1000000000000)) = okN (unz M) from rfl] at hI2
        have hRz : getR l a = if (decide (k ≠ 0) && decide (v.toNat = 0)) = true then (0, 0, false) else if okN (unz M) = true then (unz M, a + (k + 1), true) else (0, 0, false) := by
          unfold getR; rw [← hg]
          by_cases hz : v.toNat = 0 <;> by_cases hkz : k = 0 <;> simp [hz, hkz]
        rw [hRz]
        have hv0 : ((v.toNat : Int) == 0) = decide (v.toNat = 0) := by by_cases h : v.toNat = 0 <;> simp [h]
        have ho1 : (((M % 2 : Nat) : Int) == 1) = decide (M % 2 = 1) := by by_cases h : M % 2 = 1 <;> simp [h]; omega
        clear hRz hg
        cases hok : okN (unz M) <;> by_cases ho : M % 2 = 1 <;> by_cases hkz : k = 0 <;> by_cases hz : v.toNat = 0
        · rw [hok] at hI2
          rw [show decide (M % 2 = 1) = true by simp [ho]] at ho1
          rw [show decide (k ≠ 0) = false by simp [hkz]] at hk0
          rw [show decide (v.toNat = 0) = true by simp [hz]] at hv0
          have hn := unz_s M hM42 ho
          have hC1 := cx [] (hI2)
          have fy := And.intro hw0 (And.intro ha0 (And.intro hk0 (And.intro h6d (And.intro hal (And.intro hkl (And.intro hgb (And.intro hbi (And.intro h127 (And.intro hwk (And.intro hw1 (And.intro hw7 (And.intro hu7 (And.intro h70 (And.intro hgr (And.intro hhd (And.intro hsh (And.intro hand (And.intro hn (And.intro hv0 (ho1))))))))))))))))))))
          refine goK ?_ ?_ ?_ ?_ ?_ ?_ ?_ ?_ ?_ ?_ ?_ ?_ ?_ ?_ ?_ ?_
          any_goals (first | exact True.intro | skip)
          all_goals (repeat (refine Wh.mk fun hcc => ?_))
          all_goals (first | rfl | (simp [tupOf, fixEs, hkz, hz]; done))
        · rw [hok] at hI2
          rw [show decide (M % 2 = 1) = true by simp [ho]] at ho1
          rw [show decide (k ≠ 0) = false by simp [hkz]] at hk0
          rw [show decide (v.toNat = 0) = false by simp [hz]] at hv0
          have hn := unz_s M hM42 ho
          have hC1 := cx [] (hI2)
          have fy := And.intro hw0 (And.intro ha0 (And.intro hk0 (And.intro h6d (And.intro hal (And.intro hkl (And.intro hgb (And.intro hbi (And.intro h127 (And.intro hwk (And.intro hw1 (And.intro hw7 (And.intro hu7 (And.intro h70 (And.intro hgr (And.intro hhd (And.intro hsh (And.intro hand (And.intro hn (And.intro hv0 (ho1))))))))))))))))))))
          refine goK ?_ ?_ ?_ ?_ ?_ ?_ ?_ ?_ ?_ ?_ ?_ ?_ ?_ ?_ ?_ ?_
          any_goals (first | exact True.intro | skip)
          all_goals (repeat (refine Wh.mk fun hcc => ?_))
          all_goals (first | rfl | (simp [tupOf, fixEs, hkz, hz]; done))
        · rw [hok] at hI2
          rw [show decide (M % 2 = 1) = true by simp [ho]] at ho1
          rw [show decide (k ≠ 0) = true by simp [hkz]] at hk0
          rw [show decide (v.toNat = 0) = true by simp [hz]] at hv0
          have hn := unz_s M hM42 ho
          have hC1 := cx [] (hI2)
          have fy := And.intro hw0 (And.intro ha0 (And.intro hk0 (And.intro h6d (And.intro hal (And.intro hkl (And.intro hgb (And.intro hbi (And.intro h127 (And.intro hwk (And.intro hw1 (And.intro hw7 (And.intro hu7 (And.intro h70 (And.intro hgr (And.intro hhd (And.intro hsh (And.intro hand (And.intro hn (And.intro hv0 (ho1))))))))))))))))))))
          refine goK ?_ ?_ ?_ ?_ ?_ ?_ ?_ ?_ ?_ ?_ ?_ ?_ ?_ ?_ ?_ ?_
          any_goals (first | exact True.intro | skip)
          all_goals (repeat (refine Wh.mk fun hcc => ?_))
          all_goals (first | rfl | (simp [tupOf, fixEs, hkz, hz]; done))
        · rw [hok] at hI2
          rw [show decide (M % 2 = 1) = true by simp [ho]] at ho1
          rw [show decide (k ≠ 0) = true by simp [hkz]] at hk0
          rw [show decide (v.toNat = 0) = false by simp [hz]] at hv0
          have hn := unz_s M hM42 ho
          have hC1 := cx [] (hI2)
          have fy := And.intro hw0 (And.intro ha0 (And.intro hk0 (And.intro h6d (And.intro hal (And.intro hkl (And.intro hgb (And.intro hbi (And.intro h127 (And.intro hwk (And.intro hw1 (And.intro hw7 (And.intro hu7 (And.intro h70 (And.intro hgr (And.intro hhd (And.intro hsh (And.intro hand (And.intro hn (And.intro hv0 (ho1))))))))))))))))))))
          refine goK ?_ ?_ ?_ ?_ ?_ ?_ ?_ ?_ ?_ ?_ ?_ ?_ ?_ ?_ ?_ ?_
          any_goals (first | exact True.intro | skip)
          all_goals (repeat (refine Wh.mk fun hcc => ?_))
          all_goals (first | rfl | (simp [tupOf, fixEs, hkz, hz]; done))
        · rw [hok] at hI2
          rw [show decide (M % 2 = 1) = false by simp [ho]] at ho1
          rw [show decide (k ≠ 0) = false by simp [hkz]] at hk0
          rw [show decide (v.toNat = 0) = true by simp [hz]] at hv0
          have hn := unz_e M ho
          have hC1 := cx [] (hI2)
          have fy := And.intro hw0 (And.intro ha0 (And.intro hk0 (And.intro h6d (And.intro hal (And.intro hkl (And.intro hgb (And.intro hbi (And.intro h127 (And.intro hwk (And.intro hw1 (And.intro hw7 (And.intro hu7 (And.intro h70 (And.intro hgr (And.intro hhd (And.intro hsh (And.intro hand (And.intro hn (And.intro hv0 (ho1))))))))))))))))))))
          refine goK ?_ ?_ ?_ ?_ ?_ ?_ ?_ ?_ ?_ ?_ ?_ ?_ ?_ ?_ ?_ ?_
          any_goals (first | exact True.intro | skip)
          all_goals (repeat (refine Wh.mk fun hcc => ?_))
          all_goals (first | rfl | (simp [tupOf, fixEs, hkz, hz]; done))
        · rw [hok] at hI2
          rw [show decide (M % 2 = 1) = false by simp [ho]] at ho1
          rw [show decide (k ≠ 0) = false by simp [hkz]] at hk0
          rw [show decide (v.toNat = 0) = false by simp [hz]] at hv0
          have hn := unz_e M ho
          have hC1 := cx [] (hI2)
          have fy := And.intro hw0 (And.intro ha0 (And.intro hk0 (And.intro h6d (And.intro hal (And.intro hkl (And.intro hgb (And.intro hbi (And.intro h127 (And.intro hwk (And.intro hw1 (And.intro hw7 (And.intro hu7 (And.intro h70 (And.intro hgr (And.intro hhd (And.intro hsh (And.intro hand (And.intro hn (And.intro hv0 (ho1))))))))))))))))))))
          refine goK ?_ ?_ ?_ ?_ ?_ ?_ ?_ ?_ ?_ ?_ ?_ ?_ ?_ ?_ ?_ ?_
          any_goals (first | exact True.intro | skip)
          all_goals (repeat (refine Wh.mk fun hcc => ?_))
          all_goals (first | rfl | (simp [tupOf, fixEs, hkz, hz]; done))
        · rw [hok] at hI2
          rw [show decide (M % 2 = 1) = false by simp [ho]] at ho1
          rw [show decide (k ≠ 0) = true by simp [hkz]] at hk0
          rw [show decide (v.toNat = 0) = true by simp [hz]] at hv0
          have hn := unz_e M ho
          have hC1 := cx [] (hI2)
          have fy := And.intro hw0 (And.intro ha0 (And.intro hk0 (And.intro h6d (And.intro hal (And.intro hkl (And.intro hgb (And.intro hbi (And.intro h127 (And.intro hwk (And.intro hw1 (And.intro hw7 (And.intro hu7 (And.intro h70 (And.intro hgr (And.intro hhd (And.intro hsh (And.intro hand (And.intro hn (And.intro hv0 (ho1))))))))))))))))))))
          refine goK ?_ ?_ ?_ ?_ ?_ ?_ ?_ ?_ ?_ ?_ ?_ ?_ ?_ ?_ ?_ ?_
          any_goals (first | exact True.intro | skip)
          all_goals (repeat (refine Wh.mk fun hcc => ?_))
          all_goals (first | rfl | (simp [tupOf, fixEs, hkz, hz]; done))
        · rw [hok] at hI2
          rw [show decide (M % 2 = 1) = false by simp [ho]] at ho1
          rw [show decide (k ≠ 0) = true by simp [hkz]] at hk0
          rw [show decide (v.toNat = 0) = false by simp [hz]] at hv0
          have hn := unz_e M ho
          have hC1 := cx [] (hI2)
          have fy := And.intro hw0 (And.intro ha0 (And.intro hk0 (And.intro h6d (And.intro hal (And.intro hkl (And.intro hgb (And.intro hbi (And.intro h127 (And.intro hwk (And.intro hw1 (And.intro hw7 (And.intro hu7 (And.intro h70 (And.intro hgr (And.intro hhd (And.intro hsh (And.intro hand (And.intro hn (And.intro hv0 (ho1))))))))))))))))))))
          refine goK ?_ ?_ ?_ ?_ ?_ ?_ ?_ ?_ ?_ ?_ ?_ ?_ ?_ ?_ ?_ ?_
          any_goals (first | exact True.intro | skip)
          all_goals (repeat (refine Wh.mk fun hcc => ?_))
          all_goals (first | rfl | (simp [tupOf, fixEs, hkz, hz]; done))
        · rw [hok] at hI2
          rw [show decide (M % 2 = 1) = true by simp [ho]] at ho1
          rw [show decide (k ≠ 0) = false by simp [hkz]] at hk0
          rw [show decide (v.toNat = 0) = true by simp [hz]] at hv0
          have hn := unz_s M hM42 ho
          have hC1 := cx [] (hI2)
          have fy := And.intro hw0 (And.intro ha0 (And.intro hk0 (And.intro h6d (And.intro hal (And.intro hkl (And.intro hgb (And.intro hbi (And.intro h127 (And.intro hwk (And.intro hw1 (And.intro hw7 (And.intro hu7 (And.intro h70 (And.intro hgr (And.intro hhd (And.intro hsh (And.intro hand (And.intro hn (And.intro hv0 (ho1))))))))))))))))))))
          refine goK ?_ ?_ ?_ ?_ ?_ ?_ ?_ ?_ ?_ ?_ ?_ ?_ ?_ ?_ ?_ ?_
          any_goals (first | exact True.intro | skip)
          all_goals (repeat (refine Wh.mk fun hcc => ?_))
          all_goals (first | rfl | (simp [tupOf, fixEs, hkz, hz]; done))
        · rw [hok] at hI2
          rw [show decide (M % 2 = 1) = true by simp [ho]] at ho1
          rw [show decide (k ≠ 0) = false by simp [hkz]] at hk0
          rw [show decide (v.toNat = 0) = false by simp [hz]] at hv0
          have hn := unz_s M hM42 ho
          have hC1 := cx [] (hI2)
          have fy := And.intro hw0 (And.intro ha0 (And.intro hk0 (And.intro h6d (And.intro hal (And.intro hkl (And.intro hgb (And.intro hbi (And.intro h127 (And.intro hwk (And.intro hw1 (And.intro hw7 (And.intro hu7 (And.intro h70 (And.intro hgr (And.intro hhd (And.intro hsh (And.intro hand (And.intro hn (And.intro hv0 (ho1))))))))))))))))))))
          refine goK ?_ ?_ ?_ ?_ ?_ ?_ ?_ ?_ ?_ ?_ ?_ ?_ ?_ ?_ ?_ ?_
          any_goals (first | exact True.intro | skip)
          all_goals (repeat (refine Wh.mk fun hcc => ?_))
          all_goals (first | rfl | (simp [tupOf, fixEs, hkz, hz]; done))
        · rw [hok] at hI2
          rw [show decide (M % 2 = 1) = true by simp [ho]] at ho1
          rw [show decide (k ≠ 0) = true by simp [hkz]] at hk0
          rw [show decide (v.toNat = 0) = true by simp [hz]] at hv0
          have hn := unz_s M hM42 ho
          have hC1 := cx [] (hI2)
          have fy := And.intro hw0 (And.intro ha0 (And.intro hk0 (And.intro h6d (And.intro hal (And.intro hkl (And.intro hgb (And.intro hbi (And.intro h127 (And.intro hwk (And.intro hw1 (And.intro hw7 (And.intro hu7 (And.intro h70 (And.intro hgr (And.intro hhd (And.intro hsh (And.intro hand (And.intro hn (And.intro hv0 (ho1))))))))))))))))))))
          refine goK ?_ ?_ ?_ ?_ ?_ ?_ ?_ ?_ ?_ ?_ ?_ ?_ ?_ ?_ ?_ ?_
          any_goals (first | exact True.intro | skip)
          all_goals (repeat (refine Wh.mk fun hcc => ?_))
          all_goals (first | rfl | (simp [tupOf, fixEs, hkz, hz]; done))
        · rw [hok] at hI2
          rw [show decide (M % 2 = 1) = true by simp [ho]] at ho1
          rw [show decide (k ≠ 0) = true by simp [hkz]] at hk0
          rw [show decide (v.toNat = 0) = false by simp [hz]] at hv0
          have hn := unz_s M hM42 ho
          have hC1 := cx [] (hI2)
          have fy := And.intro hw0 (And.intro ha0 (And.intro hk0 (And.intro h6d (And.intro hal (And.intro hkl (And.intro hgb (And.intro hbi (And.intro h127 (And.intro hwk (And.intro hw1 (And.intro hw7 (And.intro hu7 (And.intro h70 (And.intro hgr (And.intro hhd (And.intro hsh (And.intro hand (And.intro hn (And.intro hv0 (ho1))))))))))))))))))))
          refine goK ?_ ?_ ?_ ?_ ?_ ?_ ?_ ?_ ?_ ?_ ?_ ?_ ?_ ?_ ?_ ?_
          any_goals (first | exact True.intro | skip)
          all_goals (repeat (refine Wh.mk fun hcc => ?_))
          all_goals (first | rfl | (simp [tupOf, fixEs, hkz, hz]; done))
        · rw [hok] at hI2
          rw [show decide (M % 2 = 1) = false by simp [ho]] at ho1
          rw [show decide (k ≠ 0) = false by simp [hkz]] at hk0
          rw [show decide (v.toNat = 0) = true by simp [hz]] at hv0
          have hn := unz_e M ho
          have hC1 := cx [] (hI2)
          have fy := And.intro hw0 (And.intro ha0 (And.intro hk0 (And.intro h6d (And.intro hal (And.intro hkl (And.intro hgb (And.intro hbi (And.intro h127 (And.intro hwk (And.intro hw1 (And.intro hw7 (And.intro hu7 (And.intro h70 (And.intro hgr (And.intro hhd (And.intro hsh (And.intro hand (And.intro hn (And.intro hv0 (ho1))))))))))))))))))))
          refine goK ?_ ?_ ?_ ?_ ?_ ?_ ?_ ?_ ?_ ?_ ?_ ?_ ?_ ?_ ?_ ?_
          any_goals (first | exact True.intro | skip)
          all_goals (repeat (refine Wh.mk fun hcc => ?_))
          all_goals (first | rfl | (simp [tupOf, fixEs, hkz, hz]; done))
        · rw [hok] at hI2
          rw [show decide (M % 2 = 1) = false by simp [ho]] at ho1
          rw [show decide (k ≠ 0) = false by simp [hkz]] at hk0
          rw [show decide (v.toNat = 0) = false by simp [hz]] at hv0
          have hn := unz_e M ho
          have hC1 := cx [] (hI2)
          have fy := And.intro hw0 (And.intro ha0 (And.intro hk0 (And.intro h6d (And.intro hal (And.intro hkl (And.intro hgb (And.intro hbi (And.intro h127 (And.intro hwk (And.intro hw1 (And.intro hw7 (And.intro hu7 (And.intro h70 (And.intro hgr (And.intro hhd (And.intro hsh (And.intro hand (And.intro hn (And.intro hv0 (ho1))))))))))))))))))))
          refine goK ?_ ?_ ?_ ?_ ?_ ?_ ?_ ?_ ?_ ?_ ?_ ?_ ?_ ?_ ?_ ?_
          any_goals (first | exact True.intro | skip)
          all_goals (repeat (refine Wh.mk fun hcc => ?_))
          all_goals (first | rfl | (simp [tupOf, fixEs, hkz, hz]; done))
        · rw [hok] at hI2
          rw [show decide (M % 2 = 1) = false by simp [ho]] at ho1
          rw [show decide (k ≠ 0) = true by simp [hkz]] at hk0
          rw [show decide (v.toNat = 0) = true by simp [hz]] at hv0
          have hn := unz_e M ho
          have hC1 := cx [] (hI2)
          have fy := And.intro hw0 (And.intro ha0 (And.intro hk0 (And.intro h6d (And.intro hal (And.intro hkl (And.intro hgb (And.intro hbi (And.intro h127 (And.intro hwk (And.intro hw1 (And.intro hw7 (And.intro hu7 (And.intro h70 (And.intro hgr (And.intro hhd (And.intro hsh (And.intro hand (And.intro hn (And.intro hv0 (ho1))))))))))))))))))))
          refine goK ?_ ?_ ?_ ?_ ?_ ?_ ?_ ?_ ?_ ?_ ?_ ?_ ?_ ?_ ?_ ?_
          any_goals (first | exact True.intro | skip)
          all_goals (repeat (refine Wh.mk fun hcc => ?_))
          all_goals (first | rfl | (simp [tupOf, fixEs, hkz, hz]; done))
        · rw [hok] at hI2
          rw [show decide (M % 2 = 1) = false by simp [ho]] at ho1
          rw [show decide (k ≠ 0) = true by simp [hkz]] at hk0
          rw [show decide (v.toNat = 0) = false by simp [hz]] at hv0
          have hn := unz_e M ho
          have hC1 := cx [] (hI2)
          have fy := And.intro hw0 (And.intro ha0 (And.intro hk0 (And.intro h6d (And.intro hal (And.intro hkl (And.intro hgb (And.intro hbi (And.intro h127 (And.intro hwk (And.intro hw1 (And.intro hw7 (And.intro hu7 (And.intro h70 (And.intro hgr (And.intro hhd (And.intro hsh (And.intro hand (And.intro hn (And.intro hv0 (ho1))))))))))))))))))))
          refine goK ?_ ?_ ?_ ?_ ?_ ?_ ?_ ?_ ?_ ?_ ?_ ?_ ?_ ?_ ?_ ?_
          any_goals (first | exact True.intro | skip)
          all_goals (repeat (refine Wh.mk fun hcc => ?_))
          all_goals (first | rfl | (simp [tupOf, fixEs, hkz, hz]; done))
    · have hge : a + k = l.length := by omega
      have hkl : decide (((a + k : Nat) : Int) < (l.length : Int)) = false := by simp; omega
      rw [hge, List.drop_length] at hg
      have hR : getR l a = (0, 0, false) := by unfold getR; rw [← hg]; rfl
      rw [hR]
      by_cases hz : a < l.length
      · have hal : decide ((a : Int) < (l.length : Int)) = true := by simp; omega
        have fy := And.intro hw0 (And.intro ha0 (And.intro h6d (And.intro hal (hkl))))
        refine goK ?_ ?_ ?_ ?_ ?_ ?_ ?_ ?_ ?_ ?_ ?_ ?_ ?_ ?_ ?_ ?_
        any_goals (first | exact True.intro | skip)
        all_goals (repeat (refine Wh.mk fun hcc => ?_))
        all_goals (first | rfl | (simp [tupOf, fixEs]; done))
      · have hal : decide ((a : Int) < (l.length : Int)) = false := by simp; omega
        have fy := And.intro hw0 (And.intro ha0 (And.intro h6d (And.intro hal (hkl))))
        refine goK ?_ ?_ ?_ ?_ ?_ ?_ ?_ ?_ ?_ ?_ ?_ ?_ ?_ ?_ ?_ ?_
        any_goals (first | exact True.intro | skip)
        all_goals (repeat (refine Wh.mk fun hcc => ?_))
        all_goals (first | rfl | (simp [tupOf, fixEs]; done))
  · have h6d : decide ((k : Int) < 6) = false := by simp; omega
    have hR : getR l a = (0, 0, false) := by
      unfold getR; rw [← hg]
      cases hdr : l.drop (a + k) with
      | nil => rfl
      | cons v r => rw [dec, if_pos (by omega)]
    rw [hR]
    have fy := And.intro hw0 (And.intro ha0 (h6d))
    refine goK ?_ ?_ ?_ ?_ ?_ ?_ ?_ ?_ ?_ ?_ ?_ ?_ ?_ ?_ ?_ ?_
    any_goals (first | exact True.intro | skip)
    all_goals (repeat (refine Wh.mk fun hcc => ?_))
    all_goals (first | rfl | (simp [tupOf, fixEs]; done))
end Q6

namespace Q6
open Go Go.Vm Go.Proofs
set_option maxHeartbeats 4000000
set_option synthInstance.maxSize 2000
set_option synthInstance.maxHeartbeats 400000
set_option maxRecDepth 10000
set_option linter.unusedSimpArgs false
set_option linter.unusedVariables false

open Go.By

/-- a reader: how far it is, and whether it is bad -/
abbrev RS := Nat × Bool
def oneR (l : List UInt8) (s : RS) : Int × RS := if (s.2 || !(getR l s.1).2.2) = true then (0, s.1, true) else ((getR l s.1).1, (getR l s.1).2.1, false)
theorem getR_le (l : List UInt8) (a : Nat) (ha : a ≤ l.length) : (getR l a).2.1 ≤ l.length := by
  rw [getR_pI l a ha]; split <;> simp <;> omega
theorem oneR_le (l : List UInt8) (s : RS) (ha : s.1 ≤ l.length) : (oneR l s).2.1 ≤ l.length := by
  unfold oneR; split
  · exact ha
  · exact getR_le l s.1 ha
theorem oneR_bad (l : List UInt8) (s : RS) (h : s.2 = true) : oneR l s = (0, s.1, true) := by unfold oneR; rw [h]; rfl

theorem one_ok (k : Nat) (l : List UInt8) (s : RS) (hl : l.length ≤ 1048576) (ha : s.1 ≤ l.length) : CallR Try.prog 85 [.io (.nd [.sl (gOf k) (l.map Enc.b), .int .i64 (s.1 : Nat), .bool s.2])] [.nd [.sl (gOf k) (l.map Enc.b), .int .i64 ((oneR l s).2.1 : Nat), .bool (oneR l s).2.2]] (.int .i64 (oneR l s).1) := by
  refine CallR.of_body (n := 35) (rs := [.tmp 2]) hY.ok Try.func85 rfl (by decide) rfl rfl rfl rfl (fun F => ?_)
  have fx := And.intro Y1 (And.intro Y2 (And.intro Y3 (And.intro Y4 (And.intro Y5 (And.intro Y24 (And.intro Y97 (Y99)))))))
  have hG := GetInt_ok l s.1 hl ha
  obtain ⟨a, bad⟩ := s
  have hR : oneR l (a, bad) = if (bad || !(getR l a).2.2) = true then (0, a, true) else ((getR l a).1, (getR l a).2.1, false) := rfl
  simp only at hG ha ⊢
  rw [hR]
  clear hR
  generalize (getR l a).1 = n at *
  generalize (getR l a).2.1 = e at *
  generalize (getR l a).2.2 = ok at *
  cases bad <;> cases ok
  · skip
    have hC1 := cx [] (hG)
    have fy := Nat.add_zero
    refine goR ?_ ?_ ?_ ?_ ?_ ?_ ?_ ?_ ?_ ?_ ?_ ?_ ?_ ?_ ?_ ?_
    any_goals (first | exact True.intro | skip)
    all_goals (repeat (refine Wh.mk fun hcc => ?_))
    exact SW.ret (show RetQ _ _ _ _ _ _ _ from RetQ.y [0] [.int .i64 0])
  · skip
    have hC1 := cx [] (hG)
    have fy := Nat.add_zero
    refine goR ?_ ?_ ?_ ?_ ?_ ?_ ?_ ?_ ?_ ?_ ?_ ?_ ?_ ?_ ?_ ?_
    any_goals (first | exact True.intro | skip)
    all_goals (repeat (refine Wh.mk fun hcc => ?_))
    exact SW.ret (show RetQ _ _ _ _ _ _ _ from RetQ.y [0] [.int .i64 n])
  · skip
    have hC1 := cx [] (hG)
    have fy := Nat.add_zero
    refine goR ?_ ?_ ?_ ?_ ?_ ?_ ?_ ?_ ?_ ?_ ?_ ?_ ?_ ?_ ?_ ?_
    any_goals (first | exact True.intro | skip)
    all_goals (repeat (refine Wh.mk fun hcc => ?_))
    exact SW.ret (show RetQ _ _ _ _ _ _ _ from RetQ.y [0] [.int .i64 0])
  · skip
    have hC1 := cx [] (hG)
    have fy := Nat.add_zero
    refine goR ?_ ?_ ?_ ?_ ?_ ?_ ?_ ?_ ?_ ?_ ?_ ?_ ?_ ?_ ?_ ?_
    any_goals (first | exact True.intro | skip)
    all_goals (repeat (refine Wh.mk fun hcc => ?_))
    exact SW.ret (show RetQ _ _ _ _ _ _ _ from RetQ.y [0] [.int .i64 0])
theorem next_ok (k : Nat) (l : List UInt8) (s : RS) (hl : l.length ≤ 1048576) (ha : s.1 ≤ l.length) : CallR Try.prog 104 [.io (.nd [.sl (gOf k) (l.map Enc.b), .int .i64 (s.1 : Nat), .bool s.2])] [.nd [.sl (gOf k) (l.map Enc.b), .int .i64 ((oneR l s).2.1 : Nat), .bool (oneR l s).2.2]] (.int .i64 (oneR l s).1) := by
  refine CallR.of_body (n := 35) (rs := [.tmp 2]) hY.ok Try.func104 rfl (by decide) rfl rfl rfl rfl (fun F => ?_)
  have fx := And.intro Y1 (And.intro Y2 (And.intro Y3 (And.intro Y4 (And.intro Y5 (And.intro Y24 (And.intro Y115 (Y117)))))))
  have hG := sGetInt_ok l s.1 hl ha
  obtain ⟨a, bad⟩ := s
  have hR : oneR l (a, bad) = if (bad || !(getR l a).2.2) = true then (0, a, true) else ((getR l a).1, (getR l a).2.1, false) := rfl
  simp only at hG ha ⊢
  rw [hR]
  clear hR
  generalize (getR l a).1 = n at *
  generalize (getR l a).2.1 = e at *
  generalize (getR l a).2.2 = ok at *
  cases bad <;> cases ok
  · skip
    have hC1 := cx [] (hG)
    have fy := Nat.add_zero
    refine goR ?_ ?_ ?_ ?_ ?_ ?_ ?_ ?_ ?_ ?_ ?_ ?_ ?_ ?_ ?_ ?_
    any_goals (first | exact True.intro | skip)
    all_goals (repeat (refine Wh.mk fun hcc => ?_))
    exact SW.ret (show RetQ _ _ _ _ _ _ _ from RetQ.y [0] [.int .i64 0])
  · skip
    have hC1 := cx [] (hG)
    have fy := Nat.add_zero
    refine goR ?_ ?_ ?_ ?_ ?_ ?_ ?_ ?_ ?_ ?_ ?_ ?_ ?_ ?_ ?_ ?_
    any_goals (first | exact True.intro | skip)
    all_goals (repeat (refine Wh.mk fun hcc => ?_))
    exact SW.ret (show RetQ _ _ _ _ _ _ _ from RetQ.y [0] [.int .i64 n])
  · skip
    have hC1 := cx [] (hG)
    have fy := Nat.add_zero
    refine goR ?_ ?_ ?_ ?_ ?_ ?_ ?_ ?_ ?_ ?_ ?_ ?_ ?_ ?_ ?_ ?_
    any_goals (first | exact True.intro | skip)
    all_goals (repeat (refine Wh.mk fun hcc => ?_))
    exact SW.ret (show RetQ _ _ _ _ _ _ _ from RetQ.y [0] [.int .i64 0])
  · skip
    have hC1 := cx [] (hG)
    have fy := Nat.add_zero
    refine goR ?_ ?_ ?_ ?_ ?_ ?_ ?_ ?_ ?_ ?_ ?_ ?_ ?_ ?_ ?_ ?_
    any_goals (first | exact True.intro | skip)
    all_goals (repeat (refine Wh.mk fun hcc => ?_))
    exact SW.ret (show RetQ _ _ _ _ _ _ _ from RetQ.y [0] [.int .i64 0])

def manyR (l : List UInt8) (most : Int) (s : RS) : Int × RS := if 0 ≤ (oneR l s).1 ∧ (oneR l s).1 ≤ most then oneR l s else (0, (oneR l s).2.1, true)
theorem manyR_le (l : List UInt8) (most : Int) (s : RS) (ha : s.1 ≤ l.length) : (manyR l most s).2.1 ≤ l.length := by
  unfold manyR; split <;> exact oneR_le l s ha
theorem manyR_rng (l : List UInt8) (most : Int) (hm : 0 ≤ most) (s : RS) : 0 ≤ (manyR l most s).1 ∧ (manyR l most s).1 ≤ most := by
  unfold manyR; split
  · assumption
  · exact ⟨Int.le_refl _, hm⟩
def intsL (l : List UInt8) : Nat → RS → List Int × RS
  | 0, s => ([], s)
  | n + 1, s => ((oneR l s).1 :: (intsL l n (oneR l s).2).1, (intsL l n (oneR l s).2).2)
theorem intsL_len (l : List UInt8) : ∀ (n : Nat) (s : RS), (intsL l n s).1.length = n
  | 0, s => rfl
  | n + 1, s => by simp [intsL, intsL_len l n]
theorem intsL_le (l : List UInt8) : ∀ (n : Nat) (s : RS), s.1 ≤ l.length → (intsL l n s).2.1 ≤ l.length
  | 0, s, h => h
  | n + 1, s, h => intsL_le l n _ (oneR_le l s h)
def intsR (l : List UInt8) (most : Int) (s : RS) : List Int × RS := intsL l (manyR l most s).1.toNat (manyR l most s).2

theorem many_ok (k : Nat) (l : List UInt8) (s : RS) (most : Int) (hl : l.length ≤ 1048576) (ha : s.1 ≤ l.length) : CallR Try.prog 87 [.io (.nd [.sl (gOf k) (l.map Enc.b), .int .i64 (s.1 : Nat), .bool s.2]), .int .i64 most] [.nd [.sl (gOf k) (l.map Enc.b), .int .i64 ((manyR l most s).2.1 : Nat), .bool (manyR l most s).2.2]] (.int .i64 (manyR l most s).1) := by
  refine CallR.of_body (n := 16) (rs := [.tmp 4]) hY.ok Try.func87 rfl (by decide) rfl rfl rfl rfl (fun F => ?_)
  have fx := And.intro Y2 (And.intro Y3 (And.intro Y4 (And.intro Y5 (And.intro Y24 (And.intro Y97 (Y99))))))
  have hO := one_ok (upk k) l s hl ha
  have hI := in_ok (oneR l s).1 0 most
  by_cases hr : 0 ≤ (oneR l s).1 ∧ (oneR l s).1 ≤ most
  · have hM : manyR l most s = oneR l s := by unfold manyR; rw [if_pos hr]
    rw [hM]
    rw [show (decide ((oneR l s).1 ≥ 0) && decide ((oneR l s).1 ≤ most)) = true by simp [hr]] at hI
    generalize oneR l s = x at *
    have hC1 := cx [.io] (hO)
    have hC2 := cx [] (hI)
    have fy := Nat.add_zero
    refine goR ?_ ?_ ?_ ?_ ?_ ?_ ?_ ?_ ?_ ?_ ?_ ?_ ?_ ?_ ?_ ?_
    any_goals (first | exact True.intro | skip)
    all_goals (repeat (refine Wh.mk fun hcc => ?_))
    exact SW.ret (show RetQ _ _ _ _ _ _ _ from RetQ.y [0] [.int .i64 x.1])
  · have hM : manyR l most s = (0, (oneR l s).2.1, true) := by unfold manyR; rw [if_neg hr]
    rw [hM]
    rw [show (decide ((oneR l s).1 ≥ 0) && decide ((oneR l s).1 ≤ most)) = false by simp only [ge_iff_le, ← Bool.decide_and]; simpa using hr] at hI
    generalize oneR l s = x at *
    have hC1 := cx [.io] (hO)
    have hC2 := cx [] (hI)
    have fy := Nat.add_zero
    refine goR ?_ ?_ ?_ ?_ ?_ ?_ ?_ ?_ ?_ ?_ ?_ ?_ ?_ ?_ ?_ ?_
    any_goals (first | exact True.intro | skip)
    all_goals (repeat (refine Wh.mk fun hcc => ?_))
    exact SW.ret (show RetQ _ _ _ _ _ _ _ from RetQ.y [0] [.int .i64 0])
theorem one_b (l : List UInt8) (s : RS) (hl : l.length ≤ 1048576) (ha : s.1 ≤ l.length) : CallR Try.prog 85 [.io (.nd [.sl (.r 0) (l.map Enc.b), .int .i64 (s.1 : Nat), .bool s.2])] [.nd [.sl (.r 0) (l.map Enc.b), .int .i64 ((oneR l s).2.1 : Nat), .bool (oneR l s).2.2]] (.int .i64 (oneR l s).1) := one_ok 1 l s hl ha
theorem one_s (l : List UInt8) (s : RS) (hl : l.length ≤ 1048576) (ha : s.1 ≤ l.length) : CallR Try.prog 85 [.io (.nd [.sl .s (l.map Enc.b), .int .i64 (s.1 : Nat), .bool s.2])] [.nd [.sl .s (l.map Enc.b), .int .i64 ((oneR l s).2.1 : Nat), .bool (oneR l s).2.2]] (.int .i64 (oneR l s).1) := one_ok 0 l s hl ha
theorem next_b (l : List UInt8) (s : RS) (hl : l.length ≤ 1048576) (ha : s.1 ≤ l.length) : CallR Try.prog 104 [.io (.nd [.sl (.r 0) (l.map Enc.b), .int .i64 (s.1 : Nat), .bool s.2])] [.nd [.sl (.r 0) (l.map Enc.b), .int .i64 ((oneR l s).2.1 : Nat), .bool (oneR l s).2.2]] (.int .i64 (oneR l s).1) := next_ok 1 l s hl ha
theorem next_s (l : List UInt8) (s : RS) (hl : l.length ≤ 1048576) (ha : s.1 ≤ l.length) : CallR Try.prog 104 [.io (.nd [.sl .s (l.map Enc.b), .int .i64 (s.1 : Nat), .bool s.2])] [.nd [.sl .s (l.map Enc.b), .int .i64 ((oneR l s).2.1 : Nat), .bool (oneR l s).2.2]] (.int .i64 (oneR l s).1) := next_ok 0 l s hl ha
theorem many_b (l : List UInt8) (s : RS) (most : Int) (hl : l.length ≤ 1048576) (ha : s.1 ≤ l.length) : CallR Try.prog 87 [.io (.nd [.sl (.r 0) (l.map Enc.b), .int .i64 (s.1 : Nat), .bool s.2]), .int .i64 most] [.nd [.sl (.r 0) (l.map Enc.b), .int .i64 ((manyR l most s).2.1 : Nat), .bool (manyR l most s).2.2]] (.int .i64 (manyR l most s).1) := many_ok 1 l s most hl ha
theorem many_s (l : List UInt8) (s : RS) (most : Int) (hl : l.length ≤ 1048576) (ha : s.1 ≤ l.length) : CallR Try.prog 87 [.io (.nd [.sl .s (l.map Enc.b), .int .i64 (s.1 : Nat), .bool s.2]), .int .i64 most] [.nd [.sl .s (l.map Enc.b), .int .i64 ((manyR l most s).2.1 : Nat), .bool (manyR l most s).2.2]] (.int .i64 (manyR l most s).1) := many_ok 0 l s most hl ha
end Q6
