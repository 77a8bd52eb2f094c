/- A drawn page that is right comes back of its bytes, and a slot that is set is there while the others stay as they were: the law laws.FnPages answers true whatever bytes it is given; no conditions. -/
import Derived.Test.YtalhmcbkmpggiaaPagesP6
import Derived.Test.YtalhmcbkmpggiaaPagesP3
import Derived.Test.YtalhmcbkmpggiaaPagesP1
import Derived.Test.YtalhmcbkmpggiaaPagesP4
import Derived.Test.YtalhmcbkmpggiaaPagesP5
import Derived.Test.YtalhmcbkmpggiaaVm5
import Derived.Test.YtalhmcbkmpggiaaRows
import Derived.ProofKit
set_option linter.all false

namespace Q6
open Go Go.Vm Go.By
set_option linter.unusedSimpArgs false

/-! ### records: the plain law of reading -/
theorem gobI_true {l : List UInt8} (h : (gobI l).2 = true) : putObj (gobI l).1 = l ∧ objB (gobI l).1 = true := by
  rw [gob_eq] at h ⊢
  unfold gobS at h ⊢
  simp only at h ⊢
  split at h
  · rename_i hc
    rw [if_pos hc]
    simp only [Bool.and_eq_true, decide_eq_true_eq] at hc
    exact ⟨hc.2, hc.1.2⟩
  · cases h
theorem manyR_good {l : List UInt8} {most : Int} {s : RS} (h : (manyR l most s).2.2 = false) : manyR l most s = oneR l s ∧ 0 ≤ (oneR l s).1 ∧ (oneR l s).1 ≤ most := by
  unfold manyR at h ⊢
  split at h
  · rename_i hr; rw [if_pos hr]; exact ⟨rfl, hr⟩
  · cases h
theorem manyR_one {l : List UInt8} {most : Int} {s : RS} (h : 0 ≤ (oneR l s).1 ∧ (oneR l s).1 ≤ most) : manyR l most s = oneR l s := by unfold manyR; rw [if_pos h]
theorem slotI_good {l : List UInt8} {s : RS} (ha : s.1 ≤ l.length) (h : (slotI l s).2.2 = false) :
    s.2 = false ∧ slotS l s = slotI l s ∧ l.drop s.1 = putSl (slotI l s).1 ++ l.drop (slotI l s).2.1 := by
  have hg := @oneR_good l s ha
  have hle := oneR_le l s ha
  have hS : slotS l s = slotS l s := rfl
  conv at hS => rhs; unfold slotS
  simp only at hS
  unfold slotI at h ⊢
  simp only at h ⊢
  split at h
  · rename_i h1
    have hb : (manyR l l.length s).2.2 = false := h
    obtain ⟨e, h2, h3⟩ := manyR_good hb
    rw [if_pos h1]
    rw [e] at h1 hb ⊢
    obtain ⟨g1, g2, g3⟩ := hg hb
    have h0 : (oneR l s).1 = 0 := by rw [hb] at h1; simpa using h1
    refine ⟨g1, ?_, ?_⟩
    · rw [hS, if_pos h1]
    · rw [g3, h0]; rfl
  · rename_i h1
    split at h
    · cases h
    · rename_i h2
      split at h
      · rename_i h3
        have hb : (manyR l l.length s).2.2 = false := by
          cases hx : (manyR l l.length s).2.2 with
          | false => rfl
          | true => rw [hx] at h1; simp at h1
        obtain ⟨e, h4, h5⟩ := manyR_good hb
        rw [if_neg h1, if_neg h2, if_pos h3]
        rw [e] at h1 h2 h3 hb ⊢
        obtain ⟨g1, g2, g3⟩ := hg hb
        generalize oneR l s = a at *
        obtain ⟨n, at', bad⟩ := a
        simp only at *
        obtain ⟨N, rfl⟩ : ∃ N : Nat, n = (N : Int) := ⟨n.toNat, by omega⟩
        rw [Int.toNat_natCast] at h3 ⊢
        obtain ⟨k1, k2⟩ := gobI_true h3
        have hlen : ((l.drop at').take N).length = N := by rw [List.length_take, List.length_drop]; omega
        refine ⟨g1, ?_, ?_⟩
        · rw [hS, if_neg h1, if_neg (by simp only [Bool.or_eq_true, decide_eq_true_eq, not_or]; omega), Int.toNat_natCast, ← gob_eq, h3]; rfl
        · rw [g3]
          unfold putSl
          simp only [if_true]
          rw [k1, hlen, List.append_assoc]
          congr 1
          conv => lhs; rw [← List.take_append_drop N (l.drop at')]
          rw [List.drop_drop]
      · cases h
theorem slotI_bad {l : List UInt8} {s : RS} (h : s.2 = true) : (slotI l s).2.2 = true := by
  have hm : manyR l l.length s = (0, s.1, true) := by unfold manyR; rw [oneR_bad l s h]; simp
  unfold slotI; simp only; rw [hm]; simp
theorem slotS_bad {l : List UInt8} {s : RS} (h : s.2 = true) : (slotS l s).2.2 = true := by
  unfold slotS; simp only; rw [oneR_bad l s h]; simp
theorem slotS_good {l : List UInt8} {s : RS} (ha : s.1 ≤ l.length) (h : (slotS l s).2.2 = false) : slotI l s = slotS l s := by
  have hle := oneR_le l s ha
  have hI : slotI l s = slotI l s := rfl
  conv at hI => rhs; unfold slotI
  simp only at hI
  unfold slotS at h ⊢
  simp only at h ⊢
  split at h
  · rename_i h1
    have hb : (oneR l s).2.2 = false := h
    have h0 : (oneR l s).1 = 0 := by rw [hb] at h1; simpa using h1
    have e : manyR l l.length s = oneR l s := manyR_one ⟨by omega, by omega⟩
    rw [hI, e, if_pos h1, if_pos h1]
  · rename_i h1
    split at h
    · cases h
    · rename_i h2
      simp only [Bool.or_eq_true, decide_eq_true_eq, not_or] at h2
      have hgb : (gobS ((l.drop (oneR l s).2.1).take (oneR l s).1.toNat)).2 = true := by simpa using h
      have e : manyR l l.length s = oneR l s := manyR_one ⟨by omega, by omega⟩
      have h2' : ¬ (decide ((oneR l s).1 < 0) || decide ((oneR l s).1 > (l.length : Int) - ((oneR l s).2.1 : Nat))) = true := by
        simp only [Bool.or_eq_true, decide_eq_true_eq, not_or]; exact h2
      rw [hI, e, if_neg h1, if_neg h2.2, gob_eq, if_pos hgb, if_neg h1, if_neg h2', hgb]
      rfl
theorem flagN_of {c : Int} (h0 : 0 ≤ c) (h1 : c ≤ 1) : flagN (decide (c = 1)) = c := by
  unfold flagN
  by_cases h : c = 1
  · simp [h]
  · have : c = 0 := by omega
    simp [this]
theorem liveI_good {l : List UInt8} {s : RS} (ha : s.1 ≤ l.length) (h : (liveI l s).2.2 = false) :
    s.2 = false ∧ liveS l s = liveI l s ∧ l.drop s.1 = putLv (liveI l s).1 ++ l.drop (liveI l s).2.1 := by
  have hL : liveI l s = (((oneR l s).1, (oneR l (oneR l s).2).1, decide ((manyR l 1 (oneR l (oneR l s).2).2).1 = 1), ()), (manyR l 1 (oneR l (oneR l s).2).2).2) := rfl
  have hS : liveS l s = (((oneR l s).1, (oneR l (oneR l s).2).1, decide ((oneR l (oneR l (oneR l s).2).2).1 = 1), ()), (oneR l (oneR l (oneR l s).2).2).2) := rfl
  have e1 := oneR_le l s ha
  have e2 := oneR_le l (oneR l s).2 e1
  have g1 := @oneR_good l s ha
  have g2 := @oneR_good l (oneR l s).2 e1
  have g3 := @oneR_good l (oneR l (oneR l s).2).2 e2
  rw [hL] at h ⊢
  simp only at h
  obtain ⟨m1, m2, m3⟩ := manyR_good h
  rw [m1] at h ⊢
  obtain ⟨c1, c2, c3⟩ := g3 h
  obtain ⟨b1, b2, b3⟩ := g2 c1
  obtain ⟨a1, a2, a3⟩ := g1 b1
  refine ⟨a1, hS, ?_⟩
  rw [a3, b3, c3]
  unfold putLv
  simp only
  rw [flagN_of m2 m3]
  simp only [List.append_assoc]
theorem livesI_good {l : List UInt8} : ∀ (n : Nat) {s : RS}, s.1 ≤ l.length → (livesI l n s).2.2 = false →
    s.2 = false ∧ livesS l n s = livesI l n s ∧ l.drop s.1 = (livesI l n s).1.flatMap putLv ++ l.drop (livesI l n s).2.1
  | 0, s, ha, h => ⟨h, rfl, rfl⟩
  | n + 1, s, ha, h => by
    simp only [livesI] at h ⊢
    obtain ⟨h1, h2, h3⟩ := livesI_good n (liveI_le l s ha) h
    obtain ⟨g1, g2, g3⟩ := liveI_good ha h1
    refine ⟨g1, ?_, ?_⟩
    · unfold livesS; rw [if_neg (by rw [g1]; simp), g2, h2]
    · rw [g3, h3]; simp only [List.flatMap_cons, List.append_assoc]
theorem livesS_start {l : List UInt8} : ∀ (n : Nat) {s : RS}, (livesS l n s).2.2 = false → s.2 = false
  | 0, s, h => h
  | n + 1, s, h => by
    cases hs : s.2 with
    | false => rfl
    | true => rw [livesS_bad l _ s hs] at h; rw [hs] at h; exact h
theorem put_inj {a b : Int} {x y : List UInt8} (ha : okN a = true) (hb : okN b = true) (h : putI a ++ x = putI b ++ y) : a = b ∧ x = y := by
  have h1 := pI_put a ha x
  rw [h, pI_put b hb y] at h1
  simp only [Option.some.injEq, Prod.mk.injEq] at h1
  exact ⟨h1.1.symm, h1.2.symm⟩
theorem okN_small {n : Int} (h0 : 0 ≤ n) (h1 : n ≤ 1000) : okN n = true := okN_iff.2 ⟨by unfold M12; omega, by unfold M12; omega⟩
theorem flagN_rng (b : Bool) : 0 ≤ flagN b ∧ flagN b ≤ 1 := by cases b <;> simp [flagN]
theorem livesS_good {l : List UInt8} : ∀ (n : Nat) {s : RS} {r : List UInt8}, s.1 ≤ l.length → (livesS l n s).2.2 = false → l.drop s.1 = (livesS l n s).1.flatMap putLv ++ r → livesI l n s = livesS l n s
  | 0, s, r, ha, h, hd => rfl
  | n + 1, s, r, ha, h, hd => by
    have hs := livesS_start _ h
    have hn : ¬ s.2 = true := by rw [hs]; simp
    have hS : liveS l s = (((oneR l s).1, (oneR l (oneR l s).2).1, decide ((oneR l (oneR l (oneR l s).2).2).1 = 1), ()), (oneR l (oneR l (oneR l s).2).2).2) := rfl
    have hL : liveI l s = (((oneR l s).1, (oneR l (oneR l s).2).1, decide ((manyR l 1 (oneR l (oneR l s).2).2).1 = 1), ()), (manyR l 1 (oneR l (oneR l s).2).2).2) := rfl
    have e1 := oneR_le l s ha
    have e2 := oneR_le l (oneR l s).2 e1
    have e3 := oneR_le l (oneR l (oneR l s).2).2 e2
    have g1 := @oneR_good l s ha
    have g2 := @oneR_good l (oneR l s).2 e1
    have g3 := @oneR_good l (oneR l (oneR l s).2).2 e2
    unfold livesS at h hd ⊢
    rw [if_neg hn] at h hd ⊢
    simp only at h hd ⊢
    have hb := livesS_start n h
    rw [hS] at hb
    obtain ⟨c1, c2, c3⟩ := g3 hb
    obtain ⟨b1, b2, b3⟩ := g2 c1
    obtain ⟨a1, a2, a3⟩ := g1 b1
    rw [List.flatMap_cons, List.append_assoc] at hd
    have hq : (liveS l s).1 = ((oneR l s).1, (oneR l (oneR l s).2).1, decide ((oneR l (oneR l (oneR l s).2).2).1 = 1), ()) := rfl
    rw [hq] at hd
    have hput : ∀ (a b : Int) (c : Bool), putLv (a, b, c, ()) = putI a ++ putI b ++ putI (flagN c) := fun _ _ _ => rfl
    rw [hput] at hd
    simp only [List.append_assoc] at hd
    rw [a3] at hd
    have d1 := (put_inj a2 a2 hd).2
    rw [b3] at d1
    have d2 := (put_inj b2 b2 d1).2
    rw [c3] at d2
    have hf := flagN_rng (decide ((oneR l (oneR l (oneR l s).2).2).1 = 1))
    obtain ⟨d3, d4⟩ := put_inj c2 (okN_small hf.1 (by omega)) d2
    have hm : manyR l 1 (oneR l (oneR l s).2).2 = oneR l (oneR l (oneR l s).2).2 := manyR_one ⟨by rw [d3]; exact hf.1, by rw [d3]; exact hf.2⟩
    have hLS : liveI l s = liveS l s := by rw [hL, hS, hm]
    have ih := livesS_good n (s := (liveS l s).2) e3 h d4
    simp only [livesI]
    rw [hLS, ih]

theorem okN_txs {x : RecT} (h : recB x = true) : okN (x.2.2.2.2.2.2.2.2.1.length : Int) = true := okN_small (Int.natCast_nonneg _) (by have := recB_txs h; omega)
theorem grec_eq (l : List UInt8) : grecI l = grecS l := by
  unfold grecI grecS
  simp only
  have g1 := @oneR_good l (0, false) (Nat.zero_le _)
  have e1 := oneR_le l (0, false) (Nat.zero_le _)
  generalize oneR l (0, false) = a1 at *
  have g2 := @oneR_good l a1.2 e1
  have e2 := oneR_le l a1.2 e1
  generalize oneR l a1.2 = a2 at *
  have g3 := @oneR_good l a2.2 e2
  have e3 := oneR_le l a2.2 e2
  generalize oneR l a2.2 = a3 at *
  have g4 := @oneR_good l a3.2 e3
  have e4 := oneR_le l a3.2 e3
  generalize oneR l a3.2 = a4 at *
  have g5 := @oneR_good l a4.2 e4
  have e5 := oneR_le l a4.2 e4
  generalize oneR l a4.2 = a5 at *
  have g6 := @oneR_good l a5.2 e5
  have e6 := oneR_le l a5.2 e5
  generalize oneR l a5.2 = a6 at *
  have hsix : a6.2.2 = false → l = putI a1.1 ++ (putI a2.1 ++ (putI a3.1 ++ (putI a4.1 ++ (putI a5.1 ++ (putI a6.1 ++ l.drop a6.2.1))))) := fun h => by
    obtain ⟨h6, _, d6⟩ := g6 h
    obtain ⟨h5, _, d5⟩ := g5 h6
    obtain ⟨h4, _, d4⟩ := g4 h5
    obtain ⟨h3, _, d3⟩ := g3 h4
    obtain ⟨h2, _, d2⟩ := g2 h3
    obtain ⟨_, _, d1⟩ := g1 h2
    rw [← d6, ← d5, ← d4, ← d3, ← d2, ← d1, List.drop_zero]
  have f7 := slotI_le l a6.2 e6
  have f8 := slotI_le l (slotI l a6.2).2 f7
  have f9 := manyR_le l 20 (slotI l (slotI l a6.2).2).2 f8
  cases hT : (livesI l (manyR l 20 (slotI l (slotI l a6.2).2).2).1.toNat (manyR l 20 (slotI l (slotI l a6.2).2).2).2).2.2 with
  | false =>
    obtain ⟨t1, t2, t3⟩ := livesI_good _ f9 hT
    have f10 := livesI_le l (manyR l 20 (slotI l (slotI l a6.2).2).2).1.toNat (manyR l 20 (slotI l (slotI l a6.2).2).2).2 f9
    obtain ⟨m1, m2, m3⟩ := manyR_good t1
    rw [m1] at t1 t2 t3 hT f10 ⊢
    obtain ⟨k1, k2, k3⟩ := oneR_good f8 t1
    obtain ⟨s1, s2, s3⟩ := slotI_good f7 k1
    obtain ⟨u1, u2, u3⟩ := slotI_good e6 s1
    have hl := hsix u1
    rw [u2, s2, show min (oneR l (slotI l (slotI l a6.2).2).2).1.toNat 30 = (oneR l (slotI l (slotI l a6.2).2).2).1.toNat by omega, t2]
    have hlen := livesI_len l (oneR l (slotI l (slotI l a6.2).2).2).1.toNat (oneR l (slotI l (slotI l a6.2).2).2).2
    rw [u3, s3, k3, t3] at hl
    clear t2 t3 m1 k3 s2 s3 u2 u3
    generalize livesI l (oneR l (slotI l (slotI l a6.2).2).2).1.toNat (oneR l (slotI l (slotI l a6.2).2).2).2 = T at *
    have hN : (oneR l (slotI l (slotI l a6.2).2).2).1 = (T.1.length : Int) := by rw [hlen]; omega
    rw [hN] at hl
    clear hN hlen k2 m2 m3
    unfold grecK grecKS
    rw [hT]
    have hp : decide (putRec (a1.1, a2.1, a3.1, a4.1, a5.1, (slotI l a6.2).1, (slotI l (slotI l a6.2).2).1, a6.1, T.1, ()) = l) = decide (T.2.1 = l.length) := by
      have hl2 : l = putRec (a1.1, a2.1, a3.1, a4.1, a5.1, (slotI l a6.2).1, (slotI l (slotI l a6.2).2).1, a6.1, T.1, ()) ++ l.drop T.2.1 := by
        refine hl.trans ?_
        unfold putRec recNs
        simp only [List.flatMap_cons, List.flatMap_nil, List.append_nil, List.append_assoc]
      generalize putRec _ = p at hl2 ⊢
      generalize T.2.1 = a at *
      have hlen := congrArg List.length hl2
      rw [List.length_append, List.length_drop] at hlen
      by_cases h : a = l.length
      · subst h
        rw [List.drop_length, List.append_nil] at hl2
        simp [hl2]
      · have : ¬ p = l := by
          intro e; rw [e] at hlen; omega
        simp [h, this]
    rw [hp]
    simp only [Bool.not_false, Bool.true_and]
    rw [Bool.and_comm]
  | true =>
    have f7' := slotS_le l a6.2 e6
    have f8' := slotS_le l (slotS l a6.2).2 f7'
    have f9' := oneR_le l (slotS l (slotS l a6.2).2).2 f8'
    unfold grecK grecKS
    rw [hT]
    simp only [Bool.not_true, Bool.false_and]
    have key : (!(livesS l (min (oneR l (slotS l (slotS l a6.2).2).2).1.toNat 30) (oneR l (slotS l (slotS l a6.2).2).2).2).2.2 &&
        (recB (a1.1, a2.1, a3.1, a4.1, a5.1, (slotS l a6.2).1, (slotS l (slotS l a6.2).2).1, a6.1, (livesS l (min (oneR l (slotS l (slotS l a6.2).2).2).1.toNat 30) (oneR l (slotS l (slotS l a6.2).2).2).2).1, ()) &&
        decide (putRec (a1.1, a2.1, a3.1, a4.1, a5.1, (slotS l a6.2).1, (slotS l (slotS l a6.2).2).1, a6.1, (livesS l (min (oneR l (slotS l (slotS l a6.2).2).2).1.toNat 30) (oneR l (slotS l (slotS l a6.2).2).2).2).1, ()) = l))) = false := by
      cases hx : (!(livesS l (min (oneR l (slotS l (slotS l a6.2).2).2).1.toNat 30) (oneR l (slotS l (slotS l a6.2).2).2).2).2.2 &&
        (recB (a1.1, a2.1, a3.1, a4.1, a5.1, (slotS l a6.2).1, (slotS l (slotS l a6.2).2).1, a6.1, (livesS l (min (oneR l (slotS l (slotS l a6.2).2).2).1.toNat 30) (oneR l (slotS l (slotS l a6.2).2).2).2).1, ()) &&
        decide (putRec (a1.1, a2.1, a3.1, a4.1, a5.1, (slotS l a6.2).1, (slotS l (slotS l a6.2).2).1, a6.1, (livesS l (min (oneR l (slotS l (slotS l a6.2).2).2).1.toNat 30) (oneR l (slotS l (slotS l a6.2).2).2).2).1, ()) = l))) with
      | false => rfl
      | true =>
        exfalso
        simp only [Bool.and_eq_true, Bool.not_eq_true', decide_eq_true_eq] at hx
        obtain ⟨q1, q2, q3⟩ := hx
        have p1 := livesS_start _ q1
        obtain ⟨k1, k2, k3⟩ := oneR_good f8' p1
        have w2 := slotS_good f7' k1
        obtain ⟨z1, _, z3⟩ := slotI_good f7' (by rw [w2]; exact k1)
        have w1 := slotS_good e6 z1
        obtain ⟨y1, _, y3⟩ := slotI_good e6 (by rw [w1]; exact z1)
        have hl := hsix y1
        rw [w1] at y3
        rw [w2] at z3
        rw [y3, z3, k3] at hl
        have q4 := q3.trans hl
        unfold putRec recNs at q4
        simp only [List.flatMap_cons, List.flatMap_nil, List.append_nil, List.append_assoc, List.append_cancel_left_eq] at q4
        obtain ⟨d1, d2⟩ := put_inj (okN_txs q2) k2 q4
        have h20 := recB_txs q2
        simp only at d1 h20
        have hm20 : manyR l 20 (slotS l (slotS l a6.2).2).2 = oneR l (slotS l (slotS l a6.2).2).2 := manyR_one ⟨by omega, by omega⟩
        rw [w1, w2, hm20] at hT
        have hmin : min (oneR l (slotS l (slotS l a6.2).2).2).1.toNat 30 = (oneR l (slotS l (slotS l a6.2).2).2).1.toNat := by omega
        rw [hmin] at q1 d2
        rw [livesS_good _ (r := []) f9' q1 (by rw [← d2, List.append_nil])] at hT
        rw [q1] at hT; cases hT
    rw [key]
    rfl
end Q6

namespace Q6
open Go Go.Vm Go.By
set_option linter.unusedSimpArgs false

/-! ### frames: the plain law -/
theorem grpR_ends (l : List UInt8) (a : Nat) (h : (grpR l a).2.2.2 = true) : (getR l a).2.2 = false := by
  unfold grpR at h
  simp only at h
  have h1 := grp_endsF _ _ _ _ h
  have h2 := grp_dec (l.drop a) 0 0 (by decide)
  unfold getR
  cases hd : dec (l.drop a) 0 0 with
  | none => rfl
  | some x => rw [(h2.1 x hd).2.2] at h1; cases h1
theorem unf_eq (l : List UInt8) (a : Nat) (h : (unfI l a).2.2 = 0 ∨ (unfS l a).2.2 = 0) : unfI l a = unfS l a := by
  have he := grpR_ends l a
  unfold unfI unfS at *
  cases hok : (getR l a).2.2 with
  | false =>
    rw [hok] at h
    exfalso
    rcases h with h | h
    · split at h
      · cases h
      · simp at h
    · cases hb : endsB l a <;> rw [hb] at h <;> simp at h
  | true =>
    cases hg : (grpR l a).2.2.2 with
    | true => rw [he hg] at hok; cases hok
    | false => simp
/-- what a good frame is -/
theorem unfS_good {l : List UInt8} {a : Nat} (ha : a ≤ l.length) (h : (unfS l a).2.2 = 0) :
    l.drop a = frameL (unfS l a).1 ++ l.drop (unfS l a).2.1 ∧ okN ((unfS l a).1.length : Int) = true ∧ (unfS l a).2.1 ≤ l.length := by
  refine ⟨?_, ?_, (unfS_le l a ha).2⟩
  rotate_left
  · have := (unfS_le l a ha).1
    have h2 : (unfS l a).1.length ≤ 1000000000000 := by
      unfold unfS at *
      split
      · simp
      · split
        · simp
        · have hr := getR_okN l a
          unfold unfK bodyOf
          split
          · simp
          · split
            · simp only [List.length_take]; omega
            · simp
    exact okN_iff.2 ⟨by unfold M12; omega, by unfold M12; omega⟩
  · unfold unfS at h ⊢
    split at h
    · cases h
    · rename_i h1
      split at h
      · cases h
      · rename_i h2
        rw [if_neg h1, if_neg h2]
        simp only [Bool.or_eq_true, Bool.not_eq_true', decide_eq_true_eq, not_or, Bool.not_eq_false] at h2
        obtain ⟨hok, hn⟩ := h2
        have hr := getR_okN l a
        have hgood := @oneR_good l (a, false) ha
        have hone : oneR l (a, false) = ((getR l a).1, (getR l a).2.1, false) := by unfold oneR; simp [hok]
        have hgl := getR_le l a ha
        rw [hone] at hgood
        obtain ⟨_, _, hd⟩ := hgood rfl
        simp only at hd
        generalize (getR l a).1 = n at *
        generalize (getR l a).2.1 = e at *
        unfold unfK at h ⊢
        split at h
        · cases h
        · rename_i h3
          split at h
          · rename_i h4
            rw [if_neg h3, if_pos h4]
            simp only
            have h4 := of_decide_eq_true h4
            obtain ⟨N, rfl⟩ : ∃ N : Nat, n = (N : Int) := ⟨n.toNat, by omega⟩
            rw [Int.toNat_natCast] at h4 ⊢
            have hbl : (bodyOf l e N).length = N := by unfold bodyOf; rw [List.length_take, List.length_drop]; omega
            unfold frameL
            rw [hbl, hd]
            simp only [List.append_assoc]
            congr 1
            rw [h4]
            have e1 : l.drop e = bodyOf l e N ++ l.drop (e + N) := by
              unfold bodyOf; conv => lhs; rw [← List.take_append_drop N (l.drop e)]
              rw [List.drop_drop]
            have e2 : l.drop (e + N) = (l.drop (e + N)).take 4 ++ l.drop (e + N + 4) := by
              conv => lhs; rw [← List.take_append_drop 4 (l.drop (e + N))]
              rw [List.drop_drop]
            rw [e1]
            congr 1
          · cases h
theorem frame_inj {x y r q : List UInt8} (hx : okN (x.length : Int) = true) (hy : okN (y.length : Int) = true) (h : frameL x ++ r = frameL y ++ q) : x = y ∧ r = q := by
  unfold frameL at h
  simp only [List.append_assoc] at h
  obtain ⟨h1, h2⟩ := put_inj hx hy h
  have hl : x.length = y.length := by omega
  obtain ⟨h3, h4⟩ := List.append_inj h2 hl
  subst h3
  exact ⟨rfl, (List.append_cancel_left_eq _ _ _).mp h4⟩

end Q6

namespace Q6
open Go Go.Vm Go.By
set_option linter.unusedSimpArgs false

/-! ### pages -/
theorem okN_342 {x : PageT} (h : pageB x = true) : okN ((putSls x).length : Int) = true := by
  have := putSls_len h
  exact okN_iff.2 ⟨by unfold M12; omega, by unfold M12; omega⟩
theorem pg_eq (b : List UInt8) (hb : okN (b.length : Int) = true) : pgI b = pgS (frameL b) b := by
  unfold pgI pgS
  simp only
  have g1 := @oneR_good b (0, false) (Nat.zero_le _)
  have e1 := oneR_le b (0, false) (Nat.zero_le _)
  generalize oneR b (0, false) = a at *
  have e2 := slotI_le b a.2 e1
  have e3 := slotI_le b (slotI b a.2).2 e2
  have e4 := slotI_le b (slotI b (slotI b a.2).2).2 e3
  have e5 := slotI_le b (slotI b (slotI b (slotI b a.2).2).2).2 e4
  cases hT : (slotI b (slotI b (slotI b (slotI b a.2).2).2).2).2.2 with
  | false =>
    obtain ⟨k1, k2, k3⟩ := slotI_good e4 hT
    obtain ⟨l1, l2, l3⟩ := slotI_good e3 k1
    obtain ⟨m1, m2, m3⟩ := slotI_good e2 l1
    obtain ⟨n1, n2, n3⟩ := slotI_good e1 m1
    obtain ⟨p1, p2, p3⟩ := g1 n1
    rw [n2, m2, l2, k2]
    rw [List.drop_zero, n3, m3, l3, k3] at p3
    clear k2 k3 l1 l2 l3 m1 m2 m3 n2 n3 k1
    generalize slotI b (slotI b (slotI b (slotI b a.2).2).2).2 = s4 at *
    generalize slotI b (slotI b (slotI b a.2).2).2 = s3 at *
    generalize slotI b (slotI b a.2).2 = s2 at *
    generalize slotI b a.2 = s1 at *
    rw [hT]
    have hl : b = putSls (a.1, (s1.1, s2.1, s3.1, s4.1, ()), ()) ++ b.drop s4.2.1 := by
      unfold putSls; simp only [List.append_assoc]; exact p3
    cases hp : pageB (a.1, (s1.1, s2.1, s3.1, s4.1, ()), ()) with
    | false => simp
    | true =>
      have ho := okN_342 hp
      generalize (a.1, (s1.1, s2.1, s3.1, s4.1, ()), ()) = x at *
      have : decide (putPage x = frameL b) = decide (s4.2.1 = b.length) := by
        unfold putPage
        by_cases h : s4.2.1 = b.length
        · rw [h, List.drop_length, List.append_nil] at hl
          simp [h, ← hl]
        · have hne : ¬ frameL (putSls x) = frameL b := by
            intro hf
            have := (frame_inj ho hb (r := []) (q := []) (by rw [hf])).1
            have hlen := congrArg List.length hl
            rw [List.length_append, List.length_drop, this] at hlen
            omega
          simp [h, hne]
      rw [this]
      simp
  | true =>
    have f2 := slotS_le b a.2 e1
    have f3 := slotS_le b (slotS b a.2).2 f2
    have f4 := slotS_le b (slotS b (slotS b a.2).2).2 f3
    have key : (slotS b (slotS b (slotS b (slotS b a.2).2).2).2).2.2 = true := by
      cases hx : (slotS b (slotS b (slotS b (slotS b a.2).2).2).2).2.2 with
      | true => rfl
      | false =>
        exfalso
        have w4 := slotS_good f4 hx
        obtain ⟨x3, _, _⟩ := slotI_good f4 (by rw [w4]; exact hx)
        have w3 := slotS_good f3 x3
        obtain ⟨x2, _, _⟩ := slotI_good f3 (by rw [w3]; exact x3)
        have w2 := slotS_good f2 x2
        obtain ⟨x1, _, _⟩ := slotI_good f2 (by rw [w2]; exact x2)
        have w1 := slotS_good e1 x1
        rw [w1, w2, w3, w4, hx] at hT; cases hT
    rw [key]
    simp [pageEnd]
theorem gpg_eq (l : List UInt8) : gpgI l = gpgS l := by
  unfold gpgI gpgS
  by_cases hI : (unfI l 0).2.2 = 0
  · have h := unf_eq l 0 (.inl hI)
    rw [h] at hI ⊢
    obtain ⟨h1, h2, h3⟩ := unfS_good (Nat.zero_le _) hI
    by_cases he : (unfS l 0).2.1 = l.length
    · rw [he, List.drop_length, List.append_nil, List.drop_zero] at h1
      simp only [hI, he, decide_true, Bool.and_self, if_true]
      rw [pg_eq _ h2]
      conv => rhs; rw [h1]
      rw [← h1]
    · simp [hI, he]
  · by_cases hS : (unfS l 0).2.2 = 0
    · exact absurd (by rw [unf_eq l 0 (.inr hS)]; exact hS) hI
    · simp [hI, hS]
end Q6

namespace Q6
open Go Go.Vm Go.By
set_option linter.unusedSimpArgs false

/-! ### what was put is read again: the plain law -/
def At (l : List UInt8) (a : Nat) (r : List UInt8) : Prop := a ≤ l.length ∧ l.drop a = r
theorem At.next {l : List UInt8} {a : Nat} {x r : List UInt8} (h : At l a (x ++ r)) : At l (a + x.length) r := by
  obtain ⟨h1, h2⟩ := h
  have hl := congrArg List.length h2
  rw [List.length_drop, List.length_append] at hl
  refine ⟨by omega, ?_⟩
  rw [← List.drop_drop, h2]; simp
theorem At.zero (l : List UInt8) : At l 0 l := ⟨Nat.zero_le _, rfl⟩
theorem one_put {l : List UInt8} {a : Nat} {n : Int} {r : List UInt8} (h : At l a (putI n ++ r)) (hn : okN n = true) : oneR l (a, false) = (n, a + (putI n).length, false) := by
  obtain ⟨h1, h2⟩ := h
  have hl := congrArg List.length h2
  rw [List.length_drop, List.length_append] at hl
  have hg : getR l a = (n, l.length - r.length, true) := by rw [getR_pI l a h1, h2, pI_put n hn r]
  unfold oneR
  simp only [hg, Bool.not_true, Bool.or_false, Bool.false_eq_true, if_false]
  congr 2
  omega
theorem many_put {l : List UInt8} {a : Nat} {n most : Int} {r : List UInt8} (h : At l a (putI n ++ r)) (hn : okN n = true) (h0 : 0 ≤ n) (h1 : n ≤ most) : manyR l most (a, false) = (n, a + (putI n).length, false) := by
  have := one_put h hn
  unfold manyR; rw [this]; simp [h0, h1]
theorem ints_put {l : List UInt8} : ∀ (xs : List Int) {a : Nat} {r : List UInt8}, At l a (xs.flatMap putI ++ r) → (∀ x ∈ xs, okN x = true) →
    intsL l xs.length (a, false) = (xs, a + (xs.flatMap putI).length, false)
  | [], a, r, _, _ => by simp [intsL]
  | x :: xs, a, r, h, hx => by
    rw [List.flatMap_cons, List.append_assoc] at h
    have h1 := one_put h (hx x (by simp))
    have ih := ints_put xs h.next (fun y hy => hx y (by simp [hy]))
    simp only [List.length_cons, intsL, h1, ih, List.flatMap_cons, List.length_append]
    congr 2
    omega
theorem intsR_put {l : List UInt8} {xs : List Int} {a : Nat} {r : List UInt8} (h : At l a (putL xs ++ r)) (hx : ∀ x ∈ xs, okN x = true) (h5 : xs.length ≤ 5) :
    intsR l 5 (a, false) = (xs, a + (putL xs).length, false) := by
  unfold putL at h ⊢
  rw [List.append_assoc] at h
  have hn : okN (xs.length : Int) = true := okN_small (Int.natCast_nonneg _) (by omega)
  have h1 := many_put h hn (Int.natCast_nonneg _) (show (xs.length : Int) ≤ 5 by omega)
  unfold intsR
  rw [h1]
  simp only [Int.toNat_natCast]
  rw [ints_put xs h.next hx, List.length_append]
  congr 2
  omega
theorem objB_okN {o : ObjT} (h : objB o = true) : okN o.1 = true ∧ (∀ x ∈ o.2.1, okN x = true) ∧ (∀ x ∈ o.2.2.1, okN x = true) := by
  unfold objB at h
  simp only [Bool.and_eq_true, decide_eq_true_eq, List.all_eq_true] at h
  obtain ⟨⟨⟨⟨⟨h1, h2⟩, _⟩, _⟩, h5⟩, h6⟩ := h
  refine ⟨okN_small (by omega) (by omega), fun x hx => ?_, fun x hx => ?_⟩
  · have := h5 x hx
    unfold intB at this
    simp only [Bool.and_eq_true, decide_eq_true_eq] at this
    exact okN_iff.2 ⟨by unfold M12; omega, by unfold M12; omega⟩
  · have := h6 x hx
    unfold refB at this
    simp only [Bool.and_eq_true, decide_eq_true_eq] at this
    exact okN_small (by omega) (by omega)
theorem gob_put {o : ObjT} (h : objB o = true) : gobI (putObj o) = (o, true) := by
  obtain ⟨h1, h2, h3⟩ := objB_okN h
  obtain ⟨l1, l2⟩ := objB_len h
  have hA : At (putObj o) 0 (putI o.1 ++ (putL o.2.1 ++ (putL o.2.2.1 ++ []))) := by
    refine ⟨Nat.zero_le _, ?_⟩
    unfold putObj; simp
  have e1 := one_put hA h1
  have e2 := intsR_put hA.next h2 l1
  have e3 := intsR_put hA.next.next h3 l2
  have hlen : 0 + (putI o.1).length + (putL o.2.1).length + (putL o.2.2.1).length = (putObj o).length := by
    unfold putObj; simp only [List.length_append]; omega
  unfold gobI
  simp only [e1, e2, e3, hlen]
  obtain ⟨a, b, c, ⟨⟩⟩ := o
  simp [h]
theorem putI_pos (n : Int) : 0 < (putI n).length := by
  unfold putI
  by_cases h : zig (clampI n) ≤ 127
  · rw [encN_lo h]; simp
  · rw [encN_hi h]; simp
theorem noObj_eq {o : ObjT} (h : noObjB o = true) : o = (0, [], [], ()) := by
  obtain ⟨a, b, c, ⟨⟩⟩ := o
  unfold noObjB at h
  simp only [Bool.and_eq_true, decide_eq_true_eq, List.length_eq_zero_iff] at h
  obtain ⟨⟨rfl, rfl⟩, rfl⟩ := h
  rfl
theorem slot_put {l : List UInt8} {a : Nat} {s : SlotT} {r : List UInt8} (h : At l a (putSl s ++ r)) (hs : slotB s = true) :
    slotI l (a, false) = (s, a + (putSl s).length, false) := by
  obtain ⟨has, o, ⟨⟩⟩ := s
  cases has with
  | false =>
    have ho : o = (0, [], [], ()) := noObj_eq hs
    subst ho
    have hp : putSl (false, (0, [], [], ()), ()) = putI 0 := rfl
    rw [hp] at h ⊢
    have e := many_put h (okN_small (Int.le_refl _) (by decide)) (Int.le_refl _) (Int.natCast_nonneg l.length)
    unfold slotI
    simp [e, slot0']
  | true =>
    have ho : objB o = true := hs
    have hp : putSl (true, o, ()) = putI (putObj o).length ++ putObj o := rfl
    rw [hp] at h ⊢
    rw [List.append_assoc] at h
    have hol := putObj_len ho
    have hpos : 0 < (putObj o).length := by
      unfold putObj; simp only [List.length_append]; have := putI_pos o.1; omega
    have hn := h.next
    have hnn := hn.next
    have e := many_put (most := (l.length : Int)) h (okN_small (Int.natCast_nonneg _) (by omega)) (Int.natCast_nonneg _) (by have := hnn.1; omega)
    have hsub : (l.drop (a + (putI (putObj o).length).length)).take (putObj o).length = putObj o := by rw [hn.2]; simp
    unfold slotI
    simp only [e]
    rw [if_neg (by simp only [Bool.false_or, decide_eq_true_eq]; omega), if_neg (by have := hnn.1; omega), Int.toNat_natCast, hsub, gob_put ho]
    simp only [if_true, List.length_append]
    congr 2
    omega
theorem slotS_put {l : List UInt8} {a : Nat} {s : SlotT} {r : List UInt8} (h : At l a (putSl s ++ r)) (hs : slotB s = true) :
    slotS l (a, false) = (s, a + (putSl s).length, false) := by
  have e := slot_put h hs
  have := (slotI_good (l := l) (s := (a, false)) h.1 (by rw [e])).2.1
  rw [this, e]
/-! records -/
theorem live_put {l : List UInt8} {a : Nat} {t : LiveT} {r : List UInt8} (h : At l a (putLv t ++ r)) (h1 : okN t.1 = true) (h2 : okN t.2.1 = true) :
    liveI l (a, false) = (t, a + (putLv t).length, false) := by
  obtain ⟨x, y, b, ⟨⟩⟩ := t
  have hp : putLv (x, y, b, ()) = putI x ++ putI y ++ putI (flagN b) := rfl
  rw [hp] at h ⊢
  simp only [List.append_assoc] at h
  have hf := flagN_rng b
  have e1 := one_put h h1
  have e2 := one_put h.next h2
  have e3 := many_put h.next.next (okN_small hf.1 (by omega)) hf.1 hf.2
  unfold liveI
  simp only [e1, e2, e3, List.length_append]
  have hb : decide (flagN b = 1) = b := by cases b <;> rfl
  rw [hb]
  congr 2
  omega
theorem lives_put {l : List UInt8} : ∀ (ts : List LiveT) {a : Nat} {r : List UInt8}, At l a (ts.flatMap putLv ++ r) → (∀ t ∈ ts, okN t.1 = true ∧ okN t.2.1 = true) →
    livesI l ts.length (a, false) = (ts, a + (ts.flatMap putLv).length, false)
  | [], a, r, _, _ => by simp [livesI]
  | t :: ts, a, r, h, ht => by
    rw [List.flatMap_cons, List.append_assoc] at h
    have h1 := live_put h (ht t (by simp)).1 (ht t (by simp)).2
    have ih := lives_put ts h.next (fun y hy => ht y (by simp [hy]))
    simp only [List.length_cons, livesI, h1, ih, List.flatMap_cons, List.length_append]
    congr 2
    omega
theorem rng_iff {a b c : Int} : rng a b c = true ↔ b ≤ a ∧ a ≤ c := by unfold rng; simp
theorem okN_big {n : Int} (h0 : 0 ≤ n) (h1 : n ≤ 1000000) : okN n = true := okN_iff.2 ⟨by unfold M12; omega, by unfold M12; omega⟩
theorem livesL_all {lsn : Int} (hl : lsn ≤ 1000000) : ∀ (p : Option LiveT) (ts : List LiveT), livesL lsn p ts = true → ∀ t ∈ ts, okN t.1 = true ∧ okN t.2.1 = true
  | _, [], _, t, ht => by cases ht
  | p, x :: ts, h, t, ht => by
    unfold livesL at h
    simp only [Bool.and_eq_true] at h
    rcases List.mem_cons.1 ht with rfl | ht
    · have := h.1
      unfold liveB at this
      simp only [Bool.and_eq_true, rng_iff] at this
      exact ⟨okN_big (by omega) (by omega), okN_big (by omega) (by omega)⟩
    · exact livesL_all hl _ ts h.2 t ht
theorem recB_okN {x : RecT} (h : recB x = true) : (okN x.1 = true ∧ okN x.2.1 = true ∧ okN x.2.2.1 = true ∧ okN x.2.2.2.1 = true ∧ okN x.2.2.2.2.1 = true ∧ okN x.2.2.2.2.2.2.2.1 = true) ∧
    ∀ t ∈ x.2.2.2.2.2.2.2.2.1, okN t.1 = true ∧ okN t.2.1 = true := by
  unfold recB at h
  simp only [Bool.and_eq_true, rng_iff] at h
  obtain ⟨⟨a1, a2⟩, h⟩ := h
  have z0 : okN 0 = true := okN_big (Int.le_refl _) (by decide)
  split at h
  · rename_i hk
    simp only [Bool.and_eq_true, decide_eq_true_eq] at h
    obtain ⟨⟨⟨⟨b1, b2⟩, ⟨b3, b4⟩, b5⟩, b6⟩, b7⟩ := h
    refine ⟨⟨okN_big (by omega) (by omega), by rw [b1]; exact z0, by rw [b2]; exact z0, by rw [hk]; exact okN_big (by decide) (by decide), by rw [b3]; exact z0, by rw [b6]; exact z0⟩, ?_⟩
    unfold livesB at b7
    simp only [Bool.and_eq_true] at b7
    exact livesL_all a2 none _ b7.1
  · simp only [Bool.and_eq_true, rng_iff, decide_eq_true_eq, List.length_eq_zero_iff] at h
    obtain ⟨⟨⟨⟨c1, c2⟩, ⟨c3, c4⟩⟩, c5⟩, h⟩ := h
    have hno : ∀ t ∈ x.2.2.2.2.2.2.2.2.1, okN t.1 = true ∧ okN t.2.1 = true := by rw [c5]; intro t ht; cases ht
    split at h
    · rename_i hk
      simp only [Bool.and_eq_true, rng_iff, decide_eq_true_eq] at h
      obtain ⟨⟨⟨⟨d1, d2⟩, _⟩, _⟩, d3⟩ := h
      exact ⟨⟨okN_big (by omega) (by omega), okN_big (by omega) (by omega), okN_big (by omega) (by omega), by rw [hk]; exact okN_big (by decide) (by decide), okN_big (by omega) (by omega), by rw [d3]; exact z0⟩, hno⟩
    · split at h
      · rename_i hk
        simp only [Bool.and_eq_true, rng_iff, decide_eq_true_eq] at h
        obtain ⟨⟨⟨⟨d1, d2⟩, _⟩, _⟩, d3, d4⟩ := h
        exact ⟨⟨okN_big (by omega) (by omega), okN_big (by omega) (by omega), okN_big (by omega) (by omega), by rw [hk]; exact okN_big (by decide) (by decide), okN_big (by omega) (by omega), okN_big (by omega) (by omega)⟩, hno⟩
      · split at h
        · rename_i hk
          simp only [Bool.and_eq_true, decide_eq_true_eq] at h
          obtain ⟨⟨⟨d1, _⟩, _⟩, d2⟩ := h
          have hk' : okN x.2.2.2.1 = true := by rcases hk with hk | hk | hk <;> rw [hk] <;> exact okN_big (by decide) (by decide)
          exact ⟨⟨okN_big (by omega) (by omega), okN_big (by omega) (by omega), okN_big (by omega) (by omega), hk', by rw [d1]; exact z0, by rw [d2]; exact z0⟩, hno⟩
        · cases h
theorem grec_put {x : RecT} (h : recB x = true) : grecI (putRec x) = (x, true) := by
  obtain ⟨⟨k1, k2, k3, k4, k5, k6⟩, kt⟩ := recB_okN h
  obtain ⟨s1, s2⟩ := recB_slots h
  have ht := recB_txs h
  have hA : At (putRec x) 0 (putI x.1 ++ (putI x.2.1 ++ (putI x.2.2.1 ++ (putI x.2.2.2.1 ++ (putI x.2.2.2.2.1 ++ (putI x.2.2.2.2.2.2.2.1 ++ (putSl x.2.2.2.2.2.1 ++ (putSl x.2.2.2.2.2.2.1 ++
      (putI x.2.2.2.2.2.2.2.2.1.length ++ (x.2.2.2.2.2.2.2.2.1.flatMap putLv ++ [])))))))))) := by
    refine ⟨Nat.zero_le _, ?_⟩
    unfold putRec recNs
    simp
  have hlen : (putRec x).length = 0 + (putI x.1).length + (putI x.2.1).length + (putI x.2.2.1).length + (putI x.2.2.2.1).length + (putI x.2.2.2.2.1).length + (putI x.2.2.2.2.2.2.2.1).length + (putSl x.2.2.2.2.2.1).length + (putSl x.2.2.2.2.2.2.1).length +
      (putI x.2.2.2.2.2.2.2.2.1.length).length + (x.2.2.2.2.2.2.2.2.1.flatMap putLv).length := by
    unfold putRec recNs
    simp only [List.flatMap_cons, List.flatMap_nil, List.length_append, List.append_nil]
    omega
  have e1 := one_put hA k1
  have e2 := one_put hA.next k2
  have e3 := one_put hA.next.next k3
  have e4 := one_put hA.next.next.next k4
  have e5 := one_put hA.next.next.next.next k5
  have e6 := one_put hA.next.next.next.next.next k6
  have e7 := slot_put hA.next.next.next.next.next.next s1
  have e8 := slot_put hA.next.next.next.next.next.next.next s2
  have e9 := many_put (most := 20) hA.next.next.next.next.next.next.next.next (okN_small (Int.natCast_nonneg _) (by omega)) (Int.natCast_nonneg _) (by omega)
  have e10 := lives_put _ hA.next.next.next.next.next.next.next.next.next kt
  unfold grecI
  simp only [e1, e2, e3, e4, e5, e6, e7, e8, e9, Int.toNat_natCast, e10]
  unfold grecK
  simp only
  rw [← hlen]
  obtain ⟨a1, a2, a3, a4, a5, b1, b2, a8, tx, ⟨⟩⟩ := x
  simp only [h, recEnd]
  simp
end Q6

namespace Q6
open Go Go.Vm Go.By
set_option linter.unusedSimpArgs false

/-! ### a page that was put is read again: the plain law -/
theorem unf_put {b : List UInt8} (hb : okN (b.length : Int) = true) : unfI (frameL b) 0 = (b, (frameL b).length, 0) := by
  have hA : At (frameL b) 0 (putI b.length ++ (b ++ four (crc b))) := ⟨Nat.zero_le _, by unfold frameL; simp⟩
  have hn := hA.next
  rw [Nat.zero_add] at hn
  have hlen : (frameL b).length = (putI b.length).length + b.length + 4 := by unfold frameL; simp only [List.length_append, four_len]
  have hg : getR (frameL b) 0 = ((b.length : Int), (putI b.length).length, true) := by
    have h2 := hA.2
    rw [getR_pI _ 0 (Nat.zero_le _), h2, pI_put _ hb]
    simp only [List.length_append, four_len, hlen]
    congr 2
    omega
  have hS : unfS (frameL b) 0 = (b, (frameL b).length, 0) := by
    unfold unfS
    simp only [hg, Bool.not_true, Bool.false_and, Bool.false_eq_true, if_false, Bool.false_or, decide_eq_true_eq]
    rw [if_neg (by omega)]
    unfold unfK bodyOf
    have e1 : (frameL b).drop ((putI b.length).length + b.length) = four (crc b) := by rw [← List.drop_drop, hn.2]; simp
    simp only [Int.toNat_natCast, hn.2, e1]
    rw [if_neg (by omega)]
    simp only [List.take_left', List.take_of_length_le (Nat.le_of_eq (four_len _)), decide_true, if_true]
    congr 2
    omega
  rw [unf_eq _ _ (.inr (by rw [hS])), hS]
theorem pg_put {x : PageT} (h : pageB x = true) : pgI (putSls x) = (x, true) := by
  obtain ⟨h1, h2, h3, h4⟩ := pageB_slots h
  have hn : okN x.1 = true := by
    unfold pageB rng at h
    simp only [Bool.and_eq_true, decide_eq_true_eq] at h
    exact okN_iff.2 ⟨by unfold M12; omega, by unfold M12; omega⟩
  have hA : At (putSls x) 0 (putI x.1 ++ (putSl x.2.1.1 ++ (putSl x.2.1.2.1 ++ (putSl x.2.1.2.2.1 ++ (putSl x.2.1.2.2.2.1 ++ []))))) := by
    refine ⟨Nat.zero_le _, ?_⟩
    unfold putSls; simp
  have e1 := one_put hA hn
  have e2 := slot_put hA.next h1
  have e3 := slot_put hA.next.next h2
  have e4 := slot_put hA.next.next.next h3
  have e5 := slot_put hA.next.next.next.next h4
  have hlen : 0 + (putI x.1).length + (putSl x.2.1.1).length + (putSl x.2.1.2.1).length + (putSl x.2.1.2.2.1).length + (putSl x.2.1.2.2.2.1).length = (putSls x).length := by
    unfold putSls; simp only [List.length_append]; omega
  unfold pgI pageEnd
  simp only [e1, e2, e3, e4, e5, hlen]
  obtain ⟨n, ⟨a, b, c, d, ⟨⟩⟩, ⟨⟩⟩ := x
  simp only [h, Bool.not_false, decide_true, Bool.and_self, if_true]
theorem gpg_put {x : PageT} (h : pageB x = true) : gpgI (putPage x) = (x, true) := by
  unfold gpgI putPage
  rw [unf_put (okN_342 h)]
  simp only [decide_true, Bool.and_self, if_true]
  exact pg_put h
end Q6

namespace Q6
open Go Go.Vm Go.Proofs
set_option maxHeartbeats 4000000
set_option synthInstance.maxSize 2000
set_option synthInstance.maxHeartbeats 400000
set_option maxRecDepth 10000
set_option linter.unusedSimpArgs false
set_option linter.unusedVariables false

open Go.By

theorem free_cases (a b c d : SlotT) : idxOf (fun x : SlotT => !x.1) [a, b, c, d] = -1 ∨ (idxOf (fun x : SlotT => !x.1) [a, b, c, d] = 0 ∧ a.1 = false) ∨ (idxOf (fun x : SlotT => !x.1) [a, b, c, d] = 1 ∧ b.1 = false) ∨
    (idxOf (fun x : SlotT => !x.1) [a, b, c, d] = 2 ∧ c.1 = false) ∨ (idxOf (fun x : SlotT => !x.1) [a, b, c, d] = 3 ∧ d.1 = false) := by
  cases h1 : a.1 <;> cases h2 : b.1 <;> cases h3 : c.1 <;> cases h4 : d.1 <;> simp [idxOf, List.findIdx?_cons, h1, h2, h3, h4]
theorem putPage_len {x : PageT} (h : pageB x = true) : 0 < (putPage x).length ∧ (putPage x).length ≤ 352 := by
  have h1 := putSls_len h
  have h2 := frameL_len2 (putSls x)
  have h3 := putI_pos ((putSls x).length : Int)
  unfold putPage
  refine ⟨?_, by omega⟩
  unfold frameL
  simp only [List.length_append]
  omega
theorem pagesBad (k : Int) (l : List UInt8) (hbg : CallR Try.prog 20 [.sl .s (l.map Enc.b)] [] (.bool false)) (p : PageT) (x : SlotT) (m : Int) (hpl : Enc.lim 1048576 p) (hxl : Enc.lim 1048576 x) (hD : CallR Try.prog 27 [.sl .s (l.map Enc.b)] [] (.tup [.nd [.int .i64 p.1, .nd [.nd [.bool p.2.1.1.1, .nd [.int .i64 p.2.1.1.2.1.1, .ow 1 (p.2.1.1.2.1.2.1.map Enc.o), .ow 1 (p.2.1.1.2.1.2.2.1.map Enc.o)]], .nd [.bool p.2.1.2.1.1, .nd [.int .i64 p.2.1.2.1.2.1.1, .ow 1 (p.2.1.2.1.2.1.2.1.map Enc.o), .ow 1 (p.2.1.2.1.2.1.2.2.1.map Enc.o)]], .nd [.bool p.2.1.2.2.1.1, .nd [.int .i64 p.2.1.2.2.1.2.1.1, .ow 1 (p.2.1.2.2.1.2.1.2.1.map Enc.o), .ow 1 (p.2.1.2.2.1.2.1.2.2.1.map Enc.o)]], .nd [.bool p.2.1.2.2.2.1.1, .nd [.int .i64 p.2.1.2.2.2.1.2.1.1, .ow 1 (p.2.1.2.2.2.1.2.1.2.1.map Enc.o), .ow 1 (p.2.1.2.2.2.1.2.1.2.2.1.map Enc.o)]]]], .int .i64 k, .nd [.bool x.1, .nd [.int .i64 x.2.1.1, .ow 1 (x.2.1.2.1.map Enc.o), .ow 1 (x.2.1.2.2.1.map Enc.o)]], .int .i64 m])) (hb : pageB p = false) : CallR Try.prog 5 [.sl .s (l.map Enc.b)] [] (.bool true) := by
  refine CallR.of_body (n := 138) (rs := [.tmp 2]) hY.ok Try.func5 rfl (by decide) rfl rfl rfl rfl (fun F => ?_)
  have fx := And.intro Y1 (And.intro Y2 (And.intro Y3 (And.intro Y4 (And.intro Y5 (And.intro Y24 (And.intro Y34 (And.intro Y36 (And.intro Y38 (And.intro Y47 (Y49))))))))))
  have hS := specPageOk_ok p hpl
  have hI := implPageOk_ok p hpl
  rw [hb] at hS hI
  have hP := iPutPage_n p hpl hb
  have hN := iSet_n p k x m hpl hxl (by unfold okSet; rw [hb]; rfl)
  clear hb hpl hxl
  obtain ⟨n, ⟨⟨p0, ⟨k0, A0, B0, ⟨⟩⟩, ⟨⟩⟩, ⟨p1, ⟨k1, A1, B1, ⟨⟩⟩, ⟨⟩⟩, ⟨p2, ⟨k2, A2, B2, ⟨⟩⟩, ⟨⟩⟩, ⟨p3, ⟨k3, A3, B3, ⟨⟩⟩, ⟨⟩⟩, ⟨⟩⟩, ⟨⟩⟩ := p
  obtain ⟨sp, ⟨sk, sA, sB, ⟨⟩⟩, ⟨⟩⟩ := x
  simp only at hD hP hS hI hN
  have hC1 := cx [.own 1] (hbg)
  have hC2 := cx [.own 1] (hD)
  have hC3 := cx [] (hP)
  have hC4 := cx [] (hS)
  have hC5 := cx [] (hI)
  have hC6 := cx [] (hN)
  have fy := Nat.add_zero
  refine goK ?_ ?_ ?_ ?_ ?_ ?_ ?_ ?_ ?_ ?_ ?_ ?_ ?_ ?_ ?_ ?_
  any_goals (first | exact True.intro | skip)
  all_goals (repeat (refine Wh.mk fun hcc => ?_))
  all_goals (first | (simp only [tupOf, fixEs]; done) | (simp only [tupOf, fixEs]; rfl) | rfl)
theorem pagesNo (k : Int) (l : List UInt8) (hbg : CallR Try.prog 20 [.sl .s (l.map Enc.b)] [] (.bool false)) (p : PageT) (x : SlotT) (m : Int) (hpl : Enc.lim 1048576 p) (hxl : Enc.lim 1048576 x) (hD : CallR Try.prog 27 [.sl .s (l.map Enc.b)] [] (.tup [.nd [.int .i64 p.1, .nd [.nd [.bool p.2.1.1.1, .nd [.int .i64 p.2.1.1.2.1.1, .ow 1 (p.2.1.1.2.1.2.1.map Enc.o), .ow 1 (p.2.1.1.2.1.2.2.1.map Enc.o)]], .nd [.bool p.2.1.2.1.1, .nd [.int .i64 p.2.1.2.1.2.1.1, .ow 1 (p.2.1.2.1.2.1.2.1.map Enc.o), .ow 1 (p.2.1.2.1.2.1.2.2.1.map Enc.o)]], .nd [.bool p.2.1.2.2.1.1, .nd [.int .i64 p.2.1.2.2.1.2.1.1, .ow 1 (p.2.1.2.2.1.2.1.2.1.map Enc.o), .ow 1 (p.2.1.2.2.1.2.1.2.2.1.map Enc.o)]], .nd [.bool p.2.1.2.2.2.1.1, .nd [.int .i64 p.2.1.2.2.2.1.2.1.1, .ow 1 (p.2.1.2.2.2.1.2.1.2.1.map Enc.o), .ow 1 (p.2.1.2.2.2.1.2.1.2.2.1.map Enc.o)]]]], .int .i64 k, .nd [.bool x.1, .nd [.int .i64 x.2.1.1, .ow 1 (x.2.1.2.1.map Enc.o), .ow 1 (x.2.1.2.2.1.map Enc.o)]], .int .i64 m])) (hb : pageB p = true) (ho : okSet p k x m = false) : CallR Try.prog 5 [.sl .s (l.map Enc.b)] [] (.bool true) := by
  refine CallR.of_body (n := 138) (rs := [.tmp 2]) hY.ok Try.func5 rfl (by decide) rfl rfl rfl rfl (fun F => ?_)
  have fx := And.intro Y1 (And.intro Y2 (And.intro Y3 (And.intro Y4 (And.intro Y5 (And.intro Y24 (And.intro Y34 (And.intro Y36 (And.intro Y38 (And.intro Y47 (Y49))))))))))
  have hS := specPageOk_ok p hpl
  have hI := implPageOk_ok p hpl
  rw [hb] at hS hI
  have hP := iPutPage_y p hpl hb
  obtain ⟨hl0, hl1⟩ := putPage_len hb
  have hG := gpgI_ok (putPage p) (by omega)
  rw [gpg_put hb] at hG
  have hZ := samePage_x p hpl
  have hN := iSet_n p k x m hpl hxl ho
  have hM := sSet_n p k x m hpl hxl ho
  clear hb hpl hxl ho
  generalize putPage p = q at *
  clear hl0 hl1
  obtain ⟨n, ⟨⟨p0, ⟨k0, A0, B0, ⟨⟩⟩, ⟨⟩⟩, ⟨p1, ⟨k1, A1, B1, ⟨⟩⟩, ⟨⟩⟩, ⟨p2, ⟨k2, A2, B2, ⟨⟩⟩, ⟨⟩⟩, ⟨p3, ⟨k3, A3, B3, ⟨⟩⟩, ⟨⟩⟩, ⟨⟩⟩, ⟨⟩⟩ := p
  obtain ⟨sp, ⟨sk, sA, sB, ⟨⟩⟩, ⟨⟩⟩ := x
  simp only at hD hP hS hI hN hG hZ hM
  have hC1 := cx [.own 1] (hbg)
  have hC2 := cx [.own 1] (hD)
  have hC3 := cx [] (hP)
  have hC4 := cx [] (hS)
  have hC5 := cx [] (hI)
  have hC6 := cx [] (hG)
  have hC7 := cx [] (hZ)
  have hC8 := cx [] (hN)
  have hC9 := cx [] (hM)
  have fy := Nat.add_zero
  refine goK ?_ ?_ ?_ ?_ ?_ ?_ ?_ ?_ ?_ ?_ ?_ ?_ ?_ ?_ ?_ ?_
  any_goals (first | exact True.intro | skip)
  all_goals (repeat (refine Wh.mk fun hcc => ?_))
  all_goals (first | (simp only [tupOf, fixEs]; done) | (simp only [tupOf, fixEs]; rfl) | rfl)
end Q6

namespace Q6
open Go Go.Vm Go.Proofs
set_option maxHeartbeats 4000000
set_option synthInstance.maxSize 2000
set_option synthInstance.maxHeartbeats 400000
set_option maxRecDepth 10000
set_option linter.unusedSimpArgs false
set_option linter.unusedVariables false

open Go.By
theorem pages0 (l : List UInt8) (hbg : CallR Try.prog 20 [.sl .s (l.map Enc.b)] [] (.bool false)) (p : PageT) (x : SlotT) (m : Int) (hpl : Enc.lim 1048576 p) (hxl : Enc.lim 1048576 x) (hD : CallR Try.prog 27 [.sl .s (l.map Enc.b)] [] (.tup [.nd [.int .i64 p.1, .nd [.nd [.bool p.2.1.1.1, .nd [.int .i64 p.2.1.1.2.1.1, .ow 1 (p.2.1.1.2.1.2.1.map Enc.o), .ow 1 (p.2.1.1.2.1.2.2.1.map Enc.o)]], .nd [.bool p.2.1.2.1.1, .nd [.int .i64 p.2.1.2.1.2.1.1, .ow 1 (p.2.1.2.1.2.1.2.1.map Enc.o), .ow 1 (p.2.1.2.1.2.1.2.2.1.map Enc.o)]], .nd [.bool p.2.1.2.2.1.1, .nd [.int .i64 p.2.1.2.2.1.2.1.1, .ow 1 (p.2.1.2.2.1.2.1.2.1.map Enc.o), .ow 1 (p.2.1.2.2.1.2.1.2.2.1.map Enc.o)]], .nd [.bool p.2.1.2.2.2.1.1, .nd [.int .i64 p.2.1.2.2.2.1.2.1.1, .ow 1 (p.2.1.2.2.2.1.2.1.2.1.map Enc.o), .ow 1 (p.2.1.2.2.2.1.2.1.2.2.1.map Enc.o)]]]], .int .i64 0, .nd [.bool x.1, .nd [.int .i64 x.2.1.1, .ow 1 (x.2.1.2.1.map Enc.o), .ow 1 (x.2.1.2.2.1.map Enc.o)]], .int .i64 m])) (hb : pageB p = true) (ho : okSet p 0 x m = true) : CallR Try.prog 5 [.sl .s (l.map Enc.b)] [] (.bool true) := by
  refine CallR.of_body (n := 138) (rs := [.tmp 2]) hY.ok Try.func5 rfl (by decide) rfl rfl rfl rfl (fun F => ?_)
  have fx := And.intro Y1 (And.intro Y2 (And.intro Y3 (And.intro Y4 (And.intro Y5 (And.intro Y24 (And.intro Y34 (And.intro Y36 (And.intro Y38 (And.intro Y47 (Y49))))))))))
  have hS := specPageOk_ok p hpl
  have hI := implPageOk_ok p hpl
  rw [hb] at hS hI
  have hP := iPutPage_y p hpl hb
  obtain ⟨hl0, hl1⟩ := putPage_len hb
  have hG := gpgI_ok (putPage p) (by omega)
  rw [gpg_put hb] at hG
  have hZ := samePage_x p hpl
  have hN := iSet_0 p x m hpl hxl ho
  have hM := sSet_0 p x m hpl hxl ho
  have hyl : Enc.lim 1048576 ((m, (x, p.2.1.2.1, p.2.1.2.2.1, p.2.1.2.2.2.1, ()), ()) : PageT) := ⟨trivial, ⟨hxl, hpl.2.1.2.1, hpl.2.1.2.2.1, hpl.2.1.2.2.2.1, trivial⟩, trivial⟩
  have hyb : pageB ((m, (x, p.2.1.2.1, p.2.1.2.2.1, p.2.1.2.2.2.1, ()), ()) : PageT) = true := by
    unfold okSet at ho
    unfold pageB at hb ⊢
    simp only [Bool.and_eq_true] at hb ho ⊢
    obtain ⟨hn, g0, g1, g2, g3⟩ := hb
    obtain ⟨_, _, g4, g5⟩ := ho
    refine ⟨?_, g4, g1, g2, g3⟩
    unfold rng at hn g5 ⊢
    simp only [Bool.and_eq_true, decide_eq_true_eq] at hn g5 ⊢
    omega
  have hV := implPageOk_ok ((m, (x, p.2.1.2.1, p.2.1.2.2.1, p.2.1.2.2.2.1, ()), ()) : PageT) hyl
  rw [hyb] at hV
  have hF := freeSlot_ok ((m, (x, p.2.1.2.1, p.2.1.2.2.1, p.2.1.2.2.2.1, ()), ()) : PageT) hyl
  have hfc := free_cases x p.2.1.2.1 p.2.1.2.2.1 p.2.1.2.2.2.1
  have t0 := sameSlot_x x hxl
  have t1 := sameSlot_x (p.2.1.2.1) hpl.2.1.2.1
  have t2 := sameSlot_x (p.2.1.2.2.1) hpl.2.1.2.2.1
  have t3 := sameSlot_x (p.2.1.2.2.2.1) hpl.2.1.2.2.2.1
  clear hb hpl hxl ho hyl hyb
  generalize putPage p = q at *
  clear hl0 hl1
  obtain ⟨n, ⟨⟨p0, ⟨k0, A0, B0, ⟨⟩⟩, ⟨⟩⟩, ⟨p1, ⟨k1, A1, B1, ⟨⟩⟩, ⟨⟩⟩, ⟨p2, ⟨k2, A2, B2, ⟨⟩⟩, ⟨⟩⟩, ⟨p3, ⟨k3, A3, B3, ⟨⟩⟩, ⟨⟩⟩, ⟨⟩⟩, ⟨⟩⟩ := p
  obtain ⟨sp, ⟨sk, sA, sB, ⟨⟩⟩, ⟨⟩⟩ := x
  simp only at hD hP hS hI hN hG hZ hM hV hF hfc t0 t1 t2 t3
  have hmm : (m == m) = true := beq_self_eq_true m
  generalize idxOf _ _ = j at *
  have hC1 := cx [.own 1] (hbg)
  have hC2 := cx [.own 1] (hD)
  have hC3 := cx [] (hP)
  have hC4 := cx [] (hS)
  have hC5 := cx [] (hG)
  have hC6 := cx [] (hZ)
  have hC7 := cx [] (hN)
  have hC8 := cx [] (hM)
  have fy := And.intro nc4 (And.intro nc8 (And.intro wa (And.intro tn (hmm))))
  refine goK ?_ ?_ ?_ ?_ ?_ ?_ ?_ ?_ ?_ ?_ ?_ ?_ ?_ ?_ ?_ ?_
  any_goals (first | exact True.intro | skip)
  all_goals (repeat (refine Wh.mk fun hcc => ?_))
  refine SW.norm (s' := ⟨[.undef, .undef, .undef, .ptr 2 0 [] 0, .int .i64 0, .ptr 3 0 [] 0, .int .i64 m, .undef, .undef, .undef, .undef, .undef, .ptr 5 0 [] 0, .undef, .undef, .undef, .int .i64 0, .undef, .undef, .undef, .undef, .undef, .undef, .undef, .undef, .undef, .undef, .undef, .undef, .undef, .undef, .undef, .undef, .undef, .undef, .undef, .undef, .undef, .undef, .undef, .undef, .undef, .undef, .undef, .undef, .undef, .undef, .undef, .undef, .undef, .undef, .undef, .undef, .undef, .undef, .undef, .undef, .undef, .undef, .undef, .undef, .undef, .undef, .undef, .undef, .undef, .undef, .undef, .undef, .undef, .undef, .undef, .undef, .undef, .undef, .undef, .undef, .undef, .undef, .undef, .undef, .undef, .undef, .undef, .undef, .undef, .undef, .undef, .undef, .undef, .undef, .undef, .undef, .undef, .undef, .undef, .undef, .undef, .undef, .undef, .undef, .undef, .undef, .undef, .undef, .undef, .undef, .undef, .undef, .undef, .undef, .undef, .undef, .undef, .undef, .undef, .undef, .undef, .undef, .undef, .undef, .undef, .undef, .undef, .undef, .undef, .undef, .undef, .undef, .undef, .undef, .undef, .undef, .undef, .undef, .undef, .undef, .undef], [[], [.arr 1 (A0.map Enc.o) false, .arr 1 (B0.map Enc.o) false, .arr 1 (A1.map Enc.o) false, .arr 1 (B1.map Enc.o) false, .arr 1 (A2.map Enc.o) false, .arr 1 (B2.map Enc.o) false, .arr 1 (A3.map Enc.o) false, .arr 1 (B3.map Enc.o) false, .arr 1 (sA.map Enc.o) false, .arr 1 (sB.map Enc.o) false], [.var (.nd [.int .i64 n, .nd [.nd [.bool p0, .nd [.int .i64 k0, .ref 1 0 0 A0.length, .ref 1 1 0 B0.length]], .nd [.bool p1, .nd [.int .i64 k1, .ref 1 2 0 A1.length, .ref 1 3 0 B1.length]], .nd [.bool p2, .nd [.int .i64 k2, .ref 1 4 0 A2.length, .ref 1 5 0 B2.length]], .nd [.bool p3, .nd [.int .i64 k3, .ref 1 6 0 A3.length, .ref 1 7 0 B3.length]]]])], [.var (.nd [.bool sp, .nd [.int .i64 sk, .ref 1 8 0 sA.length, .ref 1 9 0 sB.length]])], [.arr 1 (sA.map Enc.o) false, .arr 1 (sB.map Enc.o) false, .arr 1 (A1.map Enc.o) false, .arr 1 (B1.map Enc.o) false, .arr 1 (A2.map Enc.o) false, .arr 1 (B2.map Enc.o) false, .arr 1 (A3.map Enc.o) false, .arr 1 (B3.map Enc.o) false], [.var (.nd [.int .i64 m, .nd [.nd [.bool sp, .nd [.int .i64 sk, .ref 4 0 0 sA.length, .ref 4 1 0 sB.length]], .nd [.bool p1, .nd [.int .i64 k1, .ref 4 2 0 A1.length, .ref 4 3 0 B1.length]], .nd [.bool p2, .nd [.int .i64 k2, .ref 4 4 0 A2.length, .ref 4 5 0 B2.length]], .nd [.bool p3, .nd [.int .i64 k3, .ref 4 6 0 A3.length, .ref 4 7 0 B3.length]]]])]]⟩) (Norm.re [0, 2, 3, 4, 10, 11] (by decide) rfl (by first | (simp only [eq_self, heapFits, rowFits, obFits, List.getElem?_cons_zero, List.getElem?_cons_succ, renL_o, renL_b, true_and, and_true, and_self]; done) | simp [-List.map_append, heapFits, rowFits, obFits, T.ren, renL]) (by simp [tmFits, T.ren])) ?_
  clear hbg hD hP hS hI hG hZ hN hM
  skip
  have hC1 := cx [] (t0)
  have hC2 := cx [] (t1)
  have hC3 := cx [] (t2)
  have hC4 := cx [] (t3)
  have fy := And.intro nc4 (And.intro nc8 (And.intro wa (And.intro tn (hmm))))
  refine goV ?_ ?_ ?_ ?_ ?_ ?_ ?_ ?_ ?_ ?_ ?_ ?_ ?_ ?_ ?_ ?_
  any_goals (first | exact True.intro | skip)
  all_goals (repeat (refine Wh.mk fun hcc => ?_))
  all_goals rcases hfc with rfl | ⟨rfl, rfl⟩ | ⟨rfl, rfl⟩ | ⟨rfl, rfl⟩ | ⟨rfl, rfl⟩
  · clear hC1 hC2 hC3 hC4
    have hC1 := cx [] (hF)
    have hC2 := cx [] (hV)
    have fy := And.intro nc4 (And.intro nc8 (And.intro wa (And.intro tn (hmm))))
    refine goK ?_ ?_ ?_ ?_ ?_ ?_ ?_ ?_ ?_ ?_ ?_ ?_ ?_ ?_ ?_ ?_
    any_goals (first | exact True.intro | skip)
    all_goals (repeat (refine Wh.mk fun hcc => ?_))
    all_goals (first | (simp only [tupOf, fixEs]; done) | (simp only [tupOf, fixEs]; rfl) | rfl)
  · clear hC1 hC2 hC3 hC4
    have hC1 := cx [] (hF)
    have hC2 := cx [] (hV)
    have fy := And.intro nc4 (And.intro nc8 (And.intro wa (And.intro tn (hmm))))
    refine goK ?_ ?_ ?_ ?_ ?_ ?_ ?_ ?_ ?_ ?_ ?_ ?_ ?_ ?_ ?_ ?_
    any_goals (first | exact True.intro | skip)
    all_goals (repeat (refine Wh.mk fun hcc => ?_))
    all_goals (first | (simp only [tupOf, fixEs]; done) | (simp only [tupOf, fixEs]; rfl) | rfl)
  · clear hC1 hC2 hC3 hC4
    have hC1 := cx [] (hF)
    have hC2 := cx [] (hV)
    have fy := And.intro nc4 (And.intro nc8 (And.intro wa (And.intro tn (hmm))))
    refine goK ?_ ?_ ?_ ?_ ?_ ?_ ?_ ?_ ?_ ?_ ?_ ?_ ?_ ?_ ?_ ?_
    any_goals (first | exact True.intro | skip)
    all_goals (repeat (refine Wh.mk fun hcc => ?_))
    all_goals (first | (simp only [tupOf, fixEs]; done) | (simp only [tupOf, fixEs]; rfl) | rfl)
  · clear hC1 hC2 hC3 hC4
    have hC1 := cx [] (hF)
    have hC2 := cx [] (hV)
    have fy := And.intro nc4 (And.intro nc8 (And.intro wa (And.intro tn (hmm))))
    refine goK ?_ ?_ ?_ ?_ ?_ ?_ ?_ ?_ ?_ ?_ ?_ ?_ ?_ ?_ ?_ ?_
    any_goals (first | exact True.intro | skip)
    all_goals (repeat (refine Wh.mk fun hcc => ?_))
    all_goals (first | (simp only [tupOf, fixEs]; done) | (simp only [tupOf, fixEs]; rfl) | rfl)
  · clear hC1 hC2 hC3 hC4
    have hC1 := cx [] (hF)
    have hC2 := cx [] (hV)
    have fy := And.intro nc4 (And.intro nc8 (And.intro wa (And.intro tn (hmm))))
    refine goK ?_ ?_ ?_ ?_ ?_ ?_ ?_ ?_ ?_ ?_ ?_ ?_ ?_ ?_ ?_ ?_
    any_goals (first | exact True.intro | skip)
    all_goals (repeat (refine Wh.mk fun hcc => ?_))
    all_goals (first | (simp only [tupOf, fixEs]; done) | (simp only [tupOf, fixEs]; rfl) | rfl)
end Q6

namespace Q6
open Go Go.Vm Go.Proofs
set_option maxHeartbeats 4000000
set_option synthInstance.maxSize 2000
set_option synthInstance.maxHeartbeats 400000
set_option maxRecDepth 10000
set_option linter.unusedSimpArgs false
set_option linter.unusedVariables false

open Go.By
theorem pages1 (l : List UInt8) (hbg : CallR Try.prog 20 [.sl .s (l.map Enc.b)] [] (.bool false)) (p : PageT) (x : SlotT) (m : Int) (hpl : Enc.lim 1048576 p) (hxl : Enc.lim 1048576 x) (hD : CallR Try.prog 27 [.sl .s (l.map Enc.b)] [] (.tup [.nd [.int .i64 p.1, .nd [.nd [.bool p.2.1.1.1, .nd [.int .i64 p.2.1.1.2.1.1, .ow 1 (p.2.1.1.2.1.2.1.map Enc.o), .ow 1 (p.2.1.1.2.1.2.2.1.map Enc.o)]], .nd [.bool p.2.1.2.1.1, .nd [.int .i64 p.2.1.2.1.2.1.1, .ow 1 (p.2.1.2.1.2.1.2.1.map Enc.o), .ow 1 (p.2.1.2.1.2.1.2.2.1.map Enc.o)]], .nd [.bool p.2.1.2.2.1.1, .nd [.int .i64 p.2.1.2.2.1.2.1.1, .ow 1 (p.2.1.2.2.1.2.1.2.1.map Enc.o), .ow 1 (p.2.1.2.2.1.2.1.2.2.1.map Enc.o)]], .nd [.bool p.2.1.2.2.2.1.1, .nd [.int .i64 p.2.1.2.2.2.1.2.1.1, .ow 1 (p.2.1.2.2.2.1.2.1.2.1.map Enc.o), .ow 1 (p.2.1.2.2.2.1.2.1.2.2.1.map Enc.o)]]]], .int .i64 1, .nd [.bool x.1, .nd [.int .i64 x.2.1.1, .ow 1 (x.2.1.2.1.map Enc.o), .ow 1 (x.2.1.2.2.1.map Enc.o)]], .int .i64 m])) (hb : pageB p = true) (ho : okSet p 1 x m = true) : CallR Try.prog 5 [.sl .s (l.map Enc.b)] [] (.bool true) := by
  refine CallR.of_body (n := 138) (rs := [.tmp 2]) hY.ok Try.func5 rfl (by decide) rfl rfl rfl rfl (fun F => ?_)
  have fx := And.intro Y1 (And.intro Y2 (And.intro Y3 (And.intro Y4 (And.intro Y5 (And.intro Y24 (And.intro Y34 (And.intro Y36 (And.intro Y38 (And.intro Y47 (Y49))))))))))
  have hS := specPageOk_ok p hpl
  have hI := implPageOk_ok p hpl
  rw [hb] at hS hI
  have hP := iPutPage_y p hpl hb
  obtain ⟨hl0, hl1⟩ := putPage_len hb
  have hG := gpgI_ok (putPage p) (by omega)
  rw [gpg_put hb] at hG
  have hZ := samePage_x p hpl
  have hN := iSet_1 p x m hpl hxl ho
  have hM := sSet_1 p x m hpl hxl ho
  have hyl : Enc.lim 1048576 ((m, (p.2.1.1, x, p.2.1.2.2.1, p.2.1.2.2.2.1, ()), ()) : PageT) := ⟨trivial, ⟨hpl.2.1.1, hxl, hpl.2.1.2.2.1, hpl.2.1.2.2.2.1, trivial⟩, trivial⟩
  have hyb : pageB ((m, (p.2.1.1, x, p.2.1.2.2.1, p.2.1.2.2.2.1, ()), ()) : PageT) = true := by
    unfold okSet at ho
    unfold pageB at hb ⊢
    simp only [Bool.and_eq_true] at hb ho ⊢
    obtain ⟨hn, g0, g1, g2, g3⟩ := hb
    obtain ⟨_, _, g4, g5⟩ := ho
    refine ⟨?_, g0, g4, g2, g3⟩
    unfold rng at hn g5 ⊢
    simp only [Bool.and_eq_true, decide_eq_true_eq] at hn g5 ⊢
    omega
  have hV := implPageOk_ok ((m, (p.2.1.1, x, p.2.1.2.2.1, p.2.1.2.2.2.1, ()), ()) : PageT) hyl
  rw [hyb] at hV
  have hF := freeSlot_ok ((m, (p.2.1.1, x, p.2.1.2.2.1, p.2.1.2.2.2.1, ()), ()) : PageT) hyl
  have hfc := free_cases p.2.1.1 x p.2.1.2.2.1 p.2.1.2.2.2.1
  have t0 := sameSlot_x (p.2.1.1) hpl.2.1.1
  have t1 := sameSlot_x x hxl
  have t2 := sameSlot_x (p.2.1.2.2.1) hpl.2.1.2.2.1
  have t3 := sameSlot_x (p.2.1.2.2.2.1) hpl.2.1.2.2.2.1
  clear hb hpl hxl ho hyl hyb
  generalize putPage p = q at *
  clear hl0 hl1
  obtain ⟨n, ⟨⟨p0, ⟨k0, A0, B0, ⟨⟩⟩, ⟨⟩⟩, ⟨p1, ⟨k1, A1, B1, ⟨⟩⟩, ⟨⟩⟩, ⟨p2, ⟨k2, A2, B2, ⟨⟩⟩, ⟨⟩⟩, ⟨p3, ⟨k3, A3, B3, ⟨⟩⟩, ⟨⟩⟩, ⟨⟩⟩, ⟨⟩⟩ := p
  obtain ⟨sp, ⟨sk, sA, sB, ⟨⟩⟩, ⟨⟩⟩ := x
  simp only at hD hP hS hI hN hG hZ hM hV hF hfc t0 t1 t2 t3
  have hmm : (m == m) = true := beq_self_eq_true m
  generalize idxOf _ _ = j at *
  have hC1 := cx [.own 1] (hbg)
  have hC2 := cx [.own 1] (hD)
  have hC3 := cx [] (hP)
  have hC4 := cx [] (hS)
  have hC5 := cx [] (hG)
  have hC6 := cx [] (hZ)
  have hC7 := cx [] (hN)
  have hC8 := cx [] (hM)
  have fy := And.intro nc4 (And.intro nc8 (And.intro wa (And.intro tn (hmm))))
  refine goK ?_ ?_ ?_ ?_ ?_ ?_ ?_ ?_ ?_ ?_ ?_ ?_ ?_ ?_ ?_ ?_
  any_goals (first | exact True.intro | skip)
  all_goals (repeat (refine Wh.mk fun hcc => ?_))
  refine SW.norm (s' := ⟨[.undef, .undef, .undef, .ptr 2 0 [] 0, .int .i64 1, .ptr 3 0 [] 0, .int .i64 m, .undef, .undef, .undef, .undef, .undef, .ptr 5 0 [] 0, .undef, .undef, .undef, .int .i64 0, .undef, .undef, .undef, .undef, .undef, .undef, .undef, .undef, .undef, .undef, .undef, .undef, .undef, .undef, .undef, .undef, .undef, .undef, .undef, .undef, .undef, .undef, .undef, .undef, .undef, .undef, .undef, .undef, .undef, .undef, .undef, .undef, .undef, .undef, .undef, .undef, .undef, .undef, .undef, .undef, .undef, .undef, .undef, .undef, .undef, .undef, .undef, .undef, .undef, .undef, .undef, .undef, .undef, .undef, .undef, .undef, .undef, .undef, .undef, .undef, .undef, .undef, .undef, .undef, .undef, .undef, .undef, .undef, .undef, .undef, .undef, .undef, .undef, .undef, .undef, .undef, .undef, .undef, .undef, .undef, .undef, .undef, .undef, .undef, .undef, .undef, .undef, .undef, .undef, .undef, .undef, .undef, .undef, .undef, .undef, .undef, .undef, .undef, .undef, .undef, .undef, .undef, .undef, .undef, .undef, .undef, .undef, .undef, .undef, .undef, .undef, .undef, .undef, .undef, .undef, .undef, .undef, .undef, .undef, .undef, .undef], [[], [.arr 1 (A0.map Enc.o) false, .arr 1 (B0.map Enc.o) false, .arr 1 (A1.map Enc.o) false, .arr 1 (B1.map Enc.o) false, .arr 1 (A2.map Enc.o) false, .arr 1 (B2.map Enc.o) false, .arr 1 (A3.map Enc.o) false, .arr 1 (B3.map Enc.o) false, .arr 1 (sA.map Enc.o) false, .arr 1 (sB.map Enc.o) false], [.var (.nd [.int .i64 n, .nd [.nd [.bool p0, .nd [.int .i64 k0, .ref 1 0 0 A0.length, .ref 1 1 0 B0.length]], .nd [.bool p1, .nd [.int .i64 k1, .ref 1 2 0 A1.length, .ref 1 3 0 B1.length]], .nd [.bool p2, .nd [.int .i64 k2, .ref 1 4 0 A2.length, .ref 1 5 0 B2.length]], .nd [.bool p3, .nd [.int .i64 k3, .ref 1 6 0 A3.length, .ref 1 7 0 B3.length]]]])], [.var (.nd [.bool sp, .nd [.int .i64 sk, .ref 1 8 0 sA.length, .ref 1 9 0 sB.length]])], [.arr 1 (A0.map Enc.o) false, .arr 1 (B0.map Enc.o) false, .arr 1 (sA.map Enc.o) false, .arr 1 (sB.map Enc.o) false, .arr 1 (A2.map Enc.o) false, .arr 1 (B2.map Enc.o) false, .arr 1 (A3.map Enc.o) false, .arr 1 (B3.map Enc.o) false], [.var (.nd [.int .i64 m, .nd [.nd [.bool p0, .nd [.int .i64 k0, .ref 4 0 0 A0.length, .ref 4 1 0 B0.length]], .nd [.bool sp, .nd [.int .i64 sk, .ref 4 2 0 sA.length, .ref 4 3 0 sB.length]], .nd [.bool p2, .nd [.int .i64 k2, .ref 4 4 0 A2.length, .ref 4 5 0 B2.length]], .nd [.bool p3, .nd [.int .i64 k3, .ref 4 6 0 A3.length, .ref 4 7 0 B3.length]]]])]]⟩) (Norm.re [0, 2, 3, 4, 10, 11] (by decide) rfl (by first | (simp only [eq_self, heapFits, rowFits, obFits, List.getElem?_cons_zero, List.getElem?_cons_succ, renL_o, renL_b, true_and, and_true, and_self]; done) | simp [-List.map_append, heapFits, rowFits, obFits, T.ren, renL]) (by simp [tmFits, T.ren])) ?_
  clear hbg hD hP hS hI hG hZ hN hM
  skip
  have hC1 := cx [] (t0)
  have hC2 := cx [] (t1)
  have hC3 := cx [] (t2)
  have hC4 := cx [] (t3)
  have fy := And.intro nc4 (And.intro nc8 (And.intro wa (And.intro tn (hmm))))
  refine goV ?_ ?_ ?_ ?_ ?_ ?_ ?_ ?_ ?_ ?_ ?_ ?_ ?_ ?_ ?_ ?_
  any_goals (first | exact True.intro | skip)
  all_goals (repeat (refine Wh.mk fun hcc => ?_))
  all_goals rcases hfc with rfl | ⟨rfl, rfl⟩ | ⟨rfl, rfl⟩ | ⟨rfl, rfl⟩ | ⟨rfl, rfl⟩
  · clear hC1 hC2 hC3 hC4
    have hC1 := cx [] (hF)
    have hC2 := cx [] (hV)
    have fy := And.intro nc4 (And.intro nc8 (And.intro wa (And.intro tn (hmm))))
    refine goK ?_ ?_ ?_ ?_ ?_ ?_ ?_ ?_ ?_ ?_ ?_ ?_ ?_ ?_ ?_ ?_
    any_goals (first | exact True.intro | skip)
    all_goals (repeat (refine Wh.mk fun hcc => ?_))
    all_goals (first | (simp only [tupOf, fixEs]; done) | (simp only [tupOf, fixEs]; rfl) | rfl)
  · clear hC1 hC2 hC3 hC4
    have hC1 := cx [] (hF)
    have hC2 := cx [] (hV)
    have fy := And.intro nc4 (And.intro nc8 (And.intro wa (And.intro tn (hmm))))
    refine goK ?_ ?_ ?_ ?_ ?_ ?_ ?_ ?_ ?_ ?_ ?_ ?_ ?_ ?_ ?_ ?_
    any_goals (first | exact True.intro | skip)
    all_goals (repeat (refine Wh.mk fun hcc => ?_))
    all_goals (first | (simp only [tupOf, fixEs]; done) | (simp only [tupOf, fixEs]; rfl) | rfl)
  · clear hC1 hC2 hC3 hC4
    have hC1 := cx [] (hF)
    have hC2 := cx [] (hV)
    have fy := And.intro nc4 (And.intro nc8 (And.intro wa (And.intro tn (hmm))))
    refine goK ?_ ?_ ?_ ?_ ?_ ?_ ?_ ?_ ?_ ?_ ?_ ?_ ?_ ?_ ?_ ?_
    any_goals (first | exact True.intro | skip)
    all_goals (repeat (refine Wh.mk fun hcc => ?_))
    all_goals (first | (simp only [tupOf, fixEs]; done) | (simp only [tupOf, fixEs]; rfl) | rfl)
  · clear hC1 hC2 hC3 hC4
    have hC1 := cx [] (hF)
    have hC2 := cx [] (hV)
    have fy := And.intro nc4 (And.intro nc8 (And.intro wa (And.intro tn (hmm))))
    refine goK ?_ ?_ ?_ ?_ ?_ ?_ ?_ ?_ ?_ ?_ ?_ ?_ ?_ ?_ ?_ ?_
    any_goals (first | exact True.intro | skip)
    all_goals (repeat (refine Wh.mk fun hcc => ?_))
    all_goals (first | (simp only [tupOf, fixEs]; done) | (simp only [tupOf, fixEs]; rfl) | rfl)
  · clear hC1 hC2 hC3 hC4
    have hC1 := cx [] (hF)
    have hC2 := cx [] (hV)
    have fy := And.intro nc4 (And.intro nc8 (And.intro wa (And.intro tn (hmm))))
    refine goK ?_ ?_ ?_ ?_ ?_ ?_ ?_ ?_ ?_ ?_ ?_ ?_ ?_ ?_ ?_ ?_
    any_goals (first | exact True.intro | skip)
    all_goals (repeat (refine Wh.mk fun hcc => ?_))
    all_goals (first | (simp only [tupOf, fixEs]; done) | (simp only [tupOf, fixEs]; rfl) | rfl)
end Q6

namespace Q6
open Go Go.Vm Go.Proofs
set_option maxHeartbeats 4000000
set_option synthInstance.maxSize 2000
set_option synthInstance.maxHeartbeats 400000
set_option maxRecDepth 10000
set_option linter.unusedSimpArgs false
set_option linter.unusedVariables false

open Go.By
theorem pages2 (l : List UInt8) (hbg : CallR Try.prog 20 [.sl .s (l.map Enc.b)] [] (.bool false)) (p : PageT) (x : SlotT) (m : Int) (hpl : Enc.lim 1048576 p) (hxl : Enc.lim 1048576 x) (hD : CallR Try.prog 27 [.sl .s (l.map Enc.b)] [] (.tup [.nd [.int .i64 p.1, .nd [.nd [.bool p.2.1.1.1, .nd [.int .i64 p.2.1.1.2.1.1, .ow 1 (p.2.1.1.2.1.2.1.map Enc.o), .ow 1 (p.2.1.1.2.1.2.2.1.map Enc.o)]], .nd [.bool p.2.1.2.1.1, .nd [.int .i64 p.2.1.2.1.2.1.1, .ow 1 (p.2.1.2.1.2.1.2.1.map Enc.o), .ow 1 (p.2.1.2.1.2.1.2.2.1.map Enc.o)]], .nd [.bool p.2.1.2.2.1.1, .nd [.int .i64 p.2.1.2.2.1.2.1.1, .ow 1 (p.2.1.2.2.1.2.1.2.1.map Enc.o), .ow 1 (p.2.1.2.2.1.2.1.2.2.1.map Enc.o)]], .nd [.bool p.2.1.2.2.2.1.1, .nd [.int .i64 p.2.1.2.2.2.1.2.1.1, .ow 1 (p.2.1.2.2.2.1.2.1.2.1.map Enc.o), .ow 1 (p.2.1.2.2.2.1.2.1.2.2.1.map Enc.o)]]]], .int .i64 2, .nd [.bool x.1, .nd [.int .i64 x.2.1.1, .ow 1 (x.2.1.2.1.map Enc.o), .ow 1 (x.2.1.2.2.1.map Enc.o)]], .int .i64 m])) (hb : pageB p = true) (ho : okSet p 2 x m = true) : CallR Try.prog 5 [.sl .s (l.map Enc.b)] [] (.bool true) := by
  refine CallR.of_body (n := 138) (rs := [.tmp 2]) hY.ok Try.func5 rfl (by decide) rfl rfl rfl rfl (fun F => ?_)
  have fx := And.intro Y1 (And.intro Y2 (And.intro Y3 (And.intro Y4 (And.intro Y5 (And.intro Y24 (And.intro Y34 (And.intro Y36 (And.intro Y38 (And.intro Y47 (Y49))))))))))
  have hS := specPageOk_ok p hpl
  have hI := implPageOk_ok p hpl
  rw [hb] at hS hI
  have hP := iPutPage_y p hpl hb
  obtain ⟨hl0, hl1⟩ := putPage_len hb
  have hG := gpgI_ok (putPage p) (by omega)
  rw [gpg_put hb] at hG
  have hZ := samePage_x p hpl
  have hN := iSet_2 p x m hpl hxl ho
  have hM := sSet_2 p x m hpl hxl ho
  have hyl : Enc.lim 1048576 ((m, (p.2.1.1, p.2.1.2.1, x, p.2.1.2.2.2.1, ()), ()) : PageT) := ⟨trivial, ⟨hpl.2.1.1, hpl.2.1.2.1, hxl, hpl.2.1.2.2.2.1, trivial⟩, trivial⟩
  have hyb : pageB ((m, (p.2.1.1, p.2.1.2.1, x, p.2.1.2.2.2.1, ()), ()) : PageT) = true := by
    unfold okSet at ho
    unfold pageB at hb ⊢
    simp only [Bool.and_eq_true] at hb ho ⊢
    obtain ⟨hn, g0, g1, g2, g3⟩ := hb
    obtain ⟨_, _, g4, g5⟩ := ho
    refine ⟨?_, g0, g1, g4, g3⟩
    unfold rng at hn g5 ⊢
    simp only [Bool.and_eq_true, decide_eq_true_eq] at hn g5 ⊢
    omega
  have hV := implPageOk_ok ((m, (p.2.1.1, p.2.1.2.1, x, p.2.1.2.2.2.1, ()), ()) : PageT) hyl
  rw [hyb] at hV
  have hF := freeSlot_ok ((m, (p.2.1.1, p.2.1.2.1, x, p.2.1.2.2.2.1, ()), ()) : PageT) hyl
  have hfc := free_cases p.2.1.1 p.2.1.2.1 x p.2.1.2.2.2.1
  have t0 := sameSlot_x (p.2.1.1) hpl.2.1.1
  have t1 := sameSlot_x (p.2.1.2.1) hpl.2.1.2.1
  have t2 := sameSlot_x x hxl
  have t3 := sameSlot_x (p.2.1.2.2.2.1) hpl.2.1.2.2.2.1
  clear hb hpl hxl ho hyl hyb
  generalize putPage p = q at *
  clear hl0 hl1
  obtain ⟨n, ⟨⟨p0, ⟨k0, A0, B0, ⟨⟩⟩, ⟨⟩⟩, ⟨p1, ⟨k1, A1, B1, ⟨⟩⟩, ⟨⟩⟩, ⟨p2, ⟨k2, A2, B2, ⟨⟩⟩, ⟨⟩⟩, ⟨p3, ⟨k3, A3, B3, ⟨⟩⟩, ⟨⟩⟩, ⟨⟩⟩, ⟨⟩⟩ := p
  obtain ⟨sp, ⟨sk, sA, sB, ⟨⟩⟩, ⟨⟩⟩ := x
  simp only at hD hP hS hI hN hG hZ hM hV hF hfc t0 t1 t2 t3
  have hmm : (m == m) = true := beq_self_eq_true m
  generalize idxOf _ _ = j at *
  have hC1 := cx [.own 1] (hbg)
  have hC2 := cx [.own 1] (hD)
  have hC3 := cx [] (hP)
  have hC4 := cx [] (hS)
  have hC5 := cx [] (hG)
  have hC6 := cx [] (hZ)
  have hC7 := cx [] (hN)
  have hC8 := cx [] (hM)
  have fy := And.intro nc4 (And.intro nc8 (And.intro wa (And.intro tn (hmm))))
  refine goK ?_ ?_ ?_ ?_ ?_ ?_ ?_ ?_ ?_ ?_ ?_ ?_ ?_ ?_ ?_ ?_
  any_goals (first | exact True.intro | skip)
  all_goals (repeat (refine Wh.mk fun hcc => ?_))
  refine SW.norm (s' := ⟨[.undef, .undef, .undef, .ptr 2 0 [] 0, .int .i64 2, .ptr 3 0 [] 0, .int .i64 m, .undef, .undef, .undef, .undef, .undef, .ptr 5 0 [] 0, .undef, .undef, .undef, .int .i64 0, .undef, .undef, .undef, .undef, .undef, .undef, .undef, .undef, .undef, .undef, .undef, .undef, .undef, .undef, .undef, .undef, .undef, .undef, .undef, .undef, .undef, .undef, .undef, .undef, .undef, .undef, .undef, .undef, .undef, .undef, .undef, .undef, .undef, .undef, .undef, .undef, .undef, .undef, .undef, .undef, .undef, .undef, .undef, .undef, .undef, .undef, .undef, .undef, .undef, .undef, .undef, .undef, .undef, .undef, .undef, .undef, .undef, .undef, .undef, .undef, .undef, .undef, .undef, .undef, .undef, .undef, .undef, .undef, .undef, .undef, .undef, .undef, .undef, .undef, .undef, .undef, .undef, .undef, .undef, .undef, .undef, .undef, .undef, .undef, .undef, .undef, .undef, .undef, .undef, .undef, .undef, .undef, .undef, .undef, .undef, .undef, .undef, .undef, .undef, .undef, .undef, .undef, .undef, .undef, .undef, .undef, .undef, .undef, .undef, .undef, .undef, .undef, .undef, .undef, .undef, .undef, .undef, .undef, .undef, .undef, .undef], [[], [.arr 1 (A0.map Enc.o) false, .arr 1 (B0.map Enc.o) false, .arr 1 (A1.map Enc.o) false, .arr 1 (B1.map Enc.o) false, .arr 1 (A2.map Enc.o) false, .arr 1 (B2.map Enc.o) false, .arr 1 (A3.map Enc.o) false, .arr 1 (B3.map Enc.o) false, .arr 1 (sA.map Enc.o) false, .arr 1 (sB.map Enc.o) false], [.var (.nd [.int .i64 n, .nd [.nd [.bool p0, .nd [.int .i64 k0, .ref 1 0 0 A0.length, .ref 1 1 0 B0.length]], .nd [.bool p1, .nd [.int .i64 k1, .ref 1 2 0 A1.length, .ref 1 3 0 B1.length]], .nd [.bool p2, .nd [.int .i64 k2, .ref 1 4 0 A2.length, .ref 1 5 0 B2.length]], .nd [.bool p3, .nd [.int .i64 k3, .ref 1 6 0 A3.length, .ref 1 7 0 B3.length]]]])], [.var (.nd [.bool sp, .nd [.int .i64 sk, .ref 1 8 0 sA.length, .ref 1 9 0 sB.length]])], [.arr 1 (A0.map Enc.o) false, .arr 1 (B0.map Enc.o) false, .arr 1 (A1.map Enc.o) false, .arr 1 (B1.map Enc.o) false, .arr 1 (sA.map Enc.o) false, .arr 1 (sB.map Enc.o) false, .arr 1 (A3.map Enc.o) false, .arr 1 (B3.map Enc.o) false], [.var (.nd [.int .i64 m, .nd [.nd [.bool p0, .nd [.int .i64 k0, .ref 4 0 0 A0.length, .ref 4 1 0 B0.length]], .nd [.bool p1, .nd [.int .i64 k1, .ref 4 2 0 A1.length, .ref 4 3 0 B1.length]], .nd [.bool sp, .nd [.int .i64 sk, .ref 4 4 0 sA.length, .ref 4 5 0 sB.length]], .nd [.bool p3, .nd [.int .i64 k3, .ref 4 6 0 A3.length, .ref 4 7 0 B3.length]]]])]]⟩) (Norm.re [0, 2, 3, 4, 10, 11] (by decide) rfl (by first | (simp only [eq_self, heapFits, rowFits, obFits, List.getElem?_cons_zero, List.getElem?_cons_succ, renL_o, renL_b, true_and, and_true, and_self]; done) | simp [-List.map_append, heapFits, rowFits, obFits, T.ren, renL]) (by simp [tmFits, T.ren])) ?_
  clear hbg hD hP hS hI hG hZ hN hM
  skip
  have hC1 := cx [] (t0)
  have hC2 := cx [] (t1)
  have hC3 := cx [] (t2)
  have hC4 := cx [] (t3)
  have fy := And.intro nc4 (And.intro nc8 (And.intro wa (And.intro tn (hmm))))
  refine goV ?_ ?_ ?_ ?_ ?_ ?_ ?_ ?_ ?_ ?_ ?_ ?_ ?_ ?_ ?_ ?_
  any_goals (first | exact True.intro | skip)
  all_goals (repeat (refine Wh.mk fun hcc => ?_))
  all_goals rcases hfc with rfl | ⟨rfl, rfl⟩ | ⟨rfl, rfl⟩ | ⟨rfl, rfl⟩ | ⟨rfl, rfl⟩
  · clear hC1 hC2 hC3 hC4
    have hC1 := cx [] (hF)
    have hC2 := cx [] (hV)
    have fy := And.intro nc4 (And.intro nc8 (And.intro wa (And.intro tn (hmm))))
    refine goK ?_ ?_ ?_ ?_ ?_ ?_ ?_ ?_ ?_ ?_ ?_ ?_ ?_ ?_ ?_ ?_
    any_goals (first | exact True.intro | skip)
    all_goals (repeat (refine Wh.mk fun hcc => ?_))
    all_goals (first | (simp only [tupOf, fixEs]; done) | (simp only [tupOf, fixEs]; rfl) | rfl)
  · clear hC1 hC2 hC3 hC4
    have hC1 := cx [] (hF)
    have hC2 := cx [] (hV)
    have fy := And.intro nc4 (And.intro nc8 (And.intro wa (And.intro tn (hmm))))
    refine goK ?_ ?_ ?_ ?_ ?_ ?_ ?_ ?_ ?_ ?_ ?_ ?_ ?_ ?_ ?_ ?_
    any_goals (first | exact True.intro | skip)
    all_goals (repeat (refine Wh.mk fun hcc => ?_))
    all_goals (first | (simp only [tupOf, fixEs]; done) | (simp only [tupOf, fixEs]; rfl) | rfl)
  · clear hC1 hC2 hC3 hC4
    have hC1 := cx [] (hF)
    have hC2 := cx [] (hV)
    have fy := And.intro nc4 (And.intro nc8 (And.intro wa (And.intro tn (hmm))))
    refine goK ?_ ?_ ?_ ?_ ?_ ?_ ?_ ?_ ?_ ?_ ?_ ?_ ?_ ?_ ?_ ?_
    any_goals (first | exact True.intro | skip)
    all_goals (repeat (refine Wh.mk fun hcc => ?_))
    all_goals (first | (simp only [tupOf, fixEs]; done) | (simp only [tupOf, fixEs]; rfl) | rfl)
  · clear hC1 hC2 hC3 hC4
    have hC1 := cx [] (hF)
    have hC2 := cx [] (hV)
    have fy := And.intro nc4 (And.intro nc8 (And.intro wa (And.intro tn (hmm))))
    refine goK ?_ ?_ ?_ ?_ ?_ ?_ ?_ ?_ ?_ ?_ ?_ ?_ ?_ ?_ ?_ ?_
    any_goals (first | exact True.intro | skip)
    all_goals (repeat (refine Wh.mk fun hcc => ?_))
    all_goals (first | (simp only [tupOf, fixEs]; done) | (simp only [tupOf, fixEs]; rfl) | rfl)
  · clear hC1 hC2 hC3 hC4
    have hC1 := cx [] (hF)
    have hC2 := cx [] (hV)
    have fy := And.intro nc4 (And.intro nc8 (And.intro wa (And.intro tn (hmm))))
    refine goK ?_ ?_ ?_ ?_ ?_ ?_ ?_ ?_ ?_ ?_ ?_ ?_ ?_ ?_ ?_ ?_
    any_goals (first | exact True.intro | skip)
    all_goals (repeat (refine Wh.mk fun hcc => ?_))
    all_goals (first | (simp only [tupOf, fixEs]; done) | (simp only [tupOf, fixEs]; rfl) | rfl)
end Q6

namespace Q6
open Go Go.Vm Go.Proofs
set_option maxHeartbeats 4000000
set_option synthInstance.maxSize 2000
set_option synthInstance.maxHeartbeats 400000
set_option maxRecDepth 10000
set_option linter.unusedSimpArgs false
set_option linter.unusedVariables false

open Go.By
theorem pages3 (l : List UInt8) (hbg : CallR Try.prog 20 [.sl .s (l.map Enc.b)] [] (.bool false)) (p : PageT) (x : SlotT) (m : Int) (hpl : Enc.lim 1048576 p) (hxl : Enc.lim 1048576 x) (hD : CallR Try.prog 27 [.sl .s (l.map Enc.b)] [] (.tup [.nd [.int .i64 p.1, .nd [.nd [.bool p.2.1.1.1, .nd [.int .i64 p.2.1.1.2.1.1, .ow 1 (p.2.1.1.2.1.2.1.map Enc.o), .ow 1 (p.2.1.1.2.1.2.2.1.map Enc.o)]], .nd [.bool p.2.1.2.1.1, .nd [.int .i64 p.2.1.2.1.2.1.1, .ow 1 (p.2.1.2.1.2.1.2.1.map Enc.o), .ow 1 (p.2.1.2.1.2.1.2.2.1.map Enc.o)]], .nd [.bool p.2.1.2.2.1.1, .nd [.int .i64 p.2.1.2.2.1.2.1.1, .ow 1 (p.2.1.2.2.1.2.1.2.1.map Enc.o), .ow 1 (p.2.1.2.2.1.2.1.2.2.1.map Enc.o)]], .nd [.bool p.2.1.2.2.2.1.1, .nd [.int .i64 p.2.1.2.2.2.1.2.1.1, .ow 1 (p.2.1.2.2.2.1.2.1.2.1.map Enc.o), .ow 1 (p.2.1.2.2.2.1.2.1.2.2.1.map Enc.o)]]]], .int .i64 3, .nd [.bool x.1, .nd [.int .i64 x.2.1.1, .ow 1 (x.2.1.2.1.map Enc.o), .ow 1 (x.2.1.2.2.1.map Enc.o)]], .int .i64 m])) (hb : pageB p = true) (ho : okSet p 3 x m = true) : CallR Try.prog 5 [.sl .s (l.map Enc.b)] [] (.bool true) := by
  refine CallR.of_body (n := 138) (rs := [.tmp 2]) hY.ok Try.func5 rfl (by decide) rfl rfl rfl rfl (fun F => ?_)
  have fx := And.intro Y1 (And.intro Y2 (And.intro Y3 (And.intro Y4 (And.intro Y5 (And.intro Y24 (And.intro Y34 (And.intro Y36 (And.intro Y38 (And.intro Y47 (Y49))))))))))
  have hS := specPageOk_ok p hpl
  have hI := implPageOk_ok p hpl
  rw [hb] at hS hI
  have hP := iPutPage_y p hpl hb
  obtain ⟨hl0, hl1⟩ := putPage_len hb
  have hG := gpgI_ok (putPage p) (by omega)
  rw [gpg_put hb] at hG
  have hZ := samePage_x p hpl
  have hN := iSet_3 p x m hpl hxl ho
  have hM := sSet_3 p x m hpl hxl ho
  have hyl : Enc.lim 1048576 ((m, (p.2.1.1, p.2.1.2.1, p.2.1.2.2.1, x, ()), ()) : PageT) := ⟨trivial, ⟨hpl.2.1.1, hpl.2.1.2.1, hpl.2.1.2.2.1, hxl, trivial⟩, trivial⟩
  have hyb : pageB ((m, (p.2.1.1, p.2.1.2.1, p.2.1.2.2.1, x, ()), ()) : PageT) = true := by
    unfold okSet at ho
    unfold pageB at hb ⊢
    simp only [Bool.and_eq_true] at hb ho ⊢
    obtain ⟨hn, g0, g1, g2, g3⟩ := hb
    obtain ⟨_, _, g4, g5⟩ := ho
    refine ⟨?_, g0, g1, g2, g4⟩
    unfold rng at hn g5 ⊢
    simp only [Bool.and_eq_true, decide_eq_true_eq] at hn g5 ⊢
    omega
  have hV := implPageOk_ok ((m, (p.2.1.1, p.2.1.2.1, p.2.1.2.2.1, x, ()), ()) : PageT) hyl
  rw [hyb] at hV
  have hF := freeSlot_ok ((m, (p.2.1.1, p.2.1.2.1, p.2.1.2.2.1, x, ()), ()) : PageT) hyl
  have hfc := free_cases p.2.1.1 p.2.1.2.1 p.2.1.2.2.1 x
  have t0 := sameSlot_x (p.2.1.1) hpl.2.1.1
  have t1 := sameSlot_x (p.2.1.2.1) hpl.2.1.2.1
  have t2 := sameSlot_x (p.2.1.2.2.1) hpl.2.1.2.2.1
  have t3 := sameSlot_x x hxl
  clear hb hpl hxl ho hyl hyb
  generalize putPage p = q at *
  clear hl0 hl1
  obtain ⟨n, ⟨⟨p0, ⟨k0, A0, B0, ⟨⟩⟩, ⟨⟩⟩, ⟨p1, ⟨k1, A1, B1, ⟨⟩⟩, ⟨⟩⟩, ⟨p2, ⟨k2, A2, B2, ⟨⟩⟩, ⟨⟩⟩, ⟨p3, ⟨k3, A3, B3, ⟨⟩⟩, ⟨⟩⟩, ⟨⟩⟩, ⟨⟩⟩ := p
  obtain ⟨sp, ⟨sk, sA, sB, ⟨⟩⟩, ⟨⟩⟩ := x
  simp only at hD hP hS hI hN hG hZ hM hV hF hfc t0 t1 t2 t3
  have hmm : (m == m) = true := beq_self_eq_true m
  generalize idxOf _ _ = j at *
  have hC1 := cx [.own 1] (hbg)
  have hC2 := cx [.own 1] (hD)
  have hC3 := cx [] (hP)
  have hC4 := cx [] (hS)
  have hC5 := cx [] (hG)
  have hC6 := cx [] (hZ)
  have hC7 := cx [] (hN)
  have hC8 := cx [] (hM)
  have fy := And.intro nc4 (And.intro nc8 (And.intro wa (And.intro tn (hmm))))
  refine goK ?_ ?_ ?_ ?_ ?_ ?_ ?_ ?_ ?_ ?_ ?_ ?_ ?_ ?_ ?_ ?_
  any_goals (first | exact True.intro | skip)
  all_goals (repeat (refine Wh.mk fun hcc => ?_))
  refine SW.norm (s' := ⟨[.undef, .undef, .undef, .ptr 2 0 [] 0, .int .i64 3, .ptr 3 0 [] 0, .int .i64 m, .undef, .undef, .undef, .undef, .undef, .ptr 5 0 [] 0, .undef, .undef, .undef, .int .i64 0, .undef, .undef, .undef, .undef, .undef, .undef, .undef, .undef, .undef, .undef, .undef, .undef, .undef, .undef, .undef, .undef, .undef, .undef, .undef, .undef, .undef, .undef, .undef, .undef, .undef, .undef, .undef, .undef, .undef, .undef, .undef, .undef, .undef, .undef, .undef, .undef, .undef, .undef, .undef, .undef, .undef, .undef, .undef, .undef, .undef, .undef, .undef, .undef, .undef, .undef, .undef, .undef, .undef, .undef, .undef, .undef, .undef, .undef, .undef, .undef, .undef, .undef, .undef, .undef, .undef, .undef, .undef, .undef, .undef, .undef, .undef, .undef, .undef, .undef, .undef, .undef, .undef, .undef, .undef, .undef, .undef, .undef, .undef, .undef, .undef, .undef, .undef, .undef, .undef, .undef, .undef, .undef, .undef, .undef, .undef, .undef, .undef, .undef, .undef, .undef, .undef, .undef, .undef, .undef, .undef, .undef, .undef, .undef, .undef, .undef, .undef, .undef, .undef, .undef, .undef, .undef, .undef, .undef, .undef, .undef, .undef], [[], [.arr 1 (A0.map Enc.o) false, .arr 1 (B0.map Enc.o) false, .arr 1 (A1.map Enc.o) false, .arr 1 (B1.map Enc.o) false, .arr 1 (A2.map Enc.o) false, .arr 1 (B2.map Enc.o) false, .arr 1 (A3.map Enc.o) false, .arr 1 (B3.map Enc.o) false, .arr 1 (sA.map Enc.o) false, .arr 1 (sB.map Enc.o) false], [.var (.nd [.int .i64 n, .nd [.nd [.bool p0, .nd [.int .i64 k0, .ref 1 0 0 A0.length, .ref 1 1 0 B0.length]], .nd [.bool p1, .nd [.int .i64 k1, .ref 1 2 0 A1.length, .ref 1 3 0 B1.length]], .nd [.bool p2, .nd [.int .i64 k2, .ref 1 4 0 A2.length, .ref 1 5 0 B2.length]], .nd [.bool p3, .nd [.int .i64 k3, .ref 1 6 0 A3.length, .ref 1 7 0 B3.length]]]])], [.var (.nd [.bool sp, .nd [.int .i64 sk, .ref 1 8 0 sA.length, .ref 1 9 0 sB.length]])], [.arr 1 (A0.map Enc.o) false, .arr 1 (B0.map Enc.o) false, .arr 1 (A1.map Enc.o) false, .arr 1 (B1.map Enc.o) false, .arr 1 (A2.map Enc.o) false, .arr 1 (B2.map Enc.o) false, .arr 1 (sA.map Enc.o) false, .arr 1 (sB.map Enc.o) false], [.var (.nd [.int .i64 m, .nd [.nd [.bool p0, .nd [.int .i64 k0, .ref 4 0 0 A0.length, .ref 4 1 0 B0.length]], .nd [.bool p1, .nd [.int .i64 k1, .ref 4 2 0 A1.length, .ref 4 3 0 B1.length]], .nd [.bool p2, .nd [.int .i64 k2, .ref 4 4 0 A2.length, .ref 4 5 0 B2.length]], .nd [.bool sp, .nd [.int .i64 sk, .ref 4 6 0 sA.length, .ref 4 7 0 sB.length]]]])]]⟩) (Norm.re [0, 2, 3, 4, 10, 11] (by decide) rfl (by first | (simp only [eq_self, heapFits, rowFits, obFits, List.getElem?_cons_zero, List.getElem?_cons_succ, renL_o, renL_b, true_and, and_true, and_self]; done) | simp [-List.map_append, heapFits, rowFits, obFits, T.ren, renL]) (by simp [tmFits, T.ren])) ?_
  clear hbg hD hP hS hI hG hZ hN hM
  skip
  have hC1 := cx [] (t0)
  have hC2 := cx [] (t1)
  have hC3 := cx [] (t2)
  have hC4 := cx [] (t3)
  have fy := And.intro nc4 (And.intro nc8 (And.intro wa (And.intro tn (hmm))))
  refine goV ?_ ?_ ?_ ?_ ?_ ?_ ?_ ?_ ?_ ?_ ?_ ?_ ?_ ?_ ?_ ?_
  any_goals (first | exact True.intro | skip)
  all_goals (repeat (refine Wh.mk fun hcc => ?_))
  all_goals rcases hfc with rfl | ⟨rfl, rfl⟩ | ⟨rfl, rfl⟩ | ⟨rfl, rfl⟩ | ⟨rfl, rfl⟩
  · clear hC1 hC2 hC3 hC4
    have hC1 := cx [] (hF)
    have hC2 := cx [] (hV)
    have fy := And.intro nc4 (And.intro nc8 (And.intro wa (And.intro tn (hmm))))
    refine goK ?_ ?_ ?_ ?_ ?_ ?_ ?_ ?_ ?_ ?_ ?_ ?_ ?_ ?_ ?_ ?_
    any_goals (first | exact True.intro | skip)
    all_goals (repeat (refine Wh.mk fun hcc => ?_))
    all_goals (first | (simp only [tupOf, fixEs]; done) | (simp only [tupOf, fixEs]; rfl) | rfl)
  · clear hC1 hC2 hC3 hC4
    have hC1 := cx [] (hF)
    have hC2 := cx [] (hV)
    have fy := And.intro nc4 (And.intro nc8 (And.intro wa (And.intro tn (hmm))))
    refine goK ?_ ?_ ?_ ?_ ?_ ?_ ?_ ?_ ?_ ?_ ?_ ?_ ?_ ?_ ?_ ?_
    any_goals (first | exact True.intro | skip)
    all_goals (repeat (refine Wh.mk fun hcc => ?_))
    all_goals (first | (simp only [tupOf, fixEs]; done) | (simp only [tupOf, fixEs]; rfl) | rfl)
  · clear hC1 hC2 hC3 hC4
    have hC1 := cx [] (hF)
    have hC2 := cx [] (hV)
    have fy := And.intro nc4 (And.intro nc8 (And.intro wa (And.intro tn (hmm))))
    refine goK ?_ ?_ ?_ ?_ ?_ ?_ ?_ ?_ ?_ ?_ ?_ ?_ ?_ ?_ ?_ ?_
    any_goals (first | exact True.intro | skip)
    all_goals (repeat (refine Wh.mk fun hcc => ?_))
    all_goals (first | (simp only [tupOf, fixEs]; done) | (simp only [tupOf, fixEs]; rfl) | rfl)
  · clear hC1 hC2 hC3 hC4
    have hC1 := cx [] (hF)
    have hC2 := cx [] (hV)
    have fy := And.intro nc4 (And.intro nc8 (And.intro wa (And.intro tn (hmm))))
    refine goK ?_ ?_ ?_ ?_ ?_ ?_ ?_ ?_ ?_ ?_ ?_ ?_ ?_ ?_ ?_ ?_
    any_goals (first | exact True.intro | skip)
    all_goals (repeat (refine Wh.mk fun hcc => ?_))
    all_goals (first | (simp only [tupOf, fixEs]; done) | (simp only [tupOf, fixEs]; rfl) | rfl)
  · clear hC1 hC2 hC3 hC4
    have hC1 := cx [] (hF)
    have hC2 := cx [] (hV)
    have fy := And.intro nc4 (And.intro nc8 (And.intro wa (And.intro tn (hmm))))
    refine goK ?_ ?_ ?_ ?_ ?_ ?_ ?_ ?_ ?_ ?_ ?_ ?_ ?_ ?_ ?_ ?_
    any_goals (first | exact True.intro | skip)
    all_goals (repeat (refine Wh.mk fun hcc => ?_))
    all_goals (first | (simp only [tupOf, fixEs]; done) | (simp only [tupOf, fixEs]; rfl) | rfl)
end Q6

namespace Q6
open Go Go.Vm Go.Proofs
set_option maxHeartbeats 4000000
set_option synthInstance.maxSize 2000
set_option synthInstance.maxHeartbeats 400000
set_option maxRecDepth 10000
set_option linter.unusedSimpArgs false
set_option linter.unusedVariables false

open Go.By
theorem pagesLaw_big (l : List UInt8) (hbg : CallR Try.prog 20 [.sl .s (l.map Enc.b)] [] (.bool true)) : CallR Try.prog 5 [.sl .s (l.map Enc.b)] [] (.bool true) := by
  refine CallR.of_body (n := 138) (rs := [.tmp 2]) hY.ok Try.func5 rfl (by decide) rfl rfl rfl rfl (fun F => ?_)
  have fx := And.intro Y1 (And.intro Y2 (And.intro Y3 (And.intro Y4 (And.intro Y5 (And.intro Y24 (And.intro Y34 (And.intro Y36 (And.intro Y38 (And.intro Y47 (Y49))))))))))
  have hC1 := cx [.own 1] (hbg)
  have fy := Nat.add_zero
  refine goK ?_ ?_ ?_ ?_ ?_ ?_ ?_ ?_ ?_ ?_ ?_ ?_ ?_ ?_ ?_ ?_
  any_goals (first | exact True.intro | skip)
  all_goals (repeat (refine Wh.mk fun hcc => ?_))
  all_goals (first | (simp only [tupOf, fixEs]; done) | (simp only [tupOf, fixEs]; rfl) | rfl)
theorem pagesLaw_ok (l : List UInt8) : CallR Try.prog 5 [.sl .s (l.map Enc.b)] [] (.bool true) := by
  have hbg := big_ok l
  by_cases hb : (1048576 : Int) < (l.length : Int)
  · rw [decide_eq_true hb] at hbg
    exact pagesLaw_big l hbg
  rw [decide_eq_false hb] at hbg
  obtain ⟨p, k, x, m, hp, hx, _, hD⟩ := drawSetD l (by omega)
  have hpl := pgL_lim hp (by decide)
  have hxl := slL_lim hx (by decide)
  cases hb2 : pageB p
  · exact pagesBad k l hbg p x m hpl hxl hD hb2
  cases ho : okSet p k x m
  · exact pagesNo k l hbg p x m hpl hxl hD hb2 ho
  have hk : 0 ≤ k ∧ k ≤ 3 := by
    have h := ho
    unfold okSet rng at h
    simp only [Bool.and_eq_true, decide_eq_true_eq] at h
    omega
  obtain rfl | rfl | rfl | rfl : k = 0 ∨ k = 1 ∨ k = 2 ∨ k = 3 := by omega
  · exact pages0 l hbg p x m hpl hxl hD hb2 ho
  · exact pages1 l hbg p x m hpl hxl hD hb2 ho
  · exact pages2 l hbg p x m hpl hxl hD hb2 ho
  · exact pages3 l hbg p x m hpl hxl hD hb2 ho
end Q6

namespace Q6.Pages
open Go Go.Vm Go.Proofs
set_option maxHeartbeats 4000000
set_option synthInstance.maxSize 2000
set_option synthInstance.maxHeartbeats 400000
set_option maxRecDepth 10000
set_option linter.unusedSimpArgs false
set_option linter.unusedVariables false

open Go.Proofs.Ytalhmcbkmpggiaa
open Go.ChangeShapes Go.WideShapes Go.ChangeAt Go.RowKit
theorem own : ownKnob Try.prog.godebug = none := by kernel_rfl
theorem laidOut : laidOutB Try.prog = true := by kernel_rfl
theorem plain24 : plainT Y 12 24 = true := by kernel_rfl

set_option maxRecDepth 100000 in
theorem lifted (os : Os) (started : os.Started) (H : Type) (enc : TypeId × Value → H) :
    ReturnsInHanded {} Try.checked os 5 .any (Rows.fnPagesSpec.pre6 enc Try.prog Try.f5 Rows.fnPagesRow.domain false) (Rows.fnPagesSpec.post enc Try.prog Try.f5 false true false false) := by
  refine returnsInHanded_of_change (C := Try.checked) own started (by kernel_rfl) Try.func5
    (ChangeSpec.witness6 (enc := enc) (C := Try.checked) false ⟨#[], #[.slice none 0 0], []⟩ 8 (by kernel_rfl) (by kernel_rfl) (by kernel_rfl) (by kernel_rfl)) ?_
  intro W base args ds gs before hval0 hW hcnd _
  have hval : ∀ (j : Nat) t v, Try.f5.params[j]? = some t → args[j]? = some v → Value.okWide Try.prog W .any base t v := hval0
  have hW' := hW
  obtain ⟨p, q, hA0, hV, rfl, _, _⟩ := hW
  have hA : DataW.TrodAll enc Try.prog W 0 (fun _ => true) true Try.f5.params.toList args.toList ds p := hA0
  have hV' : DataW.TrodVars enc Try.prog W (fun _ => true) [] gs q := hV
  obtain ⟨rfl, rfl⟩ := trodVars_none hV'
  rw [Try.params5] at hA hval
  have one := trodAll_one hA
  refine (calls_ofS hY 12 (by simp [plain24]) hA (fun j t v h1 h2 => hval j t v (by simpa using h1) (by simpa using h2)) ?_).mono ?_
  · intro us hu ht
    match us, hu with
    | [u0], _ =>
      obtain ⟨x0, rfl, hx0⟩ := Enc.dec (α := List UInt8) Y 12 24 u0 (by kernel_rfl) (ht 0 24 u0 rfl rfl)
      exact pagesLaw_ok x0
  · rintro e W' ⟨rfl, h1, h2⟩
    obtain ⟨v, d, _, rfl, _⟩ := one
    exact ⟨_, rfl, post_true (tb := 4) laidOut (by rw [Try.params5]; exact of_decide_eq_true (by kernel_rfl)) rfl hW' rfl rfl rfl rfl (by kernel_rfl) h1 h2⟩

theorem fnPages_holds : Rows.FnPagesSaid :=
  OpenClaim.holds_of_wide 5 Try.f5 rfl rfl rfl rfl rfl rfl rfl ⟨rfl, rfl, rfl, rfl, rfl⟩ rfl rfl rfl rfl rfl (by kernel_rfl) Try.func5 (by kernel_rfl)
    (of_decide_eq_true (by kernel_rfl)) (by unfold Func.isWrapper; first | (rw [if_pos (by decide +kernel)]; kernel_rfl) | (rw [if_neg (by decide +kernel)]; exact ⟨rfl, rfl⟩))
    (fun os started H enc _ => lifted os started H enc)
end Q6.Pages

namespace Go.Proofs.Ytalhmcbkmpggiaa
/-- A drawn page that is right comes back of its bytes, and a slot that is set is there while the others stay as they were: the law laws.FnPages answers true whatever bytes it is given; no conditions. -/
theorem fnPages_holds : Rows.FnPagesSaid := Q6.Pages.fnPages_holds
#print axioms fnPages_holds
end Go.Proofs.Ytalhmcbkmpggiaa
