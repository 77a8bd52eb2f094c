/- Shows what the parts of the program do that the claim reaches: a machine of values over the model, and the contracts of functions, for all arguments within the lengths that each theorem names. -/
import Derived.Test.YtalhmcbkmpggiaaXReadLogP1
import Derived.Test.YtalhmcbkmpggiaaVm5
set_option linter.all false

namespace Q6
open Go Go.Vm Go.Proofs
set_option maxHeartbeats 4000000
set_option synthInstance.maxSize 2000
set_option synthInstance.maxHeartbeats 400000
set_option maxRecDepth 10000
set_option linter.unusedSimpArgs false
set_option linter.unusedVariables false

open Go.By

def grpR (l : List UInt8) (a : Nat) : Nat × Nat × Bool × Bool := let x := grp (l.drop a) 0 0 true; (x.1, if x.2.2.2 = true then 0 else a + x.2.1, x.2.2.1, x.2.2.2)

theorem groups_ok (l : List UInt8) (a : Nat) (hl : l.length ≤ 1048576) (ha : a ≤ l.length) : CallR Try.prog 149 [.sl .b (l.map Enc.b), .int .i64 (a : Nat)] [] (.tup [.int .i64 ((grpR l a).1 : Nat), .int .i64 ((grpR l a).2.1 : Nat), .bool (grpR l a).2.2.1, .bool (grpR l a).2.2.2]) := by
  refine CallR.of_body (n := 57) (rs := [.tmp 4, .tmp 5, .tmp 6, .tmp 7]) hY.ok Try.func149 rfl (by decide) rfl rfl rfl rfl (fun F => ?_)
  have fx := And.intro Y3 (And.intro Y4 (And.intro Y5 (Y24)))
  have fy := Nat.add_zero
  refine goN ?_ ?_ ?_ ?_ ?_ ?_ ?_ ?_ ?_ ?_ ?_ ?_ ?_ ?_ ?_ ?_
  any_goals (first | exact True.intro | skip)
  skip
  refine SW.loop (fun x : Nat × Nat × Bool => ⟨[.sl .b (l.map Enc.b), .int .i64 (a : Nat), .undef, .undef, .undef, .undef, .undef, .undef, .int .i64 (x.2.1 : Nat), .bool x.2.2, .int .i64 (x.1 : Nat), .undef, .undef, .undef, .undef, .undef, .undef, .undef, .undef, .undef, .undef, .undef, .undef, .undef, .undef, .undef, .undef, .undef, .undef, .undef, .undef, .undef, .undef, .undef, .undef, .undef, .undef, .undef, .undef, .undef, .undef, .undef, .undef, .undef, .undef, .undef, .undef, .undef, .undef, .undef, .undef, .undef, .undef, .undef, .undef, .undef, .undef], [[]]⟩)
    (fun N x => N = l.length - (a + x.1) ∧ a + x.1 ≤ l.length ∧ grp (l.drop (a + x.1)) x.1 x.2.1 x.2.2 = grp (l.drop a) 0 0 true ∧ (x.1 ≤ 6 → x.2.1 < 2 ^ (7 * x.1)) ∧ x.2.1 < 2 ^ 42) (n := l.length - a) (x := (0, 0, true)) (Norm.to 0 rfl (by simp [weakL])) ⟨rfl, ha, rfl, fun _ => by decide, by decide⟩ ?_
  rintro N ⟨k, m, g⟩ ⟨hN, hk, hg, hm6, hm42⟩
  simp only at hN hk hg hm6 hm42 ⊢
  have hw0 : IntKind.i64.wrap ((a : Int) + (k : Int)) = ((a + k : Nat) : Int) := by rw [wrap64 _ (by omega) (by omega)]; omega
  have fy := hw0
  refine goS ?_
  refine SW.cond rfl (fun hc => ?_) (fun hc => ?_)
  · have hlt : a + k < l.length := by simp at hc; omega
    have hgb : (l.map Enc.b)[a + k]? = some (.int .u8 ((l[a + k]).toNat : Int)) := map_get Enc.b l _ hlt
    have hd : l.drop (a + k) = l[a + k] :: l.drop (a + (k + 1)) := List.drop_eq_getElem_cons hlt
    rw [hd] at hg
    generalize hv : l[a + k] = v at *
    have hvl := v.toNat_lt
    have hbi := byte_i64 v
    have h127 := i64_and127 v.toNat (by omega)
    have hwk : IntKind.i64.wrap ((k : Int) + 1) = ((k + 1 : Nat) : Int) := by rw [wrap64 _ (by omega) (by omega)]; omega
    have hw1 : IntKind.i64.wrap (((a + k : Nat) : Int) + 1) = ((a + (k + 1) : Nat) : Int) := by rw [wrap64 _ (by omega) (by omega)]; omega
    have hk0 : ((k : Int) == 0) = decide (k = 0) := by by_cases h : k = 0 <;> simp [h]
    by_cases h6 : k < 6
    · have h6d : decide ((k : Int) < 6) = true := by simp; omega
      have hw7 : IntKind.i64.wrap (7 * (k : Int)) = ((7 * k : Nat) : Int) := by rw [wrap64 _ (by omega) (by omega)]; simp
      have h70 : (((7 * k : Nat) : Int) < 0) = False := by simp; omega
      have hgr := i64_grp m (v.toNat % 128) k (hm6 (by omega)) (by omega) h6
      rw [hw7, Int.toNat_natCast] at hgr
      rw [grp] at hg; simp only [if_pos h6] at hg
      by_cases hhi : v.toNat > 127
      · have hhd : decide ((v.toNat : Int) > 127) = true := by simp; omega
        rw [if_pos hhi] at hg
        have fy := And.intro hw0 (And.intro hgb (And.intro hbi (And.intro h127 (And.intro hwk (And.intro hw1 (And.intro h6d (And.intro hhd (And.intro hk0 (And.intro hw7 (And.intro h70 (hgr)))))))))))
        refine goR ?_ ?_ ?_ ?_ ?_ ?_ ?_ ?_ ?_ ?_ ?_ ?_ ?_ ?_ ?_ ?_
        any_goals (first | exact True.intro | skip)
        all_goals (repeat (refine Wh.mk fun hcc => ?_))
        refine ⟨N - 1, (k + 1, m + v.toNat % 128 * 2 ^ (7 * k), g), by omega, ⟨by simp only; omega, by simp only; omega, hg, fun _ => ?_, ?_⟩, Norm.to 0 rfl (by simp [weakL])⟩
        · have h1 : v.toNat % 128 * 2 ^ (7 * k) ≤ 127 * 2 ^ (7 * k) := Nat.mul_le_mul_right _ (by omega)
          have := hm6 (by omega)
          simp only; rw [show 7 * (k + 1) = 7 * k + 7 by omega, Nat.pow_add]; omega
        · have h1 : v.toNat % 128 * 2 ^ (7 * k) ≤ 127 * 2 ^ (7 * k) := Nat.mul_le_mul_right _ (by omega)
          have h2 := hm6 (by omega)
          have h3 : 2 ^ (7 * k) ≤ 2 ^ 35 := Nat.pow_le_pow_right (by decide) (by omega)
          simp only; omega
      · have hhd : decide ((v.toNat : Int) > 127) = false := by simp; omega
        rw [if_neg hhi] at hg
        have hgR : grpR l a = (m + v.toNat % 128 * 2 ^ (7 * k), a + (k + 1), g && (decide (v.toNat ≠ 0) || decide (k = 0)), false) := by unfold grpR; simp only [← hg]; simp
        rw [hgR]
        cases g <;> by_cases hz : v.toNat = 0
        · have hv0 : ((v.toNat : Int) != 0) = false := by simp [hz]
          have fy := And.intro hw0 (And.intro hgb (And.intro hbi (And.intro h127 (And.intro hwk (And.intro hw1 (And.intro h6d (And.intro hhd (And.intro hk0 (And.intro hw7 (And.intro h70 (And.intro hgr (hv0))))))))))))
          refine goK ?_ ?_ ?_ ?_ ?_ ?_ ?_ ?_ ?_ ?_ ?_ ?_ ?_ ?_ ?_ ?_
          any_goals (first | exact True.intro | skip)
          all_goals (repeat (refine Wh.mk fun hcc => ?_))
          all_goals (first | rfl | (simp [tupOf, fixEs, hz]; done))
        · have hv0 : ((v.toNat : Int) != 0) = true := by simp [hz]
          have fy := And.intro hw0 (And.intro hgb (And.intro hbi (And.intro h127 (And.intro hwk (And.intro hw1 (And.intro h6d (And.intro hhd (And.intro hk0 (And.intro hw7 (And.intro h70 (And.intro hgr (hv0))))))))))))
          refine goK ?_ ?_ ?_ ?_ ?_ ?_ ?_ ?_ ?_ ?_ ?_ ?_ ?_ ?_ ?_ ?_
          any_goals (first | exact True.intro | skip)
          all_goals (repeat (refine Wh.mk fun hcc => ?_))
          all_goals (first | rfl | (simp [tupOf, fixEs, hz]; done))
        · have hv0 : ((v.toNat : Int) != 0) = false := by simp [hz]
          have fy := And.intro hw0 (And.intro hgb (And.intro hbi (And.intro h127 (And.intro hwk (And.intro hw1 (And.intro h6d (And.intro hhd (And.intro hk0 (And.intro hw7 (And.intro h70 (And.intro hgr (hv0))))))))))))
          refine goK ?_ ?_ ?_ ?_ ?_ ?_ ?_ ?_ ?_ ?_ ?_ ?_ ?_ ?_ ?_ ?_
          any_goals (first | exact True.intro | skip)
          all_goals (repeat (refine Wh.mk fun hcc => ?_))
          all_goals (first | rfl | (simp [tupOf, fixEs, hz]; done))
        · have hv0 : ((v.toNat : Int) != 0) = true := by simp [hz]
          have fy := And.intro hw0 (And.intro hgb (And.intro hbi (And.intro h127 (And.intro hwk (And.intro hw1 (And.intro h6d (And.intro hhd (And.intro hk0 (And.intro hw7 (And.intro h70 (And.intro hgr (hv0))))))))))))
          refine goK ?_ ?_ ?_ ?_ ?_ ?_ ?_ ?_ ?_ ?_ ?_ ?_ ?_ ?_ ?_ ?_
          any_goals (first | exact True.intro | skip)
          all_goals (repeat (refine Wh.mk fun hcc => ?_))
          all_goals (first | rfl | (simp [tupOf, fixEs, hz]; done))
    · have h6d : decide ((k : Int) < 6) = false := by simp; omega
      rw [grp] at hg; simp only [if_neg h6] at hg
      have hv1 : (((v.toNat % 128 : Nat) : Int) != 0) = decide (v.toNat % 128 ≠ 0) := by by_cases h : v.toNat % 128 = 0 <;> simp [h]; omega
      by_cases hhi : v.toNat > 127
      · have hhd : decide ((v.toNat : Int) > 127) = true := by simp; omega
        rw [if_pos hhi] at hg
        by_cases h1 : v.toNat % 128 = 0
        · have hv1 : (((v.toNat % 128 : Nat) : Int) != 0) = false := by simp [h1]
          rw [if_neg (by simpa using h1)] at hg
          have fy := And.intro hw0 (And.intro hgb (And.intro hbi (And.intro h127 (And.intro hwk (And.intro hw1 (And.intro h6d (And.intro hhd (And.intro hk0 (hv1)))))))))
          refine goR ?_ ?_ ?_ ?_ ?_ ?_ ?_ ?_ ?_ ?_ ?_ ?_ ?_ ?_ ?_ ?_
          any_goals (first | exact True.intro | skip)
          all_goals (repeat (refine Wh.mk fun hcc => ?_))
          refine ⟨N - 1, (k + 1, m, g), by omega, ⟨by simp only; omega, by simp only; omega, hg, fun h => absurd h (by simp only; omega), hm42⟩, Norm.to 0 rfl (by simp [weakL])⟩
        · have hv1 : (((v.toNat % 128 : Nat) : Int) != 0) = true := by simp; omega
          rw [if_pos h1] at hg
          have fy := And.intro hw0 (And.intro hgb (And.intro hbi (And.intro h127 (And.intro hwk (And.intro hw1 (And.intro h6d (And.intro hhd (And.intro hk0 (hv1)))))))))
          refine goR ?_ ?_ ?_ ?_ ?_ ?_ ?_ ?_ ?_ ?_ ?_ ?_ ?_ ?_ ?_ ?_
          any_goals (first | exact True.intro | skip)
          all_goals (repeat (refine Wh.mk fun hcc => ?_))
          refine ⟨N - 1, (k + 1, m, false), by omega, ⟨by simp only; omega, by simp only; omega, hg, fun h => absurd h (by simp only; omega), hm42⟩, Norm.to 0 rfl (by simp [weakL])⟩
      · have hhd : decide ((v.toNat : Int) > 127) = false := by simp; omega
        rw [if_neg hhi] at hg
        have hgR : grpR l a = (m, a + (k + 1), (if v.toNat % 128 ≠ 0 then false else g) && (decide (v.toNat ≠ 0) || decide (k = 0)), false) := by unfold grpR; simp only [← hg]; simp
        rw [hgR]
        cases g <;> by_cases hz : v.toNat = 0
        · have hv0 : ((v.toNat : Int) != 0) = false := by simp [hz]
          have hv1 : (((v.toNat % 128 : Nat) : Int) != 0) = false := by simp [hz]
          have fy := And.intro hw0 (And.intro hgb (And.intro hbi (And.intro h127 (And.intro hwk (And.intro hw1 (And.intro h6d (And.intro hhd (And.intro hk0 (And.intro hv0 (hv1))))))))))
          refine goK ?_ ?_ ?_ ?_ ?_ ?_ ?_ ?_ ?_ ?_ ?_ ?_ ?_ ?_ ?_ ?_
          any_goals (first | exact True.intro | skip)
          all_goals (repeat (refine Wh.mk fun hcc => ?_))
          all_goals (first | rfl | (simp [tupOf, fixEs, hz]; done) | (have h9 : ¬ v.toNat % 128 = 0 := (by omega); simp [tupOf, fixEs, hz, h9]))
        · have hv0 : ((v.toNat : Int) != 0) = true := by simp [hz]
          have hv1 : (((v.toNat % 128 : Nat) : Int) != 0) = true := by simp; omega
          have fy := And.intro hw0 (And.intro hgb (And.intro hbi (And.intro h127 (And.intro hwk (And.intro hw1 (And.intro h6d (And.intro hhd (And.intro hk0 (And.intro hv0 (hv1))))))))))
          refine goK ?_ ?_ ?_ ?_ ?_ ?_ ?_ ?_ ?_ ?_ ?_ ?_ ?_ ?_ ?_ ?_
          any_goals (first | exact True.intro | skip)
          all_goals (repeat (refine Wh.mk fun hcc => ?_))
          all_goals (first | rfl | (simp [tupOf, fixEs, hz]; done) | (have h9 : ¬ v.toNat % 128 = 0 := (by omega); simp [tupOf, fixEs, hz, h9]))
        · have hv0 : ((v.toNat : Int) != 0) = false := by simp [hz]
          have hv1 : (((v.toNat % 128 : Nat) : Int) != 0) = false := by simp [hz]
          have fy := And.intro hw0 (And.intro hgb (And.intro hbi (And.intro h127 (And.intro hwk (And.intro hw1 (And.intro h6d (And.intro hhd (And.intro hk0 (And.intro hv0 (hv1))))))))))
          refine goK ?_ ?_ ?_ ?_ ?_ ?_ ?_ ?_ ?_ ?_ ?_ ?_ ?_ ?_ ?_ ?_
          any_goals (first | exact True.intro | skip)
          all_goals (repeat (refine Wh.mk fun hcc => ?_))
          all_goals (first | rfl | (simp [tupOf, fixEs, hz]; done) | (have h9 : ¬ v.toNat % 128 = 0 := (by omega); simp [tupOf, fixEs, hz, h9]))
        · have hv0 : ((v.toNat : Int) != 0) = true := by simp [hz]
          have hv1 : (((v.toNat % 128 : Nat) : Int) != 0) = true := by simp; omega
          have fy := And.intro hw0 (And.intro hgb (And.intro hbi (And.intro h127 (And.intro hwk (And.intro hw1 (And.intro h6d (And.intro hhd (And.intro hk0 (And.intro hv0 (hv1))))))))))
          refine goK ?_ ?_ ?_ ?_ ?_ ?_ ?_ ?_ ?_ ?_ ?_ ?_ ?_ ?_ ?_ ?_
          any_goals (first | exact True.intro | skip)
          all_goals (repeat (refine Wh.mk fun hcc => ?_))
          all_goals (first | rfl | (simp [tupOf, fixEs, hz]; done) | (have h9 : ¬ v.toNat % 128 = 0 := (by omega); simp [tupOf, fixEs, hz, h9]))
  · have hge : a + k = l.length := by
      have : ¬ a + k < l.length := by simp at hc; omega
      omega
    rw [hge, List.drop_length] at hg
    have hgR : grpR l a = (0, 0, false, true) := by unfold grpR; simp only [← hg]; rfl
    rw [hgR]
    have fy := hw0
    refine goK ?_ ?_ ?_ ?_ ?_ ?_ ?_ ?_ ?_ ?_ ?_ ?_ ?_ ?_ ?_ ?_
    any_goals (first | exact True.intro | skip)
    all_goals (repeat (refine Wh.mk fun hcc => ?_))
    all_goals (first | rfl | (simp [tupOf, fixEs]; done))
end Q6

namespace Q6
open Go Go.Vm Go.Proofs
set_option maxHeartbeats 4000000
set_option synthInstance.maxSize 2000
set_option synthInstance.maxHeartbeats 400000
set_option maxRecDepth 10000
set_option linter.unusedSimpArgs false
set_option linter.unusedVariables false

open Go.By

theorem grp_ends : ∀ (l : List UInt8) (k n : Nat) (g : Bool), (grp l k n g).2.2.2 = true → (grp l k n g).2.2.1 = false
  | [], _, _, _, _ => rfl
  | v :: l, k, n, g, h => by
    unfold grp at h ⊢
    simp only at h ⊢
    split
    · rename_i hv; rw [if_pos hv] at h; exact grp_ends l _ _ _ h
    · rename_i hv; rw [if_neg hv] at h; cases h
theorem getR_grp (l : List UInt8) (a : Nat) : getR l a = if ((grpR l a).2.2.1 && okN (unz (grpR l a).1)) = true then (unz (grpR l a).1, (grpR l a).2.1, true) else (0, 0, false) := by
  obtain ⟨h1, h2⟩ := grp_dec (l.drop a) 0 0 (by decide)
  have h3 := grp_ends (l.drop a) 0 0 true
  unfold getR grpR
  simp only
  cases hd : dec (l.drop a) 0 0 with
  | none => rw [h2 hd]; simp
  | some x =>
    obtain ⟨e1, e2, e3⟩ := h1 x hd
    have e4 : (grp (l.drop a) 0 0 true).2.2.2 = false := by
      cases he : (grp (l.drop a) 0 0 true).2.2.2 with
      | false => rfl
      | true => rw [h3 he] at e3; cases e3
    rw [e1, e2, e3, e4]; simp
theorem grpR_lt (l : List UInt8) (a : Nat) : (grpR l a).1 < 2 ^ 42 := grp_lt _ 0 0 true (by decide) (by decide)
theorem half_q (m : Nat) (h : m < 2 ^ 42) : IntKind.i64.wrap ((m : Int).tdiv 2) = ((m / 2 : Nat) : Int) := by
  rw [Int.tdiv_eq_ediv_of_nonneg (by omega), wrap64 _ (by omega) (by omega)]; omega
theorem half_r (m : Nat) : ((m : Int).tmod 2 == 1) = decide (m % 2 = 1) := by
  rw [Int.tmod_eq_emod_of_nonneg (by omega)]
  by_cases h : m % 2 = 1
  · have : (m : Int) % 2 = 1 := by omega
    simp [h, this]
  · have : ¬ (m : Int) % 2 = 1 := by omega
    simp [h, this]
theorem half_n (m : Nat) (h : m < 2 ^ 42) (ho : m % 2 = 1) : IntKind.i64.wrap ((IntKind.i64.wrap (0 - IntKind.i64.wrap ((m : Int) + 1))).tdiv 2) = unz m := by
  unfold unz
  rw [if_pos ho, wrap64 ((m : Int) + 1) (by omega) (by omega), wrap64 (0 - ((m : Int) + 1)) (by omega) (by omega)]
  have : (0 - ((m : Int) + 1)) = 2 * -(((m + 1) / 2 : Nat) : Int) := by omega
  rw [this, Int.mul_tdiv_cancel_left _ (by decide), wrap64 _ (by omega) (by omega)]
theorem unz_e (m : Nat) (ho : ¬ m % 2 = 1) : ((m / 2 : Nat) : Int) = unz m := by unfold unz; rw [if_neg ho]

theorem GetInt_ok (l : List UInt8) (a : Nat) (hl : l.length ≤ 1048576) (ha : a ≤ l.length) : CallR Try.prog 142 [.sl .b (l.map Enc.b), .int .i64 (a : Nat)] [] (.tup [.int .i64 (getR l a).1, .int .i64 ((getR l a).2.1 : Nat), .bool (getR l a).2.2]) := by
  refine CallR.of_body (n := 43) (rs := [.tmp 4, .tmp 5, .tmp 6]) hY.ok Try.func142 rfl (by decide) rfl rfl rfl rfl (fun F => ?_)
  have fx := And.intro Y1 (And.intro Y2 (And.intro Y3 (And.intro Y4 (And.intro Y5 (Y24)))))
  have hG := groups_ok l a hl ha
  have hm := grpR_lt l a
  have hR := getR_grp l a
  have hI := in_ok (a : Int) 0 (l.length : Int)
  rw [show (decide ((a : Int) ≥ 0) && decide ((a : Int) ≤ (l.length : Int))) = true by simp; omega] at hI
  generalize hg1 : (grpR l a).1 = m at *
  generalize hg2 : (grpR l a).2.1 = e at *
  generalize hg3 : (grpR l a).2.2.1 = ok at *
  generalize hg4 : (grpR l a).2.2.2 = en at *
  have hI2 := in_ok (unz m) (-1000000000000) 1000000000000
  rw [show (decide (unz m ≥ -1000000000000) && decide (unz m ≤ 1000000000000)) = okN (unz m) from rfl] at hI2
  have hq := half_q m hm
  have hr := half_r m
  rw [hR]
  clear hR hg1 hg2 hg3 hg4
  cases ok <;> cases hok : okN (unz m) <;> by_cases ho : m % 2 = 1
  · rw [hok] at hI2
    rw [show decide (m % 2 = 1) = true by simp [ho]] at hr
    have hn := half_n m hm ho
    have hC1 := cx [] (hG)
    have hC2 := cx [] (hI)
    have hC3 := cx [] (hI2)
    have fy := And.intro hq (And.intro hr (hn))
    refine goK ?_ ?_ ?_ ?_ ?_ ?_ ?_ ?_ ?_ ?_ ?_ ?_ ?_ ?_ ?_ ?_
    any_goals (first | exact True.intro | skip)
    all_goals (repeat (refine Wh.mk fun hcc => ?_))
    all_goals (first | rfl | (simp [tupOf, fixEs]; done))
  · rw [hok] at hI2
    rw [show decide (m % 2 = 1) = false by simp [ho]] at hr
    have hn := unz_e m ho
    have hC1 := cx [] (hG)
    have hC2 := cx [] (hI)
    have hC3 := cx [] (hI2)
    have fy := And.intro hq (And.intro hr (hn))
    refine goK ?_ ?_ ?_ ?_ ?_ ?_ ?_ ?_ ?_ ?_ ?_ ?_ ?_ ?_ ?_ ?_
    any_goals (first | exact True.intro | skip)
    all_goals (repeat (refine Wh.mk fun hcc => ?_))
    all_goals (first | rfl | (simp [tupOf, fixEs]; done))
  · rw [hok] at hI2
    rw [show decide (m % 2 = 1) = true by simp [ho]] at hr
    have hn := half_n m hm ho
    have hC1 := cx [] (hG)
    have hC2 := cx [] (hI)
    have hC3 := cx [] (hI2)
    have fy := And.intro hq (And.intro hr (hn))
    refine goK ?_ ?_ ?_ ?_ ?_ ?_ ?_ ?_ ?_ ?_ ?_ ?_ ?_ ?_ ?_ ?_
    any_goals (first | exact True.intro | skip)
    all_goals (repeat (refine Wh.mk fun hcc => ?_))
    all_goals (first | rfl | (simp [tupOf, fixEs]; done))
  · rw [hok] at hI2
    rw [show decide (m % 2 = 1) = false by simp [ho]] at hr
    have hn := unz_e m ho
    have hC1 := cx [] (hG)
    have hC2 := cx [] (hI)
    have hC3 := cx [] (hI2)
    have fy := And.intro hq (And.intro hr (hn))
    refine goK ?_ ?_ ?_ ?_ ?_ ?_ ?_ ?_ ?_ ?_ ?_ ?_ ?_ ?_ ?_ ?_
    any_goals (first | exact True.intro | skip)
    all_goals (repeat (refine Wh.mk fun hcc => ?_))
    all_goals (first | rfl | (simp [tupOf, fixEs]; done))
  · rw [hok] at hI2
    rw [show decide (m % 2 = 1) = true by simp [ho]] at hr
    have hn := half_n m hm ho
    have hC1 := cx [] (hG)
    have hC2 := cx [] (hI)
    have hC3 := cx [] (hI2)
    have fy := And.intro hq (And.intro hr (hn))
    refine goK ?_ ?_ ?_ ?_ ?_ ?_ ?_ ?_ ?_ ?_ ?_ ?_ ?_ ?_ ?_ ?_
    any_goals (first | exact True.intro | skip)
    all_goals (repeat (refine Wh.mk fun hcc => ?_))
    all_goals (first | rfl | (simp [tupOf, fixEs]; done))
  · rw [hok] at hI2
    rw [show decide (m % 2 = 1) = false by simp [ho]] at hr
    have hn := unz_e m ho
    have hC1 := cx [] (hG)
    have hC2 := cx [] (hI)
    have hC3 := cx [] (hI2)
    have fy := And.intro hq (And.intro hr (hn))
    refine goK ?_ ?_ ?_ ?_ ?_ ?_ ?_ ?_ ?_ ?_ ?_ ?_ ?_ ?_ ?_ ?_
    any_goals (first | exact True.intro | skip)
    all_goals (repeat (refine Wh.mk fun hcc => ?_))
    all_goals (first | rfl | (simp [tupOf, fixEs]; done))
  · rw [hok] at hI2
    rw [show decide (m % 2 = 1) = true by simp [ho]] at hr
    have hn := half_n m hm ho
    have hC1 := cx [] (hG)
    have hC2 := cx [] (hI)
    have hC3 := cx [] (hI2)
    have fy := And.intro hq (And.intro hr (hn))
    refine goK ?_ ?_ ?_ ?_ ?_ ?_ ?_ ?_ ?_ ?_ ?_ ?_ ?_ ?_ ?_ ?_
    any_goals (first | exact True.intro | skip)
    all_goals (repeat (refine Wh.mk fun hcc => ?_))
    all_goals (first | rfl | (simp [tupOf, fixEs]; done))
  · rw [hok] at hI2
    rw [show decide (m % 2 = 1) = false by simp [ho]] at hr
    have hn := unz_e m ho
    have hC1 := cx [] (hG)
    have hC2 := cx [] (hI)
    have hC3 := cx [] (hI2)
    have fy := And.intro hq (And.intro hr (hn))
    refine goK ?_ ?_ ?_ ?_ ?_ ?_ ?_ ?_ ?_ ?_ ?_ ?_ ?_ ?_ ?_ ?_
    any_goals (first | exact True.intro | skip)
    all_goals (repeat (refine Wh.mk fun hcc => ?_))
    all_goals (first | rfl | (simp [tupOf, fixEs]; done))
end Q6

namespace Q6
open Go Go.Vm Go.Proofs
set_option maxHeartbeats 4000000
set_option synthInstance.maxSize 2000
set_option synthInstance.maxHeartbeats 400000
set_option maxRecDepth 10000
set_option linter.unusedSimpArgs false
set_option linter.unusedVariables false

open Go.By

theorem i64_and1 (a : Nat) (h : a < 2 ^ 63) : IntKind.i64.wrap ((BitVec.ofInt IntKind.i64.bits (a : Int) &&& BitVec.ofInt IntKind.i64.bits 1).toNat : Int) = ((a % 2 : Nat) : Int) := by
  have e : (BitVec.ofInt 64 (a : Int) &&& BitVec.ofInt 64 1).toNat = a % 2 := by
    rw [BitVec.toNat_and, show BitVec.ofInt 64 (1 : Int) = 1#64 from rfl, BitVec.ofInt_natCast, BitVec.toNat_ofNat, show (1#64).toNat = 2 ^ 1 - 1 from rfl, Nat.and_two_pow_sub_one_eq_mod]; omega
  rw [bits64, e, wrap64 _ (by omega) (by omega)]
theorem i64_shr1 (a : Nat) : ((a : Int)).fdiv (2 ^ (min (1 : Int).toNat IntKind.i64.bits)) = ((a / 2 : Nat) : Int) := by
  rw [bits64, show (min (1 : Int).toNat 64) = 1 from rfl, Int.fdiv_eq_ediv_of_nonneg _ (by decide)]; simp
theorem unz_s (m : Nat) (h : m < 2 ^ 42) (ho : m % 2 = 1) : IntKind.i64.wrap (IntKind.i64.wrap (0 - ((m / 2 : Nat) : Int)) - 1) = unz m := by
  unfold unz
  rw [if_pos ho, wrap64 (0 - _) (by omega) (by omega), wrap64 _ (by omega) (by omega)]; omega

theorem sGetInt_ok (l : List UInt8) (a : Nat) (hl : l.length ≤ 1048576) (ha : a ≤ l.length) : CallR Try.prog 153 [.sl .b (l.map Enc.b), .int .i64 (a : Nat)] [] (.tup [.int .i64 (getR l a).1, .int .i64 ((getR l a).2.1 : Nat), .bool (getR l a).2.2]) := by
  refine CallR.of_body (n := 74) (rs := [.tmp 4, .tmp 5, .tmp 6]) hY.ok Try.func153 rfl (by decide) rfl rfl rfl rfl (fun F => ?_)
  have fx := And.intro Y3 (And.intro Y4 (And.intro Y5 (And.intro Y24 (Y133))))
  have fy := Nat.add_zero
  refine goN ?_ ?_ ?_ ?_ ?_ ?_ ?_ ?_ ?_ ?_ ?_ ?_ ?_ ?_ ?_ ?_
  any_goals (first | exact True.intro | skip)
  skip
  refine SW.loop (fun x : Nat × Nat => ⟨[.sl .b (l.map Enc.b), .int .i64 (a : Nat), .undef, .undef, .undef, .undef, .undef, .int .i64 (x.2 : Nat), .int .i64 (x.1 : Nat), .undef, .undef, .undef, .undef, .undef, .undef, .undef, .undef, .undef, .undef, .undef, .undef, .undef, .undef, .undef, .undef, .undef, .undef, .undef, .undef, .undef, .undef, .undef, .undef, .undef, .undef, .undef, .undef, .undef, .undef, .undef, .undef, .undef, .undef, .undef, .undef, .undef, .undef, .undef, .undef, .undef, .undef, .undef, .undef, .undef, .undef, .undef, .undef, .undef, .undef, .undef, .undef, .undef, .undef, .undef, .undef, .undef, .undef, .undef, .undef, .undef, .undef, .undef, .undef, .undef], [[]]⟩)
    (fun N x => N = 6 - x.1 ∧ x.1 ≤ 6 ∧ a + x.1 ≤ l.length ∧ dec (l.drop (a + x.1)) x.1 x.2 = dec (l.drop a) 0 0 ∧ x.2 < 2 ^ (7 * x.1)) (n := 6) (x := (0, 0)) (Norm.to 0 rfl (by simp [weakL])) ⟨rfl, by decide, ha, rfl, by decide⟩ ?_
  rintro N ⟨k, m⟩ ⟨hN, hk6, hk, hg, hm⟩
  simp only at hN hk6 hk hg hm ⊢
  have hw0 : IntKind.i64.wrap ((a : Int) + (k : Int)) = ((a + k : Nat) : Int) := by rw [wrap64 _ (by omega) (by omega)]; omega
  have ha0 : decide ((a : Int) ≥ 0) = true := by simp
  have hk0 : decide ((k : Int) > 0) = decide (k ≠ 0) := by by_cases h : k = 0 <;> simp [h]; omega
  by_cases h6 : k < 6
  · have h6d : decide ((k : Int) < 6) = true := by simp; omega
    by_cases hlt : a + k < l.length
    · have hal : decide ((a : Int) < (l.length : Int)) = true := by simp; omega
      have hkl : decide (((a + k : Nat) : Int) < (l.length : Int)) = true := by simp; omega
      have hgb : (l.map Enc.b)[a + k]? = some (.int .u8 ((l[a + k]).toNat : Int)) := map_get Enc.b l _ hlt
      have hd : l.drop (a + k) = l[a + k] :: l.drop (a + (k + 1)) := List.drop_eq_getElem_cons hlt
      rw [hd, dec, if_neg (by omega)] at hg
      generalize hv : l[a + k] = v at *
      have hvl := v.toNat_lt
      have hbi := byte_i64 v
      have h127 := i64_and127 v.toNat (by omega)
      have hwk : IntKind.i64.wrap ((k : Int) + 1) = ((k + 1 : Nat) : Int) := by rw [wrap64 _ (by omega) (by omega)]; omega
      have hw1 : IntKind.i64.wrap (((a + k : Nat) : Int) + 1) = ((a + (k + 1) : Nat) : Int) := by rw [wrap64 _ (by omega) (by omega)]; omega
      have hw7 : IntKind.i64.wrap (7 * (k : Int)) = ((7 * k : Nat) : Int) := by rw [wrap64 _ (by omega) (by omega)]; simp
      have hu7 : IntKind.u64.wrap ((7 * k : Nat) : Int) = ((7 * k : Nat) : Int) := by simp [IntKind.wrap, IntKind.bits, IntKind.signed]; omega
      have h70 : (((7 * k : Nat) : Int) < 0) = False := by simp; omega
      have hgr := i64_grp m (v.toNat % 128) k hm (by omega) h6
      rw [hw7, Int.toNat_natCast] at hgr
      have hstep : m + v.toNat % 128 * 2 ^ (7 * k) < 2 ^ (7 * (k + 1)) := by
        have h1 : v.toNat % 128 * 2 ^ (7 * k) ≤ 127 * 2 ^ (7 * k) := Nat.mul_le_mul_right _ (by omega)
        rw [show 7 * (k + 1) = 7 * k + 7 by omega, Nat.pow_add]; omega
      have hM42 : m + v.toNat % 128 * 2 ^ (7 * k) < 2 ^ 42 := by
        have : 2 ^ (7 * (k + 1)) ≤ 2 ^ 42 := Nat.pow_le_pow_right (by decide) (by omega)
        omega
      generalize hMd : m + v.toNat % 128 * 2 ^ (7 * k) = M at *
      by_cases hhi : v.toNat > 127
      · have hhd : decide ((v.toNat : Int) > 127) = true := by simp; omega
        rw [if_pos hhi] at hg
        have fy := And.intro hw0 (And.intro ha0 (And.intro hk0 (And.intro h6d (And.intro hal (And.intro hkl (And.intro hgb (And.intro hbi (And.intro h127 (And.intro hwk (And.intro hw1 (And.intro hw7 (And.intro hu7 (And.intro h70 (And.intro hgr (hhd)))))))))))))))
        refine goR ?_ ?_ ?_ ?_ ?_ ?_ ?_ ?_ ?_ ?_ ?_ ?_ ?_ ?_ ?_ ?_
        any_goals (first | exact True.intro | skip)
        all_goals (repeat (refine Wh.mk fun hcc => ?_))
        refine ⟨N - 1, (k + 1, M), by omega, ⟨by simp only; omega, by simp only; omega, by simp only; omega, hg, hstep⟩, Norm.to 0 rfl (by simp [weakL])⟩
      · have hhd : decide ((v.toNat : Int) > 127) = false := by simp; omega
        rw [if_neg hhi] at hg
        have hsh := i64_shr1 M
        rw [Int.toNat_one] at hsh
        have hand := i64_and1 M (by omega)
        have hI2 := l1In_ok (unz M) (-1000000000000) 1000000000000
        rw [show (decide (unz M ≥ -1000000000000) && decide (unz M ≤ 1000000000000)) = okN (unz M) from rfl] at hI2
        have hRz : getR l a = if (decide (k ≠ 0) && decide (v.toNat = 0)) = true then (0, 0, false) else if okN (unz M) = true then (unz M, a + (k + 1), true) else (0, 0, false) := by
          unfold getR; rw [← hg]
          by_cases hz : v.toNat = 0 <;> by_cases hkz : k = 0 <;> simp [hz, hkz]
        rw [hRz]
        have hv0 : ((v.toNat : Int) == 0) = decide (v.toNat = 0) := by by_cases h : v.toNat = 0 <;> simp [h]
        have ho1 : (((M % 2 : Nat) : Int) == 1) = decide (M % 2 = 1) := by by_cases h : M % 2 = 1 <;> simp [h]; omega
        clear hRz hg
        cases hok : okN (unz M) <;> by_cases ho : M % 2 = 1 <;> by_cases hkz : k = 0 <;> by_cases hz : v.toNat = 0
        · rw [hok] at hI2
          rw [show decide (M % 2 = 1) = true by simp [ho]] at ho1
          rw [show decide (k ≠ 0) = false by simp [hkz]] at hk0
          rw [show decide (v.toNat = 0) = true by simp [hz]] at hv0
          have hn := unz_s M hM42 ho
          have hC1 := cx [] (hI2)
          have fy := And.intro hw0 (And.intro ha0 (And.intro hk0 (And.intro h6d (And.intro hal (And.intro hkl (And.intro hgb (And.intro hbi (And.intro h127 (And.intro hwk (And.intro hw1 (And.intro hw7 (And.intro hu7 (And.intro h70 (And.intro hgr (And.intro hhd (And.intro hsh (And.intro hand (And.intro hn (And.intro hv0 (ho1))))))))))))))))))))
          refine goK ?_ ?_ ?_ ?_ ?_ ?_ ?_ ?_ ?_ ?_ ?_ ?_ ?_ ?_ ?_ ?_
          any_goals (first | exact True.intro | skip)
          all_goals (repeat (refine Wh.mk fun hcc => ?_))
          all_goals (first | rfl | (simp [tupOf, fixEs, hkz, hz]; done))
        · rw [hok] at hI2
          rw [show decide (M % 2 = 1) = true by simp [ho]] at ho1
          rw [show decide (k ≠ 0) = false by simp [hkz]] at hk0
          rw [show decide (v.toNat = 0) = false by simp [hz]] at hv0
          have hn := unz_s M hM42 ho
          have hC1 := cx [] (hI2)
          have fy := And.intro hw0 (And.intro ha0 (And.intro hk0 (And.intro h6d (And.intro hal (And.intro hkl (And.intro hgb (And.intro hbi (And.intro h127 (And.intro hwk (And.intro hw1 (And.intro hw7 (And.intro hu7 (And.intro h70 (And.intro hgr (And.intro hhd (And.intro hsh (And.intro hand (And.intro hn (And.intro hv0 (ho1))))))))))))))))))))
          refine goK ?_ ?_ ?_ ?_ ?_ ?_ ?_ ?_ ?_ ?_ ?_ ?_ ?_ ?_ ?_ ?_
          any_goals (first | exact True.intro | skip)
          all_goals (repeat (refine Wh.mk fun hcc => ?_))
          all_goals (first | rfl | (simp [tupOf, fixEs, hkz, hz]; done))
        · rw [hok] at hI2
          rw [show decide (M % 2 = 1) = true by simp [ho]] at ho1
          rw [show decide (k ≠ 0) = true by simp [hkz]] at hk0
          rw [show decide (v.toNat = 0) = true by simp [hz]] at hv0
          have hn := unz_s M hM42 ho
          have hC1 := cx [] (hI2)
          have fy := And.intro hw0 (And.intro ha0 (And.intro hk0 (And.intro h6d (And.intro hal (And.intro hkl (And.intro hgb (And.intro hbi (And.intro h127 (And.intro hwk (And.intro hw1 (And.intro hw7 (And.intro hu7 (And.intro h70 (And.intro hgr (And.intro hhd (And.intro hsh (And.intro hand (And.intro hn (And.intro hv0 (ho1))))))))))))))))))))
          refine goK ?_ ?_ ?_ ?_ ?_ ?_ ?_ ?_ ?_ ?_ ?_ ?_ ?_ ?_ ?_ ?_
          any_goals (first | exact True.intro | skip)
          all_goals (repeat (refine Wh.mk fun hcc => ?_))
          all_goals (first | rfl | (simp [tupOf, fixEs, hkz, hz]; done))
        · rw [hok] at hI2
          rw [show decide (M % 2 = 1) = true by simp [ho]] at ho1
          rw [show decide (k ≠ 0) = true by simp [hkz]] at hk0
          rw [show decide (v.toNat = 0) = false by simp [hz]] at hv0
          have hn := unz_s M hM42 ho
          have hC1 := cx [] (hI2)
          have fy := And.intro hw0 (And.intro ha0 (And.intro hk0 (And.intro h6d (And.intro hal (And.intro hkl (And.intro hgb (And.intro hbi (And.intro h127 (And.intro hwk (And.intro hw1 (And.intro hw7 (And.intro hu7 (And.intro h70 (And.intro hgr (And.intro hhd (And.intro hsh (And.intro hand (And.intro hn (And.intro hv0 (ho1))))))))))))))))))))
          refine goK ?_ ?_ ?_ ?_ ?_ ?_ ?_ ?_ ?_ ?_ ?_ ?_ ?_ ?_ ?_ ?_
          any_goals (first | exact True.intro | skip)
          all_goals (repeat (refine Wh.mk fun hcc => ?_))
          all_goals (first | rfl | (simp [tupOf, fixEs, hkz, hz]; done))
        · rw [hok] at hI2
          rw [show decide (M % 2 = 1) = false by simp [ho]] at ho1
          rw [show decide (k ≠ 0) = false by simp [hkz]] at hk0
          rw [show decide (v.toNat = 0) = true by simp [hz]] at hv0
          have hn := unz_e M ho
          have hC1 := cx [] (hI2)
          have fy := And.intro hw0 (And.intro ha0 (And.intro hk0 (And.intro h6d (And.intro hal (And.intro hkl (And.intro hgb (And.intro hbi (And.intro h127 (And.intro hwk (And.intro hw1 (And.intro hw7 (And.intro hu7 (And.intro h70 (And.intro hgr (And.intro hhd (And.intro hsh (And.intro hand (And.intro hn (And.intro hv0 (ho1))))))))))))))))))))
          refine goK ?_ ?_ ?_ ?_ ?_ ?_ ?_ ?_ ?_ ?_ ?_ ?_ ?_ ?_ ?_ ?_
          any_goals (first | exact True.intro | skip)
          all_goals (repeat (refine Wh.mk fun hcc => ?_))
          all_goals (first | rfl | (simp [tupOf, fixEs, hkz, hz]; done))
        · rw [hok] at hI2
          rw [show decide (M % 2 = 1) = false by simp [ho]] at ho1
          rw [show decide (k ≠ 0) = false by simp [hkz]] at hk0
          rw [show decide (v.toNat = 0) = false by simp [hz]] at hv0
          have hn := unz_e M ho
          have hC1 := cx [] (hI2)
          have fy := And.intro hw0 (And.intro ha0 (And.intro hk0 (And.intro h6d (And.intro hal (And.intro hkl (And.intro hgb (And.intro hbi (And.intro h127 (And.intro hwk (And.intro hw1 (And.intro hw7 (And.intro hu7 (And.intro h70 (And.intro hgr (And.intro hhd (And.intro hsh (And.intro hand (And.intro hn (And.intro hv0 (ho1))))))))))))))))))))
          refine goK ?_ ?_ ?_ ?_ ?_ ?_ ?_ ?_ ?_ ?_ ?_ ?_ ?_ ?_ ?_ ?_
          any_goals (first | exact True.intro | skip)
          all_goals (repeat (refine Wh.mk fun hcc => ?_))
          all_goals (first | rfl | (simp [tupOf, fixEs, hkz, hz]; done))
        · rw [hok] at hI2
          rw [show decide (M % 2 = 1) = false by simp [ho]] at ho1
          rw [show decide (k ≠ 0) = true by simp [hkz]] at hk0
          rw [show decide (v.toNat = 0) = true by simp [hz]] at hv0
          have hn := unz_e M ho
          have hC1 := cx [] (hI2)
          have fy := And.intro hw0 (And.intro ha0 (And.intro hk0 (And.intro h6d (And.intro hal (And.intro hkl (And.intro hgb (And.intro hbi (And.intro h127 (And.intro hwk (And.intro hw1 (And.intro hw7 (And.intro hu7 (And.intro h70 (And.intro hgr (And.intro hhd (And.intro hsh (And.intro hand (And.intro hn (And.intro hv0 (ho1))))))))))))))))))))
          refine goK ?_ ?_ ?_ ?_ ?_ ?_ ?_ ?_ ?_ ?_ ?_ ?_ ?_ ?_ ?_ ?_
          any_goals (first | exact True.intro | skip)
          all_goals (repeat (refine Wh.mk fun hcc => ?_))
          all_goals (first | rfl | (simp [tupOf, fixEs, hkz, hz]; done))
        · rw [hok] at hI2
          rw [show decide (M % 2 = 1) = false by simp [ho]] at ho1
          rw [show decide (k ≠ 0) = true by simp [hkz]] at hk0
          rw [show decide (v.toNat = 0) = false by simp [hz]] at hv0
          have hn := unz_e M ho
          have hC1 := cx [] (hI2)
          have fy := And.intro hw0 (And.intro ha0 (And.intro hk0 (And.intro h6d (And.intro hal (And.intro hkl (And.intro hgb (And.intro hbi (And.intro h127 (And.intro hwk (And.intro hw1 (And.intro hw7 (And.intro hu7 (And.intro h70 (And.intro hgr (And.intro hhd (And.intro hsh (And.intro hand (And.intro hn (And.intro hv0 (ho1))))))))))))))))))))
          refine goK ?_ ?_ ?_ ?_ ?_ ?_ ?_ ?_ ?_ ?_ ?_ ?_ ?_ ?_ ?_ ?_
          any_goals (first | exact True.intro | skip)
          all_goals (repeat (refine Wh.mk fun hcc => ?_))
          all_goals (first | rfl | (simp [tupOf, fixEs, hkz, hz]; done))
        · rw [hok] at hI2
          rw [show decide (M % 2 = 1) = true by simp [ho]] at ho1
          rw [show decide (k ≠ 0) = false by simp [hkz]] at hk0
          rw [show decide (v.toNat = 0) = true by simp [hz]] at hv0
          have hn := unz_s M hM42 ho
          have hC1 := cx [] (hI2)
          have fy := And.intro hw0 (And.intro ha0 (And.intro hk0 (And.intro h6d (And.intro hal (And.intro hkl (And.intro hgb (And.intro hbi (And.intro h127 (And.intro hwk (And.intro hw1 (And.intro hw7 (And.intro hu7 (And.intro h70 (And.intro hgr (And.intro hhd (And.intro hsh (And.intro hand (And.intro hn (And.intro hv0 (ho1))))))))))))))))))))
          refine goK ?_ ?_ ?_ ?_ ?_ ?_ ?_ ?_ ?_ ?_ ?_ ?_ ?_ ?_ ?_ ?_
          any_goals (first | exact True.intro | skip)
          all_goals (repeat (refine Wh.mk fun hcc => ?_))
          all_goals (first | rfl | (simp [tupOf, fixEs, hkz, hz]; done))
        · rw [hok] at hI2
          rw [show decide (M % 2 = 1) = true by simp [ho]] at ho1
          rw [show decide (k ≠ 0) = false by simp [hkz]] at hk0
          rw [show decide (v.toNat = 0) = false by simp [hz]] at hv0
          have hn := unz_s M hM42 ho
          have hC1 := cx [] (hI2)
          have fy := And.intro hw0 (And.intro ha0 (And.intro hk0 (And.intro h6d (And.intro hal (And.intro hkl (And.intro hgb (And.intro hbi (And.intro h127 (And.intro hwk (And.intro hw1 (And.intro hw7 (And.intro hu7 (And.intro h70 (And.intro hgr (And.intro hhd (And.intro hsh (And.intro hand (And.intro hn (And.intro hv0 (ho1))))))))))))))))))))
          refine goK ?_ ?_ ?_ ?_ ?_ ?_ ?_ ?_ ?_ ?_ ?_ ?_ ?_ ?_ ?_ ?_
          any_goals (first | exact True.intro | skip)
          all_goals (repeat (refine Wh.mk fun hcc => ?_))
          all_goals (first | rfl | (simp [tupOf, fixEs, hkz, hz]; done))
        · rw [hok] at hI2
          rw [show decide (M % 2 = 1) = true by simp [ho]] at ho1
          rw [show decide (k ≠ 0) = true by simp [hkz]] at hk0
          rw [show decide (v.toNat = 0) = true by simp [hz]] at hv0
          have hn := unz_s M hM42 ho
          have hC1 := cx [] (hI2)
          have fy := And.intro hw0 (And.intro ha0 (And.intro hk0 (And.intro h6d (And.intro hal (And.intro hkl (And.intro hgb (And.intro hbi (And.intro h127 (And.intro hwk (And.intro hw1 (And.intro hw7 (And.intro hu7 (And.intro h70 (And.intro hgr (And.intro hhd (And.intro hsh (And.intro hand (And.intro hn (And.intro hv0 (ho1))))))))))))))))))))
          refine goK ?_ ?_ ?_ ?_ ?_ ?_ ?_ ?_ ?_ ?_ ?_ ?_ ?_ ?_ ?_ ?_
          any_goals (first | exact True.intro | skip)
          all_goals (repeat (refine Wh.mk fun hcc => ?_))
          all_goals (first | rfl | (simp [tupOf, fixEs, hkz, hz]; done))
        · rw [hok] at hI2
          rw [show decide (M % 2 = 1) = true by simp [ho]] at ho1
          rw [show decide (k ≠ 0) = true by simp [hkz]] at hk0
          rw [show decide (v.toNat = 0) = false by simp [hz]] at hv0
          have hn := unz_s M hM42 ho
          have hC1 := cx [] (hI2)
          have fy := And.intro hw0 (And.intro ha0 (And.intro hk0 (And.intro h6d (And.intro hal (And.intro hkl (And.intro hgb (And.intro hbi (And.intro h127 (And.intro hwk (And.intro hw1 (And.intro hw7 (And.intro hu7 (And.intro h70 (And.intro hgr (And.intro hhd (And.intro hsh (And.intro hand (And.intro hn (And.intro hv0 (ho1))))))))))))))))))))
          refine goK ?_ ?_ ?_ ?_ ?_ ?_ ?_ ?_ ?_ ?_ ?_ ?_ ?_ ?_ ?_ ?_
          any_goals (first | exact True.intro | skip)
          all_goals (repeat (refine Wh.mk fun hcc => ?_))
          all_goals (first | rfl | (simp [tupOf, fixEs, hkz, hz]; done))
        · rw [hok] at hI2
          rw [show decide (M % 2 = 1) = false by simp [ho]] at ho1
          rw [show decide (k ≠ 0) = false by simp [hkz]] at hk0
          rw [show decide (v.toNat = 0) = true by simp [hz]] at hv0
          have hn := unz_e M ho
          have hC1 := cx [] (hI2)
          have fy := And.intro hw0 (And.intro ha0 (And.intro hk0 (And.intro h6d (And.intro hal (And.intro hkl (And.intro hgb (And.intro hbi (And.intro h127 (And.intro hwk (And.intro hw1 (And.intro hw7 (And.intro hu7 (And.intro h70 (And.intro hgr (And.intro hhd (And.intro hsh (And.intro hand (And.intro hn (And.intro hv0 (ho1))))))))))))))))))))
          refine goK ?_ ?_ ?_ ?_ ?_ ?_ ?_ ?_ ?_ ?_ ?_ ?_ ?_ ?_ ?_ ?_
          any_goals (first | exact True.intro | skip)
          all_goals (repeat (refine Wh.mk fun hcc => ?_))
          all_goals (first | rfl | (simp [tupOf, fixEs, hkz, hz]; done))
        · rw [hok] at hI2
          rw [show decide (M % 2 = 1) = false by simp [ho]] at ho1
          rw [show decide (k ≠ 0) = false by simp [hkz]] at hk0
          rw [show decide (v.toNat = 0) = false by simp [hz]] at hv0
          have hn := unz_e M ho
          have hC1 := cx [] (hI2)
          have fy := And.intro hw0 (And.intro ha0 (And.intro hk0 (And.intro h6d (And.intro hal (And.intro hkl (And.intro hgb (And.intro hbi (And.intro h127 (And.intro hwk (And.intro hw1 (And.intro hw7 (And.intro hu7 (And.intro h70 (And.intro hgr (And.intro hhd (And.intro hsh (And.intro hand (And.intro hn (And.intro hv0 (ho1))))))))))))))))))))
          refine goK ?_ ?_ ?_ ?_ ?_ ?_ ?_ ?_ ?_ ?_ ?_ ?_ ?_ ?_ ?_ ?_
          any_goals (first | exact True.intro | skip)
          all_goals (repeat (refine Wh.mk fun hcc => ?_))
          all_goals (first | rfl | (simp [tupOf, fixEs, hkz, hz]; done))
        · rw [hok] at hI2
          rw [show decide (M % 2 = 1) = false by simp [ho]] at ho1
          rw [show decide (k ≠ 0) = true by simp [hkz]] at hk0
          rw [show decide (v.toNat = 0) = true by simp [hz]] at hv0
          have hn := unz_e M ho
          have hC1 := cx [] (hI2)
          have fy := And.intro hw0 (And.intro ha0 (And.intro hk0 (And.intro h6d (And.intro hal (And.intro hkl (And.intro hgb (And.intro hbi (And.intro h127 (And.intro hwk (And.intro hw1 (And.intro hw7 (And.intro hu7 (And.intro h70 (And.intro hgr (And.intro hhd (And.intro hsh (And.intro hand (And.intro hn (And.intro hv0 (ho1))))))))))))))))))))
          refine goK ?_ ?_ ?_ ?_ ?_ ?_ ?_ ?_ ?_ ?_ ?_ ?_ ?_ ?_ ?_ ?_
          any_goals (first | exact True.intro | skip)
          all_goals (repeat (refine Wh.mk fun hcc => ?_))
          all_goals (first | rfl | (simp [tupOf, fixEs, hkz, hz]; done))
        · rw [hok] at hI2
          rw [show decide (M % 2 = 1) = false by simp [ho]] at ho1
          rw [show decide (k ≠ 0) = true by simp [hkz]] at hk0
          rw [show decide (v.toNat = 0) = false by simp [hz]] at hv0
          have hn := unz_e M ho
          have hC1 := cx [] (hI2)
          have fy := And.intro hw0 (And.intro ha0 (And.intro hk0 (And.intro h6d (And.intro hal (And.intro hkl (And.intro hgb (And.intro hbi (And.intro h127 (And.intro hwk (And.intro hw1 (And.intro hw7 (And.intro hu7 (And.intro h70 (And.intro hgr (And.intro hhd (And.intro hsh (And.intro hand (And.intro hn (And.intro hv0 (ho1))))))))))))))))))))
          refine goK ?_ ?_ ?_ ?_ ?_ ?_ ?_ ?_ ?_ ?_ ?_ ?_ ?_ ?_ ?_ ?_
          any_goals (first | exact True.intro | skip)
          all_goals (repeat (refine Wh.mk fun hcc => ?_))
          all_goals (first | rfl | (simp [tupOf, fixEs, hkz, hz]; done))
    · have hge : a + k = l.length := by omega
      have hkl : decide (((a + k : Nat) : Int) < (l.length : Int)) = false := by simp; omega
      rw [hge, List.drop_length] at hg
      have hR : getR l a = (0, 0, false) := by unfold getR; rw [← hg]; rfl
      rw [hR]
      by_cases hz : a < l.length
      · have hal : decide ((a : Int) < (l.length : Int)) = true := by simp; omega
        have fy := And.intro hw0 (And.intro ha0 (And.intro h6d (And.intro hal (hkl))))
        refine goK ?_ ?_ ?_ ?_ ?_ ?_ ?_ ?_ ?_ ?_ ?_ ?_ ?_ ?_ ?_ ?_
        any_goals (first | exact True.intro | skip)
        all_goals (repeat (refine Wh.mk fun hcc => ?_))
        all_goals (first | rfl | (simp [tupOf, fixEs]; done))
      · have hal : decide ((a : Int) < (l.length : Int)) = false := by simp; omega
        have fy := And.intro hw0 (And.intro ha0 (And.intro h6d (And.intro hal (hkl))))
        refine goK ?_ ?_ ?_ ?_ ?_ ?_ ?_ ?_ ?_ ?_ ?_ ?_ ?_ ?_ ?_ ?_
        any_goals (first | exact True.intro | skip)
        all_goals (repeat (refine Wh.mk fun hcc => ?_))
        all_goals (first | rfl | (simp [tupOf, fixEs]; done))
  · have h6d : decide ((k : Int) < 6) = false := by simp; omega
    have hR : getR l a = (0, 0, false) := by
      unfold getR; rw [← hg]
      cases hdr : l.drop (a + k) with
      | nil => rfl
      | cons v r => rw [dec, if_pos (by omega)]
    rw [hR]
    have fy := And.intro hw0 (And.intro ha0 (h6d))
    refine goK ?_ ?_ ?_ ?_ ?_ ?_ ?_ ?_ ?_ ?_ ?_ ?_ ?_ ?_ ?_ ?_
    any_goals (first | exact True.intro | skip)
    all_goals (repeat (refine Wh.mk fun hcc => ?_))
    all_goals (first | rfl | (simp [tupOf, fixEs]; done))
end Q6

namespace Q6
open Go Go.Vm Go.Proofs
set_option maxHeartbeats 4000000
set_option synthInstance.maxSize 2000
set_option synthInstance.maxHeartbeats 400000
set_option maxRecDepth 10000
set_option linter.unusedSimpArgs false
set_option linter.unusedVariables false

open Go.By

/-- a reader: how far it is, and whether it is bad -/
abbrev RS := Nat × Bool
def oneR (l : List UInt8) (s : RS) : Int × RS := if (s.2 || !(getR l s.1).2.2) = true then (0, s.1, true) else ((getR l s.1).1, (getR l s.1).2.1, false)
theorem getR_le (l : List UInt8) (a : Nat) (ha : a ≤ l.length) : (getR l a).2.1 ≤ l.length := by
  rw [getR_pI l a ha]; split <;> simp <;> omega
theorem oneR_le (l : List UInt8) (s : RS) (ha : s.1 ≤ l.length) : (oneR l s).2.1 ≤ l.length := by
  unfold oneR; split
  · exact ha
  · exact getR_le l s.1 ha
theorem oneR_bad (l : List UInt8) (s : RS) (h : s.2 = true) : oneR l s = (0, s.1, true) := by unfold oneR; rw [h]; rfl

theorem one_ok (k : Nat) (l : List UInt8) (s : RS) (hl : l.length ≤ 1048576) (ha : s.1 ≤ l.length) : CallR Try.prog 85 [.io (.nd [.sl (gOf k) (l.map Enc.b), .int .i64 (s.1 : Nat), .bool s.2])] [.nd [.sl (gOf k) (l.map Enc.b), .int .i64 ((oneR l s).2.1 : Nat), .bool (oneR l s).2.2]] (.int .i64 (oneR l s).1) := by
  refine CallR.of_body (n := 35) (rs := [.tmp 2]) hY.ok Try.func85 rfl (by decide) rfl rfl rfl rfl (fun F => ?_)
  have fx := And.intro Y1 (And.intro Y2 (And.intro Y3 (And.intro Y4 (And.intro Y5 (And.intro Y24 (And.intro Y97 (Y99)))))))
  have hG := GetInt_ok l s.1 hl ha
  obtain ⟨a, bad⟩ := s
  have hR : oneR l (a, bad) = if (bad || !(getR l a).2.2) = true then (0, a, true) else ((getR l a).1, (getR l a).2.1, false) := rfl
  simp only at hG ha ⊢
  rw [hR]
  clear hR
  generalize (getR l a).1 = n at *
  generalize (getR l a).2.1 = e at *
  generalize (getR l a).2.2 = ok at *
  cases bad <;> cases ok
  · skip
    have hC1 := cx [] (hG)
    have fy := Nat.add_zero
    refine goR ?_ ?_ ?_ ?_ ?_ ?_ ?_ ?_ ?_ ?_ ?_ ?_ ?_ ?_ ?_ ?_
    any_goals (first | exact True.intro | skip)
    all_goals (repeat (refine Wh.mk fun hcc => ?_))
    exact SW.ret (show RetQ _ _ _ _ _ _ _ from RetQ.y [0] [.int .i64 0])
  · skip
    have hC1 := cx [] (hG)
    have fy := Nat.add_zero
    refine goR ?_ ?_ ?_ ?_ ?_ ?_ ?_ ?_ ?_ ?_ ?_ ?_ ?_ ?_ ?_ ?_
    any_goals (first | exact True.intro | skip)
    all_goals (repeat (refine Wh.mk fun hcc => ?_))
    exact SW.ret (show RetQ _ _ _ _ _ _ _ from RetQ.y [0] [.int .i64 n])
  · skip
    have hC1 := cx [] (hG)
    have fy := Nat.add_zero
    refine goR ?_ ?_ ?_ ?_ ?_ ?_ ?_ ?_ ?_ ?_ ?_ ?_ ?_ ?_ ?_ ?_
    any_goals (first | exact True.intro | skip)
    all_goals (repeat (refine Wh.mk fun hcc => ?_))
    exact SW.ret (show RetQ _ _ _ _ _ _ _ from RetQ.y [0] [.int .i64 0])
  · skip
    have hC1 := cx [] (hG)
    have fy := Nat.add_zero
    refine goR ?_ ?_ ?_ ?_ ?_ ?_ ?_ ?_ ?_ ?_ ?_ ?_ ?_ ?_ ?_ ?_
    any_goals (first | exact True.intro | skip)
    all_goals (repeat (refine Wh.mk fun hcc => ?_))
    exact SW.ret (show RetQ _ _ _ _ _ _ _ from RetQ.y [0] [.int .i64 0])
theorem next_ok (k : Nat) (l : List UInt8) (s : RS) (hl : l.length ≤ 1048576) (ha : s.1 ≤ l.length) : CallR Try.prog 104 [.io (.nd [.sl (gOf k) (l.map Enc.b), .int .i64 (s.1 : Nat), .bool s.2])] [.nd [.sl (gOf k) (l.map Enc.b), .int .i64 ((oneR l s).2.1 : Nat), .bool (oneR l s).2.2]] (.int .i64 (oneR l s).1) := by
  refine CallR.of_body (n := 35) (rs := [.tmp 2]) hY.ok Try.func104 rfl (by decide) rfl rfl rfl rfl (fun F => ?_)
  have fx := And.intro Y1 (And.intro Y2 (And.intro Y3 (And.intro Y4 (And.intro Y5 (And.intro Y24 (And.intro Y115 (Y117)))))))
  have hG := sGetInt_ok l s.1 hl ha
  obtain ⟨a, bad⟩ := s
  have hR : oneR l (a, bad) = if (bad || !(getR l a).2.2) = true then (0, a, true) else ((getR l a).1, (getR l a).2.1, false) := rfl
  simp only at hG ha ⊢
  rw [hR]
  clear hR
  generalize (getR l a).1 = n at *
  generalize (getR l a).2.1 = e at *
  generalize (getR l a).2.2 = ok at *
  cases bad <;> cases ok
  · skip
    have hC1 := cx [] (hG)
    have fy := Nat.add_zero
    refine goR ?_ ?_ ?_ ?_ ?_ ?_ ?_ ?_ ?_ ?_ ?_ ?_ ?_ ?_ ?_ ?_
    any_goals (first | exact True.intro | skip)
    all_goals (repeat (refine Wh.mk fun hcc => ?_))
    exact SW.ret (show RetQ _ _ _ _ _ _ _ from RetQ.y [0] [.int .i64 0])
  · skip
    have hC1 := cx [] (hG)
    have fy := Nat.add_zero
    refine goR ?_ ?_ ?_ ?_ ?_ ?_ ?_ ?_ ?_ ?_ ?_ ?_ ?_ ?_ ?_ ?_
    any_goals (first | exact True.intro | skip)
    all_goals (repeat (refine Wh.mk fun hcc => ?_))
    exact SW.ret (show RetQ _ _ _ _ _ _ _ from RetQ.y [0] [.int .i64 n])
  · skip
    have hC1 := cx [] (hG)
    have fy := Nat.add_zero
    refine goR ?_ ?_ ?_ ?_ ?_ ?_ ?_ ?_ ?_ ?_ ?_ ?_ ?_ ?_ ?_ ?_
    any_goals (first | exact True.intro | skip)
    all_goals (repeat (refine Wh.mk fun hcc => ?_))
    exact SW.ret (show RetQ _ _ _ _ _ _ _ from RetQ.y [0] [.int .i64 0])
  · skip
    have hC1 := cx [] (hG)
    have fy := Nat.add_zero
    refine goR ?_ ?_ ?_ ?_ ?_ ?_ ?_ ?_ ?_ ?_ ?_ ?_ ?_ ?_ ?_ ?_
    any_goals (first | exact True.intro | skip)
    all_goals (repeat (refine Wh.mk fun hcc => ?_))
    exact SW.ret (show RetQ _ _ _ _ _ _ _ from RetQ.y [0] [.int .i64 0])

def manyR (l : List UInt8) (most : Int) (s : RS) : Int × RS := if 0 ≤ (oneR l s).1 ∧ (oneR l s).1 ≤ most then oneR l s else (0, (oneR l s).2.1, true)
theorem manyR_le (l : List UInt8) (most : Int) (s : RS) (ha : s.1 ≤ l.length) : (manyR l most s).2.1 ≤ l.length := by
  unfold manyR; split <;> exact oneR_le l s ha
theorem manyR_rng (l : List UInt8) (most : Int) (hm : 0 ≤ most) (s : RS) : 0 ≤ (manyR l most s).1 ∧ (manyR l most s).1 ≤ most := by
  unfold manyR; split
  · assumption
  · exact ⟨Int.le_refl _, hm⟩
def intsL (l : List UInt8) : Nat → RS → List Int × RS
  | 0, s => ([], s)
  | n + 1, s => ((oneR l s).1 :: (intsL l n (oneR l s).2).1, (intsL l n (oneR l s).2).2)
theorem intsL_len (l : List UInt8) : ∀ (n : Nat) (s : RS), (intsL l n s).1.length = n
  | 0, s => rfl
  | n + 1, s => by simp [intsL, intsL_len l n]
theorem intsL_le (l : List UInt8) : ∀ (n : Nat) (s : RS), s.1 ≤ l.length → (intsL l n s).2.1 ≤ l.length
  | 0, s, h => h
  | n + 1, s, h => intsL_le l n _ (oneR_le l s h)
def intsR (l : List UInt8) (most : Int) (s : RS) : List Int × RS := intsL l (manyR l most s).1.toNat (manyR l most s).2

theorem many_ok (k : Nat) (l : List UInt8) (s : RS) (most : Int) (hl : l.length ≤ 1048576) (ha : s.1 ≤ l.length) : CallR Try.prog 87 [.io (.nd [.sl (gOf k) (l.map Enc.b), .int .i64 (s.1 : Nat), .bool s.2]), .int .i64 most] [.nd [.sl (gOf k) (l.map Enc.b), .int .i64 ((manyR l most s).2.1 : Nat), .bool (manyR l most s).2.2]] (.int .i64 (manyR l most s).1) := by
  refine CallR.of_body (n := 16) (rs := [.tmp 4]) hY.ok Try.func87 rfl (by decide) rfl rfl rfl rfl (fun F => ?_)
  have fx := And.intro Y2 (And.intro Y3 (And.intro Y4 (And.intro Y5 (And.intro Y24 (And.intro Y97 (Y99))))))
  have hO := one_ok (upk k) l s hl ha
  have hI := in_ok (oneR l s).1 0 most
  by_cases hr : 0 ≤ (oneR l s).1 ∧ (oneR l s).1 ≤ most
  · have hM : manyR l most s = oneR l s := by unfold manyR; rw [if_pos hr]
    rw [hM]
    rw [show (decide ((oneR l s).1 ≥ 0) && decide ((oneR l s).1 ≤ most)) = true by simp [hr]] at hI
    generalize oneR l s = x at *
    have hC1 := cx [.io] (hO)
    have hC2 := cx [] (hI)
    have fy := Nat.add_zero
    refine goR ?_ ?_ ?_ ?_ ?_ ?_ ?_ ?_ ?_ ?_ ?_ ?_ ?_ ?_ ?_ ?_
    any_goals (first | exact True.intro | skip)
    all_goals (repeat (refine Wh.mk fun hcc => ?_))
    exact SW.ret (show RetQ _ _ _ _ _ _ _ from RetQ.y [0] [.int .i64 x.1])
  · have hM : manyR l most s = (0, (oneR l s).2.1, true) := by unfold manyR; rw [if_neg hr]
    rw [hM]
    rw [show (decide ((oneR l s).1 ≥ 0) && decide ((oneR l s).1 ≤ most)) = false by simp only [ge_iff_le, ← Bool.decide_and]; simpa using hr] at hI
    generalize oneR l s = x at *
    have hC1 := cx [.io] (hO)
    have hC2 := cx [] (hI)
    have fy := Nat.add_zero
    refine goR ?_ ?_ ?_ ?_ ?_ ?_ ?_ ?_ ?_ ?_ ?_ ?_ ?_ ?_ ?_ ?_
    any_goals (first | exact True.intro | skip)
    all_goals (repeat (refine Wh.mk fun hcc => ?_))
    exact SW.ret (show RetQ _ _ _ _ _ _ _ from RetQ.y [0] [.int .i64 0])
theorem one_b (l : List UInt8) (s : RS) (hl : l.length ≤ 1048576) (ha : s.1 ≤ l.length) : CallR Try.prog 85 [.io (.nd [.sl (.r 0) (l.map Enc.b), .int .i64 (s.1 : Nat), .bool s.2])] [.nd [.sl (.r 0) (l.map Enc.b), .int .i64 ((oneR l s).2.1 : Nat), .bool (oneR l s).2.2]] (.int .i64 (oneR l s).1) := one_ok 1 l s hl ha
theorem one_s (l : List UInt8) (s : RS) (hl : l.length ≤ 1048576) (ha : s.1 ≤ l.length) : CallR Try.prog 85 [.io (.nd [.sl .s (l.map Enc.b), .int .i64 (s.1 : Nat), .bool s.2])] [.nd [.sl .s (l.map Enc.b), .int .i64 ((oneR l s).2.1 : Nat), .bool (oneR l s).2.2]] (.int .i64 (oneR l s).1) := one_ok 0 l s hl ha
theorem next_b (l : List UInt8) (s : RS) (hl : l.length ≤ 1048576) (ha : s.1 ≤ l.length) : CallR Try.prog 104 [.io (.nd [.sl (.r 0) (l.map Enc.b), .int .i64 (s.1 : Nat), .bool s.2])] [.nd [.sl (.r 0) (l.map Enc.b), .int .i64 ((oneR l s).2.1 : Nat), .bool (oneR l s).2.2]] (.int .i64 (oneR l s).1) := next_ok 1 l s hl ha
theorem next_s (l : List UInt8) (s : RS) (hl : l.length ≤ 1048576) (ha : s.1 ≤ l.length) : CallR Try.prog 104 [.io (.nd [.sl .s (l.map Enc.b), .int .i64 (s.1 : Nat), .bool s.2])] [.nd [.sl .s (l.map Enc.b), .int .i64 ((oneR l s).2.1 : Nat), .bool (oneR l s).2.2]] (.int .i64 (oneR l s).1) := next_ok 0 l s hl ha
theorem many_b (l : List UInt8) (s : RS) (most : Int) (hl : l.length ≤ 1048576) (ha : s.1 ≤ l.length) : CallR Try.prog 87 [.io (.nd [.sl (.r 0) (l.map Enc.b), .int .i64 (s.1 : Nat), .bool s.2]), .int .i64 most] [.nd [.sl (.r 0) (l.map Enc.b), .int .i64 ((manyR l most s).2.1 : Nat), .bool (manyR l most s).2.2]] (.int .i64 (manyR l most s).1) := many_ok 1 l s most hl ha
theorem many_s (l : List UInt8) (s : RS) (most : Int) (hl : l.length ≤ 1048576) (ha : s.1 ≤ l.length) : CallR Try.prog 87 [.io (.nd [.sl .s (l.map Enc.b), .int .i64 (s.1 : Nat), .bool s.2]), .int .i64 most] [.nd [.sl .s (l.map Enc.b), .int .i64 ((manyR l most s).2.1 : Nat), .bool (manyR l most s).2.2]] (.int .i64 (manyR l most s).1) := many_ok 0 l s most hl ha
end Q6

namespace Q6
open Go Go.Vm Go.Proofs
set_option maxHeartbeats 4000000
set_option synthInstance.maxSize 2000
set_option synthInstance.maxHeartbeats 400000
set_option maxRecDepth 10000
set_option linter.unusedSimpArgs false
set_option linter.unusedVariables false

open Go.By
theorem ints_ok (k : Nat) (l : List UInt8) (s : RS) (most : Int) (hl : l.length ≤ 1048576) (ha : s.1 ≤ l.length) (hm : 0 ≤ most ∧ most ≤ 1048576) : CallR Try.prog 171 [.io (.nd [.sl (gOf k) (l.map Enc.b), .int .i64 (s.1 : Nat), .bool s.2]), .int .i64 most] [.nd [.sl (gOf k) (l.map Enc.b), .int .i64 ((intsR l most s).2.1 : Nat), .bool (intsR l most s).2.2]] (.ow 1 ((intsR l most s).1.map Enc.o)) := by
  refine CallR.of_body (n := 18) (rs := [.tmp 4]) hY.ok Try.func171 rfl (by decide) rfl rfl rfl rfl (fun F => ?_)
  have fx := And.intro Y1 (And.intro Y3 (And.intro Y4 (And.intro Y34 (Y97))))
  have hM := many_ok (upk k) l s most hl ha
  have hMr := manyR_rng l most hm.1 s
  have hMl := manyR_le l most s ha
  have hR : intsR l most s = intsL l (manyR l most s).1.toNat (manyR l most s).2 := rfl
  rw [hR]
  clear hR
  obtain ⟨N0, hN0⟩ : ∃ N0 : Nat, (manyR l most s).1 = (N0 : Int) := ⟨_, (Int.toNat_of_nonneg hMr.1).symm⟩
  rw [hN0] at hM hMr ⊢
  rw [Int.toNat_natCast]
  generalize (manyR l most s).2 = s0 at *
  obtain ⟨T0, hT0⟩ : ∃ T0, intsL l N0 s0 = T0 := ⟨_, rfl⟩
  rw [hT0]
  have hC1 := cx [.io] (hM)
  have fy := Nat.add_zero
  refine goN ?_ ?_ ?_ ?_ ?_ ?_ ?_ ?_ ?_ ?_ ?_ ?_ ?_ ?_ ?_ ?_
  any_goals (first | exact True.intro | skip)
  skip
  refine SW.loop (fun x : Nat × List Int × RS => ⟨[.ptr 0 0 [] 0, .int .i64 most, .undef, .undef, .undef, .ref 1 0 0 x.2.1.length, .undef, .undef, .int .i64 (N0 : Nat), .int .i64 (x.1 : Nat), .undef, .undef, .undef, .undef, .undef, .undef, .undef, .undef], [[.var (.nd [.sl (gOf k) (l.map Enc.b), .int .i64 (x.2.2.1 : Nat), .bool x.2.2.2])], [.arr 1 (x.2.1.map Enc.o) false]]⟩)
    (fun N x => N = N0 - x.1 ∧ x.1 ≤ N0 ∧ x.2.1.length = x.1 ∧ x.2.1 ++ (intsL l (N0 - x.1) x.2.2).1 = T0.1 ∧ (intsL l (N0 - x.1) x.2.2).2 = T0.2 ∧ x.2.2.1 ≤ l.length) (n := N0) (x := (0, [], s0)) ?_ ⟨rfl, Nat.zero_le _, rfl, by simp [hT0], by simp [hT0], hMl⟩ ?_
  · refine Norm.trans (Norm.nil 5 rfl) ?_
    simp only [List.set_cons_succ, List.set_cons_zero, List.length_cons, List.length_nil, Nat.zero_add, Nat.reduceAdd, List.cons_append, List.nil_append]
    exact Norm.re [0, 2] (by decide) rfl (by simp [-List.map_append, heapFits, rowFits, obFits, T.ren, renL]) (by simp [tmFits, T.ren])
  rintro N ⟨i, acc, s1⟩ ⟨hN, hi, hal, hac, hs1, hle⟩
  simp only at hN hi hal hac hs1 hle ⊢
  have fy := Nat.add_zero
  refine goS ?_
  refine SW.cond rfl (fun hc => ?_) (fun hc => ?_)
  · have hlt : i < N0 := by simp at hc; omega
    have hO := one_ok (upk k) l s1 hl hle
    have hO2 := oneR_le l s1 hle
    have hsp : N0 - i = (N0 - (i + 1)) + 1 := by omega
    rw [hsp, intsL] at hac hs1
    have hwi : IntKind.i64.wrap ((i : Int) + 1) = ((i + 1 : Nat) : Int) := by rw [wrap64 _ (by omega) (by omega)]; omega
    have hap := append_runP (Y := Y) (H := [[.var (.nd [.sl (gOf k) (l.map Enc.b), .int .i64 ((oneR l s1).2.1 : Nat), .bool (oneR l s1).2.2])], [.arr 1 (acc.map Enc.o) false], [], [.arr 1 [Enc.o (oneR l s1).1] false], []]) (own := 4) (t := 34) (u := 34) (e := 1) (j := 0) (off := 0) (n := acc.length) (e2 := 3) (j2 := 0) (f := acc.map Enc.o) (l := acc) (x := (oneR l s1).1) Y34 Y34 Y3 rfl (by decide) rfl rfl (by simp) (by simp) (by omega) rfl rfl
    simp only [o_int] at hap
    generalize oneR l s1 = y at *
    have hC1 := cx [.io] (hO)
    have fy := And.intro hap (And.intro hwi (bs1_34))
    refine goN ?_ ?_ ?_ ?_ ?_ ?_ ?_ ?_ ?_ ?_ ?_ ?_ ?_ ?_ ?_ ?_
    any_goals (first | exact True.intro | skip)
    skip
    refine ⟨N - 1, (i + 1, acc ++ [y.1], y.2), by omega, ⟨by simp only; omega, by simp only; omega, by simp [hal], by simp only; rw [← hac]; simp, hs1, hO2⟩, ?_⟩
    exact Norm.re [0, 4] (by decide) rfl (by simp [-List.map_append, heapFits, rowFits, obFits, T.ren, renL]) (by simp [tmFits, T.ren])
  · have hge : i = N0 := by
      have : ¬ i < N0 := by simp at hc; omega
      omega
    subst hge
    rw [Nat.sub_self] at hac hs1
    simp only [intsL, List.append_nil] at hac hs1
    rw [← hac, ← hs1]
    have fy := Nat.add_zero
    refine goR ?_ ?_ ?_ ?_ ?_ ?_ ?_ ?_ ?_ ?_ ?_ ?_ ?_ ?_ ?_ ?_
    any_goals (first | exact True.intro | skip)
    all_goals (repeat (refine Wh.mk fun hcc => ?_))
    exact SW.ret (show RetQ _ _ _ _ _ _ _ from RetQ.y [1] [.ow 1 (acc.map Enc.o)])

def listL (l : List UInt8) : Nat → RS → List Int × RS
  | 0, s => ([], s)
  | n + 1, s => if s.2 = true then ([], s) else ((oneR l s).1 :: (listL l n (oneR l s).2).1, (listL l n (oneR l s).2).2)
def listR (l : List UInt8) (most : Int) (s : RS) : List Int × RS := if 0 ≤ (oneR l s).1 ∧ (oneR l s).1 ≤ most then listL l (oneR l s).1.toNat (oneR l s).2 else ([], (oneR l s).2.1, true)
theorem listL_le (l : List UInt8) : ∀ (n : Nat) (s : RS), s.1 ≤ l.length → (listL l n s).2.1 ≤ l.length ∧ (listL l n s).1.length ≤ n
  | 0, s, h => ⟨h, Nat.le_refl _⟩
  | n + 1, s, h => by
    unfold listL
    split
    · exact ⟨h, Nat.zero_le _⟩
    · have := listL_le l n _ (oneR_le l s h)
      exact ⟨this.1, by simp; exact this.2⟩
theorem listL_bad (l : List UInt8) (n : Nat) (s : RS) (h : s.2 = true) : listL l n s = ([], s) := by
  cases n with
  | zero => rfl
  | succ n => unfold listL; rw [if_pos h]
theorem listR_le (l : List UInt8) (most : Int) (s : RS) (ha : s.1 ≤ l.length) : (listR l most s).2.1 ≤ l.length := by
  unfold listR; split
  · exact (listL_le l _ _ (oneR_le l s ha)).1
  · exact oneR_le l s ha
theorem listR_len (l : List UInt8) (most : Int) (s : RS) (hm : 0 ≤ most) : ((listR l most s).1.length : Int) ≤ most := by
  unfold listR; split
  · rename_i h
    by_cases hs : s.1 ≤ l.length
    · have := (listL_le l (oneR l s).1.toNat (oneR l s).2 (oneR_le l s hs)).2
      omega
    · have : ∀ (n : Nat) (s : RS), (listL l n s).1.length ≤ n := by
        intro n
        induction n with
        | zero => intro s; exact Nat.le_refl _
        | succ n ih =>
          intro s
          unfold listL
          split
          · exact Nat.zero_le _
          · simp; exact ih _
      have := this (oneR l s).1.toNat (oneR l s).2
      omega
  · exact hm

theorem list_ok (k : Nat) (l : List UInt8) (s : RS) (most : Int) (hl : l.length ≤ 1048576) (ha : s.1 ≤ l.length) (hm : 0 ≤ most ∧ most ≤ 1048576) : CallR Try.prog 174 [.io (.nd [.sl (gOf k) (l.map Enc.b), .int .i64 (s.1 : Nat), .bool s.2]), .int .i64 most] [.nd [.sl (gOf k) (l.map Enc.b), .int .i64 ((listR l most s).2.1 : Nat), .bool (listR l most s).2.2]] (.ow 1 ((listR l most s).1.map Enc.o)) := by
  refine CallR.of_body (n := 36) (rs := [.tmp 4]) hY.ok Try.func174 rfl (by decide) rfl rfl rfl rfl (fun F => ?_)
  have fx := And.intro Y1 (And.intro Y2 (And.intro Y3 (And.intro Y4 (And.intro Y5 (And.intro Y24 (And.intro Y34 (And.intro Y115 (Y117))))))))
  have hO := next_ok (upk k) l s hl ha
  have hI := l1In_ok (oneR l s).1 0 most
  have hOl := oneR_le l s ha
  by_cases hr : 0 ≤ (oneR l s).1 ∧ (oneR l s).1 ≤ most
  · rw [show (decide ((oneR l s).1 ≥ 0) && decide ((oneR l s).1 ≤ most)) = true by simp [hr]] at hI
    have hR : listR l most s = listL l (oneR l s).1.toNat (oneR l s).2 := by unfold listR; rw [if_pos hr]
    rw [hR]
    clear hR
    obtain ⟨N0, hN0⟩ : ∃ N0 : Nat, (oneR l s).1 = (N0 : Int) := ⟨_, (Int.toNat_of_nonneg hr.1).symm⟩
    rw [hN0] at hO hI hr ⊢
    rw [Int.toNat_natCast]
    generalize (oneR l s).2 = s0 at *
    obtain ⟨T0, hT0⟩ : ∃ T0, listL l N0 s0 = T0 := ⟨_, rfl⟩
    rw [hT0]
    have hC1 := cx [.io] (hO)
    have hC2 := cx [] (hI)
    have fy := bs0_34
    refine goR ?_ ?_ ?_ ?_ ?_ ?_ ?_ ?_ ?_ ?_ ?_ ?_ ?_ ?_ ?_ ?_
    any_goals (first | exact True.intro | skip)
    all_goals (repeat (refine Wh.mk fun hcc => ?_))
    refine SW.loop (fun x : Nat × List Int × RS => ⟨[.ptr 0 0 [] 0, .int .i64 most, .undef, .undef, .undef, .int .i64 (N0 : Nat), .ref 1 0 0 x.2.1.length, .int .i64 (x.1 : Nat), .undef, .undef, .undef, .undef, .undef, .undef, .undef, .undef, .undef, .undef, .undef, .undef, .undef, .undef, .undef, .undef, .undef, .undef, .undef, .undef, .undef, .undef, .undef, .undef, .undef, .undef, .undef, .undef], [[.var (.nd [.sl (gOf k) (l.map Enc.b), .int .i64 (x.2.2.1 : Nat), .bool x.2.2.2])], [.arr 1 (x.2.1.map Enc.o) false]]⟩)
      (fun N x => N = N0 - x.1 ∧ x.1 ≤ N0 ∧ x.2.1.length = x.1 ∧ x.2.1 ++ (listL l (N0 - x.1) x.2.2).1 = T0.1 ∧ (listL l (N0 - x.1) x.2.2).2 = T0.2 ∧ x.2.2.1 ≤ l.length) (n := N0) (x := (0, [], s0)) ?_ ⟨rfl, Nat.zero_le _, rfl, by simp [hT0], by simp [hT0], hOl⟩ ?_
    · exact Norm.re [0, 3] (by decide) rfl (by simp [-List.map_append, heapFits, rowFits, obFits, T.ren, renL]) (by simp [tmFits, T.ren])
    rintro N ⟨i, acc, s1⟩ ⟨hN, hi, hal, hac, hs1, hle⟩
    simp only at hN hi hal hac hs1 hle ⊢
    obtain ⟨a1, b1⟩ := s1
    simp only at hle ⊢
    by_cases hgo : i < N0 ∧ b1 = false
    · obtain ⟨hlt, hbf⟩ := hgo
      subst hbf
      have hltd : decide ((i : Int) < (N0 : Int)) = true := by simp; omega
      have hO := next_ok (upk k) l (a1, false) hl hle
      have hO2 := oneR_le l (a1, false) hle
      have hsp : N0 - i = (N0 - (i + 1)) + 1 := by omega
      rw [hsp, listL, if_neg (by simp)] at hac hs1
      have hwi : IntKind.i64.wrap ((i : Int) + 1) = ((i + 1 : Nat) : Int) := by rw [wrap64 _ (by omega) (by omega)]; omega
      have hap := append_runP (Y := Y) (H := [[.var (.nd [.sl (gOf k) (l.map Enc.b), .int .i64 ((oneR l (a1, false)).2.1 : Nat), .bool (oneR l (a1, false)).2.2])], [.arr 1 (acc.map Enc.o) false], [], [.arr 1 [Enc.o (oneR l (a1, false)).1] false], []]) (own := 4) (t := 34) (u := 34) (e := 1) (j := 0) (off := 0) (n := acc.length) (e2 := 3) (j2 := 0) (f := acc.map Enc.o) (l := acc) (x := (oneR l (a1, false)).1) Y34 Y34 Y3 rfl (by decide) rfl rfl (by simp) (by simp) (by omega) rfl rfl
      simp only [o_int] at hap hO
      generalize oneR l (a1, false) = y at *
      have hC1 := cx [.io] (hO)
      have fy := And.intro hap (And.intro hwi (And.intro hltd (bs1_34)))
      refine goR ?_ ?_ ?_ ?_ ?_ ?_ ?_ ?_ ?_ ?_ ?_ ?_ ?_ ?_ ?_ ?_
      any_goals (first | exact True.intro | skip)
      all_goals (repeat (refine Wh.mk fun hcc => ?_))
      refine ⟨N - 1, (i + 1, acc ++ [y.1], y.2), by omega, ⟨by simp only; omega, by simp only; omega, by simp [hal], by simp only; rw [← hac]; simp, hs1, hO2⟩, ?_⟩
      exact Norm.re [0, 4] (by decide) rfl (by simp [-List.map_append, heapFits, rowFits, obFits, T.ren, renL]) (by simp [tmFits, T.ren])
    · have hend : (listL l (N0 - i) (a1, b1)) = ([], (a1, b1)) := by
        by_cases hb : b1 = true
        · exact listL_bad l _ _ hb
        · have : N0 - i = 0 := by
            have : ¬ i < N0 := fun h => hgo ⟨h, by simpa using hb⟩
            omega
          rw [this]; rfl
      rw [hend] at hac hs1
      simp only [List.append_nil] at hac hs1
      rw [← hac, ← hs1]
      by_cases hlt : i < N0
      · have hb : b1 = true := by cases b1 with | true => rfl | false => exact absurd ⟨hlt, rfl⟩ hgo
        subst hb
        have hltd : decide ((i : Int) < (N0 : Int)) = true := by simp; omega
        have fy := hltd
        refine goR ?_ ?_ ?_ ?_ ?_ ?_ ?_ ?_ ?_ ?_ ?_ ?_ ?_ ?_ ?_ ?_
        any_goals (first | exact True.intro | skip)
        all_goals (repeat (refine Wh.mk fun hcc => ?_))
        exact SW.ret (show RetQ _ _ _ _ _ _ _ from RetQ.y [1] [.ow 1 (acc.map Enc.o)])
      · have hltd : decide ((i : Int) < (N0 : Int)) = false := by simp; omega
        have fy := hltd
        refine goR ?_ ?_ ?_ ?_ ?_ ?_ ?_ ?_ ?_ ?_ ?_ ?_ ?_ ?_ ?_ ?_
        any_goals (first | exact True.intro | skip)
        all_goals (repeat (refine Wh.mk fun hcc => ?_))
        exact SW.ret (show RetQ _ _ _ _ _ _ _ from RetQ.y [1] [.ow 1 (acc.map Enc.o)])
  · have hR : listR l most s = ([], (oneR l s).2.1, true) := by unfold listR; rw [if_neg hr]
    rw [hR]
    rw [show (decide ((oneR l s).1 ≥ 0) && decide ((oneR l s).1 ≤ most)) = false by simp only [ge_iff_le, ← Bool.decide_and]; simpa using hr] at hI
    generalize oneR l s = y at *
    have hC1 := cx [.io] (hO)
    have hC2 := cx [] (hI)
    have fy := bs0_34
    refine goR ?_ ?_ ?_ ?_ ?_ ?_ ?_ ?_ ?_ ?_ ?_ ?_ ?_ ?_ ?_ ?_
    any_goals (first | exact True.intro | skip)
    all_goals (repeat (refine Wh.mk fun hcc => ?_))
    refine SW.loop (fun _ : Unit => ⟨[.ptr 0 0 [] 0, .int .i64 most, .undef, .undef, .undef, .int .i64 y.1, .ref 1 0 0 0, .int .i64 0, .undef, .undef, .undef, .undef, .undef, .undef, .undef, .undef, .undef, .undef, .undef, .undef, .undef, .undef, .undef, .undef, .undef, .undef, .undef, .undef, .undef, .undef, .undef, .undef, .undef, .undef, .undef, .undef], [[.var (.nd [.sl (gOf k) (l.map Enc.b), .int .i64 (y.2.1 : Nat), .bool true])], [.arr 1 [] false]]⟩) (fun N x => N = 0) (n := 0) (x := ()) ?_ rfl ?_
    · exact Norm.re [0, 3] (by decide) rfl (by simp [-List.map_append, heapFits, rowFits, obFits, T.ren, renL]) (by simp [tmFits, T.ren])
    rintro N x rfl
    by_cases hlt : 0 < y.1
    · have hltd : decide ((0 : Int) < y.1) = true := by simpa using hlt
      have fy := hltd
      refine goR ?_ ?_ ?_ ?_ ?_ ?_ ?_ ?_ ?_ ?_ ?_ ?_ ?_ ?_ ?_ ?_
      any_goals (first | exact True.intro | skip)
      all_goals (repeat (refine Wh.mk fun hcc => ?_))
      exact SW.ret (show RetQ _ _ _ _ _ _ _ from RetQ.y [1] [.ow 1 []])
    · have hltd : decide ((0 : Int) < y.1) = false := by simpa using hlt
      have fy := hltd
      refine goR ?_ ?_ ?_ ?_ ?_ ?_ ?_ ?_ ?_ ?_ ?_ ?_ ?_ ?_ ?_ ?_
      any_goals (first | exact True.intro | skip)
      all_goals (repeat (refine Wh.mk fun hcc => ?_))
      exact SW.ret (show RetQ _ _ _ _ _ _ _ from RetQ.y [1] [.ow 1 []])
theorem done_ok (l : List UInt8) (s : RS) : CallR Try.prog 88 [.fp (.nd [.sl .b (l.map Enc.b), .int .i64 (s.1 : Nat), .bool s.2])] [] (.bool (!s.2 && decide (s.1 = l.length))) := by
  refine CallR.of_body (n := 20) (rs := [.tmp 2]) hY.ok Try.func88 rfl (by decide) rfl rfl rfl rfl (fun F => ?_)
  have fx := And.intro Y1 (And.intro Y2 (And.intro Y3 (And.intro Y4 (And.intro Y5 (And.intro Y24 (And.intro Y97 (Y99)))))))
  have he : ((s.1 : Int) == (l.length : Int)) = decide (s.1 = l.length) := by by_cases h : s.1 = l.length <;> simp [h]; omega
  obtain ⟨a, b⟩ := s
  simp only at he ⊢
  cases b
  · skip
    have fy := he
    refine goK ?_ ?_ ?_ ?_ ?_ ?_ ?_ ?_ ?_ ?_ ?_ ?_ ?_ ?_ ?_ ?_
    any_goals (first | exact True.intro | skip)
    all_goals (repeat (refine Wh.mk fun hcc => ?_))
    all_goals (first | rfl | (simp [tupOf, fixEs]; done))
  · skip
    have fy := he
    refine goK ?_ ?_ ?_ ?_ ?_ ?_ ?_ ?_ ?_ ?_ ?_ ?_ ?_ ?_ ?_ ?_
    any_goals (first | exact True.intro | skip)
    all_goals (repeat (refine Wh.mk fun hcc => ?_))
    all_goals (first | rfl | (simp [tupOf, fixEs]; done))
theorem ints_b (l : List UInt8) (s : RS) (most : Int) (hl : l.length ≤ 1048576) (ha : s.1 ≤ l.length) (hm : 0 ≤ most ∧ most ≤ 1048576) : CallR Try.prog 171 [.io (.nd [.sl (.r 0) (l.map Enc.b), .int .i64 (s.1 : Nat), .bool s.2]), .int .i64 most] [.nd [.sl (.r 0) (l.map Enc.b), .int .i64 ((intsR l most s).2.1 : Nat), .bool (intsR l most s).2.2]] (.ow 1 ((intsR l most s).1.map Enc.o)) := ints_ok 1 l s most hl ha hm
theorem ints_s (l : List UInt8) (s : RS) (most : Int) (hl : l.length ≤ 1048576) (ha : s.1 ≤ l.length) (hm : 0 ≤ most ∧ most ≤ 1048576) : CallR Try.prog 171 [.io (.nd [.sl .s (l.map Enc.b), .int .i64 (s.1 : Nat), .bool s.2]), .int .i64 most] [.nd [.sl .s (l.map Enc.b), .int .i64 ((intsR l most s).2.1 : Nat), .bool (intsR l most s).2.2]] (.ow 1 ((intsR l most s).1.map Enc.o)) := ints_ok 0 l s most hl ha hm
theorem list_b (l : List UInt8) (s : RS) (most : Int) (hl : l.length ≤ 1048576) (ha : s.1 ≤ l.length) (hm : 0 ≤ most ∧ most ≤ 1048576) : CallR Try.prog 174 [.io (.nd [.sl (.r 0) (l.map Enc.b), .int .i64 (s.1 : Nat), .bool s.2]), .int .i64 most] [.nd [.sl (.r 0) (l.map Enc.b), .int .i64 ((listR l most s).2.1 : Nat), .bool (listR l most s).2.2]] (.ow 1 ((listR l most s).1.map Enc.o)) := list_ok 1 l s most hl ha hm
theorem list_s (l : List UInt8) (s : RS) (most : Int) (hl : l.length ≤ 1048576) (ha : s.1 ≤ l.length) (hm : 0 ≤ most ∧ most ≤ 1048576) : CallR Try.prog 174 [.io (.nd [.sl .s (l.map Enc.b), .int .i64 (s.1 : Nat), .bool s.2]), .int .i64 most] [.nd [.sl .s (l.map Enc.b), .int .i64 ((listR l most s).2.1 : Nat), .bool (listR l most s).2.2]] (.ow 1 ((listR l most s).1.map Enc.o)) := list_ok 0 l s most hl ha hm
end Q6

namespace Q6
open Go Go.Vm Go.Proofs
set_option maxHeartbeats 4000000
set_option synthInstance.maxSize 2000
set_option synthInstance.maxHeartbeats 400000
set_option maxRecDepth 10000
set_option linter.unusedSimpArgs false
set_option linter.unusedVariables false

open Go.By

theorem zig_wrap {c : Int} (h0 : -1000000000000 ≤ c) (h1 : c ≤ 1000000000000) (hc : ¬ c < 0) : IntKind.i64.wrap (2 * c) = (zig c : Int) := by
  rw [wrap64 _ (by omega) (by omega)]; unfold zig; rw [if_neg hc]; omega
theorem zig_wrapn {c : Int} (h0 : -1000000000000 ≤ c) (h1 : c ≤ 1000000000000) (hc : c < 0) : IntKind.i64.wrap (IntKind.i64.wrap (-2 * c) - 1) = (zig c : Int) := by
  rw [wrap64 (-2 * c) (by omega) (by omega), wrap64 _ (by omega) (by omega)]; unfold zig; rw [if_pos hc]; omega
theorem clampMM (n : Int) : (if (if (1000000000000 : Int) < n then 1000000000000 else n) > -1000000000000 then (if (1000000000000 : Int) < n then 1000000000000 else n) else -1000000000000) = clampI n := by
  unfold clampI M12; split <;> split <;> (try split) <;> omega
theorem put_cases (n c : Int) (hcn : clampI n = c) (h0 : -1000000000000 ≤ c) (h1 : c ≤ 1000000000000) : (decide (n > 1000000000000) = true ∧ c = 1000000000000 ∧ IntKind.i64.wrap (2 * c) = (zig c : Int)) ∨
    (decide (n > 1000000000000) = false ∧ decide (n < -1000000000000) = true ∧ c = -1000000000000 ∧ IntKind.i64.wrap (IntKind.i64.wrap (-2 * c) - 1) = (zig c : Int)) ∨
    (decide (n > 1000000000000) = false ∧ decide (n < -1000000000000) = false ∧ n = c ∧ decide (c < 0) = true ∧ IntKind.i64.wrap (IntKind.i64.wrap (-2 * c) - 1) = (zig c : Int)) ∨
    (decide (n > 1000000000000) = false ∧ decide (n < -1000000000000) = false ∧ n = c ∧ decide (c < 0) = false ∧ IntKind.i64.wrap (2 * c) = (zig c : Int)) := by
  have hz1 := @zig_wrap c h0 h1
  have hz2 := @zig_wrapn c h0 h1
  unfold clampI M12 at hcn
  split at hcn
  · subst hcn; rename_i h; exact .inl ⟨by simpa using h, rfl, hz1 (by decide)⟩
  · rename_i h
    split at hcn
    · rename_i h2; subst hcn; exact .inr (.inl ⟨by simpa using h, by simpa using h2, rfl, hz2 (by decide)⟩)
    · rename_i h2
      by_cases h3 : c < 0
      · exact .inr (.inr (.inl ⟨by simpa using h, by simpa using h2, hcn, by simpa using h3, hz2 h3⟩))
      · exact .inr (.inr (.inr ⟨by simpa using h, by simpa using h2, hcn, by simpa using h3, hz1 h3⟩))

theorem putInt_ok (l : List UInt8) (n : Int) (hl : l.length ≤ 268435456) : CallR Try.prog 68 [.ow 1 (l.map Enc.o), .int .i64 n] [] (.ow 1 ((l ++ putI n).map Enc.o)) := by
  refine CallR.of_body (n := 32) (rs := [.tmp 4]) hY.ok Try.func68 rfl (by decide) rfl rfl rfl rfl (fun F => ?_)
  have fx := And.intro Y1 (And.intro Y3 (And.intro Y4 (And.intro Y5 (And.intro Y24 (Y133)))))
  obtain ⟨hc0, hc1⟩ := clamp_le n
  unfold M12 at hc0 hc1
  have hz := zig_lt n
  have hpl : putI n = encN (zig (clampI n)) := rfl
  have hp6 := putI_len n
  rw [hpl] at hp6 ⊢
  have hcl := clampMM n
  generalize clampI n = c at *
  have hcs2 : (decide (c < 0) = true ∧ IntKind.i64.wrap (IntKind.i64.wrap (-2 * c) - 1) = (zig c : Int)) ∨ (decide (c < 0) = false ∧ IntKind.i64.wrap (2 * c) = (zig c : Int)) := by
    by_cases h : c < 0
    · exact .inl ⟨by simpa using h, zig_wrapn hc0 hc1 h⟩
    · exact .inr ⟨by simpa using h, zig_wrap hc0 hc1 h⟩
  generalize zig c = z at *
  rcases hcs2 with ⟨hd, hw⟩ | ⟨hd, hw⟩
  all_goals
    have fy := And.intro hcl (And.intro hd (hw))
    refine goR ?_ ?_ ?_ ?_ ?_ ?_ ?_ ?_ ?_ ?_ ?_ ?_ ?_ ?_ ?_ ?_
    any_goals (first | exact True.intro | skip)
    all_goals (repeat (refine Wh.mk fun hcc => ?_))
    all_goals
      refine SW.loop (fun x : Nat × List UInt8 => ⟨[.ref 1 0 0 x.2.length, .undef, .undef, .undef, .undef, .int .i64 (x.1 : Nat), .undef, .undef, .undef, .undef, .undef, .undef, .undef, .undef, .undef, .undef, .undef, .undef, .undef, .undef, .undef, .undef, .undef, .undef, .undef, .undef, .undef, .undef, .undef, .undef, .undef, .undef], [[.gone], [.arr 1 (x.2.map Enc.o) false]]⟩)
        (fun N x => N = x.1 ∧ x.2 ++ encN x.1 = l ++ encN z ∧ x.1 < 2 ^ 42) (n := z) (x := (z, l)) (by refine Norm.trans (Norm.mv 0 rfl) ?_; simp only [List.map_cons, List.map_nil, mvR, List.length_cons, List.length_nil, Heap.put, List.getElem?_cons_zero, List.set_cons_zero, and_self, if_true, Nat.zero_add, List.cons_append, List.nil_append]; exact Norm.to 0 rfl (by simp [weakL])) ⟨rfl, rfl, hz⟩ ?_
      rintro N ⟨m, acc⟩ ⟨hN, hacc, hm⟩
      simp only at hN hacc hm ⊢
      have hlen : acc.length + (encN m).length = l.length + (encN z).length := by have := congrArg List.length hacc; simpa using this
      have fy := Nat.add_zero
      refine goS ?_
      refine SW.cond rfl (fun hc => ?_) (fun hc => ?_)
      · have hgt : ¬ m ≤ 127 := by simp at hc; omega
        have e1 := i64_and127 m (by omega)
        have e2 := i64_or128 (m % 128) (by omega)
        have e3 := i64_shr7 m
        rw [encN_hi hgt] at hacc hlen
        simp only [List.length_cons] at hlen
        have hap := append_runP (Y := Y) (H := [[.gone], [.arr 1 (acc.map Enc.o) false], [.arr 1 [Enc.o (byt ((m % 128 + 128 : Nat) : Int))] false], []]) (own := 3) (t := 24) (u := 24) (e := 1) (j := 0) (off := 0) (n := acc.length) (e2 := 2) (j2 := 0) (f := acc.map Enc.o) (l := acc) (x := byt ((m % 128 + 128 : Nat) : Int)) Y24 Y24 Y5 rfl (by decide) rfl rfl (by simp) (by simp) (by omega) rfl rfl
        simp only [o_byte] at hap
        have fy := And.intro e1 (And.intro e2 (And.intro e3 (And.intro hap (bs1_24))))
        refine goN ?_ ?_ ?_ ?_ ?_ ?_ ?_ ?_ ?_ ?_ ?_ ?_ ?_ ?_ ?_ ?_
        any_goals (first | exact True.intro | skip)
        skip
        refine ⟨m / 128, (m / 128, acc ++ [byt ((m % 128 + 128 : Nat) : Int)]), by omega, ⟨rfl, by simp only; rw [← hacc]; simp, by simp only; omega⟩, ?_⟩
        exact Norm.re [0, 3] (by decide) rfl (by simp only [eq_self, heapFits, rowFits, obFits, List.getElem?_cons_zero, List.getElem?_cons_succ, renL_o, renL_b, true_and, and_true, and_self]) (by simp [tmFits, T.ren])
      · have hle : m ≤ 127 := by simp at hc; omega
        rw [encN_lo hle] at hacc hlen
        have hap := append_runP (Y := Y) (H := [[.gone], [.arr 1 (acc.map Enc.o) false], [.arr 1 [Enc.o (byt ((m : Nat) : Int))] false], []]) (own := 3) (t := 24) (u := 24) (e := 1) (j := 0) (off := 0) (n := acc.length) (e2 := 2) (j2 := 0) (f := acc.map Enc.o) (l := acc) (x := byt ((m : Nat) : Int)) Y24 Y24 Y5 rfl (by decide) rfl rfl (by simp) (by simp) (by omega) rfl rfl
        simp only [o_byte] at hap
        have fy := And.intro hap (bs1_24)
        refine goN ?_ ?_ ?_ ?_ ?_ ?_ ?_ ?_ ?_ ?_ ?_ ?_ ?_ ?_ ?_ ?_
        any_goals (first | exact True.intro | skip)
        skip
        rw [← hacc]
        exact SW.ret (show RetQ _ _ _ _ _ _ _ from RetQ.y [1] [.ow 1 ((acc ++ [byt ((m : Nat) : Int)]).map Enc.o)])
theorem PutInt_ok (l : List UInt8) (n : Int) (hl : l.length ≤ 268435456) : CallR Try.prog 63 [.sl .b (l.map Enc.b), .int .i64 n] [] (.ow 1 ((l ++ putI n).map Enc.o)) := by
  refine CallR.of_body (n := 37) (rs := [.tmp 4]) hY.ok Try.func63 rfl (by decide) rfl rfl rfl rfl (fun F => ?_)
  have fx := And.intro Y1 (And.intro Y3 (And.intro Y4 (And.intro Y5 (And.intro Y24 (Y133)))))
  obtain ⟨hc0, hc1⟩ := clamp_le n
  unfold M12 at hc0 hc1
  have hz := zig_lt n
  have hpl : putI n = encN (zig (clampI n)) := rfl
  have hp6 := putI_len n
  rw [hpl] at hp6 ⊢
  have hcl := clampMM n
  have hcs := put_cases n _ rfl hc0 hc1
  generalize clampI n = c at *
  have hap0 := append_runB (Y := Y) (H := [[], [.arr 1 [] false], []]) (own := 2) (t := 24) (u := 24) (e := 1) (j := 0) (off := 0) (n := 0) (f := []) (l := []) (g := .b) (m := l) Y24 Y24 Y5 rfl (by decide) rfl rfl (Nat.le_refl _) (by omega) rfl b_byte
  simp only [Nat.zero_add, List.nil_append] at hap0
  have hd3' : decide ((1000000000000 : Int) < 0) = false := by decide
  have hd4' : decide ((-1000000000000 : Int) < 0) = true := by decide
  have hd5' : decide ((1000000000000 : Int) < -1000000000000) = false := by decide
  generalize zig c = z at *
  have hcs : (decide (n > 1000000000000) = true ∧ decide (n < n) = false ∧ decide (n < n) = false ∧ c = 1000000000000 ∧ IntKind.i64.wrap (2 * c) = (z : Int)) ∨ (decide (n > 1000000000000) = false ∧ decide (n < -1000000000000) = true ∧ decide (n < n) = false ∧ c = -1000000000000 ∧ IntKind.i64.wrap (IntKind.i64.wrap (-2 * c) - 1) = (z : Int)) ∨ (decide (n > 1000000000000) = false ∧ decide (n < -1000000000000) = false ∧ decide (c < 0) = true ∧ n = c ∧ IntKind.i64.wrap (IntKind.i64.wrap (-2 * c) - 1) = (z : Int)) ∨ (decide (n > 1000000000000) = false ∧ decide (n < -1000000000000) = false ∧ decide (c < 0) = false ∧ n = c ∧ IntKind.i64.wrap (2 * c) = (z : Int)) := by
    have hnn : decide (n < n) = false := by simp
    rcases hcs with ⟨hd, hc, hw⟩ | ⟨hd, hd2, hc, hw⟩ | ⟨hd, hd2, hc, hd3, hw⟩ | ⟨hd, hd2, hc, hd3, hw⟩
    · exact .inl ⟨hd, hnn, hnn, hc, hw⟩
    · exact .inr (.inl ⟨hd, hd2, hnn, hc, hw⟩)
    · exact .inr (.inr (.inl ⟨hd, hd2, hd3, hc, hw⟩))
    · exact .inr (.inr (.inr ⟨hd, hd2, hd3, hc, hw⟩))
  rcases hcs with ⟨hd, hd2, hd3, hc, hw⟩ | ⟨hd, hd2, hd3, hc, hw⟩ | ⟨hd, hd2, hd3, hc, hw⟩ | ⟨hd, hd2, hd3, hc, hw⟩ <;> subst hc
  all_goals
    have fy := And.intro hap0 (And.intro hd (And.intro hd2 (And.intro hd3 (And.intro hd3' (And.intro hd4' (And.intro hd5' (And.intro hw (bs0_24))))))))
    refine goR ?_ ?_ ?_ ?_ ?_ ?_ ?_ ?_ ?_ ?_ ?_ ?_ ?_ ?_ ?_ ?_
    any_goals (first | exact True.intro | skip)
    all_goals (repeat (refine Wh.mk fun hcc => ?_))
    all_goals
      refine SW.loop (fun x : Nat × List UInt8 => ⟨[.sl .b (l.map Enc.b), .undef, .undef, .undef, .undef, .ref 1 0 0 x.2.length, .int .i64 (x.1 : Nat), .undef, .undef, .undef, .undef, .undef, .undef, .undef, .undef, .undef, .undef, .undef, .undef, .undef, .undef, .undef, .undef, .undef, .undef, .undef, .undef, .undef, .undef, .undef, .undef, .undef, .undef, .undef, .undef, .undef, .undef], [[], [.arr 1 (x.2.map Enc.o) false]]⟩)
        (fun N x => N = x.1 ∧ x.2 ++ encN x.1 = l ++ encN z ∧ x.1 < 2 ^ 42) (n := z) (x := (z, l)) (by refine Norm.re [0, 2] (by decide) rfl (by simp only [eq_self, heapFits, rowFits, obFits, List.getElem?_cons_zero, List.getElem?_cons_succ, renL_o, renL_b, true_and, and_true, and_self]) (by simp [tmFits, T.ren])) ⟨rfl, rfl, hz⟩ ?_
      rintro N ⟨m, acc⟩ ⟨hN, hacc, hm⟩
      simp only at hN hacc hm ⊢
      have hlen : acc.length + (encN m).length = l.length + (encN z).length := by have := congrArg List.length hacc; simpa using this
      have fy := Nat.add_zero
      refine goS ?_
      refine SW.cond rfl (fun hc => ?_) (fun hc => ?_)
      · have hgt : ¬ m ≤ 127 := by simp at hc; omega
        have e1 := i64_and127 m (by omega)
        have e2 := i64_or128 (m % 128) (by omega)
        have e3 := i64_shr7 m
        rw [encN_hi hgt] at hacc hlen
        simp only [List.length_cons] at hlen
        have hap := append_runP (Y := Y) (H := [[], [.arr 1 (acc.map Enc.o) false], [.arr 1 [Enc.o (byt ((m % 128 + 128 : Nat) : Int))] false], []]) (own := 3) (t := 24) (u := 24) (e := 1) (j := 0) (off := 0) (n := acc.length) (e2 := 2) (j2 := 0) (f := acc.map Enc.o) (l := acc) (x := byt ((m % 128 + 128 : Nat) : Int)) Y24 Y24 Y5 rfl (by decide) rfl rfl (by simp) (by simp) (by omega) rfl rfl
        simp only [o_byte] at hap
        have fy := And.intro e1 (And.intro e2 (And.intro e3 (And.intro hap (bs1_24))))
        refine goN ?_ ?_ ?_ ?_ ?_ ?_ ?_ ?_ ?_ ?_ ?_ ?_ ?_ ?_ ?_ ?_
        any_goals (first | exact True.intro | skip)
        skip
        refine ⟨m / 128, (m / 128, acc ++ [byt ((m % 128 + 128 : Nat) : Int)]), by omega, ⟨rfl, by simp only; rw [← hacc]; simp, by simp only; omega⟩, ?_⟩
        exact Norm.re [0, 3] (by decide) rfl (by simp only [eq_self, heapFits, rowFits, obFits, List.getElem?_cons_zero, List.getElem?_cons_succ, renL_o, renL_b, true_and, and_true, and_self]) (by simp [tmFits, T.ren])
      · have hle : m ≤ 127 := by simp at hc; omega
        rw [encN_lo hle] at hacc hlen
        have hap := append_runP (Y := Y) (H := [[], [.arr 1 (acc.map Enc.o) false], [.arr 1 [Enc.o (byt ((m : Nat) : Int))] false], []]) (own := 3) (t := 24) (u := 24) (e := 1) (j := 0) (off := 0) (n := acc.length) (e2 := 2) (j2 := 0) (f := acc.map Enc.o) (l := acc) (x := byt ((m : Nat) : Int)) Y24 Y24 Y5 rfl (by decide) rfl rfl (by simp) (by simp) (by omega) rfl rfl
        simp only [o_byte] at hap
        have fy := And.intro hap (bs1_24)
        refine goN ?_ ?_ ?_ ?_ ?_ ?_ ?_ ?_ ?_ ?_ ?_ ?_ ?_ ?_ ?_ ?_
        any_goals (first | exact True.intro | skip)
        skip
        rw [← hacc]
        exact SW.ret (show RetQ _ _ _ _ _ _ _ from RetQ.y [1] [.ow 1 ((acc ++ [byt ((m : Nat) : Int)]).map Enc.o)])
end Q6

namespace Q6
open Go Go.Vm Go.Proofs
set_option maxHeartbeats 4000000
set_option synthInstance.maxSize 2000
set_option synthInstance.maxHeartbeats 400000
set_option maxRecDepth 10000
set_option linter.unusedSimpArgs false
set_option linter.unusedVariables false

theorem laws_eqByteS_ok (l m : List UInt8) (hl : Enc.lim 1048576 l) : CallR Try.prog 15 [.sl .b (l.map Enc.b), .sl .b (m.map Enc.b)] [] (.bool (decide (l = m))) := by
  refine CallR.of_body (n := 26) (rs := [.tmp 4]) hY.ok Try.func15 rfl (by decide) rfl rfl rfl rfl (fun F => ?_)
  have fx := And.intro Y3 (And.intro Y4 (And.intro Y5 (Y24)))
  have hl1 : l.length ≤ 1048576 := hl.1
  have fy := Nat.add_zero
  refine goS ?_
  refine SW.cond rfl (fun hc => ?_) (fun hc => ?_)
  · have hne : ¬ l = m := by intro e; subst e; simp at hc
    have fy := Nat.add_zero
    refine goK ?_ ?_ ?_ ?_ ?_ ?_ ?_ ?_ ?_ ?_ ?_ ?_ ?_ ?_ ?_ ?_
    any_goals (first | exact True.intro | skip)
    all_goals (repeat (refine Wh.mk fun hcc => ?_))
    simp [tupOf, fixEs, hne]
  have hlen : l.length = m.length := by have : (l.length : Int) = m.length := by simpa using hc
                                        omega
  refine SW.skip ?_
  simp only [thenS]
  have fy := Nat.add_zero
  refine goN ?_ ?_ ?_ ?_ ?_ ?_ ?_ ?_ ?_ ?_ ?_ ?_ ?_ ?_ ?_ ?_
  any_goals (first | exact True.intro | skip)
  skip
  refine SW.loop (fun i : Nat => ⟨[.sl .b (l.map Enc.b), .sl .b (m.map Enc.b), .undef, .undef, .undef, .int .i64 i, .undef, .undef, .undef, .undef, .undef, .undef, .undef, .undef, .undef, .undef, .undef, .undef, .undef, .undef, .undef, .undef, .undef, .undef, .undef, .undef], [[]]⟩)
    (fun n i => n = l.length - i ∧ i ≤ l.length ∧ ∀ j (h : j < l.length), j < i → l[j] = m[j]'(by omega)) (n := l.length) (x := 0) (Norm.to 0 rfl (by simp [weakL])) ⟨rfl, Nat.zero_le _, fun j _ h => absurd h (Nat.not_lt_zero _)⟩ ?_
  rintro n i ⟨hn, hi, hp⟩
  have fy := Nat.add_zero
  refine goS ?_
  refine SW.cond rfl (fun hc => ?_) (fun hc => ?_)
  · have hlt : i < l.length := by simpa using hc
    have hlt' : i < m.length := by omega
    have hgl : (l.map Enc.b)[i]? = some (.int .u8 (l[i].toNat : Int)) := map_get Enc.b l i hlt
    have hgm : (m.map Enc.b)[i]? = some (.int .u8 (m[i].toNat : Int)) := map_get Enc.b m i hlt'
    have fy := And.intro hgl (hgm)
    refine goK ?_ ?_ ?_ ?_ ?_ ?_ ?_ ?_ ?_ ?_ ?_ ?_ ?_ ?_ ?_ ?_
    any_goals (first | exact True.intro | skip)
    all_goals (repeat (refine Wh.mk fun hcc => ?_))
    · have hx := hcc
      have hne : ¬ l[i] = m[i] := by intro e; simp [e] at hx
      have hlm : ¬ l = m := by intro e; subst e; exact hne rfl
      simp [tupOf, fixEs, hlm]
    · have hx := hcc
      have hx' : l[i] = m[i] := by first | (simpa using hx; done) | (apply UInt8.toNat_inj.1; simp at hx; omega)
      refine ⟨n - 1, i + 1, by omega, ⟨by omega, by omega, fun j hj hji => ?_⟩, ?_⟩
      · by_cases he : j = i
        · subst he; exact hx'
        · exact hp j hj (by omega)
      · rw [wrap64 _ (by omega) (by omega)]
        first | exact Norm.to 0 rfl (by simp [weakL]) | exact Norm.to 1 rfl (by simp [weakL])
  · have hge : i = l.length := by
      have : ¬ i < l.length := by simpa using hc
      omega
    have hlm : l = m := List.ext_getElem hlen fun j h1 h2 => hp j h1 (by omega)
    have fy := Nat.add_zero
    refine goK ?_ ?_ ?_ ?_ ?_ ?_ ?_ ?_ ?_ ?_ ?_ ?_ ?_ ?_ ?_ ?_
    any_goals (first | exact True.intro | skip)
    all_goals (repeat (refine Wh.mk fun hcc => ?_))
    simp [tupOf, fixEs, hlm]
theorem laws_eqIntS_ok (l m : List Int) (hl : Enc.lim 1048576 l) : CallR Try.prog 167 [.sl .b (l.map Enc.b), .sl .b (m.map Enc.b)] [] (.bool (decide (l = m))) := by
  refine CallR.of_body (n := 26) (rs := [.tmp 4]) hY.ok Try.func167 rfl (by decide) rfl rfl rfl rfl (fun F => ?_)
  have fx := And.intro Y3 (And.intro Y4 (Y34))
  have hl1 : l.length ≤ 1048576 := hl.1
  have fy := Nat.add_zero
  refine goS ?_
  refine SW.cond rfl (fun hc => ?_) (fun hc => ?_)
  · have hne : ¬ l = m := by intro e; subst e; simp at hc
    have fy := Nat.add_zero
    refine goK ?_ ?_ ?_ ?_ ?_ ?_ ?_ ?_ ?_ ?_ ?_ ?_ ?_ ?_ ?_ ?_
    any_goals (first | exact True.intro | skip)
    all_goals (repeat (refine Wh.mk fun hcc => ?_))
    simp [tupOf, fixEs, hne]
  have hlen : l.length = m.length := by have : (l.length : Int) = m.length := by simpa using hc
                                        omega
  refine SW.skip ?_
  simp only [thenS]
  have fy := Nat.add_zero
  refine goN ?_ ?_ ?_ ?_ ?_ ?_ ?_ ?_ ?_ ?_ ?_ ?_ ?_ ?_ ?_ ?_
  any_goals (first | exact True.intro | skip)
  skip
  refine SW.loop (fun i : Nat => ⟨[.sl .b (l.map Enc.b), .sl .b (m.map Enc.b), .undef, .undef, .undef, .int .i64 i, .undef, .undef, .undef, .undef, .undef, .undef, .undef, .undef, .undef, .undef, .undef, .undef, .undef, .undef, .undef, .undef, .undef, .undef, .undef, .undef], [[]]⟩)
    (fun n i => n = l.length - i ∧ i ≤ l.length ∧ ∀ j (h : j < l.length), j < i → l[j] = m[j]'(by omega)) (n := l.length) (x := 0) (Norm.to 0 rfl (by simp [weakL])) ⟨rfl, Nat.zero_le _, fun j _ h => absurd h (Nat.not_lt_zero _)⟩ ?_
  rintro n i ⟨hn, hi, hp⟩
  have fy := Nat.add_zero
  refine goS ?_
  refine SW.cond rfl (fun hc => ?_) (fun hc => ?_)
  · have hlt : i < l.length := by simpa using hc
    have hlt' : i < m.length := by omega
    have hgl : (l.map Enc.b)[i]? = some (.int .i64 l[i]) := map_get Enc.b l i hlt
    have hgm : (m.map Enc.b)[i]? = some (.int .i64 m[i]) := map_get Enc.b m i hlt'
    have fy := And.intro hgl (hgm)
    refine goK ?_ ?_ ?_ ?_ ?_ ?_ ?_ ?_ ?_ ?_ ?_ ?_ ?_ ?_ ?_ ?_
    any_goals (first | exact True.intro | skip)
    all_goals (repeat (refine Wh.mk fun hcc => ?_))
    · have hx := hcc
      have hne : ¬ l[i] = m[i] := by intro e; simp [e] at hx
      have hlm : ¬ l = m := by intro e; subst e; exact hne rfl
      simp [tupOf, fixEs, hlm]
    · have hx := hcc
      have hx' : l[i] = m[i] := by first | (simpa using hx; done) | (apply UInt8.toNat_inj.1; simp at hx; omega)
      refine ⟨n - 1, i + 1, by omega, ⟨by omega, by omega, fun j hj hji => ?_⟩, ?_⟩
      · by_cases he : j = i
        · subst he; exact hx'
        · exact hp j hj (by omega)
      · rw [wrap64 _ (by omega) (by omega)]
        first | exact Norm.to 0 rfl (by simp [weakL]) | exact Norm.to 1 rfl (by simp [weakL])
  · have hge : i = l.length := by
      have : ¬ i < l.length := by simpa using hc
      omega
    have hlm : l = m := List.ext_getElem hlen fun j h1 h2 => hp j h1 (by omega)
    have fy := Nat.add_zero
    refine goK ?_ ?_ ?_ ?_ ?_ ?_ ?_ ?_ ?_ ?_ ?_ ?_ ?_ ?_ ?_ ?_
    any_goals (first | exact True.intro | skip)
    all_goals (repeat (refine Wh.mk fun hcc => ?_))
    simp [tupOf, fixEs, hlm]
theorem laws_eqObj_ok (x y : (Int × (List Int) × (List Int) × Unit)) (hx : Enc.lim 1048576 x) : CallR Try.prog 136 [.nd [.int .i64 x.1, .sl .b (x.2.1.map Enc.b), .sl .b (x.2.2.1.map Enc.b)], .nd [.int .i64 y.1, .sl .b (y.2.1.map Enc.b), .sl .b (y.2.2.1.map Enc.b)]] [] (.bool (decide (x = y))) := by
  refine CallR.of_body (n := 22) (rs := [.tmp 4]) hY.ok Try.func136 rfl (by decide) rfl rfl rfl rfl (fun F => ?_)
  have fx := And.intro Y1 (And.intro Y2 (And.intro Y3 (And.intro Y4 (And.intro Y34 (Y36)))))
  have key : x = y ↔ (x.1 = y.1 ∧ x.2.1 = y.2.1 ∧ x.2.2.1 = y.2.2.1) :=
    ⟨fun h => by subst h; simp, fun h => Prod.ext h.1 (Prod.ext h.2.1 (Prod.ext h.2.2 rfl))⟩
  have hC1 := cx [] (laws_eqIntS_ok x.2.1 y.2.1 hx.2.1)
  have hC2 := cx [] (laws_eqIntS_ok x.2.2.1 y.2.2.1 hx.2.2.1)
  have fy := Nat.add_zero
  refine goK ?_ ?_ ?_ ?_ ?_ ?_ ?_ ?_ ?_ ?_ ?_ ?_ ?_ ?_ ?_ ?_
  any_goals (first | exact True.intro | skip)
  all_goals (repeat (refine Wh.mk fun hcc => ?_))
  all_goals simp only [tupOf, fixEs, key]
  all_goals simp_all
theorem laws_eqSlot_ok (x y : (Bool × ((Int × (List Int) × (List Int) × Unit)) × Unit)) (hx : Enc.lim 1048576 x) : CallR Try.prog 71 [.nd [.bool x.1, .nd [.int .i64 x.2.1.1, .sl .b (x.2.1.2.1.map Enc.b), .sl .b (x.2.1.2.2.1.map Enc.b)]], .nd [.bool y.1, .nd [.int .i64 y.2.1.1, .sl .b (y.2.1.2.1.map Enc.b), .sl .b (y.2.1.2.2.1.map Enc.b)]]] [] (.bool (decide (x = y))) := by
  refine CallR.of_body (n := 16) (rs := [.tmp 4]) hY.ok Try.func71 rfl (by decide) rfl rfl rfl rfl (fun F => ?_)
  have fx := And.intro Y1 (And.intro Y3 (And.intro Y4 (And.intro Y34 (And.intro Y36 (Y38)))))
  have key : x = y ↔ (x.1 = y.1 ∧ x.2.1 = y.2.1) :=
    ⟨fun h => by subst h; simp, fun h => Prod.ext h.1 (Prod.ext h.2 rfl)⟩
  have hC1 := cx [] (laws_eqObj_ok x.2.1 y.2.1 hx.2.1)
  have fy := Nat.add_zero
  refine goK ?_ ?_ ?_ ?_ ?_ ?_ ?_ ?_ ?_ ?_ ?_ ?_ ?_ ?_ ?_ ?_
  any_goals (first | exact True.intro | skip)
  all_goals (repeat (refine Wh.mk fun hcc => ?_))
  all_goals simp only [tupOf, fixEs, key]
  all_goals simp_all
theorem laws_eqSlotS_ok (l m : List ((Bool × ((Int × (List Int) × (List Int) × Unit)) × Unit))) (hl : Enc.lim 1048576 l) : CallR Try.prog 16 [.sl .b (l.map Enc.b), .sl .b (m.map Enc.b)] [] (.bool (decide (l = m))) := by
  refine CallR.of_body (n := 27) (rs := [.tmp 4]) hY.ok Try.func16 rfl (by decide) rfl rfl rfl rfl (fun F => ?_)
  have fx := And.intro Y3 (And.intro Y4 (And.intro Y26 (And.intro Y34 (And.intro Y36 (Y38)))))
  have hl1 : l.length ≤ 1048576 := hl.1
  have fy := Nat.add_zero
  refine goS ?_
  refine SW.cond rfl (fun hc => ?_) (fun hc => ?_)
  · have hne : ¬ l = m := by intro e; subst e; simp at hc
    have fy := Nat.add_zero
    refine goK ?_ ?_ ?_ ?_ ?_ ?_ ?_ ?_ ?_ ?_ ?_ ?_ ?_ ?_ ?_ ?_
    any_goals (first | exact True.intro | skip)
    all_goals (repeat (refine Wh.mk fun hcc => ?_))
    simp [tupOf, fixEs, hne]
  have hlen : l.length = m.length := by have : (l.length : Int) = m.length := by simpa using hc
                                        omega
  refine SW.skip ?_
  simp only [thenS]
  have fy := Nat.add_zero
  refine goN ?_ ?_ ?_ ?_ ?_ ?_ ?_ ?_ ?_ ?_ ?_ ?_ ?_ ?_ ?_ ?_
  any_goals (first | exact True.intro | skip)
  skip
  refine SW.loop (fun i : Nat => ⟨[.sl .b (l.map Enc.b), .sl .b (m.map Enc.b), .undef, .undef, .undef, .int .i64 i, .undef, .undef, .undef, .undef, .undef, .undef, .undef, .undef, .undef, .undef, .undef, .undef, .undef, .undef, .undef, .undef, .undef, .undef, .undef, .undef, .undef], [[]]⟩)
    (fun n i => n = l.length - i ∧ i ≤ l.length ∧ ∀ j (h : j < l.length), j < i → l[j] = m[j]'(by omega)) (n := l.length) (x := 0) (Norm.to 0 rfl (by simp [weakL])) ⟨rfl, Nat.zero_le _, fun j _ h => absurd h (Nat.not_lt_zero _)⟩ ?_
  rintro n i ⟨hn, hi, hp⟩
  have fy := Nat.add_zero
  refine goS ?_
  refine SW.cond rfl (fun hc => ?_) (fun hc => ?_)
  · have hlt : i < l.length := by simpa using hc
    have hlt' : i < m.length := by omega
    have hgl : (l.map Enc.b)[i]? = some (.nd [.bool l[i].1, .nd [.int .i64 l[i].2.1.1, .sl .b (l[i].2.1.2.1.map Enc.b), .sl .b (l[i].2.1.2.2.1.map Enc.b)]]) := map_get Enc.b l i hlt
    have hgm : (m.map Enc.b)[i]? = some (.nd [.bool m[i].1, .nd [.int .i64 m[i].2.1.1, .sl .b (m[i].2.1.2.1.map Enc.b), .sl .b (m[i].2.1.2.2.1.map Enc.b)]]) := map_get Enc.b m i hlt'
    have hC1 := cx [] (laws_eqSlot_ok l[i] m[i] (hl.2 _ (List.getElem_mem hlt)))
    have fy := And.intro hgl (hgm)
    refine goK ?_ ?_ ?_ ?_ ?_ ?_ ?_ ?_ ?_ ?_ ?_ ?_ ?_ ?_ ?_ ?_
    any_goals (first | exact True.intro | skip)
    all_goals (repeat (refine Wh.mk fun hcc => ?_))
    · have hx := hcc
      have hne : ¬ l[i] = m[i] := by intro e; simp [e] at hx
      have hlm : ¬ l = m := by intro e; subst e; exact hne rfl
      simp [tupOf, fixEs, hlm]
    · have hx := hcc
      have hx' : l[i] = m[i] := by first | (simpa using hx; done) | (apply UInt8.toNat_inj.1; simp at hx; omega)
      refine ⟨n - 1, i + 1, by omega, ⟨by omega, by omega, fun j hj hji => ?_⟩, ?_⟩
      · by_cases he : j = i
        · subst he; exact hx'
        · exact hp j hj (by omega)
      · rw [wrap64 _ (by omega) (by omega)]
        first | exact Norm.to 0 rfl (by simp [weakL]) | exact Norm.to 1 rfl (by simp [weakL])
  · have hge : i = l.length := by
      have : ¬ i < l.length := by simpa using hc
      omega
    have hlm : l = m := List.ext_getElem hlen fun j h1 h2 => hp j h1 (by omega)
    have fy := Nat.add_zero
    refine goK ?_ ?_ ?_ ?_ ?_ ?_ ?_ ?_ ?_ ?_ ?_ ?_ ?_ ?_ ?_ ?_
    any_goals (first | exact True.intro | skip)
    all_goals (repeat (refine Wh.mk fun hcc => ?_))
    simp [tupOf, fixEs, hlm]
end Q6

namespace Q6
open Go Go.Vm Go.Proofs
set_option maxHeartbeats 4000000
set_option synthInstance.maxSize 2000
set_option synthInstance.maxHeartbeats 400000
set_option maxRecDepth 10000
set_option linter.unusedSimpArgs false
set_option linter.unusedVariables false


    def intB (n : Int) : Bool := decide (n ≥ -1000000) && decide (n ≤ 1000000)
    def refB (n : Int) : Bool := decide (n ≥ 0) && decide (n ≤ 31)
    def objB (x : (Int × (List Int) × (List Int) × Unit)) : Bool := (decide (x.1 ≥ 1) && decide (x.1 ≤ 99)) && decide (x.2.1.length ≤ 5) && decide (x.2.2.1.length ≤ 5) && x.2.1.all intB && x.2.2.1.all refB
    def noObjB (x : (Int × (List Int) × (List Int) × Unit)) : Bool := decide (x.1 = 0) && decide (x.2.1.length = 0) && decide (x.2.2.1.length = 0)
    def slotB (x : (Bool × ((Int × (List Int) × (List Int) × Unit)) × Unit)) : Bool := if x.1 then objB x.2.1 else noObjB x.2.1
    def viewB (l : List (Bool × ((Int × (List Int) × (List Int) × Unit)) × Unit)) : Bool := decide (l.length = 32) && (match l with | [] => false | s :: _ => !s.1) && l.all slotB
    theorem len0 (l : List Int) : ((l.length : Int) == 0) = decide (l.length = 0) := by
      by_cases h : l.length = 0
      · simp [h]
      · have : ¬ (l.length : Int) = 0 := by omega
        rw [beq_eq_false_iff_ne.2 this]; simp [h]
    theorem len5 (l : List Int) : decide ((l.length : Int) > 5) = !decide (l.length ≤ 5) := by
      by_cases h : l.length ≤ 5
      · have : ¬ (l.length : Int) > 5 := by omega
        simp [h, this]
      · have : (l.length : Int) > 5 := by omega
        simp [h, this]
    
theorem obj1_ok (x : Int) : CallR Try.prog 169 [.int .i64 x] [] (.bool (!intB x)) := by
  refine CallR.of_body (n := 6) (rs := [.tmp 2]) hY.ok Try.func169 rfl (by decide) rfl rfl rfl rfl (fun F => ?_)
  have fx := And.intro Y3 (Y4)
  have hG1 := fun u1 u2 u3 => in_ok u1 u2 u3
  have fy := Nat.add_zero
  refine goK ?_ ?_ ?_ ?_ ?_ ?_ ?_ ?_ ?_ ?_ ?_ ?_ ?_ ?_ ?_ ?_
  any_goals (first | exact True.intro | skip)
  all_goals (repeat (refine Wh.mk fun hcc => ?_))
  all_goals (first | rfl | ((try simp only [tupOf, fixEs]); (first | done | rfl | (simp_all []; done) | grind [])))
theorem obj2_ok (x : Int) : CallR Try.prog 170 [.int .i64 x] [] (.bool (!refB x)) := by
  refine CallR.of_body (n := 6) (rs := [.tmp 2]) hY.ok Try.func170 rfl (by decide) rfl rfl rfl rfl (fun F => ?_)
  have fx := And.intro Y3 (Y4)
  have hG1 := fun u1 u2 u3 => in_ok u1 u2 u3
  have fy := Nat.add_zero
  refine goK ?_ ?_ ?_ ?_ ?_ ?_ ?_ ?_ ?_ ?_ ?_ ?_ ?_ ?_ ?_ ?_
  any_goals (first | exact True.intro | skip)
  all_goals (repeat (refine Wh.mk fun hcc => ?_))
  all_goals (first | rfl | ((try simp only [tupOf, fixEs]); (first | done | rfl | (simp_all []; done) | grind [])))
theorem idxInt_ok (l : List Int) (hl : Enc.lim 1048576 l) : CallR Try.prog 177 [.sl .b (l.map Enc.b), .fn 169 [] []] [] (.int .i64 (idxOf (fun x => !intB x) l)) := by
  refine CallR.of_body (n := 19) (rs := [.tmp 4]) hY.ok Try.func177 rfl (by decide) rfl rfl rfl rfl (fun F => ?_)
  have fx := And.intro Y3 (And.intro Y4 (And.intro Y34 (Y96)))
  have hl1 : l.length ≤ 1048576 := hl.1
  have fy := Nat.add_zero
  refine goN ?_ ?_ ?_ ?_ ?_ ?_ ?_ ?_ ?_ ?_ ?_ ?_ ?_ ?_ ?_ ?_
  any_goals (first | exact True.intro | skip)
  skip
  refine SW.loop (fun i : Nat => ⟨[.sl .b (l.map Enc.b), .fn 169 [] [], .undef, .undef, .undef, .undef, .undef, .int .i64 l.length, .int .i64 i, .undef, .undef, .undef, .undef, .undef, .undef, .undef, .undef, .undef, .undef], [[]]⟩)
    (fun n i => n = l.length - i ∧ i ≤ l.length ∧ ∀ j (h : j < l.length), j < i → (fun x => !intB x) l[j] = false) (n := l.length) (x := 0) (Norm.to 0 rfl (by simp [weakL])) ⟨rfl, Nat.zero_le _, fun j _ h => absurd h (Nat.not_lt_zero _)⟩ ?_
  rintro n i ⟨hn, hi, hp⟩
  have fy := Nat.add_zero
  refine goS ?_
  refine SW.cond rfl (fun hc => ?_) (fun hc => ?_)
  · have hlt : i < l.length := by simpa using hc
    have hg : (l.map Enc.b)[i]? = some (.int .i64 l[i]) := map_get Enc.b l i hlt
    have hC1 := cx [] (obj1_ok l[i])
    have fy := hg
    refine goK ?_ ?_ ?_ ?_ ?_ ?_ ?_ ?_ ?_ ?_ ?_ ?_ ?_ ?_ ?_ ?_
    any_goals (first | exact True.intro | skip)
    all_goals (repeat (refine Wh.mk fun hcc => ?_))
    · have hx := hcc
      have hx' : (fun x => !intB x) l[i] = true := by simpa using hx
      simp only [tupOf, fixEs, idxOf_eq (fun x => !intB x) l hlt hx' (fun j hj => hp j (by omega) hj)]
    · have hx := hcc
      have hx' : (fun x => !intB x) l[i] = false := by simpa using hx
      refine ⟨n - 1, i + 1, by omega, ⟨by omega, by omega, fun j hj hji => ?_⟩, ?_⟩
      · by_cases he : j = i
        · subst he; exact hx'
        · exact hp j hj (by omega)
      · rw [wrap64 _ (by omega) (by omega)]
        first | exact Norm.to 0 rfl (by simp [weakL]) | exact Norm.to 1 rfl (by simp [weakL]) | exact Norm.to 2 rfl (by simp [weakL])
  · have hge : i = l.length := by
      have : ¬ i < l.length := by simpa using hc
      omega
    have fy := Nat.add_zero
    refine goK ?_ ?_ ?_ ?_ ?_ ?_ ?_ ?_ ?_ ?_ ?_ ?_ ?_ ?_ ?_ ?_
    any_goals (first | exact True.intro | skip)
    all_goals (repeat (refine Wh.mk fun hcc => ?_))
    simp only [tupOf, fixEs, idxOf_none (fun x => !intB x) l (fun j hj => hp j hj (by omega))]
theorem anyInt_ok (l : List Int) (hl : Enc.lim 1048576 l) : CallR Try.prog 168 [.sl .b (l.map Enc.b), .fn 169 [] []] [] (.bool (l.any (fun x => !intB x))) := by
  refine CallR.of_body (n := 9) (rs := [.tmp 4]) hY.ok Try.func168 rfl (by decide) rfl rfl rfl rfl (fun F => ?_)
  have fx := And.intro Y3 (And.intro Y4 (And.intro Y34 (Y96)))
  have hC1 := cx [] (idxInt_ok l hl)
  have fy := Nat.add_zero
  refine goK ?_ ?_ ?_ ?_ ?_ ?_ ?_ ?_ ?_ ?_ ?_ ?_ ?_ ?_ ?_ ?_
  any_goals (first | exact True.intro | skip)
  all_goals (repeat (refine Wh.mk fun hcc => ?_))
  all_goals simp only [tupOf, fixEs, ge_iff_le, idx_any]
theorem idxRef_ok (l : List Int) (hl : Enc.lim 1048576 l) : CallR Try.prog 177 [.sl .b (l.map Enc.b), .fn 170 [] []] [] (.int .i64 (idxOf (fun x => !refB x) l)) := by
  refine CallR.of_body (n := 19) (rs := [.tmp 4]) hY.ok Try.func177 rfl (by decide) rfl rfl rfl rfl (fun F => ?_)
  have fx := And.intro Y3 (And.intro Y4 (And.intro Y34 (Y96)))
  have hl1 : l.length ≤ 1048576 := hl.1
  have fy := Nat.add_zero
  refine goN ?_ ?_ ?_ ?_ ?_ ?_ ?_ ?_ ?_ ?_ ?_ ?_ ?_ ?_ ?_ ?_
  any_goals (first | exact True.intro | skip)
  skip
  refine SW.loop (fun i : Nat => ⟨[.sl .b (l.map Enc.b), .fn 170 [] [], .undef, .undef, .undef, .undef, .undef, .int .i64 l.length, .int .i64 i, .undef, .undef, .undef, .undef, .undef, .undef, .undef, .undef, .undef, .undef], [[]]⟩)
    (fun n i => n = l.length - i ∧ i ≤ l.length ∧ ∀ j (h : j < l.length), j < i → (fun x => !refB x) l[j] = false) (n := l.length) (x := 0) (Norm.to 0 rfl (by simp [weakL])) ⟨rfl, Nat.zero_le _, fun j _ h => absurd h (Nat.not_lt_zero _)⟩ ?_
  rintro n i ⟨hn, hi, hp⟩
  have fy := Nat.add_zero
  refine goS ?_
  refine SW.cond rfl (fun hc => ?_) (fun hc => ?_)
  · have hlt : i < l.length := by simpa using hc
    have hg : (l.map Enc.b)[i]? = some (.int .i64 l[i]) := map_get Enc.b l i hlt
    have hC1 := cx [] (obj2_ok l[i])
    have fy := hg
    refine goK ?_ ?_ ?_ ?_ ?_ ?_ ?_ ?_ ?_ ?_ ?_ ?_ ?_ ?_ ?_ ?_
    any_goals (first | exact True.intro | skip)
    all_goals (repeat (refine Wh.mk fun hcc => ?_))
    · have hx := hcc
      have hx' : (fun x => !refB x) l[i] = true := by simpa using hx
      simp only [tupOf, fixEs, idxOf_eq (fun x => !refB x) l hlt hx' (fun j hj => hp j (by omega) hj)]
    · have hx := hcc
      have hx' : (fun x => !refB x) l[i] = false := by simpa using hx
      refine ⟨n - 1, i + 1, by omega, ⟨by omega, by omega, fun j hj hji => ?_⟩, ?_⟩
      · by_cases he : j = i
        · subst he; exact hx'
        · exact hp j hj (by omega)
      · rw [wrap64 _ (by omega) (by omega)]
        first | exact Norm.to 0 rfl (by simp [weakL]) | exact Norm.to 1 rfl (by simp [weakL]) | exact Norm.to 2 rfl (by simp [weakL])
  · have hge : i = l.length := by
      have : ¬ i < l.length := by simpa using hc
      omega
    have fy := Nat.add_zero
    refine goK ?_ ?_ ?_ ?_ ?_ ?_ ?_ ?_ ?_ ?_ ?_ ?_ ?_ ?_ ?_ ?_
    any_goals (first | exact True.intro | skip)
    all_goals (repeat (refine Wh.mk fun hcc => ?_))
    simp only [tupOf, fixEs, idxOf_none (fun x => !refB x) l (fun j hj => hp j hj (by omega))]
theorem anyRef_ok (l : List Int) (hl : Enc.lim 1048576 l) : CallR Try.prog 168 [.sl .b (l.map Enc.b), .fn 170 [] []] [] (.bool (l.any (fun x => !refB x))) := by
  refine CallR.of_body (n := 9) (rs := [.tmp 4]) hY.ok Try.func168 rfl (by decide) rfl rfl rfl rfl (fun F => ?_)
  have fx := And.intro Y3 (And.intro Y4 (And.intro Y34 (Y96)))
  have hC1 := cx [] (idxRef_ok l hl)
  have fy := Nat.add_zero
  refine goK ?_ ?_ ?_ ?_ ?_ ?_ ?_ ?_ ?_ ?_ ?_ ?_ ?_ ?_ ?_ ?_
  any_goals (first | exact True.intro | skip)
  all_goals (repeat (refine Wh.mk fun hcc => ?_))
  all_goals simp only [tupOf, fixEs, ge_iff_le, idx_any]
theorem noObj_ok (x : (Int × (List Int) × (List Int) × Unit)) : CallR Try.prog 140 [.nd [.int .i64 x.1, .sl .b (x.2.1.map Enc.b), .sl .b (x.2.2.1.map Enc.b)]] [] (.bool (noObjB x)) := by
  refine CallR.of_body (n := 18) (rs := [.tmp 2]) hY.ok Try.func140 rfl (by decide) rfl rfl rfl rfl (fun F => ?_)
  have fx := And.intro Y1 (And.intro Y2 (And.intro Y3 (And.intro Y4 (And.intro Y34 (Y36)))))
  have fy := Nat.add_zero
  refine goK ?_ ?_ ?_ ?_ ?_ ?_ ?_ ?_ ?_ ?_ ?_ ?_ ?_ ?_ ?_ ?_
  any_goals (first | exact True.intro | skip)
  all_goals (repeat (refine Wh.mk fun hcc => ?_))
  all_goals (first | rfl | ((try simp only [tupOf, fixEs]); (first | done | rfl | (simp_all [noObjB, len0]; done) | grind [noObjB, len0])))
theorem noSlot_ok (x : (Bool × ((Int × (List Int) × (List Int) × Unit)) × Unit)) : CallR Try.prog 80 [.nd [.bool x.1, .nd [.int .i64 x.2.1.1, .sl .b (x.2.1.2.1.map Enc.b), .sl .b (x.2.1.2.2.1.map Enc.b)]]] [] (.bool (!x.1 && noObjB x.2.1)) := by
  refine CallR.of_body (n := 11) (rs := [.tmp 2]) hY.ok Try.func80 rfl (by decide) rfl rfl rfl rfl (fun F => ?_)
  have fx := And.intro Y1 (And.intro Y3 (And.intro Y4 (And.intro Y34 (And.intro Y36 (Y38)))))
  have hC1 := cx [] (noObj_ok x.2.1)
  have fy := Nat.add_zero
  refine goK ?_ ?_ ?_ ?_ ?_ ?_ ?_ ?_ ?_ ?_ ?_ ?_ ?_ ?_ ?_ ?_
  any_goals (first | exact True.intro | skip)
  all_goals (repeat (refine Wh.mk fun hcc => ?_))
  all_goals (first | rfl | ((try simp only [tupOf, fixEs]); (first | done | rfl | (simp_all []; done) | grind [])))
end Q6

namespace Q6
open Go Go.Vm Go.Proofs
set_option maxHeartbeats 4000000
set_option synthInstance.maxSize 2000
set_option synthInstance.maxHeartbeats 400000
set_option maxRecDepth 10000
set_option linter.unusedSimpArgs false
set_option linter.unusedVariables false

theorem specObjOk_ok (x : (Int × (List Int) × (List Int) × Unit)) (hx : Enc.lim 1048576 x) : CallR Try.prog 127 [.nd [.int .i64 x.1, .sl .b (x.2.1.map Enc.b), .sl .b (x.2.2.1.map Enc.b)]] [] (.bool (objB x)) := by
  refine CallR.of_body (n := 49) (rs := [.tmp 2]) hY.ok Try.func127 rfl (by decide) rfl rfl rfl rfl (fun F => ?_)
  have fx := And.intro Y1 (And.intro Y2 (And.intro Y3 (And.intro Y4 (And.intro Y34 (Y36)))))
  have hl1 : x.2.1.length ≤ 1048576 := hx.2.1.1
  have hl2 : x.2.2.1.length ≤ 1048576 := hx.2.2.1.1
  have hG1 := fun u1 u2 u3 => l1In_ok u1 u2 u3
  have fy := len5
  refine goN ?_ ?_ ?_ ?_ ?_ ?_ ?_ ?_ ?_ ?_ ?_ ?_ ?_ ?_ ?_ ?_
  any_goals (first | exact True.intro | skip)
  skip
  refine SW.cond rfl (fun hc => ?_) (fun hc => ?_)
  · have hno : objB x = false := by
      unfold objB; revert hc
      cases (decide (x.1 ≥ 1) && decide (x.1 ≤ 99)) <;> cases decide (x.2.1.length ≤ 5) <;> cases decide (x.2.2.1.length ≤ 5) <;> simp
    have fy := len5
    refine goK ?_ ?_ ?_ ?_ ?_ ?_ ?_ ?_ ?_ ?_ ?_ ?_ ?_ ?_ ?_ ?_
    any_goals (first | exact True.intro | skip)
    all_goals (repeat (refine Wh.mk fun hcc => ?_))
    simp only [tupOf, fixEs, hno]
  have hy : ((decide (x.1 ≥ 1) && decide (x.1 ≤ 99)) && decide (x.2.1.length ≤ 5) && decide (x.2.2.1.length ≤ 5)) = true := by
    revert hc
    cases (decide (x.1 ≥ 1) && decide (x.1 ≤ 99)) <;> cases decide (x.2.1.length ≤ 5) <;> cases decide (x.2.2.1.length ≤ 5) <;> simp
  have hobj : objB x = (x.2.1.all intB && x.2.2.1.all refB) := by unfold objB; rw [hy]; simp
  have fy := len5
  refine goN ?_ ?_ ?_ ?_ ?_ ?_ ?_ ?_ ?_ ?_ ?_ ?_ ?_ ?_ ?_ ?_
  any_goals (first | exact True.intro | skip)
  skip
  refine SW.loop (fun i : Nat => ⟨[.nd [.int .i64 x.1, .sl .b (x.2.1.map Enc.b), .sl .b (x.2.2.1.map Enc.b)], .ptr 1 0 [] 0, .undef, .int .i64 i, .undef, .undef, .undef, .undef, .undef, .undef, .undef, .undef, .undef, .undef, .undef, .undef, .undef, .undef, .undef, .undef, .undef, .undef, .undef, .undef, .undef, .undef, .undef, .undef, .undef, .undef, .undef, .undef, .undef, .undef, .undef, .undef, .undef, .undef, .undef, .undef, .undef, .undef, .undef, .undef, .undef, .undef, .undef, .undef, .undef], [[], [.var (.nd [.int .i64 x.1, .sl .b (x.2.1.map Enc.b), .sl .b (x.2.2.1.map Enc.b)])]]⟩)
    (fun n i => n = x.2.1.length - i ∧ i ≤ x.2.1.length ∧ ∀ j (h : j < x.2.1.length), j < i → (intB) x.2.1[j] = true) (n := x.2.1.length) (x := 0) (by first | exact Norm.to 0 rfl (by simp [weakL]) | exact Norm.to 1 rfl (by simp [weakL]) | exact Norm.to 2 rfl (by simp [weakL])) ⟨rfl, Nat.zero_le _, fun j _ h => absurd h (Nat.not_lt_zero _)⟩ ?_
  rintro n i ⟨hn, hi, hp⟩
  have fy := len5
  refine goS ?_
  refine SW.cond rfl (fun hci => ?_) (fun hci => ?_)
  · skip
    have hlti : i < x.2.1.length := by simpa using hci
    have hltIi : (i : Int) < (x.2.1.length : Int) := by omega
    have hg : (x.2.1.map Enc.b)[i]? = some (.int .i64 x.2.1[i]) := map_get Enc.b x.2.1 i hlti
    have hG1 := fun u1 u2 u3 => l1In_ok u1 u2 u3
    have fy := hg
    refine goK ?_ ?_ ?_ ?_ ?_ ?_ ?_ ?_ ?_ ?_ ?_ ?_ ?_ ?_ ?_ ?_
    any_goals (first | exact True.intro | skip)
    all_goals (repeat (refine Wh.mk fun hcc => ?_))
    · have hx' : intB x.2.1[i] = false := by have h9 : (!intB x.2.1[i]) = true := hcc; simpa using h9
      have hno : x.2.1.all (intB) = false := all_not _ _ i hlti hx'
      simp [tupOf, fixEs, hobj, hno]
    · have hx' : intB x.2.1[i] = true := by simpa [intB] using hcc
      refine ⟨n - 1, i + 1, by omega, ⟨by omega, by omega, fun j hj hji => ?_⟩, ?_⟩
      · by_cases he : j = i
        · subst he; exact hx'
        · exact hp j hj (by omega)
      · rw [wrap64 _ (by omega) (by omega)]
        first | exact Norm.to 0 rfl (by simp [weakL]) | exact Norm.to 1 rfl (by simp [weakL]) | exact Norm.to 2 rfl (by simp [weakL]) | exact Norm.to 3 rfl (by simp [weakL])
  · skip
    have hgei : i = x.2.1.length := by
      have : ¬ i < x.2.1.length := by simpa using hci
      omega
    have hall : x.2.1.all (intB) = true := all_of _ _ (fun j hj => hp j hj (by omega))
    have fy := len5
    refine goN ?_ ?_ ?_ ?_ ?_ ?_ ?_ ?_ ?_ ?_ ?_ ?_ ?_ ?_ ?_ ?_
    any_goals (first | exact True.intro | skip)
    skip
    refine SW.loop (fun k : Nat => ⟨[.nd [.int .i64 x.1, .sl .b (x.2.1.map Enc.b), .sl .b (x.2.2.1.map Enc.b)], .ptr 1 0 [] 0, .undef, .undef, .int .i64 k, .undef, .undef, .undef, .undef, .undef, .undef, .undef, .undef, .undef, .undef, .undef, .undef, .undef, .undef, .undef, .undef, .undef, .undef, .undef, .undef, .undef, .undef, .undef, .undef, .undef, .undef, .undef, .undef, .undef, .undef, .undef, .undef, .undef, .undef, .undef, .undef, .undef, .undef, .undef, .undef, .undef, .undef, .undef, .undef], [[], [.var (.nd [.int .i64 x.1, .sl .b (x.2.1.map Enc.b), .sl .b (x.2.2.1.map Enc.b)])]]⟩)
      (fun m k => m = x.2.2.1.length - k ∧ k ≤ x.2.2.1.length ∧ ∀ j (h : j < x.2.2.1.length), j < k → (refB) x.2.2.1[j] = true) (n := x.2.2.1.length) (x := 0) (by first | exact Norm.to 0 rfl (by simp [weakL]) | exact Norm.to 1 rfl (by simp [weakL]) | exact Norm.to 2 rfl (by simp [weakL])) ⟨rfl, Nat.zero_le _, fun j _ h => absurd h (Nat.not_lt_zero _)⟩ ?_
    rintro m k ⟨hm, hk, hq⟩
    have fy := len5
    refine goS ?_
    refine SW.cond rfl (fun hck => ?_) (fun hck => ?_)
    · skip
      have hltk : k < x.2.2.1.length := by simpa using hck
      have hltIk : (k : Int) < (x.2.2.1.length : Int) := by omega
      have hg2 : (x.2.2.1.map Enc.b)[k]? = some (.int .i64 x.2.2.1[k]) := map_get Enc.b x.2.2.1 k hltk
      have hG1 := fun u1 u2 u3 => l1In_ok u1 u2 u3
      have fy := hg2
      refine goK ?_ ?_ ?_ ?_ ?_ ?_ ?_ ?_ ?_ ?_ ?_ ?_ ?_ ?_ ?_ ?_
      any_goals (first | exact True.intro | skip)
      all_goals (repeat (refine Wh.mk fun hcc => ?_))
      · have hx' : refB x.2.2.1[k] = false := by have h9 : (!refB x.2.2.1[k]) = true := hcc; simpa using h9
        have hno : x.2.2.1.all (refB) = false := all_not _ _ k hltk hx'
        simp [tupOf, fixEs, hobj, hno]
      · have hx' : refB x.2.2.1[k] = true := by simpa [refB] using hcc
        refine ⟨m - 1, k + 1, by omega, ⟨by omega, by omega, fun j hj hji => ?_⟩, ?_⟩
        · by_cases he : j = k
          · subst he; exact hx'
          · exact hq j hj (by omega)
        · rw [wrap64 _ (by omega) (by omega)]
          first | exact Norm.to 0 rfl (by simp [weakL]) | exact Norm.to 1 rfl (by simp [weakL]) | exact Norm.to 2 rfl (by simp [weakL]) | exact Norm.to 3 rfl (by simp [weakL])
    · skip
      have hgek : k = x.2.2.1.length := by
        have : ¬ k < x.2.2.1.length := by simpa using hck
        omega
      have hall2 : x.2.2.1.all (refB) = true := all_of _ _ (fun j hj => hq j hj (by omega))
      have fy := len5
      refine goK ?_ ?_ ?_ ?_ ?_ ?_ ?_ ?_ ?_ ?_ ?_ ?_ ?_ ?_ ?_ ?_
      any_goals (first | exact True.intro | skip)
      all_goals (repeat (refine Wh.mk fun hcc => ?_))
      simp [tupOf, fixEs, hobj, hall, hall2]
theorem l3Slot_ok (x : (Bool × ((Int × (List Int) × (List Int) × Unit)) × Unit)) (hx : Enc.lim 1048576 x) : CallR Try.prog 76 [.nd [.bool x.1, .nd [.int .i64 x.2.1.1, .sl .b (x.2.1.2.1.map Enc.b), .sl .b (x.2.1.2.2.1.map Enc.b)]]] [] (.bool (slotB x)) := by
  refine CallR.of_body (n := 26) (rs := [.tmp 2]) hY.ok Try.func76 rfl (by decide) rfl rfl rfl rfl (fun F => ?_)
  have fx := And.intro Y1 (And.intro Y2 (And.intro Y3 (And.intro Y4 (And.intro Y34 (And.intro Y36 (Y38))))))
  have hC1 := cx [] (specObjOk_ok x.2.1 hx.2.1)
  have fy := Nat.add_zero
  refine goK ?_ ?_ ?_ ?_ ?_ ?_ ?_ ?_ ?_ ?_ ?_ ?_ ?_ ?_ ?_ ?_
  any_goals (first | exact True.intro | skip)
  all_goals (repeat (refine Wh.mk fun hcc => ?_))
  all_goals (first | rfl | ((try simp only [tupOf, fixEs]); (first | done | rfl | (simp_all [slotB, noObjB, len0]; done) | grind [slotB, noObjB, len0])))
end Q6
