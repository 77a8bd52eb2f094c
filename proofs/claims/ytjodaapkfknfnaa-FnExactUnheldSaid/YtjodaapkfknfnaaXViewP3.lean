/- Shows what the parts of the program do that the claim reaches: a machine of values over the model, and the contracts of functions, for all arguments within the lengths that each theorem names. -/
import Derived.Test.YtjodaapkfknfnaaXViewP2
import Derived.Test.YtjodaapkfknfnaaXViewV5
import Derived.Test.YtjodaapkfknfnaaXViewV6
import Derived.Test.YtjodaapkfknfnaaXViewP1
set_option linter.all false

namespace Q6
open Go Go.Vm Go.Proofs
set_option maxHeartbeats 4000000
set_option synthInstance.maxSize 2000
set_option synthInstance.maxHeartbeats 400000
set_option maxRecDepth 10000
set_option linter.unusedSimpArgs false
set_option linter.unusedVariables false

set_option synthInstance.maxHeartbeats 4000000
set_option synthInstance.maxSize 20000
set_option maxHeartbeats 40000000
def hoM (k j : Int) : (Int × Int × Unit) := ((k + 2 * j), (k + 2 * j + 1), ())
theorem markHold_own (l : List ((Int × Int × Unit))) (k : Int) (hl : l.length ≤ 1048576) (h0 : 0 ≤ k) (h1 : k ≤ 562949953421312) : CallR Try.prog 121 [.ow 2 (l.map Enc.o), .int .i64 k] [] (.int .i64 (k + 2 * l.length)) := by
  refine CallR.of_body (n := 27) (rs := [.tmp 4]) hY.ok Try.func121 rfl (by decide) rfl rfl rfl rfl (fun F => ?_)
  have fx := And.intro Y1 (And.intro Y3 (And.intro Y4 (And.intro Y95 (Y165))))
  have fy := Nat.add_zero
  refine goN ?_ ?_ ?_ ?_ ?_ ?_ ?_ ?_ ?_ ?_ ?_ ?_ ?_ ?_ ?_ ?_
  any_goals (first | exact True.intro | skip)
  skip
  refine SW.loop (fun i : Nat => ⟨[.ref 0 0 0 l.length, .int .i64 (k + 2 * (i : Nat)), .undef, .undef, .undef, .int .i64 (i : Nat), .undef, .undef, .undef, .undef, .undef, .undef, .undef, .undef, .undef, .undef, .undef, .undef, .undef, .undef, .undef, .undef, .undef, .undef, .undef, .undef, .undef], [[.arr 2 ((mixG (hoM k) l 0 i).map Enc.o) false]]⟩)
    (fun n i => n = l.length - i ∧ i ≤ l.length) (n := l.length) (x := 0) (by exact Norm.re [0] (by decide) rfl (by simp [heapFits, rowFits, obFits, mixG_zero]) (by simp [tmFits, T.ren])) ⟨rfl, Nat.zero_le _⟩ ?_
  rintro n i ⟨hn, hi⟩
  have fy := Nat.add_zero
  refine goS ?_
  refine SW.cond rfl (fun hc => ?_) (fun hc => ?_)
  · have hlt : i < l.length := by simp at hc; omega
    have hltI : (i : Int) < (l.length : Int) := by omega
    have hg : ((mixG (hoM k) l 0 i).map Enc.o)[i]? = some (.nd [.int .i64 l[i].1, .int .i64 l[i].2.1]) := mixG_get (hoM k) l 0 i hlt
    have hlen : ((mixG (hoM k) l 0 i).map (Enc.o : _ → T)).length = l.length := by rw [List.length_map, mixG_len _ _ _ _ hi]
    have hs : ((mixG (hoM k) l 0 i).map Enc.o).set i (.nd [.int .i64 (k + 2 * (i : Nat)), .int .i64 (k + 2 * (i : Nat) + 1)]) = (mixG (hoM k) l 0 (i + 1)).map Enc.o := by
      have := mixG_set (hoM k) l 0 i hlt
      rw [Int.zero_add] at this
      exact this
    generalize hL : (mixG (hoM k) l 0 i).map (Enc.o : _ → T) = L at *
    have hg1 : ∀ a : T, (L.set i a)[i]? = some a := fun a => by rw [List.getElem?_set_self (by omega)]
    have hs1 : ∀ a b : T, (L.set i a).set i b = L.set i b := fun a b => List.set_set ..
    have hl1 : ∀ a : T, (L.set i a).length = L.length := fun a => List.length_set ..
    have hw1 : IntKind.i64.wrap (k + 2 * (i : Int) + 1) = k + 2 * (i : Int) + 1 := wrap64 _ (by omega) (by omega)
    have hw2 : IntKind.i64.wrap (k + 2 * (i : Int) + 1 + 1) = k + 2 * ((i + 1 : Nat) : Int) := by rw [wrap64 _ (by omega) (by omega)]; omega
    have hwi : IntKind.i64.wrap ((i : Int) + 1) = ((i + 1 : Nat) : Int) := by rw [wrap64 _ (by omega) (by omega)]; omega
    have fy := And.intro hg (And.intro hg1 (And.intro hs1 (And.intro hl1 (And.intro hltI (And.intro hw1 (And.intro hw2 (And.intro hwi (And.intro Nat.zero_add (Int.toNat_natCast)))))))))
    refine goR ?_ ?_ ?_ ?_ ?_ ?_ ?_ ?_ ?_ ?_ ?_ ?_ ?_ ?_ ?_ ?_
    any_goals (first | exact True.intro | skip)
    all_goals (repeat (refine Wh.mk fun hcc => ?_))
    refine ⟨n - 1, i + 1, by omega, ⟨by omega, by omega⟩, ?_⟩
    rw [hs]
    exact Norm.re [0] (by decide) rfl (by first | (simp only [eq_self, heapFits, rowFits, obFits, List.getElem?_cons_zero, List.getElem?_cons_succ, renL_o, renL_b, true_and, and_true, and_self]; done) | simp [-List.map_set, -List.map_append, heapFits, rowFits, obFits, T.ren, renL]) (by simp [tmFits, T.ren, renL])
  · have hge : i = l.length := by
      have : ¬ i < l.length := by simp at hc; omega
      omega
    subst hge
    rw [mixG_all]
    have fy := Nat.add_zero
    refine goR ?_ ?_ ?_ ?_ ?_ ?_ ?_ ?_ ?_ ?_ ?_ ?_ ?_ ?_ ?_ ?_
    any_goals (first | exact True.intro | skip)
    all_goals (repeat (refine Wh.mk fun hcc => ?_))
    all_goals exact SW.ret (show RetQ _ _ _ _ _ _ _ from RetQ.y [0] [.int .i64 (k + 2 * l.length)])
end Q6

namespace Q6
open Go Go.Vm Go.Proofs
set_option maxHeartbeats 4000000
set_option synthInstance.maxSize 2000
set_option synthInstance.maxHeartbeats 400000
set_option maxRecDepth 10000
set_option linter.unusedSimpArgs false
set_option linter.unusedVariables false

def lvM (k j : Int) : (Int × Int × Bool × Unit) := (k + 3 * j, k + 3 * j + 1, (Int.tmod (k + 3 * j + 2) 3 == 0), ())
theorem markLive_ok (l : List (Int × Int × Bool × Unit)) (k : Int) (hl : l.length ≤ 1048576) (h0 : 0 ≤ k) (h1 : k ≤ 562949953421312) : CallR Try.prog 120 [.io (.tup [.ow 3 (l.map Enc.o)]), .int .i64 k] [.tup [.ow 3 ((marksG (lvM k) l.length 0).map Enc.o)]] (.int .i64 (k + 3 * l.length)) := by
  refine CallR.of_body (n := 36) (rs := [.tmp 4]) hY.ok Try.func120 rfl (by decide) rfl rfl rfl rfl (fun F => ?_)
  have fx := And.intro Y1 (And.intro Y2 (And.intro Y3 (And.intro Y4 (And.intro Y94 (Y197)))))
  have fy := Nat.add_zero
  refine goN ?_ ?_ ?_ ?_ ?_ ?_ ?_ ?_ ?_ ?_ ?_ ?_ ?_ ?_ ?_ ?_
  any_goals (first | exact True.intro | skip)
  skip
  refine SW.loop (fun i : Nat => ⟨[.ref 0 0 0 l.length, .int .i64 (k + 3 * (i : Nat)), .undef, .undef, .undef, .int .i64 (i : Nat), .undef, .undef, .undef, .undef, .undef, .undef, .undef, .undef, .undef, .undef, .undef, .undef, .undef, .undef, .undef, .undef, .undef, .undef, .undef, .undef, .undef, .undef, .undef, .undef, .undef, .undef, .undef, .undef, .undef, .undef], [[.arr 3 ((mixG (lvM k) l 0 i).map Enc.o) false]]⟩)
    (fun n i => n = l.length - i ∧ i ≤ l.length) (n := l.length) (x := 0) (Norm.re [0] (by decide) rfl (by simp [heapFits, rowFits, obFits, mixG_zero]) (by simp [tmFits, T.ren])) ⟨rfl, Nat.zero_le _⟩ ?_
  rintro n i ⟨hn, hi⟩
  have fy := Nat.add_zero
  refine goS ?_
  refine SW.cond rfl (fun hc => ?_) (fun hc => ?_)
  · have hlt : i < l.length := by simp at hc; omega
    have hltI : (i : Int) < (l.length : Int) := by omega
    have hg : ((mixG (lvM k) l 0 i).map Enc.o)[i]? = some (.nd [.int .i64 l[i].1, .int .i64 l[i].2.1, .bool l[i].2.2.1]) := mixG_get (lvM k) l 0 i hlt
    have hlen : ((mixG (lvM k) l 0 i).map (Enc.o : _ → T)).length = l.length := by rw [List.length_map, mixG_len _ _ _ _ hi]
    have hs : ((mixG (lvM k) l 0 i).map Enc.o).set i (.nd [.int .i64 (k + 3 * (i : Nat)), .int .i64 (k + 3 * (i : Nat) + 1), .bool (Int.tmod (k + 3 * (i : Nat) + 2) 3 == 0)]) = (mixG (lvM k) l 0 (i + 1)).map Enc.o := by
      have := mixG_set (lvM k) l 0 i hlt
      rw [Int.zero_add] at this
      exact this
    generalize hL : (mixG (lvM k) l 0 i).map (Enc.o : _ → T) = L at *
    have hg1 : ∀ a : T, (L.set i a)[i]? = some a := fun a => by rw [List.getElem?_set_self (by omega)]
    have hs1 : ∀ a b : T, (L.set i a).set i b = L.set i b := fun a b => List.set_set ..
    have hl1 : ∀ a : T, (L.set i a).length = L.length := fun a => List.length_set ..
    have hw1 : IntKind.i64.wrap (k + 3 * (i : Int) + 1) = k + 3 * (i : Int) + 1 := wrap64 _ (by omega) (by omega)
    have hw2 : IntKind.i64.wrap (k + 3 * (i : Int) + 1 + 1) = k + 3 * (i : Int) + 2 := by rw [wrap64 _ (by omega) (by omega)]; omega
    have hw3 : IntKind.i64.wrap (k + 3 * (i : Int) + 2 + 1) = k + 3 * ((i + 1 : Nat) : Int) := by rw [wrap64 _ (by omega) (by omega)]; omega
    have hw4 : IntKind.i64.wrap ((i : Int) + 1) = ((i + 1 : Nat) : Int) := by rw [wrap64 _ (by omega) (by omega)]; omega
    have fy := And.intro hg (And.intro hg1 (And.intro hs1 (And.intro hl1 (And.intro hltI (And.intro hw1 (And.intro hw2 (And.intro hw3 (And.intro hw4 (And.intro Nat.zero_add (Int.toNat_natCast))))))))))
    refine goR ?_ ?_ ?_ ?_ ?_ ?_ ?_ ?_ ?_ ?_ ?_ ?_ ?_ ?_ ?_ ?_
    any_goals (first | exact True.intro | skip)
    all_goals (repeat (refine Wh.mk fun hcc => ?_))
    refine ⟨n - 1, i + 1, by omega, ⟨by omega, by omega⟩, ?_⟩
    rw [hs]
    exact Norm.re [0] (by decide) rfl (by first | (simp only [eq_self, heapFits, rowFits, obFits, List.getElem?_cons_zero, List.getElem?_cons_succ, renL_o, renL_b, true_and, and_true, and_self]; done) | simp [-List.map_set, -List.map_append, heapFits, rowFits, obFits, T.ren, renL]) (by simp [tmFits, T.ren, renL])
  · have hge : i = l.length := by
      have : ¬ i < l.length := by simp at hc; omega
      omega
    subst hge
    rw [mixG_all]
    have fy := Nat.add_zero
    refine goR ?_ ?_ ?_ ?_ ?_ ?_ ?_ ?_ ?_ ?_ ?_ ?_ ?_ ?_ ?_ ?_
    any_goals (first | exact True.intro | skip)
    all_goals (repeat (refine Wh.mk fun hcc => ?_))
    all_goals exact SW.ret (show RetQ _ _ _ _ _ _ _ from RetQ.y [0] [.int .i64 (k + 3 * l.length)])
theorem markLive_own (l : List (Int × Int × Bool × Unit)) (k : Int) (hl : l.length ≤ 1048576) (h0 : 0 ≤ k) (h1 : k ≤ 562949953421312) : CallR Try.prog 120 [.ow 3 (l.map Enc.o), .int .i64 k] [] (.int .i64 (k + 3 * l.length)) := by
  refine CallR.of_body (n := 36) (rs := [.tmp 4]) hY.ok Try.func120 rfl (by decide) rfl rfl rfl rfl (fun F => ?_)
  have fx := And.intro Y1 (And.intro Y2 (And.intro Y3 (And.intro Y4 (And.intro Y94 (Y197)))))
  have fy := Nat.add_zero
  refine goN ?_ ?_ ?_ ?_ ?_ ?_ ?_ ?_ ?_ ?_ ?_ ?_ ?_ ?_ ?_ ?_
  any_goals (first | exact True.intro | skip)
  skip
  refine SW.loop (fun i : Nat => ⟨[.ref 0 0 0 l.length, .int .i64 (k + 3 * (i : Nat)), .undef, .undef, .undef, .int .i64 (i : Nat), .undef, .undef, .undef, .undef, .undef, .undef, .undef, .undef, .undef, .undef, .undef, .undef, .undef, .undef, .undef, .undef, .undef, .undef, .undef, .undef, .undef, .undef, .undef, .undef, .undef, .undef, .undef, .undef, .undef, .undef], [[.arr 3 ((mixG (lvM k) l 0 i).map Enc.o) false]]⟩)
    (fun n i => n = l.length - i ∧ i ≤ l.length) (n := l.length) (x := 0) (Norm.re [0] (by decide) rfl (by simp [heapFits, rowFits, obFits, mixG_zero]) (by simp [tmFits, T.ren])) ⟨rfl, Nat.zero_le _⟩ ?_
  rintro n i ⟨hn, hi⟩
  have fy := Nat.add_zero
  refine goS ?_
  refine SW.cond rfl (fun hc => ?_) (fun hc => ?_)
  · have hlt : i < l.length := by simp at hc; omega
    have hltI : (i : Int) < (l.length : Int) := by omega
    have hg : ((mixG (lvM k) l 0 i).map Enc.o)[i]? = some (.nd [.int .i64 l[i].1, .int .i64 l[i].2.1, .bool l[i].2.2.1]) := mixG_get (lvM k) l 0 i hlt
    have hlen : ((mixG (lvM k) l 0 i).map (Enc.o : _ → T)).length = l.length := by rw [List.length_map, mixG_len _ _ _ _ hi]
    have hs : ((mixG (lvM k) l 0 i).map Enc.o).set i (.nd [.int .i64 (k + 3 * (i : Nat)), .int .i64 (k + 3 * (i : Nat) + 1), .bool (Int.tmod (k + 3 * (i : Nat) + 2) 3 == 0)]) = (mixG (lvM k) l 0 (i + 1)).map Enc.o := by
      have := mixG_set (lvM k) l 0 i hlt
      rw [Int.zero_add] at this
      exact this
    generalize hL : (mixG (lvM k) l 0 i).map (Enc.o : _ → T) = L at *
    have hg1 : ∀ a : T, (L.set i a)[i]? = some a := fun a => by rw [List.getElem?_set_self (by omega)]
    have hs1 : ∀ a b : T, (L.set i a).set i b = L.set i b := fun a b => List.set_set ..
    have hl1 : ∀ a : T, (L.set i a).length = L.length := fun a => List.length_set ..
    have hw1 : IntKind.i64.wrap (k + 3 * (i : Int) + 1) = k + 3 * (i : Int) + 1 := wrap64 _ (by omega) (by omega)
    have hw2 : IntKind.i64.wrap (k + 3 * (i : Int) + 1 + 1) = k + 3 * (i : Int) + 2 := by rw [wrap64 _ (by omega) (by omega)]; omega
    have hw3 : IntKind.i64.wrap (k + 3 * (i : Int) + 2 + 1) = k + 3 * ((i + 1 : Nat) : Int) := by rw [wrap64 _ (by omega) (by omega)]; omega
    have hw4 : IntKind.i64.wrap ((i : Int) + 1) = ((i + 1 : Nat) : Int) := by rw [wrap64 _ (by omega) (by omega)]; omega
    have fy := And.intro hg (And.intro hg1 (And.intro hs1 (And.intro hl1 (And.intro hltI (And.intro hw1 (And.intro hw2 (And.intro hw3 (And.intro hw4 (And.intro Nat.zero_add (Int.toNat_natCast))))))))))
    refine goR ?_ ?_ ?_ ?_ ?_ ?_ ?_ ?_ ?_ ?_ ?_ ?_ ?_ ?_ ?_ ?_
    any_goals (first | exact True.intro | skip)
    all_goals (repeat (refine Wh.mk fun hcc => ?_))
    refine ⟨n - 1, i + 1, by omega, ⟨by omega, by omega⟩, ?_⟩
    rw [hs]
    exact Norm.re [0] (by decide) rfl (by first | (simp only [eq_self, heapFits, rowFits, obFits, List.getElem?_cons_zero, List.getElem?_cons_succ, renL_o, renL_b, true_and, and_true, and_self]; done) | simp [-List.map_set, -List.map_append, heapFits, rowFits, obFits, T.ren, renL]) (by simp [tmFits, T.ren, renL])
  · have hge : i = l.length := by
      have : ¬ i < l.length := by simp at hc; omega
      omega
    subst hge
    rw [mixG_all]
    have fy := Nat.add_zero
    refine goR ?_ ?_ ?_ ?_ ?_ ?_ ?_ ?_ ?_ ?_ ?_ ?_ ?_ ?_ ?_ ?_
    any_goals (first | exact True.intro | skip)
    all_goals (repeat (refine Wh.mk fun hcc => ?_))
    all_goals exact SW.ret (show RetQ _ _ _ _ _ _ _ from RetQ.y [0] [.int .i64 (k + 3 * l.length)])
end Q6

namespace Q6
open Go Go.Vm Go.Proofs
set_option maxHeartbeats 4000000
set_option synthInstance.maxSize 2000
set_option synthInstance.maxHeartbeats 400000
set_option maxRecDepth 10000
set_option linter.unusedSimpArgs false
set_option linter.unusedVariables false

set_option synthInstance.maxHeartbeats 4000000
set_option synthInstance.maxSize 20000
set_option maxHeartbeats 40000000
def mkSeat (x : (Int × ((Int × ((((Bool × ((Int × (List Int) × (List Int) × Unit)) × Unit)) × ((Bool × ((Int × (List Int) × (List Int) × Unit)) × Unit)) × ((Bool × ((Int × (List Int) × (List Int) × Unit)) × Unit)) × ((Bool × ((Int × (List Int) × (List Int) × Unit)) × Unit)) × Unit)) × Unit)) × Bool × Bool × Unit)) (c : Int) : ((Int × ((Int × ((((Bool × ((Int × (List Int) × (List Int) × Unit)) × Unit)) × ((Bool × ((Int × (List Int) × (List Int) × Unit)) × Unit)) × ((Bool × ((Int × (List Int) × (List Int) × Unit)) × Unit)) × ((Bool × ((Int × (List Int) × (List Int) × Unit)) × Unit)) × Unit)) × Unit)) × Bool × Bool × Unit)) × Int := (((c), ((c + 1), x.2.1.2.1, ()), (Int.tmod (c + 1 + 1) 3 == 0), (Int.tmod (c + 1 + 1 + 1) 3 == 0), ()), c + 1 + 1 + 1 + 1)
theorem mkSeat_rng {x : (Int × ((Int × ((((Bool × ((Int × (List Int) × (List Int) × Unit)) × Unit)) × ((Bool × ((Int × (List Int) × (List Int) × Unit)) × Unit)) × ((Bool × ((Int × (List Int) × (List Int) × Unit)) × Unit)) × ((Bool × ((Int × (List Int) × (List Int) × Unit)) × Unit)) × Unit)) × Unit)) × Bool × Bool × Unit)} (hx : Enc.lim 1048576 x) (c : Int) : c ≤ (mkSeat x c).2 ∧ (mkSeat x c).2 ≤ c + 16777216 := by
  unfold mkSeat
  simp only
  omega
theorem markSeatS_own (l : List ((Int × ((Int × ((((Bool × ((Int × (List Int) × (List Int) × Unit)) × Unit)) × ((Bool × ((Int × (List Int) × (List Int) × Unit)) × Unit)) × ((Bool × ((Int × (List Int) × (List Int) × Unit)) × Unit)) × ((Bool × ((Int × (List Int) × (List Int) × Unit)) × Unit)) × Unit)) × Unit)) × Bool × Bool × Unit))) (k : Int) (hl : Enc.lim 1048576 l) (h0 : 0 ≤ k) (h1 : k ≤ 281474976710656) : CallR Try.prog 170 [.ow 20 (l.map Enc.o), .int .i64 k] [] (.int .i64 (thr mkSeat l k).2) := by
  refine CallR.of_body (n := 46) (rs := [.tmp 4]) hY.ok Try.func170 rfl (by decide) rfl rfl rfl rfl (fun F => ?_)
  have fx := And.intro Y1 (And.intro Y2 (And.intro Y3 (And.intro Y4 (And.intro Y27 (And.intro Y35 (And.intro Y37 (And.intro Y84 (And.intro Y86 (And.intro Y88 (Y192))))))))))
  have hl1 : l.length ≤ 1048576 := hl.1
  have hgrow : ∀ x ∈ l, ∀ c, c ≤ (mkSeat x c).2 ∧ (mkSeat x c).2 ≤ c + 16777216 := fun x hx c => mkSeat_rng (hl.2 x hx) c
  have fy := Nat.add_zero
  refine goN ?_ ?_ ?_ ?_ ?_ ?_ ?_ ?_ ?_ ?_ ?_ ?_ ?_ ?_ ?_ ?_
  any_goals (first | exact True.intro | skip)
  skip
  refine SW.loop (fun i : Nat => ⟨[.ref 0 0 0 l.length, .int .i64 (thr mkSeat (l.take i) k).2, .undef, .undef, .undef, .int .i64 (i : Nat), .undef, .undef, .undef, .undef, .undef, .undef, .undef, .undef, .undef, .undef, .undef, .undef, .undef, .undef, .undef, .undef, .undef, .undef, .undef, .undef, .undef, .undef, .undef, .undef, .undef, .undef, .undef, .undef, .undef, .undef, .undef, .undef, .undef, .undef, .undef, .undef, .undef, .undef, .undef, .undef], [[.arr 20 ((mixT mkSeat l k i).map Enc.o) false]]⟩)
    (fun N i => N = l.length - i ∧ i ≤ l.length) (n := l.length) (x := 0) ?_ ⟨rfl, Nat.zero_le _⟩ ?_
  · rw [mixT_zero]
    simp only [List.take_zero, thr]
    exact Norm.re [0] (by decide) rfl (by first | (simp only [eq_self, heapFits, rowFits, obFits, List.getElem?_cons_zero, List.getElem?_cons_succ, renL_o, renL_b, true_and, and_true, and_self]; done) | simp [-List.map_set, -List.map_append, heapFits, rowFits, obFits, T.ren, renL]) (by simp [tmFits, T.ren, renL])
  rintro N i ⟨hn, hi⟩
  have hml := mixT_len mkSeat l k i hi
  have fy := Nat.add_zero
  refine goS ?_
  refine SW.cond rfl (fun hc => ?_) (fun hc => ?_)
  · have hlt : i < l.length := by simp at hc; omega
    have hltI : (i : Int) < (l.length : Int) := by omega
    have hr := thr_rng mkSeat 16777216 (by decide) (l.take i) k (fun x hx => hgrow x (List.mem_of_mem_take hx))
    rw [List.length_take, Nat.min_eq_left hi] at hr
    have hb : (i : Int) * 16777216 ≤ 1048576 * 16777216 := by omega
    have hg : ((mixT mkSeat l k i).map Enc.o)[i]? = some (.nd [.int .i64 l[i].1, .nd [.int .i64 l[i].2.1.1, .nd [.nd [.bool l[i].2.1.2.1.1.1, .nd [.int .i64 l[i].2.1.2.1.1.2.1.1, .ow 1 (l[i].2.1.2.1.1.2.1.2.1.map Enc.o), .ow 1 (l[i].2.1.2.1.1.2.1.2.2.1.map Enc.o)]], .nd [.bool l[i].2.1.2.1.2.1.1, .nd [.int .i64 l[i].2.1.2.1.2.1.2.1.1, .ow 1 (l[i].2.1.2.1.2.1.2.1.2.1.map Enc.o), .ow 1 (l[i].2.1.2.1.2.1.2.1.2.2.1.map Enc.o)]], .nd [.bool l[i].2.1.2.1.2.2.1.1, .nd [.int .i64 l[i].2.1.2.1.2.2.1.2.1.1, .ow 1 (l[i].2.1.2.1.2.2.1.2.1.2.1.map Enc.o), .ow 1 (l[i].2.1.2.1.2.2.1.2.1.2.2.1.map Enc.o)]], .nd [.bool l[i].2.1.2.1.2.2.2.1.1, .nd [.int .i64 l[i].2.1.2.1.2.2.2.1.2.1.1, .ow 1 (l[i].2.1.2.1.2.2.2.1.2.1.2.1.map Enc.o), .ow 1 (l[i].2.1.2.1.2.2.2.1.2.1.2.2.1.map Enc.o)]]]], .bool l[i].2.2.1, .bool l[i].2.2.2.1]) := by rw [map_get Enc.o _ i (by rw [hml]; exact hlt), mixT_get mkSeat l k i hlt]; rfl
    have hs := mixT_set mkSeat l k i hlt
    have hk2 : (thr mkSeat (l.take (i + 1)) k).2 = (mkSeat l[i] (thr mkSeat (l.take i) k).2).2 := by rw [thr_succ mkSeat l k i hlt]
    have hli := hl.2 l[i] (List.getElem_mem hlt)
    clear hgrow hl
    generalize l[i] = x at *
    generalize mixT mkSeat l k i = m at *
    generalize (thr mkSeat (l.take i) k).2 = c at *
    have hgs : ∀ X : T, ((m.map Enc.o).set i X)[i]? = some X := fun X => List.getElem?_set_self (by rw [List.length_map, hml]; exact hlt)
    have hw0 : IntKind.i64.wrap (c + 1) = c + 1 := wrap64 _ (by omega) (by omega)
    have hw1 : IntKind.i64.wrap (c + 1 + 1) = c + 1 + 1 := wrap64 _ (by omega) (by omega)
    have hw2 : IntKind.i64.wrap (c + 1 + 1 + 1) = c + 1 + 1 + 1 := wrap64 _ (by omega) (by omega)
    have hw3 : IntKind.i64.wrap (c + 1 + 1 + 1 + 1) = c + 1 + 1 + 1 + 1 := wrap64 _ (by omega) (by omega)
    have hwi : IntKind.i64.wrap ((i : Int) + 1) = ((i + 1 : Nat) : Int) := by rw [wrap64 _ (by omega) (by omega)]; omega
    refine SW.norm (Norm.expel 0 0 i rfl hg) ?_
    simp only [thawA, thawAL, Heap.put, List.set_set, List.length_cons, List.length_nil, Nat.zero_add, Nat.add_zero, List.getElem?_cons_zero, List.set_cons_zero, List.cons_append, List.nil_append, List.length_map, Nat.reduceAdd]
    have fy := And.intro hw0 (And.intro hw1 (And.intro hw2 (And.intro hw3 (And.intro hwi (And.intro hgs (And.intro hltI (And.intro ((((((((@List.set_set T)))))))) (And.intro Nat.zero_add (Int.toNat_natCast)))))))))
    refine goN ?_ ?_ ?_ ?_ ?_ ?_ ?_ ?_ ?_ ?_ ?_ ?_ ?_ ?_ ?_ ?_
    any_goals (first | exact True.intro | skip)
    skip
    refine ⟨N - 1, i + 1, by omega, ⟨by omega, by omega⟩, ?_⟩
    rw [hk2, ← hs]
    refine Norm.trans (Norm.soakArr 0 0 i rfl (hgs _)) ?_
    refine Norm.re [0] (by decide) rfl ?_ (by simp [tmFits, T.ren, mkSeat])
    simp only [soakS, soakL, Heap.at, Heap.put, List.getElem?_cons_zero, List.getElem?_cons_succ, List.set_cons_zero, List.set_cons_succ, List.length_map, marks_len, marksG_len, thr_len, and_self, if_true, List.set_set, heapFits, rowFits, obFits, renL_o, true_and, and_true]
    rw [List.map_set]; rfl
  · have hge : i = l.length := by
      have : ¬ i < l.length := by simp at hc; omega
      omega
    subst hge
    rw [mixT_all, List.take_length]
    have fy := Nat.add_zero
    refine goR ?_ ?_ ?_ ?_ ?_ ?_ ?_ ?_ ?_ ?_ ?_ ?_ ?_ ?_ ?_ ?_
    any_goals (first | exact True.intro | skip)
    all_goals (repeat (refine Wh.mk fun hcc => ?_))
    all_goals exact SW.ret (show RetQ _ _ _ _ _ _ _ from RetQ.y [0] [.int .i64 (thr mkSeat l k).2])
end Q6

namespace Q6
open Go Go.Vm Go.Proofs
set_option maxHeartbeats 4000000
set_option synthInstance.maxSize 2000
set_option synthInstance.maxHeartbeats 400000
set_option maxRecDepth 10000
set_option linter.unusedSimpArgs false
set_option linter.unusedVariables false

set_option synthInstance.maxHeartbeats 4000000
set_option synthInstance.maxSize 20000
set_option maxHeartbeats 40000000
def mkRec (x : (Int × Int × Int × Int × Int × ((Bool × ((Int × (List Int) × (List Int) × Unit)) × Unit)) × ((Bool × ((Int × (List Int) × (List Int) × Unit)) × Unit)) × Int × (List ((Int × Int × Bool × Unit))) × Unit)) (c : Int) : ((Int × Int × Int × Int × Int × ((Bool × ((Int × (List Int) × (List Int) × Unit)) × Unit)) × ((Bool × ((Int × (List Int) × (List Int) × Unit)) × Unit)) × Int × (List ((Int × Int × Bool × Unit))) × Unit)) × Int := (((c), (c + 1), (c + 1 + 1), (c + 1 + 1 + 1), (c + 1 + 1 + 1 + 1), ((Int.tmod (c + 1 + 1 + 1 + 1 + 1) 3 == 0), ((c + 1 + 1 + 1 + 1 + 1 + 1), marksG id x.2.2.2.2.2.1.2.1.2.1.length (c + 1 + 1 + 1 + 1 + 1 + 1 + 1), marksG id x.2.2.2.2.2.1.2.1.2.2.1.length (c + 1 + 1 + 1 + 1 + 1 + 1 + 1 + x.2.2.2.2.2.1.2.1.2.1.length), ()), ()), ((Int.tmod (c + 1 + 1 + 1 + 1 + 1 + 1 + 1 + x.2.2.2.2.2.1.2.1.2.1.length + x.2.2.2.2.2.1.2.1.2.2.1.length) 3 == 0), ((c + 1 + 1 + 1 + 1 + 1 + 1 + 1 + x.2.2.2.2.2.1.2.1.2.1.length + x.2.2.2.2.2.1.2.1.2.2.1.length + 1), marksG id x.2.2.2.2.2.2.1.2.1.2.1.length (c + 1 + 1 + 1 + 1 + 1 + 1 + 1 + x.2.2.2.2.2.1.2.1.2.1.length + x.2.2.2.2.2.1.2.1.2.2.1.length + 1 + 1), marksG id x.2.2.2.2.2.2.1.2.1.2.2.1.length (c + 1 + 1 + 1 + 1 + 1 + 1 + 1 + x.2.2.2.2.2.1.2.1.2.1.length + x.2.2.2.2.2.1.2.1.2.2.1.length + 1 + 1 + x.2.2.2.2.2.2.1.2.1.2.1.length), ()), ()), (c + 1 + 1 + 1 + 1 + 1 + 1 + 1 + x.2.2.2.2.2.1.2.1.2.1.length + x.2.2.2.2.2.1.2.1.2.2.1.length + 1 + 1 + x.2.2.2.2.2.2.1.2.1.2.1.length + x.2.2.2.2.2.2.1.2.1.2.2.1.length), marksG (lvM (c + 1 + 1 + 1 + 1 + 1 + 1 + 1 + x.2.2.2.2.2.1.2.1.2.1.length + x.2.2.2.2.2.1.2.1.2.2.1.length + 1 + 1 + x.2.2.2.2.2.2.1.2.1.2.1.length + x.2.2.2.2.2.2.1.2.1.2.2.1.length + 1)) x.2.2.2.2.2.2.2.2.1.length 0, ()), c + 1 + 1 + 1 + 1 + 1 + 1 + 1 + x.2.2.2.2.2.1.2.1.2.1.length + x.2.2.2.2.2.1.2.1.2.2.1.length + 1 + 1 + x.2.2.2.2.2.2.1.2.1.2.1.length + x.2.2.2.2.2.2.1.2.1.2.2.1.length + 1 + 3 * x.2.2.2.2.2.2.2.2.1.length)
theorem mkRec_rng {x : (Int × Int × Int × Int × Int × ((Bool × ((Int × (List Int) × (List Int) × Unit)) × Unit)) × ((Bool × ((Int × (List Int) × (List Int) × Unit)) × Unit)) × Int × (List ((Int × Int × Bool × Unit))) × Unit)} (hx : Enc.lim 1048576 x) (c : Int) : c ≤ (mkRec x c).2 ∧ (mkRec x c).2 ≤ c + 16777216 := by
  have q7 : x.2.2.2.2.2.1.2.1.2.1.length ≤ 1048576 := hx.2.2.2.2.2.1.2.1.2.1.1
  have q8 : x.2.2.2.2.2.1.2.1.2.2.1.length ≤ 1048576 := hx.2.2.2.2.2.1.2.1.2.2.1.1
  have q11 : x.2.2.2.2.2.2.1.2.1.2.1.length ≤ 1048576 := hx.2.2.2.2.2.2.1.2.1.2.1.1
  have q12 : x.2.2.2.2.2.2.1.2.1.2.2.1.length ≤ 1048576 := hx.2.2.2.2.2.2.1.2.1.2.2.1.1
  have q14 : x.2.2.2.2.2.2.2.2.1.length ≤ 1048576 := hx.2.2.2.2.2.2.2.2.1.1
  unfold mkRec
  simp only
  omega
theorem markRecS_own (l : List ((Int × Int × Int × Int × Int × ((Bool × ((Int × (List Int) × (List Int) × Unit)) × Unit)) × ((Bool × ((Int × (List Int) × (List Int) × Unit)) × Unit)) × Int × (List ((Int × Int × Bool × Unit))) × Unit))) (k : Int) (hl : Enc.lim 1048576 l) (h0 : 0 ≤ k) (h1 : k ≤ 281474976710656) : CallR Try.prog 171 [.ow 15 (l.map Enc.o), .int .i64 k] [] (.int .i64 (thr mkRec l k).2) := by
  refine CallR.of_body (n := 136) (rs := [.tmp 4]) hY.ok Try.func171 rfl (by decide) rfl rfl rfl rfl (fun F => ?_)
  have fx := And.intro Y1 (And.intro Y2 (And.intro Y3 (And.intro Y4 (And.intro Y5 (And.intro Y6 (And.intro Y7 (And.intro Y8 (And.intro Y27 (And.intro Y35 (And.intro Y37 (And.intro Y91 (And.intro Y94 (And.intro Y169 (Y197))))))))))))))
  have hl1 : l.length ≤ 1048576 := hl.1
  have hgrow : ∀ x ∈ l, ∀ c, c ≤ (mkRec x c).2 ∧ (mkRec x c).2 ≤ c + 16777216 := fun x hx c => mkRec_rng (hl.2 x hx) c
  have fy := Nat.add_zero
  refine goN ?_ ?_ ?_ ?_ ?_ ?_ ?_ ?_ ?_ ?_ ?_ ?_ ?_ ?_ ?_ ?_
  any_goals (first | exact True.intro | skip)
  skip
  refine SW.loop (fun i : Nat => ⟨[.ref 0 0 0 l.length, .int .i64 (thr mkRec (l.take i) k).2, .undef, .undef, .undef, .int .i64 (i : Nat), .undef, .undef, .undef, .undef, .undef, .undef, .undef, .undef, .undef, .undef, .undef, .undef, .undef, .undef, .undef, .undef, .undef, .undef, .undef, .undef, .undef, .undef, .undef, .undef, .undef, .undef, .undef, .undef, .undef, .undef, .undef, .undef, .undef, .undef, .undef, .undef, .undef, .undef, .undef, .undef, .undef, .undef, .undef, .undef, .undef, .undef, .undef, .undef, .undef, .undef, .undef, .undef, .undef, .undef, .undef, .undef, .undef, .undef, .undef, .undef, .undef, .undef, .undef, .undef, .undef, .undef, .undef, .undef, .undef, .undef, .undef, .undef, .undef, .undef, .undef, .undef, .undef, .undef, .undef, .undef, .undef, .undef, .undef, .undef, .undef, .undef, .undef, .undef, .undef, .undef, .undef, .undef, .undef, .undef, .undef, .undef, .undef, .undef, .undef, .undef, .undef, .undef, .undef, .undef, .undef, .undef, .undef, .undef, .undef, .undef, .undef, .undef, .undef, .undef, .undef, .undef, .undef, .undef, .undef, .undef, .undef, .undef, .undef, .undef, .undef, .undef, .undef, .undef, .undef, .undef], [[.arr 15 ((mixT mkRec l k i).map Enc.o) false]]⟩)
    (fun N i => N = l.length - i ∧ i ≤ l.length) (n := l.length) (x := 0) ?_ ⟨rfl, Nat.zero_le _⟩ ?_
  · rw [mixT_zero]
    simp only [List.take_zero, thr]
    exact Norm.re [0] (by decide) rfl (by first | (simp only [eq_self, heapFits, rowFits, obFits, List.getElem?_cons_zero, List.getElem?_cons_succ, renL_o, renL_b, true_and, and_true, and_self]; done) | simp [-List.map_set, -List.map_append, heapFits, rowFits, obFits, T.ren, renL]) (by simp [tmFits, T.ren, renL])
  rintro N i ⟨hn, hi⟩
  have hml := mixT_len mkRec l k i hi
  have fy := Nat.add_zero
  refine goS ?_
  refine SW.cond rfl (fun hc => ?_) (fun hc => ?_)
  · have hlt : i < l.length := by simp at hc; omega
    have hltI : (i : Int) < (l.length : Int) := by omega
    have hr := thr_rng mkRec 16777216 (by decide) (l.take i) k (fun x hx => hgrow x (List.mem_of_mem_take hx))
    rw [List.length_take, Nat.min_eq_left hi] at hr
    have hb : (i : Int) * 16777216 ≤ 1048576 * 16777216 := by omega
    have hg : ((mixT mkRec l k i).map Enc.o)[i]? = some (.nd [.int .i64 l[i].1, .int .i64 l[i].2.1, .int .i64 l[i].2.2.1, .int .i64 l[i].2.2.2.1, .int .i64 l[i].2.2.2.2.1, .nd [.bool l[i].2.2.2.2.2.1.1, .nd [.int .i64 l[i].2.2.2.2.2.1.2.1.1, .ow 1 (l[i].2.2.2.2.2.1.2.1.2.1.map Enc.o), .ow 1 (l[i].2.2.2.2.2.1.2.1.2.2.1.map Enc.o)]], .nd [.bool l[i].2.2.2.2.2.2.1.1, .nd [.int .i64 l[i].2.2.2.2.2.2.1.2.1.1, .ow 1 (l[i].2.2.2.2.2.2.1.2.1.2.1.map Enc.o), .ow 1 (l[i].2.2.2.2.2.2.1.2.1.2.2.1.map Enc.o)]], .int .i64 l[i].2.2.2.2.2.2.2.1, .ow 3 (l[i].2.2.2.2.2.2.2.2.1.map Enc.o)]) := by rw [map_get Enc.o _ i (by rw [hml]; exact hlt), mixT_get mkRec l k i hlt]; rfl
    have hs := mixT_set mkRec l k i hlt
    have hk2 : (thr mkRec (l.take (i + 1)) k).2 = (mkRec l[i] (thr mkRec (l.take i) k).2).2 := by rw [thr_succ mkRec l k i hlt]
    have hli := hl.2 l[i] (List.getElem_mem hlt)
    clear hgrow hl
    generalize l[i] = x at *
    generalize mixT mkRec l k i = m at *
    generalize (thr mkRec (l.take i) k).2 = c at *
    have hgs : ∀ X : T, ((m.map Enc.o).set i X)[i]? = some X := fun X => List.getElem?_set_self (by rw [List.length_map, hml]; exact hlt)
    have hw0 : IntKind.i64.wrap (c + 1) = c + 1 := wrap64 _ (by omega) (by omega)
    have hw1 : IntKind.i64.wrap (c + 1 + 1) = c + 1 + 1 := wrap64 _ (by omega) (by omega)
    have hw2 : IntKind.i64.wrap (c + 1 + 1 + 1) = c + 1 + 1 + 1 := wrap64 _ (by omega) (by omega)
    have hw3 : IntKind.i64.wrap (c + 1 + 1 + 1 + 1) = c + 1 + 1 + 1 + 1 := wrap64 _ (by omega) (by omega)
    have hw4 : IntKind.i64.wrap (c + 1 + 1 + 1 + 1 + 1) = c + 1 + 1 + 1 + 1 + 1 := wrap64 _ (by omega) (by omega)
    have hw5 : IntKind.i64.wrap (c + 1 + 1 + 1 + 1 + 1 + 1) = c + 1 + 1 + 1 + 1 + 1 + 1 := wrap64 _ (by omega) (by omega)
    have hw6 : IntKind.i64.wrap (c + 1 + 1 + 1 + 1 + 1 + 1 + 1) = c + 1 + 1 + 1 + 1 + 1 + 1 + 1 := wrap64 _ (by omega) (by omega)
    have q7 : x.2.2.2.2.2.1.2.1.2.1.length ≤ 1048576 := hli.2.2.2.2.2.1.2.1.2.1.1
    have m7 := markInt_ok x.2.2.2.2.2.1.2.1.2.1 (c + 1 + 1 + 1 + 1 + 1 + 1 + 1) q7 (by omega) (by omega)
    have q8 : x.2.2.2.2.2.1.2.1.2.2.1.length ≤ 1048576 := hli.2.2.2.2.2.1.2.1.2.2.1.1
    have m8 := markInt_ok x.2.2.2.2.2.1.2.1.2.2.1 (c + 1 + 1 + 1 + 1 + 1 + 1 + 1 + x.2.2.2.2.2.1.2.1.2.1.length) q8 (by omega) (by omega)
    have hw9 : IntKind.i64.wrap (c + 1 + 1 + 1 + 1 + 1 + 1 + 1 + x.2.2.2.2.2.1.2.1.2.1.length + x.2.2.2.2.2.1.2.1.2.2.1.length + 1) = c + 1 + 1 + 1 + 1 + 1 + 1 + 1 + x.2.2.2.2.2.1.2.1.2.1.length + x.2.2.2.2.2.1.2.1.2.2.1.length + 1 := wrap64 _ (by omega) (by omega)
    have hw10 : IntKind.i64.wrap (c + 1 + 1 + 1 + 1 + 1 + 1 + 1 + x.2.2.2.2.2.1.2.1.2.1.length + x.2.2.2.2.2.1.2.1.2.2.1.length + 1 + 1) = c + 1 + 1 + 1 + 1 + 1 + 1 + 1 + x.2.2.2.2.2.1.2.1.2.1.length + x.2.2.2.2.2.1.2.1.2.2.1.length + 1 + 1 := wrap64 _ (by omega) (by omega)
    have q11 : x.2.2.2.2.2.2.1.2.1.2.1.length ≤ 1048576 := hli.2.2.2.2.2.2.1.2.1.2.1.1
    have m11 := markInt_ok x.2.2.2.2.2.2.1.2.1.2.1 (c + 1 + 1 + 1 + 1 + 1 + 1 + 1 + x.2.2.2.2.2.1.2.1.2.1.length + x.2.2.2.2.2.1.2.1.2.2.1.length + 1 + 1) q11 (by omega) (by omega)
    have q12 : x.2.2.2.2.2.2.1.2.1.2.2.1.length ≤ 1048576 := hli.2.2.2.2.2.2.1.2.1.2.2.1.1
    have m12 := markInt_ok x.2.2.2.2.2.2.1.2.1.2.2.1 (c + 1 + 1 + 1 + 1 + 1 + 1 + 1 + x.2.2.2.2.2.1.2.1.2.1.length + x.2.2.2.2.2.1.2.1.2.2.1.length + 1 + 1 + x.2.2.2.2.2.2.1.2.1.2.1.length) q12 (by omega) (by omega)
    have hw13 : IntKind.i64.wrap (c + 1 + 1 + 1 + 1 + 1 + 1 + 1 + x.2.2.2.2.2.1.2.1.2.1.length + x.2.2.2.2.2.1.2.1.2.2.1.length + 1 + 1 + x.2.2.2.2.2.2.1.2.1.2.1.length + x.2.2.2.2.2.2.1.2.1.2.2.1.length + 1) = c + 1 + 1 + 1 + 1 + 1 + 1 + 1 + x.2.2.2.2.2.1.2.1.2.1.length + x.2.2.2.2.2.1.2.1.2.2.1.length + 1 + 1 + x.2.2.2.2.2.2.1.2.1.2.1.length + x.2.2.2.2.2.2.1.2.1.2.2.1.length + 1 := wrap64 _ (by omega) (by omega)
    have q14 : x.2.2.2.2.2.2.2.2.1.length ≤ 1048576 := hli.2.2.2.2.2.2.2.2.1.1
    have m14 := markLive_ok x.2.2.2.2.2.2.2.2.1 (c + 1 + 1 + 1 + 1 + 1 + 1 + 1 + x.2.2.2.2.2.1.2.1.2.1.length + x.2.2.2.2.2.1.2.1.2.2.1.length + 1 + 1 + x.2.2.2.2.2.2.1.2.1.2.1.length + x.2.2.2.2.2.2.1.2.1.2.2.1.length + 1) q14 (by omega) (by omega)
    have hwi : IntKind.i64.wrap ((i : Int) + 1) = ((i + 1 : Nat) : Int) := by rw [wrap64 _ (by omega) (by omega)]; omega
    refine SW.norm (Norm.expel 0 0 i rfl hg) ?_
    simp only [thawA, thawAL, Heap.put, List.set_set, List.length_cons, List.length_nil, Nat.zero_add, Nat.add_zero, List.getElem?_cons_zero, List.set_cons_zero, List.cons_append, List.nil_append, List.length_map, Nat.reduceAdd]
    have hC1 := cx [.ios] (m7)
    have hC2 := cx [.ios] (m8)
    have hC3 := cx [.ios] (m11)
    have hC4 := cx [.ios] (m12)
    have hC5 := cx [.ios] (m14)
    have fy := And.intro hw0 (And.intro hw1 (And.intro hw2 (And.intro hw3 (And.intro hw4 (And.intro hw5 (And.intro hw6 (And.intro hw9 (And.intro hw10 (And.intro hw13 (And.intro hwi (And.intro hgs (And.intro hltI (And.intro ((((((((((((((@List.set_set T)))))))))))))) (And.intro Nat.zero_add (Int.toNat_natCast)))))))))))))))
    refine goN ?_ ?_ ?_ ?_ ?_ ?_ ?_ ?_ ?_ ?_ ?_ ?_ ?_ ?_ ?_ ?_
    any_goals (first | exact True.intro | skip)
    skip
    refine ⟨N - 1, i + 1, by omega, ⟨by omega, by omega⟩, ?_⟩
    rw [hk2, ← hs]
    refine Norm.trans (Norm.soakArr 0 0 i rfl (hgs _)) ?_
    refine Norm.re [0] (by decide) rfl ?_ (by simp [tmFits, T.ren, mkRec])
    simp only [soakS, soakL, Heap.at, Heap.put, List.getElem?_cons_zero, List.getElem?_cons_succ, List.set_cons_zero, List.set_cons_succ, List.length_map, marks_len, marksG_len, thr_len, and_self, if_true, List.set_set, heapFits, rowFits, obFits, renL_o, true_and, and_true]
    rw [List.map_set]; rfl
  · have hge : i = l.length := by
      have : ¬ i < l.length := by simp at hc; omega
      omega
    subst hge
    rw [mixT_all, List.take_length]
    have fy := Nat.add_zero
    refine goR ?_ ?_ ?_ ?_ ?_ ?_ ?_ ?_ ?_ ?_ ?_ ?_ ?_ ?_ ?_ ?_
    any_goals (first | exact True.intro | skip)
    all_goals (repeat (refine Wh.mk fun hcc => ?_))
    all_goals exact SW.ret (show RetQ _ _ _ _ _ _ _ from RetQ.y [0] [.int .i64 (thr mkRec l k).2])
end Q6

namespace Q6
open Go Go.Vm Go.Proofs
set_option maxHeartbeats 4000000
set_option synthInstance.maxSize 2000
set_option synthInstance.maxHeartbeats 400000
set_option maxRecDepth 10000
set_option linter.unusedSimpArgs false
set_option linter.unusedVariables false

set_option synthInstance.maxHeartbeats 4000000
set_option synthInstance.maxSize 20000
set_option maxHeartbeats 40000000
theorem markPool_own (x : ((List ((Int × ((Int × ((((Bool × ((Int × (List Int) × (List Int) × Unit)) × Unit)) × ((Bool × ((Int × (List Int) × (List Int) × Unit)) × Unit)) × ((Bool × ((Int × (List Int) × (List Int) × Unit)) × Unit)) × ((Bool × ((Int × (List Int) × (List Int) × Unit)) × Unit)) × Unit)) × Unit)) × Bool × Bool × Unit))) × Int × Unit)) (k : Int) (hl : Enc.lim 1048576 x.1) (h0 : 0 ≤ k) (h1 : k ≤ 281474976710656) : CallR Try.prog 118 [.nd [.ow 20 (x.1.map Enc.o), .int .i64 x.2.1], .int .i64 k] [] (.int .i64 (thr mkSeat x.1 k).2) := by
  refine CallR.of_body (n := 10) (rs := [.tmp 4]) hY.ok Try.func118 rfl (by decide) rfl rfl rfl rfl (fun F => ?_)
  have fx := And.intro Y3 (And.intro Y4 (And.intro Y27 (And.intro Y35 (And.intro Y37 (And.intro Y84 (And.intro Y86 (And.intro Y88 (And.intro Y90 (Y192)))))))))
  have hC1 := cx [.own 20] (markSeatS_own x.1 k hl h0 h1)
  have fy := And.intro nc4 (And.intro nc8 (And.intro wa (tn)))
  refine goR ?_ ?_ ?_ ?_ ?_ ?_ ?_ ?_ ?_ ?_ ?_ ?_ ?_ ?_ ?_ ?_
  any_goals (first | exact True.intro | skip)
  all_goals (repeat (refine Wh.mk fun hcc => ?_))
  all_goals exact SW.ret (show RetQ _ _ _ _ _ _ _ from RetQ.y [0] [.int .i64 (thr mkSeat x.1 k).2])
theorem markLog_own (x : ((List ((Int × Int × Int × Int × Int × ((Bool × ((Int × (List Int) × (List Int) × Unit)) × Unit)) × ((Bool × ((Int × (List Int) × (List Int) × Unit)) × Unit)) × Int × (List ((Int × Int × Bool × Unit))) × Unit))) × Int × Unit)) (k : Int) (hl : Enc.lim 1048576 x.1) (h0 : 0 ≤ k) (h1 : k ≤ 281474976710656) : CallR Try.prog 119 [.nd [.ow 15 (x.1.map Enc.o), .int .i64 x.2.1], .int .i64 k] [] (.int .i64 (thr mkRec x.1 k).2) := by
  refine CallR.of_body (n := 10) (rs := [.tmp 4]) hY.ok Try.func119 rfl (by decide) rfl rfl rfl rfl (fun F => ?_)
  have fx := And.intro Y3 (And.intro Y4 (And.intro Y27 (And.intro Y35 (And.intro Y37 (And.intro Y91 (And.intro Y93 (And.intro Y94 (And.intro Y169 (Y197)))))))))
  have hC1 := cx [.own 15] (markRecS_own x.1 k hl h0 h1)
  have fy := And.intro nc4 (And.intro nc8 (And.intro wa (tn)))
  refine goR ?_ ?_ ?_ ?_ ?_ ?_ ?_ ?_ ?_ ?_ ?_ ?_ ?_ ?_ ?_ ?_
  any_goals (first | exact True.intro | skip)
  all_goals (repeat (refine Wh.mk fun hcc => ?_))
  all_goals exact SW.ret (show RetQ _ _ _ _ _ _ _ from RetQ.y [0] [.int .i64 (thr mkRec x.1 k).2])
theorem tO_64 (d : Arr 8 PgT) : (tO d.l).length = 64 := by rw [tO_len, d.h]; rfl
@[simp] theorem tO_get0 (d : Arr 8 PgT) (X : List Ob) : (tO d.l ++ X)[64]? = X[0]? := by rw [List.getElem?_append_right (by rw [tO_64]; omega), tO_64]
@[simp] theorem tO_set0 (d : Arr 8 PgT) (X : List Ob) (a : Ob) : (tO d.l ++ X).set 64 a = tO d.l ++ X.set 0 a := by rw [List.set_append_right _ _ (by rw [tO_64]; omega), tO_64]
@[simp] theorem tO_get1 (d : Arr 8 PgT) (X : List Ob) : (tO d.l ++ X)[65]? = X[1]? := by rw [List.getElem?_append_right (by rw [tO_64]; omega), tO_64]
@[simp] theorem tO_set1 (d : Arr 8 PgT) (X : List Ob) (a : Ob) : (tO d.l ++ X).set 65 a = tO d.l ++ X.set 1 a := by rw [List.set_append_right _ _ (by rw [tO_64]; omega), tO_64]
@[simp] theorem tO_get2 (d : Arr 8 PgT) (X : List Ob) : (tO d.l ++ X)[66]? = X[2]? := by rw [List.getElem?_append_right (by rw [tO_64]; omega), tO_64]
@[simp] theorem tO_set2 (d : Arr 8 PgT) (X : List Ob) (a : Ob) : (tO d.l ++ X).set 66 a = tO d.l ++ X.set 2 a := by rw [List.set_append_right _ _ (by rw [tO_64]; omega), tO_64]
@[simp] theorem tO_get3 (d : Arr 8 PgT) (X : List Ob) : (tO d.l ++ X)[67]? = X[3]? := by rw [List.getElem?_append_right (by rw [tO_64]; omega), tO_64]
@[simp] theorem tO_set3 (d : Arr 8 PgT) (X : List Ob) (a : Ob) : (tO d.l ++ X).set 67 a = tO d.l ++ X.set 3 a := by rw [List.set_append_right _ _ (by rw [tO_64]; omega), tO_64]
theorem gO_64 (d : Arr 8 PgT) : (gO d.l).length = 64 := by rw [gO_len, d.h]; rfl
@[simp] theorem gO_get0 (d : Arr 8 PgT) (X : List Ob) : (gO d.l ++ X)[64]? = X[0]? := by rw [List.getElem?_append_right (by rw [gO_64]; omega), gO_64]
@[simp] theorem gO_set0 (d : Arr 8 PgT) (X : List Ob) (a : Ob) : (gO d.l ++ X).set 64 a = gO d.l ++ X.set 0 a := by rw [List.set_append_right _ _ (by rw [gO_64]; omega), gO_64]
@[simp] theorem gO_get1 (d : Arr 8 PgT) (X : List Ob) : (gO d.l ++ X)[65]? = X[1]? := by rw [List.getElem?_append_right (by rw [gO_64]; omega), gO_64]
@[simp] theorem gO_set1 (d : Arr 8 PgT) (X : List Ob) (a : Ob) : (gO d.l ++ X).set 65 a = gO d.l ++ X.set 1 a := by rw [List.set_append_right _ _ (by rw [gO_64]; omega), gO_64]
@[simp] theorem gO_get2 (d : Arr 8 PgT) (X : List Ob) : (gO d.l ++ X)[66]? = X[2]? := by rw [List.getElem?_append_right (by rw [gO_64]; omega), gO_64]
@[simp] theorem gO_set2 (d : Arr 8 PgT) (X : List Ob) (a : Ob) : (gO d.l ++ X).set 66 a = gO d.l ++ X.set 2 a := by rw [List.set_append_right _ _ (by rw [gO_64]; omega), gO_64]
@[simp] theorem gO_get3 (d : Arr 8 PgT) (X : List Ob) : (gO d.l ++ X)[67]? = X[3]? := by rw [List.getElem?_append_right (by rw [gO_64]; omega), gO_64]
@[simp] theorem gO_set3 (d : Arr 8 PgT) (X : List Ob) (a : Ob) : (gO d.l ++ X).set 67 a = gO d.l ++ X.set 3 a := by rw [List.set_append_right _ _ (by rw [gO_64]; omega), gO_64]
theorem seat_rng (l : List ((Int × ((Int × ((((Bool × ((Int × (List Int) × (List Int) × Unit)) × Unit)) × ((Bool × ((Int × (List Int) × (List Int) × Unit)) × Unit)) × ((Bool × ((Int × (List Int) × (List Int) × Unit)) × Unit)) × ((Bool × ((Int × (List Int) × (List Int) × Unit)) × Unit)) × Unit)) × Unit)) × Bool × Bool × Unit))) (k : Int) (hl : Enc.lim 1048576 l) : k ≤ (thr mkSeat l k).2 ∧ (thr mkSeat l k).2 ≤ k + 16777216 * l.length := by
  have := thr_rng mkSeat 16777216 (by decide) l k (fun x hx c => mkSeat_rng (hl.2 x hx) c)
  omega
theorem rec_rng (l : List ((Int × Int × Int × Int × Int × ((Bool × ((Int × (List Int) × (List Int) × Unit)) × Unit)) × ((Bool × ((Int × (List Int) × (List Int) × Unit)) × Unit)) × Int × (List ((Int × Int × Bool × Unit))) × Unit))) (k : Int) (hl : Enc.lim 1048576 l) : k ≤ (thr mkRec l k).2 ∧ (thr mkRec l k).2 ≤ k + 16777216 * l.length := by
  have := thr_rng mkRec 16777216 (by decide) l k (fun x hx c => mkRec_rng (hl.2 x hx) c)
  omega
def engN (x : (((Arr 8 ((Int × ((((Bool × ((Int × (List Int) × (List Int) × Unit)) × Unit)) × ((Bool × ((Int × (List Int) × (List Int) × Unit)) × Unit)) × ((Bool × ((Int × (List Int) × (List Int) × Unit)) × Unit)) × ((Bool × ((Int × (List Int) × (List Int) × Unit)) × Unit)) × Unit)) × Unit)))) × (((List ((Int × ((Int × ((((Bool × ((Int × (List Int) × (List Int) × Unit)) × Unit)) × ((Bool × ((Int × (List Int) × (List Int) × Unit)) × Unit)) × ((Bool × ((Int × (List Int) × (List Int) × Unit)) × Unit)) × ((Bool × ((Int × (List Int) × (List Int) × Unit)) × Unit)) × Unit)) × Unit)) × Bool × Bool × Unit))) × Int × Unit)) × (((List ((Int × Int × Int × Int × Int × ((Bool × ((Int × (List Int) × (List Int) × Unit)) × Unit)) × ((Bool × ((Int × (List Int) × (List Int) × Unit)) × Unit)) × Int × (List ((Int × Int × Bool × Unit))) × Unit))) × Int × Unit)) × (List ((Int × Int × Bool × Unit))) × (List ((Int × Int × Unit))) × Int × Bool × Unit)) (k : Int) : Int := (thr mkRec x.2.2.1.1 (thr mkSeat x.2.1.1 (pgN x.1.l k)).2).2 + 3 * x.2.2.2.1.length + 2 * x.2.2.2.2.1.length
theorem markEngine_own (x : (((Arr 8 ((Int × ((((Bool × ((Int × (List Int) × (List Int) × Unit)) × Unit)) × ((Bool × ((Int × (List Int) × (List Int) × Unit)) × Unit)) × ((Bool × ((Int × (List Int) × (List Int) × Unit)) × Unit)) × ((Bool × ((Int × (List Int) × (List Int) × Unit)) × Unit)) × Unit)) × Unit)))) × (((List ((Int × ((Int × ((((Bool × ((Int × (List Int) × (List Int) × Unit)) × Unit)) × ((Bool × ((Int × (List Int) × (List Int) × Unit)) × Unit)) × ((Bool × ((Int × (List Int) × (List Int) × Unit)) × Unit)) × ((Bool × ((Int × (List Int) × (List Int) × Unit)) × Unit)) × Unit)) × Unit)) × Bool × Bool × Unit))) × Int × Unit)) × (((List ((Int × Int × Int × Int × Int × ((Bool × ((Int × (List Int) × (List Int) × Unit)) × Unit)) × ((Bool × ((Int × (List Int) × (List Int) × Unit)) × Unit)) × Int × (List ((Int × Int × Bool × Unit))) × Unit))) × Int × Unit)) × (List ((Int × Int × Bool × Unit))) × (List ((Int × Int × Unit))) × Int × Bool × Unit)) (k : Int) (hx : Enc.lim 1048576 x) (h0 : 0 ≤ k) (h1 : k ≤ 1073741824) : CallR Try.prog 44 [.nd [.nd (x.1.l.map Enc.o), .nd [.ow 20 (x.2.1.1.map Enc.o), .int .i64 x.2.1.2.1], .nd [.ow 15 (x.2.2.1.1.map Enc.o), .int .i64 x.2.2.1.2.1], .ow 3 (x.2.2.2.1.map Enc.o), .ow 2 (x.2.2.2.2.1.map Enc.o), .int .i64 x.2.2.2.2.2.1, .bool x.2.2.2.2.2.2.1], .int .i64 k] [] (.int .i64 (engN x k)) := by
  refine CallR.of_body (n := 26) (rs := [.tmp 4]) hY.ok Try.func44 rfl (by decide) (by simp [ioSizes, ioSz]) rfl rfl rfl (fun F => ?_)
  have fx := And.intro Y1 (And.intro Y2 (And.intro Y3 (And.intro Y4 (And.intro Y27 (And.intro Y35 (And.intro Y37 (And.intro Y84 (And.intro Y86 (And.intro Y87 (And.intro Y88 (And.intro Y90 (And.intro Y91 (And.intro Y93 (And.intro Y94 (And.intro Y95 (And.intro Y97 (And.intro Y165 (And.intro Y169 (And.intro Y192 (Y197))))))))))))))))))))
  simp only [entryS, thawAL, thawA, thawAL_b, thawAL_tR, List.append_nil, List.nil_append, List.length_nil, Nat.add_zero]
  have hd := tRfacts x.1
  have r0 := pgN_rng x.1.l k hx.1
  have hL := x.1.h
  have q1 : x.2.1.1.length ≤ 1048576 := hx.2.1.1.1
  have q2 : x.2.2.1.1.length ≤ 1048576 := hx.2.2.1.1.1
  have q3 : x.2.2.2.1.length ≤ 1048576 := hx.2.2.2.1.1
  have q4 : x.2.2.2.2.1.length ≤ 1048576 := hx.2.2.2.2.1.1
  have r1 := seat_rng x.2.1.1 (pgN x.1.l k) hx.2.1.1
  have r2 := rec_rng x.2.2.1.1 (thr mkSeat x.2.1.1 (pgN x.1.l k)).2 hx.2.2.1.1
  have m0 := markPageA8_own x.1 k hx.1 h0 (by omega)
  have m1 := markPool_own x.2.1 (pgN x.1.l k) hx.2.1.1 (by omega) (by omega)
  have m2 := markLog_own x.2.2.1 (thr mkSeat x.2.1.1 (pgN x.1.l k)).2 hx.2.2.1.1 (by omega) (by omega)
  have m3 := markLive_own x.2.2.2.1 (thr mkRec x.2.2.1.1 (thr mkSeat x.2.1.1 (pgN x.1.l k)).2).2 q3 (by omega) (by omega)
  have m4 := markHold_own x.2.2.2.2.1 ((thr mkRec x.2.2.1.1 (thr mkSeat x.2.1.1 (pgN x.1.l k)).2).2 + 3 * x.2.2.2.1.length) q4 (by omega) (by omega)
  clear r0 r1 r2 hx
  simp only [hd.2.2.2.1, List.length_append, List.length_cons, List.length_nil, Nat.reduceAdd, List.cons_append, List.nil_append]
  have hC1 := cx [.own 0] (m0)
  have hC2 := cx [.own 0] (m1)
  have hC3 := cx [.own 0] (m2)
  have hC4 := cx [.own 3] (m3)
  have hC5 := cx [.own 2] (m4)
  have fy := And.intro nc4 (And.intro nc8 (And.intro wa (And.intro tn (hd))))
  refine goR ?_ ?_ ?_ ?_ ?_ ?_ ?_ ?_ ?_ ?_ ?_ ?_ ?_ ?_ ?_ ?_
  any_goals (first | exact True.intro | skip)
  all_goals (repeat (refine Wh.mk fun hcc => ?_))
  all_goals exact SW.ret (show RetQ _ _ _ _ _ _ _ from RetQ.y [0] [.int .i64 ((thr mkRec x.2.2.1.1 (thr mkSeat x.2.1.1 (pgN x.1.l k)).2).2 + 3 * x.2.2.2.1.length + 2 * x.2.2.2.2.1.length)])
theorem engN_pos (x : (((Arr 8 ((Int × ((((Bool × ((Int × (List Int) × (List Int) × Unit)) × Unit)) × ((Bool × ((Int × (List Int) × (List Int) × Unit)) × Unit)) × ((Bool × ((Int × (List Int) × (List Int) × Unit)) × Unit)) × ((Bool × ((Int × (List Int) × (List Int) × Unit)) × Unit)) × Unit)) × Unit)))) × (((List ((Int × ((Int × ((((Bool × ((Int × (List Int) × (List Int) × Unit)) × Unit)) × ((Bool × ((Int × (List Int) × (List Int) × Unit)) × Unit)) × ((Bool × ((Int × (List Int) × (List Int) × Unit)) × Unit)) × ((Bool × ((Int × (List Int) × (List Int) × Unit)) × Unit)) × Unit)) × Unit)) × Bool × Bool × Unit))) × Int × Unit)) × (((List ((Int × Int × Int × Int × Int × ((Bool × ((Int × (List Int) × (List Int) × Unit)) × Unit)) × ((Bool × ((Int × (List Int) × (List Int) × Unit)) × Unit)) × Int × (List ((Int × Int × Bool × Unit))) × Unit))) × Int × Unit)) × (List ((Int × Int × Bool × Unit))) × (List ((Int × Int × Unit))) × Int × Bool × Unit)) (hx : Enc.lim 1048576 x) : 0 ≤ engN x 1 := by
  have r0 := pgN_rng x.1.l 1 hx.1
  have r1 := seat_rng x.2.1.1 (pgN x.1.l 1) hx.2.1.1
  have r2 := rec_rng x.2.2.1.1 (thr mkSeat x.2.1.1 (pgN x.1.l 1)).2 hx.2.2.1.1
  unfold engN
  omega
end Q6

namespace Q6
open Go Go.Vm Go.Proofs
set_option maxHeartbeats 4000000
set_option synthInstance.maxSize 2000
set_option synthInstance.maxHeartbeats 400000
set_option maxRecDepth 10000
set_option linter.unusedSimpArgs false
set_option linter.unusedVariables false

theorem laws_szIntS_ok (l : List Int) (b : Int) (hl : Enc.lim maxLen l) (h0 : 0 ≤ b) (h1 : b ≤ 1048576) : CallR Try.prog 196 [.sl .b (l.map Enc.b), .int .i64 b] [] (.int .i64 (Enc.sz l b)) := by
  refine CallR.of_body (n := 12) (rs := [.tmp 4]) hY.ok Try.func196 rfl (by decide) rfl rfl rfl rfl (fun F => ?_)
  have fx := And.intro Y3 (And.intro Y4 (Y27))
  have hm : l.length ≤ 9223372036854775807 := hl.1
  have hw : IntKind.i64.wrap (b - l.length) = b - l.length := wrap64 _ (by omega) (by omega)
  have fy := hw
  refine goN ?_ ?_ ?_ ?_ ?_ ?_ ?_ ?_ ?_ ?_ ?_ ?_ ?_ ?_ ?_ ?_
  any_goals (first | exact True.intro | skip)
  skip
  refine SW.cond rfl (fun hc => ?_) (fun hc => ?_)
  · have hc' : b - (l.length : Int) < 0 := by simpa using hc
    have fy := hw
    refine goK ?_ ?_ ?_ ?_ ?_ ?_ ?_ ?_ ?_ ?_ ?_ ?_ ?_ ?_ ?_ ?_
    any_goals (first | exact True.intro | skip)
    all_goals (repeat (refine Wh.mk fun hcc => ?_))
    all_goals (simp only [tupOf, fixEs, sz_list, if_pos hc'])
  have hn : ¬ b - (l.length : Int) < 0 := by simpa using hc
  have fy := hw
  refine goK ?_ ?_ ?_ ?_ ?_ ?_ ?_ ?_ ?_ ?_ ?_ ?_ ?_ ?_ ?_ ?_
  any_goals (first | exact True.intro | skip)
  all_goals (repeat (refine Wh.mk fun hcc => ?_))
  all_goals (simp only [tupOf, fixEs, sz_list, if_neg hn]; rfl)
theorem laws_szObj_ok (x : (Int × (List Int) × (List Int) × Unit)) (b : Int) (hx : Enc.lim maxLen x) (h0 : 0 ≤ b) (h1 : b ≤ 1048576) : CallR Try.prog 193 [.nd [.int .i64 x.1, .sl .b (x.2.1.map Enc.b), .sl .b (x.2.2.1.map Enc.b)], .int .i64 b] [] (.int .i64 (Enc.sz x b)) := by
  refine CallR.of_body (n := 18) (rs := [.tmp 4]) hY.ok Try.func193 rfl (by decide) rfl rfl rfl rfl (fun F => ?_)
  have fx := And.intro Y1 (And.intro Y2 (And.intro Y3 (And.intro Y4 (And.intro Y27 (Y65)))))
  have hC1 := cx [] (laws_szIntS_ok x.2.1 b hx.2.1 h0 h1)
  have fy := Nat.add_zero
  refine goN ?_ ?_ ?_ ?_ ?_ ?_ ?_ ?_ ?_ ?_ ?_ ?_ ?_ ?_ ?_ ?_
  any_goals (first | exact True.intro | skip)
  skip
  refine SW.cond rfl (fun hc0 => ?_) (fun hc0 => ?_)
  · have hc0' : Enc.sz x.2.1 b < 0 := by simpa using hc0
    have fy := Nat.add_zero
    refine goK ?_ ?_ ?_ ?_ ?_ ?_ ?_ ?_ ?_ ?_ ?_ ?_ ?_ ?_ ?_ ?_
    any_goals (first | exact True.intro | skip)
    all_goals (repeat (refine Wh.mk fun hcc => ?_))
    all_goals (have hv : Enc.sz x b = -1 := by show EncL.sz x b = -1; simp [szl_prod, szl_unit, flat_int, flat_bool, flat_list, flat_prod, flatl_prod, flatl_unit, hc0'])
    all_goals simp only [tupOf, fixEs, hv]
  have hn0 : ¬ Enc.sz x.2.1 b < 0 := by simpa using hc0
  have h0_1 : 0 ≤ Enc.sz x.2.1 b := by omega
  have h1_1 : Enc.sz x.2.1 b ≤ 1048576 := by have := Enc.szLe x.2.1 b h0; omega
  have hC1 := cx [] (laws_szIntS_ok x.2.2.1 (Enc.sz x.2.1 b) hx.2.2.1 h0_1 h1_1)
  have fy := Nat.add_zero
  refine goN ?_ ?_ ?_ ?_ ?_ ?_ ?_ ?_ ?_ ?_ ?_ ?_ ?_ ?_ ?_ ?_
  any_goals (first | exact True.intro | skip)
  skip
  refine SW.cond rfl (fun hc1 => ?_) (fun hc1 => ?_)
  · have hc1' : Enc.sz x.2.2.1 (Enc.sz x.2.1 b) < 0 := by simpa using hc1
    have fy := Nat.add_zero
    refine goK ?_ ?_ ?_ ?_ ?_ ?_ ?_ ?_ ?_ ?_ ?_ ?_ ?_ ?_ ?_ ?_
    any_goals (first | exact True.intro | skip)
    all_goals (repeat (refine Wh.mk fun hcc => ?_))
    all_goals (have hv : Enc.sz x b = -1 := by show EncL.sz x b = -1; simp [szl_prod, szl_unit, flat_int, flat_bool, flat_list, flat_prod, flatl_prod, flatl_unit, hn0, hc1'])
    all_goals simp only [tupOf, fixEs, hv]
  have hn1 : ¬ Enc.sz x.2.2.1 (Enc.sz x.2.1 b) < 0 := by simpa using hc1
  have h0_2 : 0 ≤ Enc.sz x.2.2.1 (Enc.sz x.2.1 b) := by omega
  have h1_2 : Enc.sz x.2.2.1 (Enc.sz x.2.1 b) ≤ 1048576 := by have := Enc.szLe x.2.2.1 (Enc.sz x.2.1 b) h0_1; omega
  have fy := Nat.add_zero
  refine goK ?_ ?_ ?_ ?_ ?_ ?_ ?_ ?_ ?_ ?_ ?_ ?_ ?_ ?_ ?_ ?_
  any_goals (first | exact True.intro | skip)
  all_goals (repeat (refine Wh.mk fun hcc => ?_))
  all_goals (have hv : Enc.sz x b = (Enc.sz x.2.2.1 (Enc.sz x.2.1 b)) := by show EncL.sz x b = _; simp [szl_prod, szl_unit, flat_int, flat_bool, flat_list, flat_prod, flatl_prod, flatl_unit, hn0, hn1])
  all_goals simp only [tupOf, fixEs, hv]
theorem laws_szSlot_ok (x : (Bool × ((Int × (List Int) × (List Int) × Unit)) × Unit)) (b : Int) (hx : Enc.lim maxLen x) (h0 : 0 ≤ b) (h1 : b ≤ 1048576) : CallR Try.prog 190 [.nd [.bool x.1, .nd [.int .i64 x.2.1.1, .sl .b (x.2.1.2.1.map Enc.b), .sl .b (x.2.1.2.2.1.map Enc.b)]], .int .i64 b] [] (.int .i64 (Enc.sz x b)) := by
  refine CallR.of_body (n := 12) (rs := [.tmp 4]) hY.ok Try.func190 rfl (by decide) rfl rfl rfl rfl (fun F => ?_)
  have fx := And.intro Y1 (And.intro Y3 (And.intro Y4 (And.intro Y27 (And.intro Y65 (Y67)))))
  have hC1 := cx [] (laws_szObj_ok x.2.1 b hx.2.1 h0 h1)
  have fy := Nat.add_zero
  refine goN ?_ ?_ ?_ ?_ ?_ ?_ ?_ ?_ ?_ ?_ ?_ ?_ ?_ ?_ ?_ ?_
  any_goals (first | exact True.intro | skip)
  skip
  refine SW.cond rfl (fun hc0 => ?_) (fun hc0 => ?_)
  · have hc0' : Enc.sz x.2.1 b < 0 := by simpa using hc0
    have fy := Nat.add_zero
    refine goK ?_ ?_ ?_ ?_ ?_ ?_ ?_ ?_ ?_ ?_ ?_ ?_ ?_ ?_ ?_ ?_
    any_goals (first | exact True.intro | skip)
    all_goals (repeat (refine Wh.mk fun hcc => ?_))
    all_goals (have hv : Enc.sz x b = -1 := by show EncL.sz x b = -1; simp [szl_prod, szl_unit, flat_int, flat_bool, flat_list, flat_prod, flatl_prod, flatl_unit, hc0'])
    all_goals simp only [tupOf, fixEs, hv]
  have hn0 : ¬ Enc.sz x.2.1 b < 0 := by simpa using hc0
  have h0_1 : 0 ≤ Enc.sz x.2.1 b := by omega
  have h1_1 : Enc.sz x.2.1 b ≤ 1048576 := by have := Enc.szLe x.2.1 b h0; omega
  have fy := Nat.add_zero
  refine goK ?_ ?_ ?_ ?_ ?_ ?_ ?_ ?_ ?_ ?_ ?_ ?_ ?_ ?_ ?_ ?_
  any_goals (first | exact True.intro | skip)
  all_goals (repeat (refine Wh.mk fun hcc => ?_))
  all_goals (have hv : Enc.sz x b = (Enc.sz x.2.1 b) := by show EncL.sz x b = _; simp [szl_prod, szl_unit, flat_int, flat_bool, flat_list, flat_prod, flatl_prod, flatl_unit, hn0])
  all_goals simp only [tupOf, fixEs, hv]
end Q6

namespace Q6
open Go Go.Vm Go.Proofs
set_option maxHeartbeats 4000000
set_option synthInstance.maxSize 2000
set_option synthInstance.maxHeartbeats 400000
set_option maxRecDepth 10000
set_option linter.unusedSimpArgs false
set_option linter.unusedVariables false

set_option synthInstance.maxHeartbeats 4000000
set_option synthInstance.maxSize 20000
theorem laws_szSlotA4_ok (x : (((Bool × ((Int × (List Int) × (List Int) × Unit)) × Unit)) × ((Bool × ((Int × (List Int) × (List Int) × Unit)) × Unit)) × ((Bool × ((Int × (List Int) × (List Int) × Unit)) × Unit)) × ((Bool × ((Int × (List Int) × (List Int) × Unit)) × Unit)) × Unit)) (b : Int) (hx : Enc.lim maxLen x) (h0 : 0 ≤ b) (h1 : b ≤ 1048576) : CallR Try.prog 177 [.nd [.nd [.bool x.1.1, .nd [.int .i64 x.1.2.1.1, .sl .b (x.1.2.1.2.1.map Enc.b), .sl .b (x.1.2.1.2.2.1.map Enc.b)]], .nd [.bool x.2.1.1, .nd [.int .i64 x.2.1.2.1.1, .sl .b (x.2.1.2.1.2.1.map Enc.b), .sl .b (x.2.1.2.1.2.2.1.map Enc.b)]], .nd [.bool x.2.2.1.1, .nd [.int .i64 x.2.2.1.2.1.1, .sl .b (x.2.2.1.2.1.2.1.map Enc.b), .sl .b (x.2.2.1.2.1.2.2.1.map Enc.b)]], .nd [.bool x.2.2.2.1.1, .nd [.int .i64 x.2.2.2.1.2.1.1, .sl .b (x.2.2.2.1.2.1.2.1.map Enc.b), .sl .b (x.2.2.2.1.2.1.2.2.1.map Enc.b)]]], .int .i64 b] [] (.int .i64 (Enc.sz x b)) := by
  refine CallR.of_body (n := 18) (rs := [.tmp 4]) hY.ok Try.func177 rfl (by decide) rfl rfl rfl rfl (fun F => ?_)
  have fx := And.intro Y3 (And.intro Y4 (And.intro Y27 (And.intro Y65 (And.intro Y67 (Y68)))))
  have c0 := laws_szSlot_ok x.1 b hx.1 h0 h1
  by_cases n0 : Enc.sz x.1 b < 0
  · have hv : Enc.sz x b = -1 := by show EncL.sz x b = -1; simp [szl_prod, szl_unit, flat_int, flat_bool, flat_list, flat_prod, flatl_prod, flatl_unit, n0]
    have hC1 := cx [] (c0)
    have fy := And.intro nc4 (And.intro nc8 (And.intro wa (And.intro tn (n0))))
    refine goV ?_ ?_ ?_ ?_ ?_ ?_ ?_ ?_ ?_ ?_ ?_ ?_ ?_ ?_ ?_ ?_
    any_goals (first | exact True.intro | skip)
    all_goals (repeat (refine Wh.mk fun hcc => ?_))
    all_goals simp only [tupOf, fixEs, hv]
  have h0_1 : 0 ≤ (Enc.sz x.1 b) := by omega
  have h1_1 : (Enc.sz x.1 b) ≤ 1048576 := by have := Enc.szLe x.1 b h0; omega
  have c1 := laws_szSlot_ok x.2.1 (Enc.sz x.1 b) hx.2.1 h0_1 h1_1
  by_cases n1 : Enc.sz x.2.1 (Enc.sz x.1 b) < 0
  · have hv : Enc.sz x b = -1 := by show EncL.sz x b = -1; simp [szl_prod, szl_unit, flat_int, flat_bool, flat_list, flat_prod, flatl_prod, flatl_unit, n0, n1]
    have hC1 := cx [] (c0)
    have hC2 := cx [] (c1)
    have fy := And.intro nc4 (And.intro nc8 (And.intro wa (And.intro tn (And.intro n0 (n1)))))
    refine goV ?_ ?_ ?_ ?_ ?_ ?_ ?_ ?_ ?_ ?_ ?_ ?_ ?_ ?_ ?_ ?_
    any_goals (first | exact True.intro | skip)
    all_goals (repeat (refine Wh.mk fun hcc => ?_))
    all_goals simp only [tupOf, fixEs, hv]
  have h0_2 : 0 ≤ (Enc.sz x.2.1 (Enc.sz x.1 b)) := by omega
  have h1_2 : (Enc.sz x.2.1 (Enc.sz x.1 b)) ≤ 1048576 := by have := Enc.szLe x.2.1 (Enc.sz x.1 b) h0_1; omega
  have c2 := laws_szSlot_ok x.2.2.1 (Enc.sz x.2.1 (Enc.sz x.1 b)) hx.2.2.1 h0_2 h1_2
  by_cases n2 : Enc.sz x.2.2.1 (Enc.sz x.2.1 (Enc.sz x.1 b)) < 0
  · have hv : Enc.sz x b = -1 := by show EncL.sz x b = -1; simp [szl_prod, szl_unit, flat_int, flat_bool, flat_list, flat_prod, flatl_prod, flatl_unit, n0, n1, n2]
    have hC1 := cx [] (c0)
    have hC2 := cx [] (c1)
    have hC3 := cx [] (c2)
    have fy := And.intro nc4 (And.intro nc8 (And.intro wa (And.intro tn (And.intro n0 (And.intro n1 (n2))))))
    refine goV ?_ ?_ ?_ ?_ ?_ ?_ ?_ ?_ ?_ ?_ ?_ ?_ ?_ ?_ ?_ ?_
    any_goals (first | exact True.intro | skip)
    all_goals (repeat (refine Wh.mk fun hcc => ?_))
    all_goals simp only [tupOf, fixEs, hv]
  have h0_3 : 0 ≤ (Enc.sz x.2.2.1 (Enc.sz x.2.1 (Enc.sz x.1 b))) := by omega
  have h1_3 : (Enc.sz x.2.2.1 (Enc.sz x.2.1 (Enc.sz x.1 b))) ≤ 1048576 := by have := Enc.szLe x.2.2.1 (Enc.sz x.2.1 (Enc.sz x.1 b)) h0_2; omega
  have c3 := laws_szSlot_ok x.2.2.2.1 (Enc.sz x.2.2.1 (Enc.sz x.2.1 (Enc.sz x.1 b))) hx.2.2.2.1 h0_3 h1_3
  by_cases n3 : Enc.sz x.2.2.2.1 (Enc.sz x.2.2.1 (Enc.sz x.2.1 (Enc.sz x.1 b))) < 0
  · have hv : Enc.sz x b = -1 := by show EncL.sz x b = -1; simp [szl_prod, szl_unit, flat_int, flat_bool, flat_list, flat_prod, flatl_prod, flatl_unit, n0, n1, n2, n3]
    have hC1 := cx [] (c0)
    have hC2 := cx [] (c1)
    have hC3 := cx [] (c2)
    have hC4 := cx [] (c3)
    have fy := And.intro nc4 (And.intro nc8 (And.intro wa (And.intro tn (And.intro n0 (And.intro n1 (And.intro n2 (n3)))))))
    refine goV ?_ ?_ ?_ ?_ ?_ ?_ ?_ ?_ ?_ ?_ ?_ ?_ ?_ ?_ ?_ ?_
    any_goals (first | exact True.intro | skip)
    all_goals (repeat (refine Wh.mk fun hcc => ?_))
    all_goals simp only [tupOf, fixEs, hv]
  have h0_4 : 0 ≤ (Enc.sz x.2.2.2.1 (Enc.sz x.2.2.1 (Enc.sz x.2.1 (Enc.sz x.1 b)))) := by omega
  have h1_4 : (Enc.sz x.2.2.2.1 (Enc.sz x.2.2.1 (Enc.sz x.2.1 (Enc.sz x.1 b)))) ≤ 1048576 := by have := Enc.szLe x.2.2.2.1 (Enc.sz x.2.2.1 (Enc.sz x.2.1 (Enc.sz x.1 b))) h0_3; omega
  have hv : Enc.sz x b = (Enc.sz x.2.2.2.1 (Enc.sz x.2.2.1 (Enc.sz x.2.1 (Enc.sz x.1 b)))) := by show EncL.sz x b = _; simp [szl_prod, szl_unit, flat_int, flat_bool, flat_list, flat_prod, flatl_prod, flatl_unit, n0, n1, n2, n3]
  have hC1 := cx [] (c0)
  have hC2 := cx [] (c1)
  have hC3 := cx [] (c2)
  have hC4 := cx [] (c3)
  have fy := And.intro nc4 (And.intro nc8 (And.intro wa (And.intro tn (And.intro n0 (And.intro n1 (And.intro n2 (n3)))))))
  refine goV ?_ ?_ ?_ ?_ ?_ ?_ ?_ ?_ ?_ ?_ ?_ ?_ ?_ ?_ ?_ ?_
  any_goals (first | exact True.intro | skip)
  all_goals (repeat (refine Wh.mk fun hcc => ?_))
  all_goals simp only [tupOf, fixEs, hv]
theorem laws_szPage_ok (x : (Int × ((((Bool × ((Int × (List Int) × (List Int) × Unit)) × Unit)) × ((Bool × ((Int × (List Int) × (List Int) × Unit)) × Unit)) × ((Bool × ((Int × (List Int) × (List Int) × Unit)) × Unit)) × ((Bool × ((Int × (List Int) × (List Int) × Unit)) × Unit)) × Unit)) × Unit)) (b : Int) (hx : Enc.lim maxLen x) (h0 : 0 ≤ b) (h1 : b ≤ 1048576) : CallR Try.prog 151 [.nd [.int .i64 x.1, .nd [.nd [.bool x.2.1.1.1, .nd [.int .i64 x.2.1.1.2.1.1, .sl .b (x.2.1.1.2.1.2.1.map Enc.b), .sl .b (x.2.1.1.2.1.2.2.1.map Enc.b)]], .nd [.bool x.2.1.2.1.1, .nd [.int .i64 x.2.1.2.1.2.1.1, .sl .b (x.2.1.2.1.2.1.2.1.map Enc.b), .sl .b (x.2.1.2.1.2.1.2.2.1.map Enc.b)]], .nd [.bool x.2.1.2.2.1.1, .nd [.int .i64 x.2.1.2.2.1.2.1.1, .sl .b (x.2.1.2.2.1.2.1.2.1.map Enc.b), .sl .b (x.2.1.2.2.1.2.1.2.2.1.map Enc.b)]], .nd [.bool x.2.1.2.2.2.1.1, .nd [.int .i64 x.2.1.2.2.2.1.2.1.1, .sl .b (x.2.1.2.2.2.1.2.1.2.1.map Enc.b), .sl .b (x.2.1.2.2.2.1.2.1.2.2.1.map Enc.b)]]]], .int .i64 b] [] (.int .i64 (Enc.sz x b)) := by
  refine CallR.of_body (n := 12) (rs := [.tmp 4]) hY.ok Try.func151 rfl (by decide) rfl rfl rfl rfl (fun F => ?_)
  have fx := And.intro Y1 (And.intro Y3 (And.intro Y4 (And.intro Y27 (And.intro Y65 (And.intro Y67 (And.intro Y68 (Y70)))))))
  have hC1 := cx [] (laws_szSlotA4_ok x.2.1 b hx.2.1 h0 h1)
  have fy := Nat.add_zero
  refine goN ?_ ?_ ?_ ?_ ?_ ?_ ?_ ?_ ?_ ?_ ?_ ?_ ?_ ?_ ?_ ?_
  any_goals (first | exact True.intro | skip)
  skip
  refine SW.cond rfl (fun hc0 => ?_) (fun hc0 => ?_)
  · have hc0' : Enc.sz x.2.1 b < 0 := by simpa using hc0
    have fy := Nat.add_zero
    refine goK ?_ ?_ ?_ ?_ ?_ ?_ ?_ ?_ ?_ ?_ ?_ ?_ ?_ ?_ ?_ ?_
    any_goals (first | exact True.intro | skip)
    all_goals (repeat (refine Wh.mk fun hcc => ?_))
    all_goals (have hv : Enc.sz x b = -1 := by show EncL.sz x b = -1; simp [szl_prod, szl_unit, flat_int, flat_bool, flat_list, flat_prod, flatl_prod, flatl_unit, hc0'])
    all_goals simp only [tupOf, fixEs, hv]
  have hn0 : ¬ Enc.sz x.2.1 b < 0 := by simpa using hc0
  have h0_1 : 0 ≤ Enc.sz x.2.1 b := by omega
  have h1_1 : Enc.sz x.2.1 b ≤ 1048576 := by have := Enc.szLe x.2.1 b h0; omega
  have fy := Nat.add_zero
  refine goK ?_ ?_ ?_ ?_ ?_ ?_ ?_ ?_ ?_ ?_ ?_ ?_ ?_ ?_ ?_ ?_
  any_goals (first | exact True.intro | skip)
  all_goals (repeat (refine Wh.mk fun hcc => ?_))
  all_goals (have hv : Enc.sz x b = (Enc.sz x.2.1 b) := by show EncL.sz x b = _; simp [szl_prod, szl_unit, flat_int, flat_bool, flat_list, flat_prod, flatl_prod, flatl_unit, hn0])
  all_goals simp only [tupOf, fixEs, hv]
theorem laws_szSeat_ok (x : (Int × ((Int × ((((Bool × ((Int × (List Int) × (List Int) × Unit)) × Unit)) × ((Bool × ((Int × (List Int) × (List Int) × Unit)) × Unit)) × ((Bool × ((Int × (List Int) × (List Int) × Unit)) × Unit)) × ((Bool × ((Int × (List Int) × (List Int) × Unit)) × Unit)) × Unit)) × Unit)) × Bool × Bool × Unit)) (b : Int) (hx : Enc.lim maxLen x) (h0 : 0 ≤ b) (h1 : b ≤ 1048576) : CallR Try.prog 178 [.nd [.int .i64 x.1, .nd [.int .i64 x.2.1.1, .nd [.nd [.bool x.2.1.2.1.1.1, .nd [.int .i64 x.2.1.2.1.1.2.1.1, .sl .b (x.2.1.2.1.1.2.1.2.1.map Enc.b), .sl .b (x.2.1.2.1.1.2.1.2.2.1.map Enc.b)]], .nd [.bool x.2.1.2.1.2.1.1, .nd [.int .i64 x.2.1.2.1.2.1.2.1.1, .sl .b (x.2.1.2.1.2.1.2.1.2.1.map Enc.b), .sl .b (x.2.1.2.1.2.1.2.1.2.2.1.map Enc.b)]], .nd [.bool x.2.1.2.1.2.2.1.1, .nd [.int .i64 x.2.1.2.1.2.2.1.2.1.1, .sl .b (x.2.1.2.1.2.2.1.2.1.2.1.map Enc.b), .sl .b (x.2.1.2.1.2.2.1.2.1.2.2.1.map Enc.b)]], .nd [.bool x.2.1.2.1.2.2.2.1.1, .nd [.int .i64 x.2.1.2.1.2.2.2.1.2.1.1, .sl .b (x.2.1.2.1.2.2.2.1.2.1.2.1.map Enc.b), .sl .b (x.2.1.2.1.2.2.2.1.2.1.2.2.1.map Enc.b)]]]], .bool x.2.2.1, .bool x.2.2.2.1], .int .i64 b] [] (.int .i64 (Enc.sz x b)) := by
  refine CallR.of_body (n := 12) (rs := [.tmp 4]) hY.ok Try.func178 rfl (by decide) rfl rfl rfl rfl (fun F => ?_)
  have fx := And.intro Y1 (And.intro Y3 (And.intro Y4 (And.intro Y27 (And.intro Y65 (And.intro Y67 (And.intro Y68 (And.intro Y70 (Y215))))))))
  have hC1 := cx [] (laws_szPage_ok x.2.1 b hx.2.1 h0 h1)
  have fy := Nat.add_zero
  refine goN ?_ ?_ ?_ ?_ ?_ ?_ ?_ ?_ ?_ ?_ ?_ ?_ ?_ ?_ ?_ ?_
  any_goals (first | exact True.intro | skip)
  skip
  refine SW.cond rfl (fun hc0 => ?_) (fun hc0 => ?_)
  · have hc0' : Enc.sz x.2.1 b < 0 := by simpa using hc0
    have fy := Nat.add_zero
    refine goK ?_ ?_ ?_ ?_ ?_ ?_ ?_ ?_ ?_ ?_ ?_ ?_ ?_ ?_ ?_ ?_
    any_goals (first | exact True.intro | skip)
    all_goals (repeat (refine Wh.mk fun hcc => ?_))
    all_goals (have hv : Enc.sz x b = -1 := by show EncL.sz x b = -1; simp [szl_prod, szl_unit, flat_int, flat_bool, flat_list, flat_prod, flatl_prod, flatl_unit, hc0'])
    all_goals simp only [tupOf, fixEs, hv]
  have hn0 : ¬ Enc.sz x.2.1 b < 0 := by simpa using hc0
  have h0_1 : 0 ≤ Enc.sz x.2.1 b := by omega
  have h1_1 : Enc.sz x.2.1 b ≤ 1048576 := by have := Enc.szLe x.2.1 b h0; omega
  have fy := Nat.add_zero
  refine goK ?_ ?_ ?_ ?_ ?_ ?_ ?_ ?_ ?_ ?_ ?_ ?_ ?_ ?_ ?_ ?_
  any_goals (first | exact True.intro | skip)
  all_goals (repeat (refine Wh.mk fun hcc => ?_))
  all_goals (have hv : Enc.sz x b = (Enc.sz x.2.1 b) := by show EncL.sz x b = _; simp [szl_prod, szl_unit, flat_int, flat_bool, flat_list, flat_prod, flatl_prod, flatl_unit, hn0])
  all_goals simp only [tupOf, fixEs, hv]
theorem laws_szSeatS_ok (l : List ((Int × ((Int × ((((Bool × ((Int × (List Int) × (List Int) × Unit)) × Unit)) × ((Bool × ((Int × (List Int) × (List Int) × Unit)) × Unit)) × ((Bool × ((Int × (List Int) × (List Int) × Unit)) × Unit)) × ((Bool × ((Int × (List Int) × (List Int) × Unit)) × Unit)) × Unit)) × Unit)) × Bool × Bool × Unit))) (b : Int) (hl : Enc.lim maxLen l) (h0 : 0 ≤ b) (h1 : b ≤ 1048576) : CallR Try.prog 152 [.sl .b (l.map Enc.b), .int .i64 b] [] (.int .i64 (Enc.sz l b)) := by
  refine CallR.of_body (n := 27) (rs := [.tmp 4]) hY.ok Try.func152 rfl (by decide) rfl rfl rfl rfl (fun F => ?_)
  have fx := And.intro Y3 (And.intro Y4 (And.intro Y27 (And.intro Y65 (And.intro Y67 (And.intro Y68 (And.intro Y70 (And.intro Y72 (Y215))))))))
  have hm : l.length ≤ 9223372036854775807 := hl.1
  have hw : IntKind.i64.wrap (b - l.length) = b - l.length := wrap64 _ (by omega) (by omega)
  have fy := hw
  refine goN ?_ ?_ ?_ ?_ ?_ ?_ ?_ ?_ ?_ ?_ ?_ ?_ ?_ ?_ ?_ ?_
  any_goals (first | exact True.intro | skip)
  skip
  refine SW.cond rfl (fun hc => ?_) (fun hc => ?_)
  · have hc' : b - (l.length : Int) < 0 := by simpa using hc
    have fy := hw
    refine goK ?_ ?_ ?_ ?_ ?_ ?_ ?_ ?_ ?_ ?_ ?_ ?_ ?_ ?_ ?_ ?_
    any_goals (first | exact True.intro | skip)
    all_goals (repeat (refine Wh.mk fun hcc => ?_))
    all_goals (simp only [tupOf, fixEs, sz_list, if_pos hc'])
  have hn : ¬ b - (l.length : Int) < 0 := by simpa using hc
  have hsz : Enc.sz l b = szFold l (b - l.length) := by rw [sz_list, if_neg hn]; rfl
  have fy := hw
  refine goN ?_ ?_ ?_ ?_ ?_ ?_ ?_ ?_ ?_ ?_ ?_ ?_ ?_ ?_ ?_ ?_
  any_goals (first | exact True.intro | skip)
  skip
  refine SW.loop (fun x : Nat × Int => ⟨[.sl .b (l.map Enc.b), .int .i64 x.2, .undef, .undef, .undef, .int .i64 x.1, .undef, .undef, .undef, .undef, .undef, .undef, .undef, .undef, .undef, .undef, .undef, .undef, .undef, .undef, .undef, .undef, .undef, .undef, .undef, .undef, .undef], [[]]⟩)
    (fun n x => n = l.length - x.1 ∧ x.1 ≤ l.length ∧ szFold (l.drop x.1) x.2 = szFold l (b - l.length) ∧ 0 ≤ x.2 ∧ x.2 ≤ 1048576) (n := l.length) (x := (0, b - l.length)) (Norm.to 0 rfl (by simp [weakL])) ⟨rfl, Nat.zero_le _, rfl, by omega, by omega⟩ ?_
  rintro n ⟨i, y⟩ ⟨hn', hi, hfd, hy0, hy1⟩
  simp only at hn' hi hfd hy0 hy1 ⊢
  have fy := Nat.add_zero
  refine goS ?_
  refine SW.cond rfl (fun hc2 => ?_) (fun hc2 => ?_)
  · have hlt : i < l.length := by simpa using hc2
    have hg : (l.map Enc.b)[i]? = some (.nd [.int .i64 l[i].1, .nd [.int .i64 l[i].2.1.1, .nd [.nd [.bool l[i].2.1.2.1.1.1, .nd [.int .i64 l[i].2.1.2.1.1.2.1.1, .sl .b (l[i].2.1.2.1.1.2.1.2.1.map Enc.b), .sl .b (l[i].2.1.2.1.1.2.1.2.2.1.map Enc.b)]], .nd [.bool l[i].2.1.2.1.2.1.1, .nd [.int .i64 l[i].2.1.2.1.2.1.2.1.1, .sl .b (l[i].2.1.2.1.2.1.2.1.2.1.map Enc.b), .sl .b (l[i].2.1.2.1.2.1.2.1.2.2.1.map Enc.b)]], .nd [.bool l[i].2.1.2.1.2.2.1.1, .nd [.int .i64 l[i].2.1.2.1.2.2.1.2.1.1, .sl .b (l[i].2.1.2.1.2.2.1.2.1.2.1.map Enc.b), .sl .b (l[i].2.1.2.1.2.2.1.2.1.2.2.1.map Enc.b)]], .nd [.bool l[i].2.1.2.1.2.2.2.1.1, .nd [.int .i64 l[i].2.1.2.1.2.2.2.1.2.1.1, .sl .b (l[i].2.1.2.1.2.2.2.1.2.1.2.1.map Enc.b), .sl .b (l[i].2.1.2.1.2.2.2.1.2.1.2.2.1.map Enc.b)]]]], .bool l[i].2.2.1, .bool l[i].2.2.2.1]) := map_get Enc.b l i hlt
    have hd : l.drop i = l[i] :: l.drop (i + 1) := List.drop_eq_getElem_cons hlt
    rw [hd] at hfd
    have hC1 := cx [] (laws_szSeat_ok l[i] y (hl.2 _ (List.getElem_mem hlt)) hy0 hy1)
    have fy := hg
    refine goK ?_ ?_ ?_ ?_ ?_ ?_ ?_ ?_ ?_ ?_ ?_ ?_ ?_ ?_ ?_ ?_
    any_goals (first | exact True.intro | skip)
    all_goals (repeat (refine Wh.mk fun hcc => ?_))
    · have hx := hcc
      have hx' : Enc.sz l[i] y < 0 := by simpa using hx
      simp only [szFold, if_pos hx'] at hfd
      simp only [tupOf, fixEs, hsz, ← hfd]
    · have hx := hcc
      have hx' : ¬ Enc.sz l[i] y < 0 := by simpa using hx
      simp only [szFold, if_neg hx'] at hfd
      refine ⟨n - 1, (i + 1, Enc.sz l[i] y), by omega, ⟨by simp only; omega, by simp only; omega, hfd, by simp only; omega, by have := Enc.szLe l[i] y hy0; simp only; omega⟩, ?_⟩
      rw [wrap64 _ (by omega) (by omega)]
      first | exact Norm.to 0 rfl (by simp [weakL]) | exact Norm.to 1 rfl (by simp [weakL]) | exact Norm.to 2 rfl (by simp [weakL])
  · have hge : i = l.length := by
      have : ¬ i < l.length := by simpa using hc2
      omega
    rw [hge, List.drop_length] at hfd
    simp only [szFold] at hfd
    have fy := Nat.add_zero
    refine goK ?_ ?_ ?_ ?_ ?_ ?_ ?_ ?_ ?_ ?_ ?_ ?_ ?_ ?_ ?_ ?_
    any_goals (first | exact True.intro | skip)
    all_goals (repeat (refine Wh.mk fun hcc => ?_))
    simp only [tupOf, fixEs, hsz, ← hfd]
theorem laws_szPool_ok (x : ((List ((Int × ((Int × ((((Bool × ((Int × (List Int) × (List Int) × Unit)) × Unit)) × ((Bool × ((Int × (List Int) × (List Int) × Unit)) × Unit)) × ((Bool × ((Int × (List Int) × (List Int) × Unit)) × Unit)) × ((Bool × ((Int × (List Int) × (List Int) × Unit)) × Unit)) × Unit)) × Unit)) × Bool × Bool × Unit))) × Int × Unit)) (b : Int) (hx : Enc.lim maxLen x) (h0 : 0 ≤ b) (h1 : b ≤ 1048576) : CallR Try.prog 97 [.nd [.sl .b (x.1.map Enc.b), .int .i64 x.2.1], .int .i64 b] [] (.int .i64 (Enc.sz x b)) := by
  refine CallR.of_body (n := 12) (rs := [.tmp 4]) hY.ok Try.func97 rfl (by decide) rfl rfl rfl rfl (fun F => ?_)
  have fx := And.intro Y3 (And.intro Y4 (And.intro Y27 (And.intro Y65 (And.intro Y67 (And.intro Y68 (And.intro Y70 (And.intro Y72 (And.intro Y74 (Y215)))))))))
  have hC1 := cx [] (laws_szSeatS_ok x.1 b hx.1 h0 h1)
  have fy := Nat.add_zero
  refine goN ?_ ?_ ?_ ?_ ?_ ?_ ?_ ?_ ?_ ?_ ?_ ?_ ?_ ?_ ?_ ?_
  any_goals (first | exact True.intro | skip)
  skip
  refine SW.cond rfl (fun hc0 => ?_) (fun hc0 => ?_)
  · have hc0' : Enc.sz x.1 b < 0 := by simpa using hc0
    have fy := Nat.add_zero
    refine goK ?_ ?_ ?_ ?_ ?_ ?_ ?_ ?_ ?_ ?_ ?_ ?_ ?_ ?_ ?_ ?_
    any_goals (first | exact True.intro | skip)
    all_goals (repeat (refine Wh.mk fun hcc => ?_))
    all_goals (have hv : Enc.sz x b = -1 := by show EncL.sz x b = -1; simp [szl_prod, szl_unit, flat_int, flat_bool, flat_list, flat_prod, flatl_prod, flatl_unit, hc0'])
    all_goals simp only [tupOf, fixEs, hv]
  have hn0 : ¬ Enc.sz x.1 b < 0 := by simpa using hc0
  have h0_1 : 0 ≤ Enc.sz x.1 b := by omega
  have h1_1 : Enc.sz x.1 b ≤ 1048576 := by have := Enc.szLe x.1 b h0; omega
  have fy := Nat.add_zero
  refine goK ?_ ?_ ?_ ?_ ?_ ?_ ?_ ?_ ?_ ?_ ?_ ?_ ?_ ?_ ?_ ?_
  any_goals (first | exact True.intro | skip)
  all_goals (repeat (refine Wh.mk fun hcc => ?_))
  all_goals (have hv : Enc.sz x b = (Enc.sz x.1 b) := by show EncL.sz x b = _; simp [szl_prod, szl_unit, flat_int, flat_bool, flat_list, flat_prod, flatl_prod, flatl_unit, hn0])
  all_goals simp only [tupOf, fixEs, hv]
theorem laws_szLiveS_ok (l : List ((Int × Int × Bool × Unit))) (b : Int) (hl : Enc.lim maxLen l) (h0 : 0 ≤ b) (h1 : b ≤ 1048576) : CallR Try.prog 99 [.sl .b (l.map Enc.b), .int .i64 b] [] (.int .i64 (Enc.sz l b)) := by
  refine CallR.of_body (n := 12) (rs := [.tmp 4]) hY.ok Try.func99 rfl (by decide) rfl rfl rfl rfl (fun F => ?_)
  have fx := And.intro Y3 (And.intro Y4 (And.intro Y78 (Y199)))
  have hm : l.length ≤ 9223372036854775807 := hl.1
  have hw : IntKind.i64.wrap (b - l.length) = b - l.length := wrap64 _ (by omega) (by omega)
  have fy := hw
  refine goN ?_ ?_ ?_ ?_ ?_ ?_ ?_ ?_ ?_ ?_ ?_ ?_ ?_ ?_ ?_ ?_
  any_goals (first | exact True.intro | skip)
  skip
  refine SW.cond rfl (fun hc => ?_) (fun hc => ?_)
  · have hc' : b - (l.length : Int) < 0 := by simpa using hc
    have fy := hw
    refine goK ?_ ?_ ?_ ?_ ?_ ?_ ?_ ?_ ?_ ?_ ?_ ?_ ?_ ?_ ?_ ?_
    any_goals (first | exact True.intro | skip)
    all_goals (repeat (refine Wh.mk fun hcc => ?_))
    all_goals (simp only [tupOf, fixEs, sz_list, if_pos hc'])
  have hn : ¬ b - (l.length : Int) < 0 := by simpa using hc
  have fy := hw
  refine goK ?_ ?_ ?_ ?_ ?_ ?_ ?_ ?_ ?_ ?_ ?_ ?_ ?_ ?_ ?_ ?_
  any_goals (first | exact True.intro | skip)
  all_goals (repeat (refine Wh.mk fun hcc => ?_))
  all_goals (simp only [tupOf, fixEs, sz_list, if_neg hn]; rfl)
theorem laws_szHoldS_ok (l : List ((Int × Int × Unit))) (b : Int) (hl : Enc.lim maxLen l) (h0 : 0 ≤ b) (h1 : b ≤ 1048576) : CallR Try.prog 100 [.sl .b (l.map Enc.b), .int .i64 b] [] (.int .i64 (Enc.sz l b)) := by
  refine CallR.of_body (n := 12) (rs := [.tmp 4]) hY.ok Try.func100 rfl (by decide) rfl rfl rfl rfl (fun F => ?_)
  have fx := And.intro Y3 (And.intro Y4 (And.intro Y79 (Y201)))
  have hm : l.length ≤ 9223372036854775807 := hl.1
  have hw : IntKind.i64.wrap (b - l.length) = b - l.length := wrap64 _ (by omega) (by omega)
  have fy := hw
  refine goN ?_ ?_ ?_ ?_ ?_ ?_ ?_ ?_ ?_ ?_ ?_ ?_ ?_ ?_ ?_ ?_
  any_goals (first | exact True.intro | skip)
  skip
  refine SW.cond rfl (fun hc => ?_) (fun hc => ?_)
  · have hc' : b - (l.length : Int) < 0 := by simpa using hc
    have fy := hw
    refine goK ?_ ?_ ?_ ?_ ?_ ?_ ?_ ?_ ?_ ?_ ?_ ?_ ?_ ?_ ?_ ?_
    any_goals (first | exact True.intro | skip)
    all_goals (repeat (refine Wh.mk fun hcc => ?_))
    all_goals (simp only [tupOf, fixEs, sz_list, if_pos hc'])
  have hn : ¬ b - (l.length : Int) < 0 := by simpa using hc
  have fy := hw
  refine goK ?_ ?_ ?_ ?_ ?_ ?_ ?_ ?_ ?_ ?_ ?_ ?_ ?_ ?_ ?_ ?_
  any_goals (first | exact True.intro | skip)
  all_goals (repeat (refine Wh.mk fun hcc => ?_))
  all_goals (simp only [tupOf, fixEs, sz_list, if_neg hn]; rfl)
theorem laws_szRec_ok (x : (Int × Int × Int × Int × Int × ((Bool × ((Int × (List Int) × (List Int) × Unit)) × Unit)) × ((Bool × ((Int × (List Int) × (List Int) × Unit)) × Unit)) × Int × (List ((Int × Int × Bool × Unit))) × Unit)) (b : Int) (hx : Enc.lim maxLen x) (h0 : 0 ≤ b) (h1 : b ≤ 1048576) : CallR Try.prog 179 [.nd [.int .i64 x.1, .int .i64 x.2.1, .int .i64 x.2.2.1, .int .i64 x.2.2.2.1, .int .i64 x.2.2.2.2.1, .nd [.bool x.2.2.2.2.2.1.1, .nd [.int .i64 x.2.2.2.2.2.1.2.1.1, .sl .b (x.2.2.2.2.2.1.2.1.2.1.map Enc.b), .sl .b (x.2.2.2.2.2.1.2.1.2.2.1.map Enc.b)]], .nd [.bool x.2.2.2.2.2.2.1.1, .nd [.int .i64 x.2.2.2.2.2.2.1.2.1.1, .sl .b (x.2.2.2.2.2.2.1.2.1.2.1.map Enc.b), .sl .b (x.2.2.2.2.2.2.1.2.1.2.2.1.map Enc.b)]], .int .i64 x.2.2.2.2.2.2.2.1, .sl .b (x.2.2.2.2.2.2.2.2.1.map Enc.b)], .int .i64 b] [] (.int .i64 (Enc.sz x b)) := by
  refine CallR.of_body (n := 24) (rs := [.tmp 4]) hY.ok Try.func179 rfl (by decide) rfl rfl rfl rfl (fun F => ?_)
  have fx := And.intro Y2 (And.intro Y3 (And.intro Y4 (And.intro Y5 (And.intro Y6 (And.intro Y8 (And.intro Y27 (And.intro Y65 (And.intro Y67 (And.intro Y78 (And.intro Y199 (Y218)))))))))))
  have hC1 := cx [] (laws_szSlot_ok x.2.2.2.2.2.1 b hx.2.2.2.2.2.1 h0 h1)
  have fy := Nat.add_zero
  refine goN ?_ ?_ ?_ ?_ ?_ ?_ ?_ ?_ ?_ ?_ ?_ ?_ ?_ ?_ ?_ ?_
  any_goals (first | exact True.intro | skip)
  skip
  refine SW.cond rfl (fun hc0 => ?_) (fun hc0 => ?_)
  · have hc0' : Enc.sz x.2.2.2.2.2.1 b < 0 := by simpa using hc0
    have fy := Nat.add_zero
    refine goK ?_ ?_ ?_ ?_ ?_ ?_ ?_ ?_ ?_ ?_ ?_ ?_ ?_ ?_ ?_ ?_
    any_goals (first | exact True.intro | skip)
    all_goals (repeat (refine Wh.mk fun hcc => ?_))
    all_goals (have hv : Enc.sz x b = -1 := by show EncL.sz x b = -1; simp [szl_prod, szl_unit, flat_int, flat_bool, flat_list, flat_prod, flatl_prod, flatl_unit, hc0'])
    all_goals simp only [tupOf, fixEs, hv]
  have hn0 : ¬ Enc.sz x.2.2.2.2.2.1 b < 0 := by simpa using hc0
  have h0_1 : 0 ≤ Enc.sz x.2.2.2.2.2.1 b := by omega
  have h1_1 : Enc.sz x.2.2.2.2.2.1 b ≤ 1048576 := by have := Enc.szLe x.2.2.2.2.2.1 b h0; omega
  have hC1 := cx [] (laws_szSlot_ok x.2.2.2.2.2.2.1 (Enc.sz x.2.2.2.2.2.1 b) hx.2.2.2.2.2.2.1 h0_1 h1_1)
  have fy := Nat.add_zero
  refine goN ?_ ?_ ?_ ?_ ?_ ?_ ?_ ?_ ?_ ?_ ?_ ?_ ?_ ?_ ?_ ?_
  any_goals (first | exact True.intro | skip)
  skip
  refine SW.cond rfl (fun hc1 => ?_) (fun hc1 => ?_)
  · have hc1' : Enc.sz x.2.2.2.2.2.2.1 (Enc.sz x.2.2.2.2.2.1 b) < 0 := by simpa using hc1
    have fy := Nat.add_zero
    refine goK ?_ ?_ ?_ ?_ ?_ ?_ ?_ ?_ ?_ ?_ ?_ ?_ ?_ ?_ ?_ ?_
    any_goals (first | exact True.intro | skip)
    all_goals (repeat (refine Wh.mk fun hcc => ?_))
    all_goals (have hv : Enc.sz x b = -1 := by show EncL.sz x b = -1; simp [szl_prod, szl_unit, flat_int, flat_bool, flat_list, flat_prod, flatl_prod, flatl_unit, hn0, hc1'])
    all_goals simp only [tupOf, fixEs, hv]
  have hn1 : ¬ Enc.sz x.2.2.2.2.2.2.1 (Enc.sz x.2.2.2.2.2.1 b) < 0 := by simpa using hc1
  have h0_2 : 0 ≤ Enc.sz x.2.2.2.2.2.2.1 (Enc.sz x.2.2.2.2.2.1 b) := by omega
  have h1_2 : Enc.sz x.2.2.2.2.2.2.1 (Enc.sz x.2.2.2.2.2.1 b) ≤ 1048576 := by have := Enc.szLe x.2.2.2.2.2.2.1 (Enc.sz x.2.2.2.2.2.1 b) h0_1; omega
  have hC1 := cx [] (laws_szLiveS_ok x.2.2.2.2.2.2.2.2.1 (Enc.sz x.2.2.2.2.2.2.1 (Enc.sz x.2.2.2.2.2.1 b)) hx.2.2.2.2.2.2.2.2.1 h0_2 h1_2)
  have fy := Nat.add_zero
  refine goN ?_ ?_ ?_ ?_ ?_ ?_ ?_ ?_ ?_ ?_ ?_ ?_ ?_ ?_ ?_ ?_
  any_goals (first | exact True.intro | skip)
  skip
  refine SW.cond rfl (fun hc2 => ?_) (fun hc2 => ?_)
  · have hc2' : Enc.sz x.2.2.2.2.2.2.2.2.1 (Enc.sz x.2.2.2.2.2.2.1 (Enc.sz x.2.2.2.2.2.1 b)) < 0 := by simpa using hc2
    have fy := Nat.add_zero
    refine goK ?_ ?_ ?_ ?_ ?_ ?_ ?_ ?_ ?_ ?_ ?_ ?_ ?_ ?_ ?_ ?_
    any_goals (first | exact True.intro | skip)
    all_goals (repeat (refine Wh.mk fun hcc => ?_))
    all_goals (have hv : Enc.sz x b = -1 := by show EncL.sz x b = -1; simp [szl_prod, szl_unit, flat_int, flat_bool, flat_list, flat_prod, flatl_prod, flatl_unit, hn0, hn1, hc2'])
    all_goals simp only [tupOf, fixEs, hv]
  have hn2 : ¬ Enc.sz x.2.2.2.2.2.2.2.2.1 (Enc.sz x.2.2.2.2.2.2.1 (Enc.sz x.2.2.2.2.2.1 b)) < 0 := by simpa using hc2
  have h0_3 : 0 ≤ Enc.sz x.2.2.2.2.2.2.2.2.1 (Enc.sz x.2.2.2.2.2.2.1 (Enc.sz x.2.2.2.2.2.1 b)) := by omega
  have h1_3 : Enc.sz x.2.2.2.2.2.2.2.2.1 (Enc.sz x.2.2.2.2.2.2.1 (Enc.sz x.2.2.2.2.2.1 b)) ≤ 1048576 := by have := Enc.szLe x.2.2.2.2.2.2.2.2.1 (Enc.sz x.2.2.2.2.2.2.1 (Enc.sz x.2.2.2.2.2.1 b)) h0_2; omega
  have fy := Nat.add_zero
  refine goK ?_ ?_ ?_ ?_ ?_ ?_ ?_ ?_ ?_ ?_ ?_ ?_ ?_ ?_ ?_ ?_
  any_goals (first | exact True.intro | skip)
  all_goals (repeat (refine Wh.mk fun hcc => ?_))
  all_goals (have hv : Enc.sz x b = (Enc.sz x.2.2.2.2.2.2.2.2.1 (Enc.sz x.2.2.2.2.2.2.1 (Enc.sz x.2.2.2.2.2.1 b))) := by show EncL.sz x b = _; simp [szl_prod, szl_unit, flat_int, flat_bool, flat_list, flat_prod, flatl_prod, flatl_unit, hn0, hn1, hn2])
  all_goals simp only [tupOf, fixEs, hv]
theorem laws_szRecS_ok (l : List ((Int × Int × Int × Int × Int × ((Bool × ((Int × (List Int) × (List Int) × Unit)) × Unit)) × ((Bool × ((Int × (List Int) × (List Int) × Unit)) × Unit)) × Int × (List ((Int × Int × Bool × Unit))) × Unit))) (b : Int) (hl : Enc.lim maxLen l) (h0 : 0 ≤ b) (h1 : b ≤ 1048576) : CallR Try.prog 153 [.sl .b (l.map Enc.b), .int .i64 b] [] (.int .i64 (Enc.sz l b)) := by
  refine CallR.of_body (n := 27) (rs := [.tmp 4]) hY.ok Try.func153 rfl (by decide) rfl rfl rfl rfl (fun F => ?_)
  have fx := And.intro Y3 (And.intro Y4 (And.intro Y27 (And.intro Y65 (And.intro Y67 (And.intro Y75 (And.intro Y78 (And.intro Y199 (Y218))))))))
  have hm : l.length ≤ 9223372036854775807 := hl.1
  have hw : IntKind.i64.wrap (b - l.length) = b - l.length := wrap64 _ (by omega) (by omega)
  have fy := hw
  refine goN ?_ ?_ ?_ ?_ ?_ ?_ ?_ ?_ ?_ ?_ ?_ ?_ ?_ ?_ ?_ ?_
  any_goals (first | exact True.intro | skip)
  skip
  refine SW.cond rfl (fun hc => ?_) (fun hc => ?_)
  · have hc' : b - (l.length : Int) < 0 := by simpa using hc
    have fy := hw
    refine goK ?_ ?_ ?_ ?_ ?_ ?_ ?_ ?_ ?_ ?_ ?_ ?_ ?_ ?_ ?_ ?_
    any_goals (first | exact True.intro | skip)
    all_goals (repeat (refine Wh.mk fun hcc => ?_))
    all_goals (simp only [tupOf, fixEs, sz_list, if_pos hc'])
  have hn : ¬ b - (l.length : Int) < 0 := by simpa using hc
  have hsz : Enc.sz l b = szFold l (b - l.length) := by rw [sz_list, if_neg hn]; rfl
  have fy := hw
  refine goN ?_ ?_ ?_ ?_ ?_ ?_ ?_ ?_ ?_ ?_ ?_ ?_ ?_ ?_ ?_ ?_
  any_goals (first | exact True.intro | skip)
  skip
  refine SW.loop (fun x : Nat × Int => ⟨[.sl .b (l.map Enc.b), .int .i64 x.2, .undef, .undef, .undef, .int .i64 x.1, .undef, .undef, .undef, .undef, .undef, .undef, .undef, .undef, .undef, .undef, .undef, .undef, .undef, .undef, .undef, .undef, .undef, .undef, .undef, .undef, .undef], [[]]⟩)
    (fun n x => n = l.length - x.1 ∧ x.1 ≤ l.length ∧ szFold (l.drop x.1) x.2 = szFold l (b - l.length) ∧ 0 ≤ x.2 ∧ x.2 ≤ 1048576) (n := l.length) (x := (0, b - l.length)) (Norm.to 0 rfl (by simp [weakL])) ⟨rfl, Nat.zero_le _, rfl, by omega, by omega⟩ ?_
  rintro n ⟨i, y⟩ ⟨hn', hi, hfd, hy0, hy1⟩
  simp only at hn' hi hfd hy0 hy1 ⊢
  have fy := Nat.add_zero
  refine goS ?_
  refine SW.cond rfl (fun hc2 => ?_) (fun hc2 => ?_)
  · have hlt : i < l.length := by simpa using hc2
    have hg : (l.map Enc.b)[i]? = some (.nd [.int .i64 l[i].1, .int .i64 l[i].2.1, .int .i64 l[i].2.2.1, .int .i64 l[i].2.2.2.1, .int .i64 l[i].2.2.2.2.1, .nd [.bool l[i].2.2.2.2.2.1.1, .nd [.int .i64 l[i].2.2.2.2.2.1.2.1.1, .sl .b (l[i].2.2.2.2.2.1.2.1.2.1.map Enc.b), .sl .b (l[i].2.2.2.2.2.1.2.1.2.2.1.map Enc.b)]], .nd [.bool l[i].2.2.2.2.2.2.1.1, .nd [.int .i64 l[i].2.2.2.2.2.2.1.2.1.1, .sl .b (l[i].2.2.2.2.2.2.1.2.1.2.1.map Enc.b), .sl .b (l[i].2.2.2.2.2.2.1.2.1.2.2.1.map Enc.b)]], .int .i64 l[i].2.2.2.2.2.2.2.1, .sl .b (l[i].2.2.2.2.2.2.2.2.1.map Enc.b)]) := map_get Enc.b l i hlt
    have hd : l.drop i = l[i] :: l.drop (i + 1) := List.drop_eq_getElem_cons hlt
    rw [hd] at hfd
    have hC1 := cx [] (laws_szRec_ok l[i] y (hl.2 _ (List.getElem_mem hlt)) hy0 hy1)
    have fy := hg
    refine goK ?_ ?_ ?_ ?_ ?_ ?_ ?_ ?_ ?_ ?_ ?_ ?_ ?_ ?_ ?_ ?_
    any_goals (first | exact True.intro | skip)
    all_goals (repeat (refine Wh.mk fun hcc => ?_))
    · have hx := hcc
      have hx' : Enc.sz l[i] y < 0 := by simpa using hx
      simp only [szFold, if_pos hx'] at hfd
      simp only [tupOf, fixEs, hsz, ← hfd]
    · have hx := hcc
      have hx' : ¬ Enc.sz l[i] y < 0 := by simpa using hx
      simp only [szFold, if_neg hx'] at hfd
      refine ⟨n - 1, (i + 1, Enc.sz l[i] y), by omega, ⟨by simp only; omega, by simp only; omega, hfd, by simp only; omega, by have := Enc.szLe l[i] y hy0; simp only; omega⟩, ?_⟩
      rw [wrap64 _ (by omega) (by omega)]
      first | exact Norm.to 0 rfl (by simp [weakL]) | exact Norm.to 1 rfl (by simp [weakL]) | exact Norm.to 2 rfl (by simp [weakL])
  · have hge : i = l.length := by
      have : ¬ i < l.length := by simpa using hc2
      omega
    rw [hge, List.drop_length] at hfd
    simp only [szFold] at hfd
    have fy := Nat.add_zero
    refine goK ?_ ?_ ?_ ?_ ?_ ?_ ?_ ?_ ?_ ?_ ?_ ?_ ?_ ?_ ?_ ?_
    any_goals (first | exact True.intro | skip)
    all_goals (repeat (refine Wh.mk fun hcc => ?_))
    simp only [tupOf, fixEs, hsz, ← hfd]
theorem laws_szLog_ok (x : ((List ((Int × Int × Int × Int × Int × ((Bool × ((Int × (List Int) × (List Int) × Unit)) × Unit)) × ((Bool × ((Int × (List Int) × (List Int) × Unit)) × Unit)) × Int × (List ((Int × Int × Bool × Unit))) × Unit))) × Int × Unit)) (b : Int) (hx : Enc.lim maxLen x) (h0 : 0 ≤ b) (h1 : b ≤ 1048576) : CallR Try.prog 98 [.nd [.sl .b (x.1.map Enc.b), .int .i64 x.2.1], .int .i64 b] [] (.int .i64 (Enc.sz x b)) := by
  refine CallR.of_body (n := 12) (rs := [.tmp 4]) hY.ok Try.func98 rfl (by decide) rfl rfl rfl rfl (fun F => ?_)
  have fx := And.intro Y3 (And.intro Y4 (And.intro Y27 (And.intro Y65 (And.intro Y67 (And.intro Y75 (And.intro Y77 (And.intro Y78 (And.intro Y199 (Y218)))))))))
  have hC1 := cx [] (laws_szRecS_ok x.1 b hx.1 h0 h1)
  have fy := Nat.add_zero
  refine goN ?_ ?_ ?_ ?_ ?_ ?_ ?_ ?_ ?_ ?_ ?_ ?_ ?_ ?_ ?_ ?_
  any_goals (first | exact True.intro | skip)
  skip
  refine SW.cond rfl (fun hc0 => ?_) (fun hc0 => ?_)
  · have hc0' : Enc.sz x.1 b < 0 := by simpa using hc0
    have fy := Nat.add_zero
    refine goK ?_ ?_ ?_ ?_ ?_ ?_ ?_ ?_ ?_ ?_ ?_ ?_ ?_ ?_ ?_ ?_
    any_goals (first | exact True.intro | skip)
    all_goals (repeat (refine Wh.mk fun hcc => ?_))
    all_goals (have hv : Enc.sz x b = -1 := by show EncL.sz x b = -1; simp [szl_prod, szl_unit, flat_int, flat_bool, flat_list, flat_prod, flatl_prod, flatl_unit, hc0'])
    all_goals simp only [tupOf, fixEs, hv]
  have hn0 : ¬ Enc.sz x.1 b < 0 := by simpa using hc0
  have h0_1 : 0 ≤ Enc.sz x.1 b := by omega
  have h1_1 : Enc.sz x.1 b ≤ 1048576 := by have := Enc.szLe x.1 b h0; omega
  have fy := Nat.add_zero
  refine goK ?_ ?_ ?_ ?_ ?_ ?_ ?_ ?_ ?_ ?_ ?_ ?_ ?_ ?_ ?_ ?_
  any_goals (first | exact True.intro | skip)
  all_goals (repeat (refine Wh.mk fun hcc => ?_))
  all_goals (have hv : Enc.sz x b = (Enc.sz x.1 b) := by show EncL.sz x b = _; simp [szl_prod, szl_unit, flat_int, flat_bool, flat_list, flat_prod, flatl_prod, flatl_unit, hn0])
  all_goals simp only [tupOf, fixEs, hv]
end Q6

namespace Q6
open Go Go.Vm Go.Proofs
set_option maxHeartbeats 4000000
set_option synthInstance.maxSize 2000
set_option synthInstance.maxHeartbeats 400000
set_option maxRecDepth 10000
set_option linter.unusedSimpArgs false
set_option linter.unusedVariables false

set_option synthInstance.maxHeartbeats 4000000
set_option synthInstance.maxSize 20000
theorem laws_szPageA8_ok (x : (Arr 8 ((Int × ((((Bool × ((Int × (List Int) × (List Int) × Unit)) × Unit)) × ((Bool × ((Int × (List Int) × (List Int) × Unit)) × Unit)) × ((Bool × ((Int × (List Int) × (List Int) × Unit)) × Unit)) × ((Bool × ((Int × (List Int) × (List Int) × Unit)) × Unit)) × Unit)) × Unit)))) (b : Int) (hx : Enc.lim maxLen x) (h0 : 0 ≤ b) (h1 : b ≤ 1048576) : CallR Try.prog 96 [.nd (x.l.map Enc.b), .int .i64 b] [] (.int .i64 (Enc.sz x b)) := by
  refine CallR.of_body (n := 18) (rs := [.tmp 4]) hY.ok Try.func96 rfl (by decide) (by simp [ioSizes, ioSz]) rfl rfl rfl (fun F => ?_)
  have fx := And.intro Y3 (And.intro Y4 (And.intro Y27 (And.intro Y65 (And.intro Y67 (And.intro Y68 (And.intro Y70 (Y71)))))))
  simp only [entryS, thawAL, thawA, thawAL_b, thawAL_tR, List.append_nil, List.nil_append, List.length_nil, Nat.add_zero]
  have hd := (tRfacts x).2.2.2.2
  have hsz : Enc.sz x b = szFold x.l b := rfl
  obtain ⟨l, hl⟩ := x
  simp only at hx hd hsz ⊢
  have fy := And.intro nc4 (And.intro nc8 (And.intro wa (And.intro tn (hd))))
  refine goN ?_ ?_ ?_ ?_ ?_ ?_ ?_ ?_ ?_ ?_ ?_ ?_ ?_ ?_ ?_ ?_
  any_goals (first | exact True.intro | skip)
  skip
  refine SW.loop (fun x : Nat × Int => ⟨[.undef, .int .i64 x.2, .ptr 1 0 [] 0, .undef, .undef, .int .i64 x.1, .undef, .undef, .undef, .undef, .undef, .undef, .undef, .undef, .undef, .undef, .undef, .undef], [[], [.var (.nd (l.map Enc.b))]]⟩)
    (fun n x => n = 8 - x.1 ∧ x.1 ≤ 8 ∧ szFold (l.drop x.1) x.2 = szFold l b ∧ 0 ≤ x.2 ∧ x.2 ≤ 1048576) (n := 8) (x := (0, b)) (Norm.to 0 rfl (by simp [weakL])) ⟨rfl, Nat.zero_le _, rfl, by omega, by omega⟩ ?_
  rintro n ⟨i, y⟩ ⟨hn', hi, hfd, hy0, hy1⟩
  simp only at hn' hi hfd hy0 hy1 ⊢
  have fy := And.intro nc4 (And.intro nc8 (And.intro wa (tn)))
  refine goS ?_
  refine SW.cond rfl (fun hc2 => ?_) (fun hc2 => ?_)
  · have hlt8 : i < 8 := by simp at hc2; omega
    have hlt : i < l.length := by omega
    have hltI : (i : Int) < 8 := by omega
    have hg : (l.map Enc.b)[i]? = some (.nd [.int .i64 l[i].1, .nd [.nd [.bool l[i].2.1.1.1, .nd [.int .i64 l[i].2.1.1.2.1.1, .sl .b (l[i].2.1.1.2.1.2.1.map Enc.b), .sl .b (l[i].2.1.1.2.1.2.2.1.map Enc.b)]], .nd [.bool l[i].2.1.2.1.1, .nd [.int .i64 l[i].2.1.2.1.2.1.1, .sl .b (l[i].2.1.2.1.2.1.2.1.map Enc.b), .sl .b (l[i].2.1.2.1.2.1.2.2.1.map Enc.b)]], .nd [.bool l[i].2.1.2.2.1.1, .nd [.int .i64 l[i].2.1.2.2.1.2.1.1, .sl .b (l[i].2.1.2.2.1.2.1.2.1.map Enc.b), .sl .b (l[i].2.1.2.2.1.2.1.2.2.1.map Enc.b)]], .nd [.bool l[i].2.1.2.2.2.1.1, .nd [.int .i64 l[i].2.1.2.2.2.1.2.1.1, .sl .b (l[i].2.1.2.2.2.1.2.1.2.1.map Enc.b), .sl .b (l[i].2.1.2.2.2.1.2.1.2.2.1.map Enc.b)]]]]) := map_get Enc.b l i hlt
    have hlm : (l.map (Enc.b : PgT → T)).length = 8 := by simp [hl]
    have hs1 : sizeL (List.take i (l.map (Enc.b : PgT → T))) = i * 17 := sizeL_takeb l i (by omega)
    have hdr : l.drop i = l[i] :: l.drop (i + 1) := List.drop_eq_getElem_cons hlt
    rw [hdr] at hfd
    have hC1 := cx [] (laws_szPage_ok l[i] y (hx _ (List.getElem_mem hlt)) hy0 hy1)
    have fy := And.intro nc4 (And.intro nc8 (And.intro wa (And.intro tn (And.intro hg (And.intro hlm (And.intro hs1 (And.intro hltI (And.intro hlt8 (Nat.zero_add)))))))))
    refine goR ?_ ?_ ?_ ?_ ?_ ?_ ?_ ?_ ?_ ?_ ?_ ?_ ?_ ?_ ?_ ?_
    any_goals (first | exact True.intro | skip)
    all_goals (repeat (refine Wh.mk fun hcc => ?_))
    · have hx' : Enc.sz l[i] y < 0 := by simpa using hcc
      simp only [szFold, if_pos hx'] at hfd
      refine SW.ret (show RetQ _ _ _ _ _ _ _ from RetQ.y [0] [.int .i64 (-1)] (re := ?_))
      simp only [tupOf, fixEs, hsz, ← hfd]
    · have hx' : ¬ Enc.sz l[i] y < 0 := by simpa using hcc
      simp only [szFold, if_neg hx'] at hfd
      refine ⟨n - 1, (i + 1, Enc.sz l[i] y), by omega, ⟨by simp only; omega, by simp only; omega, hfd, by simp only; omega, by have := Enc.szLe l[i] y hy0; simp only; omega⟩, ?_⟩
      rw [wrap64 _ (by omega) (by omega)]
      first | exact Norm.to 0 rfl (by simp [weakL]) | exact Norm.to 1 rfl (by simp [weakL]) | exact Norm.to 2 rfl (by simp [weakL])
  · have hge : i = l.length := by
      simp at hc2; omega
    rw [hge, List.drop_length] at hfd
    simp only [szFold] at hfd
    have fy := And.intro nc4 (And.intro nc8 (And.intro wa (And.intro tn (hd))))
    refine goR ?_ ?_ ?_ ?_ ?_ ?_ ?_ ?_ ?_ ?_ ?_ ?_ ?_ ?_ ?_ ?_
    any_goals (first | exact True.intro | skip)
    all_goals (repeat (refine Wh.mk fun hcc => ?_))
    refine SW.ret (show RetQ _ _ _ _ _ _ _ from RetQ.y [0] [.int .i64 y] (re := ?_))
    simp only [tupOf, fixEs, hsz, ← hfd]
theorem laws_szEngine_ok (x : (((Arr 8 ((Int × ((((Bool × ((Int × (List Int) × (List Int) × Unit)) × Unit)) × ((Bool × ((Int × (List Int) × (List Int) × Unit)) × Unit)) × ((Bool × ((Int × (List Int) × (List Int) × Unit)) × Unit)) × ((Bool × ((Int × (List Int) × (List Int) × Unit)) × Unit)) × Unit)) × Unit)))) × (((List ((Int × ((Int × ((((Bool × ((Int × (List Int) × (List Int) × Unit)) × Unit)) × ((Bool × ((Int × (List Int) × (List Int) × Unit)) × Unit)) × ((Bool × ((Int × (List Int) × (List Int) × Unit)) × Unit)) × ((Bool × ((Int × (List Int) × (List Int) × Unit)) × Unit)) × Unit)) × Unit)) × Bool × Bool × Unit))) × Int × Unit)) × (((List ((Int × Int × Int × Int × Int × ((Bool × ((Int × (List Int) × (List Int) × Unit)) × Unit)) × ((Bool × ((Int × (List Int) × (List Int) × Unit)) × Unit)) × Int × (List ((Int × Int × Bool × Unit))) × Unit))) × Int × Unit)) × (List ((Int × Int × Bool × Unit))) × (List ((Int × Int × Unit))) × Int × Bool × Unit)) (b : Int) (hx : Enc.lim maxLen x) (h0 : 0 ≤ b) (h1 : b ≤ 1048576) : CallR Try.prog 38 [.nd [.nd (x.1.l.map Enc.b), .nd [.sl .b (x.2.1.1.map Enc.b), .int .i64 x.2.1.2.1], .nd [.sl .b (x.2.2.1.1.map Enc.b), .int .i64 x.2.2.1.2.1], .sl .b (x.2.2.2.1.map Enc.b), .sl .b (x.2.2.2.2.1.map Enc.b), .int .i64 x.2.2.2.2.2.1, .bool x.2.2.2.2.2.2.1], .int .i64 b] [] (.int .i64 (Enc.sz x b)) := by
  refine CallR.of_body (n := 36) (rs := [.tmp 4]) hY.ok Try.func38 rfl (by decide) (by simp [ioSizes, ioSz]) rfl rfl rfl (fun F => ?_)
  have fx := And.intro Y1 (And.intro Y2 (And.intro Y3 (And.intro Y4 (And.intro Y27 (And.intro Y65 (And.intro Y67 (And.intro Y68 (And.intro Y70 (And.intro Y71 (And.intro Y72 (And.intro Y74 (And.intro Y75 (And.intro Y77 (And.intro Y78 (And.intro Y79 (And.intro Y81 (And.intro Y199 (And.intro Y201 (And.intro Y215 (Y218))))))))))))))))))))
  simp only [entryS, thawAL, thawA, thawAL_b, thawAL_tR, List.append_nil, List.nil_append, List.length_nil, Nat.add_zero]
  have hd := (tRfacts x.1).2.2.2.2
  have hfa : Enc.flat (Arr 8 (Int × ((((Bool × ((Int × (List Int) × (List Int) × Unit)) × Unit)) × ((Bool × ((Int × (List Int) × (List Int) × Unit)) × Unit)) × ((Bool × ((Int × (List Int) × (List Int) × Unit)) × Unit)) × ((Bool × ((Int × (List Int) × (List Int) × Unit)) × Unit)) × Unit)) × Unit)) = false := rfl
  have hC1 := cx [] (laws_szPageA8_ok x.1 b hx.1 h0 h1)
  have fy := hd
  refine goN ?_ ?_ ?_ ?_ ?_ ?_ ?_ ?_ ?_ ?_ ?_ ?_ ?_ ?_ ?_ ?_
  any_goals (first | exact True.intro | skip)
  skip
  refine SW.cond rfl (fun hc0 => ?_) (fun hc0 => ?_)
  · have hc0' : Enc.sz x.1 b < 0 := by simpa using hc0
    have fy := hd
    refine goR ?_ ?_ ?_ ?_ ?_ ?_ ?_ ?_ ?_ ?_ ?_ ?_ ?_ ?_ ?_ ?_
    any_goals (first | exact True.intro | skip)
    all_goals (repeat (refine Wh.mk fun hcc => ?_))
    refine SW.ret (show RetQ _ _ _ _ _ _ _ from RetQ.y [0] [.int .i64 (-1)] (re := ?_))
    have hv : Enc.sz x b = -1 := by show EncL.sz x b = -1; simp [szl_prod, szl_unit, flat_int, flat_bool, flat_list, flat_prod, flatl_prod, flatl_unit, hfa, hc0']
    simp only [tupOf, fixEs, hv]
  have hn0 : ¬ Enc.sz x.1 b < 0 := by simpa using hc0
  have h0_1 : 0 ≤ (Enc.sz x.1 b) := by omega
  have h1_1 : (Enc.sz x.1 b) ≤ 1048576 := by have := Enc.szLe x.1 b h0; omega
  have hC1 := cx [] (laws_szPool_ok x.2.1 (Enc.sz x.1 b) hx.2.1 h0_1 h1_1)
  have fy := hd
  refine goN ?_ ?_ ?_ ?_ ?_ ?_ ?_ ?_ ?_ ?_ ?_ ?_ ?_ ?_ ?_ ?_
  any_goals (first | exact True.intro | skip)
  skip
  refine SW.cond rfl (fun hc1 => ?_) (fun hc1 => ?_)
  · have hc1' : Enc.sz x.2.1 (Enc.sz x.1 b) < 0 := by simpa using hc1
    have fy := hd
    refine goR ?_ ?_ ?_ ?_ ?_ ?_ ?_ ?_ ?_ ?_ ?_ ?_ ?_ ?_ ?_ ?_
    any_goals (first | exact True.intro | skip)
    all_goals (repeat (refine Wh.mk fun hcc => ?_))
    refine SW.ret (show RetQ _ _ _ _ _ _ _ from RetQ.y [0] [.int .i64 (-1)] (re := ?_))
    have hv : Enc.sz x b = -1 := by show EncL.sz x b = -1; simp [szl_prod, szl_unit, flat_int, flat_bool, flat_list, flat_prod, flatl_prod, flatl_unit, hfa, hn0, hc1']
    simp only [tupOf, fixEs, hv]
  have hn1 : ¬ Enc.sz x.2.1 (Enc.sz x.1 b) < 0 := by simpa using hc1
  have h0_2 : 0 ≤ (Enc.sz x.2.1 (Enc.sz x.1 b)) := by omega
  have h1_2 : (Enc.sz x.2.1 (Enc.sz x.1 b)) ≤ 1048576 := by have := Enc.szLe x.2.1 (Enc.sz x.1 b) h0_1; omega
  have hC1 := cx [] (laws_szLog_ok x.2.2.1 (Enc.sz x.2.1 (Enc.sz x.1 b)) hx.2.2.1 h0_2 h1_2)
  have fy := hd
  refine goN ?_ ?_ ?_ ?_ ?_ ?_ ?_ ?_ ?_ ?_ ?_ ?_ ?_ ?_ ?_ ?_
  any_goals (first | exact True.intro | skip)
  skip
  refine SW.cond rfl (fun hc2 => ?_) (fun hc2 => ?_)
  · have hc2' : Enc.sz x.2.2.1 (Enc.sz x.2.1 (Enc.sz x.1 b)) < 0 := by simpa using hc2
    have fy := hd
    refine goR ?_ ?_ ?_ ?_ ?_ ?_ ?_ ?_ ?_ ?_ ?_ ?_ ?_ ?_ ?_ ?_
    any_goals (first | exact True.intro | skip)
    all_goals (repeat (refine Wh.mk fun hcc => ?_))
    refine SW.ret (show RetQ _ _ _ _ _ _ _ from RetQ.y [0] [.int .i64 (-1)] (re := ?_))
    have hv : Enc.sz x b = -1 := by show EncL.sz x b = -1; simp [szl_prod, szl_unit, flat_int, flat_bool, flat_list, flat_prod, flatl_prod, flatl_unit, hfa, hn0, hn1, hc2']
    simp only [tupOf, fixEs, hv]
  have hn2 : ¬ Enc.sz x.2.2.1 (Enc.sz x.2.1 (Enc.sz x.1 b)) < 0 := by simpa using hc2
  have h0_3 : 0 ≤ (Enc.sz x.2.2.1 (Enc.sz x.2.1 (Enc.sz x.1 b))) := by omega
  have h1_3 : (Enc.sz x.2.2.1 (Enc.sz x.2.1 (Enc.sz x.1 b))) ≤ 1048576 := by have := Enc.szLe x.2.2.1 (Enc.sz x.2.1 (Enc.sz x.1 b)) h0_2; omega
  have hC1 := cx [] (laws_szLiveS_ok x.2.2.2.1 (Enc.sz x.2.2.1 (Enc.sz x.2.1 (Enc.sz x.1 b))) hx.2.2.2.1 h0_3 h1_3)
  have fy := hd
  refine goN ?_ ?_ ?_ ?_ ?_ ?_ ?_ ?_ ?_ ?_ ?_ ?_ ?_ ?_ ?_ ?_
  any_goals (first | exact True.intro | skip)
  skip
  refine SW.cond rfl (fun hc3 => ?_) (fun hc3 => ?_)
  · have hc3' : Enc.sz x.2.2.2.1 (Enc.sz x.2.2.1 (Enc.sz x.2.1 (Enc.sz x.1 b))) < 0 := by simpa using hc3
    have fy := hd
    refine goR ?_ ?_ ?_ ?_ ?_ ?_ ?_ ?_ ?_ ?_ ?_ ?_ ?_ ?_ ?_ ?_
    any_goals (first | exact True.intro | skip)
    all_goals (repeat (refine Wh.mk fun hcc => ?_))
    refine SW.ret (show RetQ _ _ _ _ _ _ _ from RetQ.y [0] [.int .i64 (-1)] (re := ?_))
    have hv : Enc.sz x b = -1 := by show EncL.sz x b = -1; simp [szl_prod, szl_unit, flat_int, flat_bool, flat_list, flat_prod, flatl_prod, flatl_unit, hfa, hn0, hn1, hn2, hc3']
    simp only [tupOf, fixEs, hv]
  have hn3 : ¬ Enc.sz x.2.2.2.1 (Enc.sz x.2.2.1 (Enc.sz x.2.1 (Enc.sz x.1 b))) < 0 := by simpa using hc3
  have h0_4 : 0 ≤ (Enc.sz x.2.2.2.1 (Enc.sz x.2.2.1 (Enc.sz x.2.1 (Enc.sz x.1 b)))) := by omega
  have h1_4 : (Enc.sz x.2.2.2.1 (Enc.sz x.2.2.1 (Enc.sz x.2.1 (Enc.sz x.1 b)))) ≤ 1048576 := by have := Enc.szLe x.2.2.2.1 (Enc.sz x.2.2.1 (Enc.sz x.2.1 (Enc.sz x.1 b))) h0_3; omega
  have hC1 := cx [] (laws_szHoldS_ok x.2.2.2.2.1 (Enc.sz x.2.2.2.1 (Enc.sz x.2.2.1 (Enc.sz x.2.1 (Enc.sz x.1 b)))) hx.2.2.2.2.1 h0_4 h1_4)
  have fy := hd
  refine goN ?_ ?_ ?_ ?_ ?_ ?_ ?_ ?_ ?_ ?_ ?_ ?_ ?_ ?_ ?_ ?_
  any_goals (first | exact True.intro | skip)
  skip
  refine SW.cond rfl (fun hc4 => ?_) (fun hc4 => ?_)
  · have hc4' : Enc.sz x.2.2.2.2.1 (Enc.sz x.2.2.2.1 (Enc.sz x.2.2.1 (Enc.sz x.2.1 (Enc.sz x.1 b)))) < 0 := by simpa using hc4
    have fy := hd
    refine goR ?_ ?_ ?_ ?_ ?_ ?_ ?_ ?_ ?_ ?_ ?_ ?_ ?_ ?_ ?_ ?_
    any_goals (first | exact True.intro | skip)
    all_goals (repeat (refine Wh.mk fun hcc => ?_))
    refine SW.ret (show RetQ _ _ _ _ _ _ _ from RetQ.y [0] [.int .i64 (-1)] (re := ?_))
    have hv : Enc.sz x b = -1 := by show EncL.sz x b = -1; simp [szl_prod, szl_unit, flat_int, flat_bool, flat_list, flat_prod, flatl_prod, flatl_unit, hfa, hn0, hn1, hn2, hn3, hc4']
    simp only [tupOf, fixEs, hv]
  have hn4 : ¬ Enc.sz x.2.2.2.2.1 (Enc.sz x.2.2.2.1 (Enc.sz x.2.2.1 (Enc.sz x.2.1 (Enc.sz x.1 b)))) < 0 := by simpa using hc4
  have h0_5 : 0 ≤ (Enc.sz x.2.2.2.2.1 (Enc.sz x.2.2.2.1 (Enc.sz x.2.2.1 (Enc.sz x.2.1 (Enc.sz x.1 b))))) := by omega
  have h1_5 : (Enc.sz x.2.2.2.2.1 (Enc.sz x.2.2.2.1 (Enc.sz x.2.2.1 (Enc.sz x.2.1 (Enc.sz x.1 b))))) ≤ 1048576 := by have := Enc.szLe x.2.2.2.2.1 (Enc.sz x.2.2.2.1 (Enc.sz x.2.2.1 (Enc.sz x.2.1 (Enc.sz x.1 b)))) h0_4; omega
  have fy := hd
  refine goR ?_ ?_ ?_ ?_ ?_ ?_ ?_ ?_ ?_ ?_ ?_ ?_ ?_ ?_ ?_ ?_
  any_goals (first | exact True.intro | skip)
  all_goals (repeat (refine Wh.mk fun hcc => ?_))
  refine SW.ret (show RetQ _ _ _ _ _ _ _ from RetQ.y [0] [.int .i64 (Enc.sz x.2.2.2.2.1 (Enc.sz x.2.2.2.1 (Enc.sz x.2.2.1 (Enc.sz x.2.1 (Enc.sz x.1 b)))))] (re := ?_))
  have hv : Enc.sz x b = (Enc.sz x.2.2.2.2.1 (Enc.sz x.2.2.2.1 (Enc.sz x.2.2.1 (Enc.sz x.2.1 (Enc.sz x.1 b))))) := by show EncL.sz x b = _; simp [szl_prod, szl_unit, flat_int, flat_bool, flat_list, flat_prod, flatl_prod, flatl_unit, hfa, hn0, hn1, hn2, hn3, hn4]
  simp only [tupOf, fixEs, hv]
end Q6

namespace Q6
open Go Go.Vm Go.Proofs
set_option maxHeartbeats 4000000
set_option synthInstance.maxSize 2000
set_option synthInstance.maxHeartbeats 400000
set_option maxRecDepth 10000
set_option linter.unusedSimpArgs false
set_option linter.unusedVariables false

theorem laws_eqIntS_ok (l m : List Int) (hl : Enc.lim 1048576 l) : CallR Try.prog 30 [.sl .b (l.map Enc.b), .sl .b (m.map Enc.b)] [] (.bool (decide (l = m))) := by
  refine CallR.of_body (n := 26) (rs := [.tmp 4]) hY.ok Try.func30 rfl (by decide) rfl rfl rfl rfl (fun F => ?_)
  have fx := And.intro Y3 (And.intro Y4 (Y27))
  have hl1 : l.length ≤ 1048576 := hl.1
  have fy := Nat.add_zero
  refine goS ?_
  refine SW.cond rfl (fun hc => ?_) (fun hc => ?_)
  · have hne : ¬ l = m := by intro e; subst e; simp at hc
    have fy := Nat.add_zero
    refine goK ?_ ?_ ?_ ?_ ?_ ?_ ?_ ?_ ?_ ?_ ?_ ?_ ?_ ?_ ?_ ?_
    any_goals (first | exact True.intro | skip)
    all_goals (repeat (refine Wh.mk fun hcc => ?_))
    simp [tupOf, fixEs, hne]
  have hlen : l.length = m.length := by have : (l.length : Int) = m.length := by simpa using hc
                                        omega
  refine SW.skip ?_
  simp only [thenS]
  have fy := Nat.add_zero
  refine goN ?_ ?_ ?_ ?_ ?_ ?_ ?_ ?_ ?_ ?_ ?_ ?_ ?_ ?_ ?_ ?_
  any_goals (first | exact True.intro | skip)
  skip
  refine SW.loop (fun i : Nat => ⟨[.sl .b (l.map Enc.b), .sl .b (m.map Enc.b), .undef, .undef, .undef, .int .i64 i, .undef, .undef, .undef, .undef, .undef, .undef, .undef, .undef, .undef, .undef, .undef, .undef, .undef, .undef, .undef, .undef, .undef, .undef, .undef, .undef], [[]]⟩)
    (fun n i => n = l.length - i ∧ i ≤ l.length ∧ ∀ j (h : j < l.length), j < i → l[j] = m[j]'(by omega)) (n := l.length) (x := 0) (Norm.to 0 rfl (by simp [weakL])) ⟨rfl, Nat.zero_le _, fun j _ h => absurd h (Nat.not_lt_zero _)⟩ ?_
  rintro n i ⟨hn, hi, hp⟩
  have fy := Nat.add_zero
  refine goS ?_
  refine SW.cond rfl (fun hc => ?_) (fun hc => ?_)
  · have hlt : i < l.length := by simpa using hc
    have hlt' : i < m.length := by omega
    have hgl : (l.map Enc.b)[i]? = some (.int .i64 l[i]) := map_get Enc.b l i hlt
    have hgm : (m.map Enc.b)[i]? = some (.int .i64 m[i]) := map_get Enc.b m i hlt'
    have fy := And.intro hgl (hgm)
    refine goK ?_ ?_ ?_ ?_ ?_ ?_ ?_ ?_ ?_ ?_ ?_ ?_ ?_ ?_ ?_ ?_
    any_goals (first | exact True.intro | skip)
    all_goals (repeat (refine Wh.mk fun hcc => ?_))
    · have hx := hcc
      have hne : ¬ l[i] = m[i] := by intro e; simp [e] at hx
      have hlm : ¬ l = m := by intro e; subst e; exact hne rfl
      simp [tupOf, fixEs, hlm]
    · have hx := hcc
      have hx' : l[i] = m[i] := by first | (simpa using hx; done) | (apply UInt8.toNat_inj.1; simp at hx; omega)
      refine ⟨n - 1, i + 1, by omega, ⟨by omega, by omega, fun j hj hji => ?_⟩, ?_⟩
      · by_cases he : j = i
        · subst he; exact hx'
        · exact hp j hj (by omega)
      · rw [wrap64 _ (by omega) (by omega)]
        first | exact Norm.to 0 rfl (by simp [weakL]) | exact Norm.to 1 rfl (by simp [weakL])
  · have hge : i = l.length := by
      have : ¬ i < l.length := by simpa using hc
      omega
    have hlm : l = m := List.ext_getElem hlen fun j h1 h2 => hp j h1 (by omega)
    have fy := Nat.add_zero
    refine goK ?_ ?_ ?_ ?_ ?_ ?_ ?_ ?_ ?_ ?_ ?_ ?_ ?_ ?_ ?_ ?_
    any_goals (first | exact True.intro | skip)
    all_goals (repeat (refine Wh.mk fun hcc => ?_))
    simp [tupOf, fixEs, hlm]
theorem laws_eqObj_ok (x y : (Int × (List Int) × (List Int) × Unit)) (hx : Enc.lim 1048576 x) : CallR Try.prog 163 [.nd [.int .i64 x.1, .sl .b (x.2.1.map Enc.b), .sl .b (x.2.2.1.map Enc.b)], .nd [.int .i64 y.1, .sl .b (y.2.1.map Enc.b), .sl .b (y.2.2.1.map Enc.b)]] [] (.bool (decide (x = y))) := by
  refine CallR.of_body (n := 22) (rs := [.tmp 4]) hY.ok Try.func163 rfl (by decide) rfl rfl rfl rfl (fun F => ?_)
  have fx := And.intro Y1 (And.intro Y2 (And.intro Y3 (And.intro Y4 (And.intro Y27 (Y35)))))
  have key : x = y ↔ (x.1 = y.1 ∧ x.2.1 = y.2.1 ∧ x.2.2.1 = y.2.2.1) :=
    ⟨fun h => by subst h; simp, fun h => Prod.ext h.1 (Prod.ext h.2.1 (Prod.ext h.2.2 rfl))⟩
  have hC1 := cx [] (laws_eqIntS_ok x.2.1 y.2.1 hx.2.1)
  have hC2 := cx [] (laws_eqIntS_ok x.2.2.1 y.2.2.1 hx.2.2.1)
  have fy := Nat.add_zero
  refine goK ?_ ?_ ?_ ?_ ?_ ?_ ?_ ?_ ?_ ?_ ?_ ?_ ?_ ?_ ?_ ?_
  any_goals (first | exact True.intro | skip)
  all_goals (repeat (refine Wh.mk fun hcc => ?_))
  all_goals simp only [tupOf, fixEs, key]
  all_goals simp_all
theorem laws_eqSlot_ok (x y : (Bool × ((Int × (List Int) × (List Int) × Unit)) × Unit)) (hx : Enc.lim 1048576 x) : CallR Try.prog 111 [.nd [.bool x.1, .nd [.int .i64 x.2.1.1, .sl .b (x.2.1.2.1.map Enc.b), .sl .b (x.2.1.2.2.1.map Enc.b)]], .nd [.bool y.1, .nd [.int .i64 y.2.1.1, .sl .b (y.2.1.2.1.map Enc.b), .sl .b (y.2.1.2.2.1.map Enc.b)]]] [] (.bool (decide (x = y))) := by
  refine CallR.of_body (n := 16) (rs := [.tmp 4]) hY.ok Try.func111 rfl (by decide) rfl rfl rfl rfl (fun F => ?_)
  have fx := And.intro Y1 (And.intro Y3 (And.intro Y4 (And.intro Y27 (And.intro Y35 (Y37)))))
  have key : x = y ↔ (x.1 = y.1 ∧ x.2.1 = y.2.1) :=
    ⟨fun h => by subst h; simp, fun h => Prod.ext h.1 (Prod.ext h.2 rfl)⟩
  have hC1 := cx [] (laws_eqObj_ok x.2.1 y.2.1 hx.2.1)
  have fy := Nat.add_zero
  refine goK ?_ ?_ ?_ ?_ ?_ ?_ ?_ ?_ ?_ ?_ ?_ ?_ ?_ ?_ ?_ ?_
  any_goals (first | exact True.intro | skip)
  all_goals (repeat (refine Wh.mk fun hcc => ?_))
  all_goals simp only [tupOf, fixEs, key]
  all_goals simp_all
theorem laws_eqSlotS_ok (l m : List ((Bool × ((Int × (List Int) × (List Int) × Unit)) × Unit))) (hl : Enc.lim 1048576 l) : CallR Try.prog 42 [.sl .b (l.map Enc.b), .sl .b (m.map Enc.b)] [] (.bool (decide (l = m))) := by
  refine CallR.of_body (n := 27) (rs := [.tmp 4]) hY.ok Try.func42 rfl (by decide) rfl rfl rfl rfl (fun F => ?_)
  have fx := And.intro Y3 (And.intro Y4 (And.intro Y24 (And.intro Y27 (And.intro Y35 (Y37)))))
  have hl1 : l.length ≤ 1048576 := hl.1
  have fy := Nat.add_zero
  refine goS ?_
  refine SW.cond rfl (fun hc => ?_) (fun hc => ?_)
  · have hne : ¬ l = m := by intro e; subst e; simp at hc
    have fy := Nat.add_zero
    refine goK ?_ ?_ ?_ ?_ ?_ ?_ ?_ ?_ ?_ ?_ ?_ ?_ ?_ ?_ ?_ ?_
    any_goals (first | exact True.intro | skip)
    all_goals (repeat (refine Wh.mk fun hcc => ?_))
    simp [tupOf, fixEs, hne]
  have hlen : l.length = m.length := by have : (l.length : Int) = m.length := by simpa using hc
                                        omega
  refine SW.skip ?_
  simp only [thenS]
  have fy := Nat.add_zero
  refine goN ?_ ?_ ?_ ?_ ?_ ?_ ?_ ?_ ?_ ?_ ?_ ?_ ?_ ?_ ?_ ?_
  any_goals (first | exact True.intro | skip)
  skip
  refine SW.loop (fun i : Nat => ⟨[.sl .b (l.map Enc.b), .sl .b (m.map Enc.b), .undef, .undef, .undef, .int .i64 i, .undef, .undef, .undef, .undef, .undef, .undef, .undef, .undef, .undef, .undef, .undef, .undef, .undef, .undef, .undef, .undef, .undef, .undef, .undef, .undef, .undef], [[]]⟩)
    (fun n i => n = l.length - i ∧ i ≤ l.length ∧ ∀ j (h : j < l.length), j < i → l[j] = m[j]'(by omega)) (n := l.length) (x := 0) (Norm.to 0 rfl (by simp [weakL])) ⟨rfl, Nat.zero_le _, fun j _ h => absurd h (Nat.not_lt_zero _)⟩ ?_
  rintro n i ⟨hn, hi, hp⟩
  have fy := Nat.add_zero
  refine goS ?_
  refine SW.cond rfl (fun hc => ?_) (fun hc => ?_)
  · have hlt : i < l.length := by simpa using hc
    have hlt' : i < m.length := by omega
    have hgl : (l.map Enc.b)[i]? = some (.nd [.bool l[i].1, .nd [.int .i64 l[i].2.1.1, .sl .b (l[i].2.1.2.1.map Enc.b), .sl .b (l[i].2.1.2.2.1.map Enc.b)]]) := map_get Enc.b l i hlt
    have hgm : (m.map Enc.b)[i]? = some (.nd [.bool m[i].1, .nd [.int .i64 m[i].2.1.1, .sl .b (m[i].2.1.2.1.map Enc.b), .sl .b (m[i].2.1.2.2.1.map Enc.b)]]) := map_get Enc.b m i hlt'
    have hC1 := cx [] (laws_eqSlot_ok l[i] m[i] (hl.2 _ (List.getElem_mem hlt)))
    have fy := And.intro hgl (hgm)
    refine goK ?_ ?_ ?_ ?_ ?_ ?_ ?_ ?_ ?_ ?_ ?_ ?_ ?_ ?_ ?_ ?_
    any_goals (first | exact True.intro | skip)
    all_goals (repeat (refine Wh.mk fun hcc => ?_))
    · have hx := hcc
      have hne : ¬ l[i] = m[i] := by intro e; simp [e] at hx
      have hlm : ¬ l = m := by intro e; subst e; exact hne rfl
      simp [tupOf, fixEs, hlm]
    · have hx := hcc
      have hx' : l[i] = m[i] := by first | (simpa using hx; done) | (apply UInt8.toNat_inj.1; simp at hx; omega)
      refine ⟨n - 1, i + 1, by omega, ⟨by omega, by omega, fun j hj hji => ?_⟩, ?_⟩
      · by_cases he : j = i
        · subst he; exact hx'
        · exact hp j hj (by omega)
      · rw [wrap64 _ (by omega) (by omega)]
        first | exact Norm.to 0 rfl (by simp [weakL]) | exact Norm.to 1 rfl (by simp [weakL])
  · have hge : i = l.length := by
      have : ¬ i < l.length := by simpa using hc
      omega
    have hlm : l = m := List.ext_getElem hlen fun j h1 h2 => hp j h1 (by omega)
    have fy := Nat.add_zero
    refine goK ?_ ?_ ?_ ?_ ?_ ?_ ?_ ?_ ?_ ?_ ?_ ?_ ?_ ?_ ?_ ?_
    any_goals (first | exact True.intro | skip)
    all_goals (repeat (refine Wh.mk fun hcc => ?_))
    simp [tupOf, fixEs, hlm]
end Q6
