/- Shows what the parts of the program do that the claim reaches: a machine of values over the model, and the contracts of functions, for all arguments within the lengths that each theorem names. -/
import Derived.Test.YtjodaapkfknfnaaXViewV5
set_option linter.all false

namespace Go.Vm

/-! ### what is received whole: arrays of elements that are not written out (a disk of pages) -/
mutual
def T.pl : T → Bool
  | .int .. | .bool _ | .str _ => true
  | .nd l => plL l
  | .ow _ l => cloL l
  | _ => false
def plL : List T → Bool
  | [] => true
  | t :: l => t.pl && plL l
end
def goneN (n : Nat) : List Ob := List.replicate n .gone
theorem goneN_add (n m : Nat) : goneN n ++ goneN m = goneN (n + m) := by simp [goneN, List.replicate_append_replicate]
theorem set_self {α : Type} {l : List α} {i : Nat} {x : α} (h : l[i]? = some x) : l.set i x = l := by
  apply List.ext_getElem?
  intro k
  rw [List.getElem?_set]
  split
  · rename_i hk; subst hk; split
    · exact h.symm
    · rw [List.getElem?_eq_none (by omega)]
  · rfl
mutual
theorem thaw_obs : ∀ (t : T), t.pl = true → ∀ e j e' j', (thawA e t j).2 = (thawA e' t j').2
  | .nd l, h, e, j, e', j' => by simp only [thawA]; exact thawL_obs l (by simpa only [T.pl] using h) e j e' j'
  | .ow es l, _, e, j, e', j' => by simp only [thawA]
  | .int .., _, _, _, _, _ => rfl
  | .bool _, _, _, _, _, _ => rfl
  | .str _, _, _, _, _, _ => rfl
  | .nilI, h, _, _, _, _ | .nilP, h, _, _, _, _ | .nils _, h, _, _, _, _ | .err, h, _, _, _, _ | .any, h, _, _, _, _ | .sl .., h, _, _, _, _ | .ref .., h, _, _, _, _ | .vr .., h, _, _, _, _ | .ptr .., h, _, _, _, _ | .fp _, h, _, _, _, _ | .io _, h, _, _, _, _ | .fn .., h, _, _, _, _ | .tup _, h, _, _, _, _ | .undef, h, _, _, _, _ | .opt .., h, _, _, _, _ => by simp [T.pl] at h
theorem thawL_obs : ∀ (l : List T), plL l = true → ∀ e j e' j', (thawAL e l j).2 = (thawAL e' l j').2
  | [], _, _, _, _, _ => rfl
  | t :: l, h, e, j, e', j' => by
    simp only [plL, Bool.and_eq_true] at h
    simp only [thawAL]
    rw [thaw_obs t h.1 e j e' j', thawL_obs l h.2 e _ e' (j' + (thawA e' t j').2.length)]
end
theorem lendKL_eq (k : T → RM T) : ∀ l : List T, lendKL (lendA k) l = lendAL k l
  | [] => rfl
  | t :: l => by simp only [lendKL, lendAL, lendKL_eq k l]
mutual
theorem lend_thaw : ∀ (t : T), t.pl = true → ∀ (u : T), (∀ k, lendA k t = .pure u) → ∀ (k : T → RM T) (e j : Nat) (H : Heap) (P Q : List Ob), H[e]? = some (P ++ ((thawA e t j).2 ++ Q)) → P.length = j →
    (lendA (lendA k) (thawA e t j).1).run H = some u
  | .nd l, h, u, hu, k, e, j, H, P, Q, hH, hj => by
    have hx : ∃ w, ∀ k, lendAL k l = .pure w ∧ u = .nd w := by
      obtain ⟨w, h1, h2⟩ := bind_pure (by simpa only [lendA] using hu fun _ => .fail)
      refine ⟨w, fun k => ?_⟩
      obtain ⟨w', h1', h2'⟩ := bind_pure (by simpa only [lendA] using hu k)
      cases h2
      have : T.nd w' = .nd w := RM.pure.inj h2'
      cases this
      exact ⟨h1', rfl⟩
    obtain ⟨w, hw⟩ := hx
    obtain rfl := (hw k).2
    simp only [thawA] at hH ⊢
    simp only [lendA, RM.run_bind]
    rw [lendL_thaw l (by simpa only [T.pl] using h) w (fun k => (hw k).1) k e j H P Q hH hj]
    rfl
  | .ow es l, h, u, hu, k, e, j, H, P, Q, hH, hj => by
    have hx : ∃ w, ∀ k, lendAL k l = .pure w ∧ u = .sl .b w := by
      obtain ⟨w, h1, h2⟩ := bind_pure (by simpa only [lendA] using hu fun _ => .fail)
      refine ⟨w, fun k => ?_⟩
      obtain ⟨w', h1', h2'⟩ := bind_pure (by simpa only [lendA] using hu k)
      cases h2
      have : T.sl .b w' = .sl .b w := RM.pure.inj h2'
      cases this
      exact ⟨h1', rfl⟩
    obtain ⟨w, hw⟩ := hx
    obtain rfl := (hw k).2
    simp only [thawA] at hH ⊢
    have hat : H.at e j = some (.arr es l false) := by
      unfold Heap.at; rw [hH, ← hj]; simp
    simp only [lendA, elemsM, RM.bind, RM.run, hat]
    rw [if_pos (by simp)]
    simp only [List.drop_zero, List.take_length, RM.bind]
    rw [lendKL_eq, (hw k).1]
    rfl
  | .int .., h, u, hu, k, e, j, H, P, Q, hH, hj => by simp only [thawA, hu, RM.run]
  | .bool _, h, u, hu, k, e, j, H, P, Q, hH, hj => by simp only [thawA, hu, RM.run]
  | .str _, h, u, hu, k, e, j, H, P, Q, hH, hj => by simp only [thawA, hu, RM.run]
  | .nilI, h, _, _, _, _, _, _, _, _, _, _ | .nilP, h, _, _, _, _, _, _, _, _, _, _ | .nils _, h, _, _, _, _, _, _, _, _, _, _ | .err, h, _, _, _, _, _, _, _, _, _, _ | .any, h, _, _, _, _, _, _, _, _, _, _ | .sl .., h, _, _, _, _, _, _, _, _, _, _ | .ref .., h, _, _, _, _, _, _, _, _, _, _ | .vr .., h, _, _, _, _, _, _, _, _, _, _ | .ptr .., h, _, _, _, _, _, _, _, _, _, _ | .fp _, h, _, _, _, _, _, _, _, _, _, _ | .io _, h, _, _, _, _, _, _, _, _, _, _ | .fn .., h, _, _, _, _, _, _, _, _, _, _ | .tup _, h, _, _, _, _, _, _, _, _, _, _ | .undef, h, _, _, _, _, _, _, _, _, _, _ | .opt .., h, _, _, _, _, _, _, _, _, _, _ => by simp [T.pl] at h
theorem lendL_thaw : ∀ (l : List T), plL l = true → ∀ (w : List T), (∀ k, lendAL k l = .pure w) → ∀ (k : T → RM T) (e j : Nat) (H : Heap) (P Q : List Ob), H[e]? = some (P ++ ((thawAL e l j).2 ++ Q)) → P.length = j →
    (lendAL (lendA k) (thawAL e l j).1).run H = some w
  | [], _, w, hw, k, e, j, H, P, Q, hH, hj => by
    have := hw k
    simp only [lendAL] at this
    cases this
    rfl
  | t :: l, h, w, hw, k, e, j, H, P, Q, hH, hj => by
    simp only [plL, Bool.and_eq_true] at h
    have hx : ∃ u w', ∀ k, lendA k t = .pure u ∧ lendAL k l = .pure w' ∧ w = u :: w' := by
      obtain ⟨u, h1, h2⟩ := bind_pure (by simpa only [lendAL] using hw fun _ => .fail)
      obtain ⟨w', h3, h4⟩ := bind_pure h2
      refine ⟨u, w', fun k => ?_⟩
      obtain ⟨u', h1', h2'⟩ := bind_pure (by simpa only [lendAL] using hw k)
      obtain ⟨w'', h3', h4'⟩ := bind_pure h2'
      cases h4
      have := RM.pure.inj h4'
      cases this
      exact ⟨h1', h3', rfl⟩
    obtain ⟨u, w', hx⟩ := hx
    obtain rfl := (hx k).2.2
    simp only [thawAL] at hH ⊢
    simp only [lendAL, RM.run_bind]
    rw [lend_thaw t h.1 u (fun k => (hx k).1) k e j H P ((thawAL e l (j + (thawA e t j).2.length)).2 ++ Q) (by rw [hH]; simp) hj]
    simp only
    rw [lendL_thaw l h.2 w' (fun k => (hx k).2.1) k e (j + (thawA e t j).2.length) H (P ++ (thawA e t j).2) Q (by rw [hH]; simp) (by simp [hj])]
    rfl
end
mutual
theorem give_thaw : ∀ (t : T), t.pl = true → ∀ (e j : Nat) (H : Heap) (P Q : List Ob), H[e]? = some (P ++ ((thawA e t j).2 ++ Q)) → P.length = j →
    giveS (thawA e t j).1 H = some (t, H.set e (P ++ (goneN (thawA e t j).2.length ++ Q)))
  | .nd l, h, e, j, H, P, Q, hH, hj => by
    simp only [thawA] at hH ⊢
    simp only [giveS]
    rw [giveL_thaw l (by simpa only [T.pl] using h) e j H P Q hH hj]
  | .ow es l, h, e, j, H, P, Q, hH, hj => by
    simp only [thawA] at hH ⊢
    have hat : H.at e j = some (.arr es l false) := by
      unfold Heap.at; rw [hH, ← hj]; simp
    simp only [giveS, hat]
    rw [if_pos ⟨trivial, trivial, cloL_A l (by simpa only [T.pl] using h)⟩]
    unfold Heap.put
    rw [hH, ← hj]
    simp [goneN]
  | .int .., h, e, j, H, P, Q, hH, hj => by simp only [thawA] at hH ⊢; simp only [giveS]; rw [show goneN ([] : List Ob).length = [] from rfl, set_self hH]
  | .bool _, h, e, j, H, P, Q, hH, hj => by simp only [thawA] at hH ⊢; simp only [giveS]; rw [show goneN ([] : List Ob).length = [] from rfl, set_self hH]
  | .str _, h, e, j, H, P, Q, hH, hj => by simp only [thawA] at hH ⊢; simp only [giveS]; rw [show goneN ([] : List Ob).length = [] from rfl, set_self hH]
  | .nilI, h, _, _, _, _, _, _, _ | .nilP, h, _, _, _, _, _, _, _ | .nils _, h, _, _, _, _, _, _, _ | .err, h, _, _, _, _, _, _, _ | .any, h, _, _, _, _, _, _, _ | .sl .., h, _, _, _, _, _, _, _ | .ref .., h, _, _, _, _, _, _, _ | .vr .., h, _, _, _, _, _, _, _ | .ptr .., h, _, _, _, _, _, _, _ | .fp _, h, _, _, _, _, _, _, _ | .io _, h, _, _, _, _, _, _, _ | .fn .., h, _, _, _, _, _, _, _ | .tup _, h, _, _, _, _, _, _, _ | .undef, h, _, _, _, _, _, _, _ | .opt .., h, _, _, _, _, _, _, _ => by simp [T.pl] at h
theorem giveL_thaw : ∀ (l : List T), plL l = true → ∀ (e j : Nat) (H : Heap) (P Q : List Ob), H[e]? = some (P ++ ((thawAL e l j).2 ++ Q)) → P.length = j →
    giveSL (thawAL e l j).1 H = some (l, H.set e (P ++ (goneN (thawAL e l j).2.length ++ Q)))
  | [], _, e, j, H, P, Q, hH, hj => by simp only [thawAL] at hH ⊢; simp only [giveSL]; rw [show goneN ([] : List Ob).length = [] from rfl, set_self hH]
  | t :: l, h, e, j, H, P, Q, hH, hj => by
    simp only [plL, Bool.and_eq_true] at h
    simp only [thawAL] at hH ⊢
    simp only [giveSL]
    rw [give_thaw t h.1 e j H P ((thawAL e l (j + (thawA e t j).2.length)).2 ++ Q) (by rw [hH]; simp) hj]
    simp only
    have hlt : e < H.length := (List.getElem?_eq_some_iff.1 hH).1
    rw [giveL_thaw l h.2 e (j + (thawA e t j).2.length) _ (P ++ goneN (thawA e t j).2.length) Q (by rw [List.getElem?_set_self hlt]; simp) (by simp [hj, goneN])]
    rw [List.set_set, List.length_append, ← goneN_add]; simp only [List.append_assoc]
end
mutual
theorem soak_thaw : ∀ (t : T), t.pl = true → ∀ (e j : Nat) (H : Heap) (P Q : List Ob), H[e]? = some (P ++ ((thawA e t j).2 ++ Q)) → P.length = j →
    soakS (thawA e t j).1 H = (t, H.set e (P ++ (goneN (thawA e t j).2.length ++ Q)))
  | .nd l, h, e, j, H, P, Q, hH, hj => by
    simp only [thawA] at hH ⊢
    simp only [soakS]
    rw [soakL_thaw l (by simpa only [T.pl] using h) e j H P Q hH hj]
  | .ow es l, h, e, j, H, P, Q, hH, hj => by
    simp only [thawA] at hH ⊢
    have hat : H.at e j = some (.arr es l false) := by
      unfold Heap.at; rw [hH, ← hj]; simp
    simp only [soakS, hat]
    rw [if_pos ⟨trivial, trivial⟩]
    unfold Heap.put
    rw [hH, ← hj]
    simp [goneN]
  | .int .., h, e, j, H, P, Q, hH, hj => by simp only [thawA] at hH ⊢; simp only [soakS]; rw [show goneN ([] : List Ob).length = [] from rfl, set_self hH]
  | .bool _, h, e, j, H, P, Q, hH, hj => by simp only [thawA] at hH ⊢; simp only [soakS]; rw [show goneN ([] : List Ob).length = [] from rfl, set_self hH]
  | .str _, h, e, j, H, P, Q, hH, hj => by simp only [thawA] at hH ⊢; simp only [soakS]; rw [show goneN ([] : List Ob).length = [] from rfl, set_self hH]
  | .nilI, h, _, _, _, _, _, _, _ | .nilP, h, _, _, _, _, _, _, _ | .nils _, h, _, _, _, _, _, _, _ | .err, h, _, _, _, _, _, _, _ | .any, h, _, _, _, _, _, _, _ | .sl .., h, _, _, _, _, _, _, _ | .ref .., h, _, _, _, _, _, _, _ | .vr .., h, _, _, _, _, _, _, _ | .ptr .., h, _, _, _, _, _, _, _ | .fp _, h, _, _, _, _, _, _, _ | .io _, h, _, _, _, _, _, _, _ | .fn .., h, _, _, _, _, _, _, _ | .tup _, h, _, _, _, _, _, _, _ | .undef, h, _, _, _, _, _, _, _ | .opt .., h, _, _, _, _, _, _, _ => by simp [T.pl] at h
theorem soakL_thaw : ∀ (l : List T), plL l = true → ∀ (e j : Nat) (H : Heap) (P Q : List Ob), H[e]? = some (P ++ ((thawAL e l j).2 ++ Q)) → P.length = j →
    soakL (thawAL e l j).1 H = (l, H.set e (P ++ (goneN (thawAL e l j).2.length ++ Q)))
  | [], _, e, j, H, P, Q, hH, hj => by simp only [thawAL] at hH ⊢; simp only [soakL]; rw [show goneN ([] : List Ob).length = [] from rfl, set_self hH]
  | t :: l, h, e, j, H, P, Q, hH, hj => by
    simp only [plL, Bool.and_eq_true] at h
    simp only [thawAL] at hH ⊢
    simp only [soakL]
    rw [soak_thaw t h.1 e j H P ((thawAL e l (j + (thawA e t j).2.length)).2 ++ Q) (by rw [hH]; simp) hj]
    simp only
    have hlt : e < H.length := (List.getElem?_eq_some_iff.1 hH).1
    rw [soakL_thaw l h.2 e (j + (thawA e t j).2.length) _ (P ++ goneN (thawA e t j).2.length) Q (by rw [List.getElem?_set_self hlt]; simp) (by simp [hj, goneN])]
    rw [List.set_set, List.length_append, ← goneN_add]; simp only [List.append_assoc]
end
mutual
theorem size_thaw : ∀ (t : T), t.pl = true → ∀ e j, (thawA e t j).1.size = t.size
  | .nd l, h, e, j => by simp only [thawA, T.size]; exact sizeL_thaw l (by simpa only [T.pl] using h) e j
  | .ow es l, _, e, j => by simp only [thawA, T.size]
  | .int .., _, _, _ => rfl
  | .bool _, _, _, _ => rfl
  | .str _, _, _, _ => rfl
  | .nilI, h, _, _ | .nilP, h, _, _ | .nils _, h, _, _ | .err, h, _, _ | .any, h, _, _ | .sl .., h, _, _ | .ref .., h, _, _ | .vr .., h, _, _ | .ptr .., h, _, _ | .fp _, h, _, _ | .io _, h, _, _ | .fn .., h, _, _ | .tup _, h, _, _ | .undef, h, _, _ | .opt .., h, _, _ => by simp [T.pl] at h
theorem sizeL_thaw : ∀ (l : List T), plL l = true → ∀ e j, sizeL (thawAL e l j).1 = sizeL l
  | [], _, _, _ => rfl
  | t :: l, h, e, j => by
    simp only [plL, Bool.and_eq_true] at h
    simp only [thawAL, sizeL, size_thaw t h.1 e j, sizeL_thaw l h.2 e _]
end

mutual
theorem nw_thaw : ∀ (t : T), t.pl = true → ∀ e j, (thawA e t j).1.nw = true
  | .nd l, h, e, j => by simp only [thawA, T.nw]; exact nwL_thaw l (by simpa only [T.pl] using h) e j
  | .ow es l, _, e, j => by simp only [thawA, T.nw]
  | .int .., _, _, _ => rfl
  | .bool _, _, _, _ => rfl
  | .str _, _, _, _ => rfl
  | .nilI, h, _, _ | .nilP, h, _, _ | .nils _, h, _, _ | .err, h, _, _ | .any, h, _, _ | .sl .., h, _, _ | .ref .., h, _, _ | .vr .., h, _, _ | .ptr .., h, _, _ | .fp _, h, _, _ | .io _, h, _, _ | .fn .., h, _, _ | .tup _, h, _, _ | .undef, h, _, _ | .opt .., h, _, _ => by simp [T.pl] at h
theorem nwL_thaw : ∀ (l : List T), plL l = true → ∀ e j, nwL (thawAL e l j).1 = true
  | [], _, _, _ => rfl
  | t :: l, h, e, j => by
    simp only [plL, Bool.and_eq_true] at h
    simp only [thawAL, nwL, nw_thaw t h.1 e j, nwL_thaw l h.2 e _, Bool.and_self]
end
mutual
theorem io_pl : ∀ (t : T), t.pl = true → ioSz t = [] ∧ (∀ j, ioAtT t j = []) ∧ ioKT t = []
  | .nd l, h => by
    have := ioL_pl l (by simpa only [T.pl] using h)
    exact ⟨by simpa only [ioSz] using this.1, fun j => by simpa only [ioAtT] using this.2.1 j, by simpa only [ioKT] using this.2.2⟩
  | .ow es l, _ => ⟨rfl, fun _ => rfl, rfl⟩
  | .int .., _ => ⟨rfl, fun _ => rfl, rfl⟩
  | .bool _, _ => ⟨rfl, fun _ => rfl, rfl⟩
  | .str _, _ => ⟨rfl, fun _ => rfl, rfl⟩
  | .nilI, h | .nilP, h | .nils _, h | .err, h | .any, h | .sl .., h | .ref .., h | .vr .., h | .ptr .., h | .fp _, h | .io _, h | .fn .., h | .tup _, h | .undef, h | .opt .., h => by simp [T.pl] at h
theorem ioL_pl : ∀ (l : List T), plL l = true → ioSizes l = [] ∧ (∀ j, ioAt l j = []) ∧ ioKs l = []
  | [], _ => ⟨rfl, fun _ => rfl, rfl⟩
  | t :: l, h => by
    simp only [plL, Bool.and_eq_true] at h
    have h1 := io_pl t h.1
    have h2 := ioL_pl l h.2
    exact ⟨by simp only [ioSizes, h1.1, h2.1, List.append_nil], fun j => by simp only [ioAt, h1.2.1, h2.2.1, List.append_nil], by simp only [ioKs, h1.2.2, h2.2.2, List.append_nil]⟩
end
/-- elements whose trees are plain, with n arrays each -/
class Pl (α : Type) [Enc α] where
  n : Nat
  pl : ∀ a : α, (Enc.o a).pl = true
  len : ∀ a : α, (thawA 0 (Enc.o a) 0).2.length = n
section
variable {α : Type} [Enc α] [Pl α]
def tR (e j : Nat) (l : List α) : List T := (thawAL e (l.map Enc.o) j).1
def tO (l : List α) : List Ob := (thawAL 0 (l.map Enc.o) 0).2
def gO (l : List α) : List Ob := goneN (tO l).length
theorem plL_o : ∀ l : List α, plL (l.map Enc.o) = true
  | [] => rfl
  | a :: l => by simp only [List.map_cons, plL, Pl.pl a, plL_o l, Bool.and_self]
@[simp] theorem ioSizes_o (l : List α) : ioSizes (l.map (Enc.o : α → T)) = [] := (ioL_pl _ (plL_o l)).1
@[simp] theorem ioAt_o (l : List α) (j : Nat) : ioAt (l.map (Enc.o : α → T)) j = [] := (ioL_pl _ (plL_o l)).2.1 j
@[simp] theorem ioKs_o (l : List α) : ioKs (l.map (Enc.o : α → T)) = [] := (ioL_pl _ (plL_o l)).2.2
theorem thawAL_tR (e j : Nat) (l : List α) : thawAL e (l.map Enc.o) j = (tR e j l, tO l) := Prod.ext rfl (thawL_obs _ (plL_o l) _ _ _ _)
theorem tO_len : ∀ l : List α, (tO l).length = l.length * Pl.n α
  | [] => by simp [tO, thawAL]
  | a :: l => by
    have h1 := Pl.len a
    have h2 := tO_len l
    unfold tO at h2 ⊢
    simp only [List.map_cons, thawAL, List.length_append, h1, List.length_cons, Nat.succ_mul]
    rw [thawL_obs _ (plL_o l) 0 _ 0 0, h2]; omega
theorem gO_len (l : List α) : (gO l).length = l.length * Pl.n α := by simp [gO, goneN, tO_len]
theorem sizeL_tR (e j : Nat) (l : List α) : sizeL (tR e j l) = l.length * Enc.es α := by unfold tR; rw [sizeL_thaw _ (plL_o l), sizeL_o]
@[simp] theorem nwL_tR (e j : Nat) (l : List α) : nwL (tR e j l) = true := nwL_thaw _ (plL_o l) e j
theorem lend_tR {k : T → RM T} {e : Nat} {l : List α} {H : Heap} {Q : List Ob} (h : H[e]? = some (tO l ++ Q)) {β : Type} (f : List T → RM β) : ((lendAL (lendA k) (tR e 0 l)).bind f).run H = (f (l.map Enc.b)).run H := by
  rw [RM.run_bind]
  unfold tR
  rw [lendL_thaw _ (plL_o l) (l.map Enc.b) (fun k => lendAL_o k l) k e 0 H [] Q (by rw [h, thawAL_tR]; rfl) rfl]
theorem give_tR {e : Nat} {l : List α} {H : Heap} {Q : List Ob} (h : H[e]? = some (tO l ++ Q)) : giveSL (tR e 0 l) H = some (l.map Enc.o, H.set e (gO l ++ Q)) := by
  unfold tR
  rw [giveL_thaw _ (plL_o l) e 0 H [] Q (by rw [h, thawAL_tR]; rfl) rfl, thawAL_tR]
  rfl
theorem soak_tR {e : Nat} {l : List α} {H : Heap} {Q : List Ob} (h : H[e]? = some (tO l ++ Q)) : soakL (tR e 0 l) H = (l.map Enc.o, H.set e (gO l ++ Q)) := by
  unfold tR
  rw [soakL_thaw _ (plL_o l) e 0 H [] Q (by rw [h, thawAL_tR]; rfl) rfl, thawAL_tR]
  rfl
omit [Pl α] in
theorem rowFits_gO (π : List Nat) (l : List α) : rowFits π (gO l) (gO l) := by
  unfold gO goneN
  generalize (tO l).length = n
  induction n with
  | zero => trivial
  | succ n ih => exact ⟨trivial, ih⟩
theorem bind_assoc {α β γ : Type} (f : α → RM β) (g : β → RM γ) : ∀ m : RM α, (m.bind f).bind g = m.bind fun x => (f x).bind g
  | .pure a => rfl
  | .fail => rfl
  | .get e j k => by simp only [RM.bind]; congr 1; funext o; exact bind_assoc f g (k o)
@[simp] theorem lendR0 {k : T → RM T} {R : List (List Ob)} {l : List α} {β : Type} {f : List T → RM β} : ((lendAL (lendA k) (tR 0 0 l)).bind f).run (tO l :: R) = (f (l.map Enc.b)).run (tO l :: R) := lend_tR (Q := []) (by simp) f
@[simp] theorem giveR0 {R : List (List Ob)} {l : List α} : giveSL (tR 0 0 l) (tO l :: R) = some (l.map Enc.o, gO l :: R) := by rw [give_tR (e := 0) (Q := []) (by simp)]; simp
@[simp] theorem soakR0 {R : List (List Ob)} {l : List α} : soakL (tR 0 0 l) (tO l :: R) = (l.map Enc.o, gO l :: R) := by rw [soak_tR (e := 0) (Q := []) (by simp)]; simp
@[simp] theorem lendR0q {k : T → RM T} {Q : List Ob} {R : List (List Ob)} {l : List α} {β : Type} {f : List T → RM β} : ((lendAL (lendA k) (tR 0 0 l)).bind f).run ((tO l ++ Q) :: R) = (f (l.map Enc.b)).run ((tO l ++ Q) :: R) := lend_tR (Q := Q) rfl f
@[simp] theorem giveR0q {Q : List Ob} {R : List (List Ob)} {l : List α} : giveSL (tR 0 0 l) ((tO l ++ Q) :: R) = some (l.map Enc.o, (gO l ++ Q) :: R) := by rw [give_tR (e := 0) (Q := Q) rfl]; simp
@[simp] theorem soakR0q {Q : List Ob} {R : List (List Ob)} {l : List α} : soakL (tR 0 0 l) ((tO l ++ Q) :: R) = (l.map Enc.o, (gO l ++ Q) :: R) := by rw [soak_tR (e := 0) (Q := Q) rfl]; simp
@[simp] theorem lendR1 {k : T → RM T} {r0 : List Ob} {R : List (List Ob)} {l : List α} {β : Type} {f : List T → RM β} : ((lendAL (lendA k) (tR 1 0 l)).bind f).run (r0 :: tO l :: R) = (f (l.map Enc.b)).run (r0 :: tO l :: R) := lend_tR (Q := []) (by simp) f
@[simp] theorem giveR1 {r0 : List Ob} {R : List (List Ob)} {l : List α} : giveSL (tR 1 0 l) (r0 :: tO l :: R) = some (l.map Enc.o, r0 :: gO l :: R) := by rw [give_tR (e := 1) (Q := []) (by simp)]; simp
@[simp] theorem soakR1 {r0 : List Ob} {R : List (List Ob)} {l : List α} : soakL (tR 1 0 l) (r0 :: tO l :: R) = (l.map Enc.o, r0 :: gO l :: R) := by rw [soak_tR (e := 1) (Q := []) (by simp)]; simp
@[simp] theorem lendR1q {k : T → RM T} {r0 : List Ob} {Q : List Ob} {R : List (List Ob)} {l : List α} {β : Type} {f : List T → RM β} : ((lendAL (lendA k) (tR 1 0 l)).bind f).run (r0 :: (tO l ++ Q) :: R) = (f (l.map Enc.b)).run (r0 :: (tO l ++ Q) :: R) := lend_tR (Q := Q) rfl f
@[simp] theorem giveR1q {r0 : List Ob} {Q : List Ob} {R : List (List Ob)} {l : List α} : giveSL (tR 1 0 l) (r0 :: (tO l ++ Q) :: R) = some (l.map Enc.o, r0 :: (gO l ++ Q) :: R) := by rw [give_tR (e := 1) (Q := Q) rfl]; simp
@[simp] theorem soakR1q {r0 : List Ob} {Q : List Ob} {R : List (List Ob)} {l : List α} : soakL (tR 1 0 l) (r0 :: (tO l ++ Q) :: R) = (l.map Enc.o, r0 :: (gO l ++ Q) :: R) := by rw [soak_tR (e := 1) (Q := Q) rfl]; simp
@[simp] theorem lendR2 {k : T → RM T} {r0 r1 : List Ob} {R : List (List Ob)} {l : List α} {β : Type} {f : List T → RM β} : ((lendAL (lendA k) (tR 2 0 l)).bind f).run (r0 :: r1 :: tO l :: R) = (f (l.map Enc.b)).run (r0 :: r1 :: tO l :: R) := lend_tR (Q := []) (by simp) f
@[simp] theorem giveR2 {r0 r1 : List Ob} {R : List (List Ob)} {l : List α} : giveSL (tR 2 0 l) (r0 :: r1 :: tO l :: R) = some (l.map Enc.o, r0 :: r1 :: gO l :: R) := by rw [give_tR (e := 2) (Q := []) (by simp)]; simp
@[simp] theorem soakR2 {r0 r1 : List Ob} {R : List (List Ob)} {l : List α} : soakL (tR 2 0 l) (r0 :: r1 :: tO l :: R) = (l.map Enc.o, r0 :: r1 :: gO l :: R) := by rw [soak_tR (e := 2) (Q := []) (by simp)]; simp
@[simp] theorem lendR2q {k : T → RM T} {r0 r1 : List Ob} {Q : List Ob} {R : List (List Ob)} {l : List α} {β : Type} {f : List T → RM β} : ((lendAL (lendA k) (tR 2 0 l)).bind f).run (r0 :: r1 :: (tO l ++ Q) :: R) = (f (l.map Enc.b)).run (r0 :: r1 :: (tO l ++ Q) :: R) := lend_tR (Q := Q) rfl f
@[simp] theorem giveR2q {r0 r1 : List Ob} {Q : List Ob} {R : List (List Ob)} {l : List α} : giveSL (tR 2 0 l) (r0 :: r1 :: (tO l ++ Q) :: R) = some (l.map Enc.o, r0 :: r1 :: (gO l ++ Q) :: R) := by rw [give_tR (e := 2) (Q := Q) rfl]; simp
@[simp] theorem soakR2q {r0 r1 : List Ob} {Q : List Ob} {R : List (List Ob)} {l : List α} : soakL (tR 2 0 l) (r0 :: r1 :: (tO l ++ Q) :: R) = (l.map Enc.o, r0 :: r1 :: (gO l ++ Q) :: R) := by rw [soak_tR (e := 2) (Q := Q) rfl]; simp
@[simp] theorem lendR3 {k : T → RM T} {r0 r1 r2 : List Ob} {R : List (List Ob)} {l : List α} {β : Type} {f : List T → RM β} : ((lendAL (lendA k) (tR 3 0 l)).bind f).run (r0 :: r1 :: r2 :: tO l :: R) = (f (l.map Enc.b)).run (r0 :: r1 :: r2 :: tO l :: R) := lend_tR (Q := []) (by simp) f
@[simp] theorem giveR3 {r0 r1 r2 : List Ob} {R : List (List Ob)} {l : List α} : giveSL (tR 3 0 l) (r0 :: r1 :: r2 :: tO l :: R) = some (l.map Enc.o, r0 :: r1 :: r2 :: gO l :: R) := by rw [give_tR (e := 3) (Q := []) (by simp)]; simp
@[simp] theorem soakR3 {r0 r1 r2 : List Ob} {R : List (List Ob)} {l : List α} : soakL (tR 3 0 l) (r0 :: r1 :: r2 :: tO l :: R) = (l.map Enc.o, r0 :: r1 :: r2 :: gO l :: R) := by rw [soak_tR (e := 3) (Q := []) (by simp)]; simp
@[simp] theorem lendR3q {k : T → RM T} {r0 r1 r2 : List Ob} {Q : List Ob} {R : List (List Ob)} {l : List α} {β : Type} {f : List T → RM β} : ((lendAL (lendA k) (tR 3 0 l)).bind f).run (r0 :: r1 :: r2 :: (tO l ++ Q) :: R) = (f (l.map Enc.b)).run (r0 :: r1 :: r2 :: (tO l ++ Q) :: R) := lend_tR (Q := Q) rfl f
@[simp] theorem giveR3q {r0 r1 r2 : List Ob} {Q : List Ob} {R : List (List Ob)} {l : List α} : giveSL (tR 3 0 l) (r0 :: r1 :: r2 :: (tO l ++ Q) :: R) = some (l.map Enc.o, r0 :: r1 :: r2 :: (gO l ++ Q) :: R) := by rw [give_tR (e := 3) (Q := Q) rfl]; simp
@[simp] theorem soakR3q {r0 r1 r2 : List Ob} {Q : List Ob} {R : List (List Ob)} {l : List α} : soakL (tR 3 0 l) (r0 :: r1 :: r2 :: (tO l ++ Q) :: R) = (l.map Enc.o, r0 :: r1 :: r2 :: (gO l ++ Q) :: R) := by rw [soak_tR (e := 3) (Q := Q) rfl]; simp
@[simp] theorem lendR4 {k : T → RM T} {r0 r1 r2 r3 : List Ob} {R : List (List Ob)} {l : List α} {β : Type} {f : List T → RM β} : ((lendAL (lendA k) (tR 4 0 l)).bind f).run (r0 :: r1 :: r2 :: r3 :: tO l :: R) = (f (l.map Enc.b)).run (r0 :: r1 :: r2 :: r3 :: tO l :: R) := lend_tR (Q := []) (by simp) f
@[simp] theorem giveR4 {r0 r1 r2 r3 : List Ob} {R : List (List Ob)} {l : List α} : giveSL (tR 4 0 l) (r0 :: r1 :: r2 :: r3 :: tO l :: R) = some (l.map Enc.o, r0 :: r1 :: r2 :: r3 :: gO l :: R) := by rw [give_tR (e := 4) (Q := []) (by simp)]; simp
@[simp] theorem soakR4 {r0 r1 r2 r3 : List Ob} {R : List (List Ob)} {l : List α} : soakL (tR 4 0 l) (r0 :: r1 :: r2 :: r3 :: tO l :: R) = (l.map Enc.o, r0 :: r1 :: r2 :: r3 :: gO l :: R) := by rw [soak_tR (e := 4) (Q := []) (by simp)]; simp
@[simp] theorem lendR4q {k : T → RM T} {r0 r1 r2 r3 : List Ob} {Q : List Ob} {R : List (List Ob)} {l : List α} {β : Type} {f : List T → RM β} : ((lendAL (lendA k) (tR 4 0 l)).bind f).run (r0 :: r1 :: r2 :: r3 :: (tO l ++ Q) :: R) = (f (l.map Enc.b)).run (r0 :: r1 :: r2 :: r3 :: (tO l ++ Q) :: R) := lend_tR (Q := Q) rfl f
@[simp] theorem giveR4q {r0 r1 r2 r3 : List Ob} {Q : List Ob} {R : List (List Ob)} {l : List α} : giveSL (tR 4 0 l) (r0 :: r1 :: r2 :: r3 :: (tO l ++ Q) :: R) = some (l.map Enc.o, r0 :: r1 :: r2 :: r3 :: (gO l ++ Q) :: R) := by rw [give_tR (e := 4) (Q := Q) rfl]; simp
@[simp] theorem soakR4q {r0 r1 r2 r3 : List Ob} {Q : List Ob} {R : List (List Ob)} {l : List α} : soakL (tR 4 0 l) (r0 :: r1 :: r2 :: r3 :: (tO l ++ Q) :: R) = (l.map Enc.o, r0 :: r1 :: r2 :: r3 :: (gO l ++ Q) :: R) := by rw [soak_tR (e := 4) (Q := Q) rfl]; simp
@[simp] theorem lendR5 {k : T → RM T} {r0 r1 r2 r3 r4 : List Ob} {R : List (List Ob)} {l : List α} {β : Type} {f : List T → RM β} : ((lendAL (lendA k) (tR 5 0 l)).bind f).run (r0 :: r1 :: r2 :: r3 :: r4 :: tO l :: R) = (f (l.map Enc.b)).run (r0 :: r1 :: r2 :: r3 :: r4 :: tO l :: R) := lend_tR (Q := []) (by simp) f
@[simp] theorem giveR5 {r0 r1 r2 r3 r4 : List Ob} {R : List (List Ob)} {l : List α} : giveSL (tR 5 0 l) (r0 :: r1 :: r2 :: r3 :: r4 :: tO l :: R) = some (l.map Enc.o, r0 :: r1 :: r2 :: r3 :: r4 :: gO l :: R) := by rw [give_tR (e := 5) (Q := []) (by simp)]; simp
@[simp] theorem soakR5 {r0 r1 r2 r3 r4 : List Ob} {R : List (List Ob)} {l : List α} : soakL (tR 5 0 l) (r0 :: r1 :: r2 :: r3 :: r4 :: tO l :: R) = (l.map Enc.o, r0 :: r1 :: r2 :: r3 :: r4 :: gO l :: R) := by rw [soak_tR (e := 5) (Q := []) (by simp)]; simp
@[simp] theorem lendR5q {k : T → RM T} {r0 r1 r2 r3 r4 : List Ob} {Q : List Ob} {R : List (List Ob)} {l : List α} {β : Type} {f : List T → RM β} : ((lendAL (lendA k) (tR 5 0 l)).bind f).run (r0 :: r1 :: r2 :: r3 :: r4 :: (tO l ++ Q) :: R) = (f (l.map Enc.b)).run (r0 :: r1 :: r2 :: r3 :: r4 :: (tO l ++ Q) :: R) := lend_tR (Q := Q) rfl f
@[simp] theorem giveR5q {r0 r1 r2 r3 r4 : List Ob} {Q : List Ob} {R : List (List Ob)} {l : List α} : giveSL (tR 5 0 l) (r0 :: r1 :: r2 :: r3 :: r4 :: (tO l ++ Q) :: R) = some (l.map Enc.o, r0 :: r1 :: r2 :: r3 :: r4 :: (gO l ++ Q) :: R) := by rw [give_tR (e := 5) (Q := Q) rfl]; simp
@[simp] theorem soakR5q {r0 r1 r2 r3 r4 : List Ob} {Q : List Ob} {R : List (List Ob)} {l : List α} : soakL (tR 5 0 l) (r0 :: r1 :: r2 :: r3 :: r4 :: (tO l ++ Q) :: R) = (l.map Enc.o, r0 :: r1 :: r2 :: r3 :: r4 :: (gO l ++ Q) :: R) := by rw [soak_tR (e := 5) (Q := Q) rfl]; simp
@[simp] theorem lendR6 {k : T → RM T} {r0 r1 r2 r3 r4 r5 : List Ob} {R : List (List Ob)} {l : List α} {β : Type} {f : List T → RM β} : ((lendAL (lendA k) (tR 6 0 l)).bind f).run (r0 :: r1 :: r2 :: r3 :: r4 :: r5 :: tO l :: R) = (f (l.map Enc.b)).run (r0 :: r1 :: r2 :: r3 :: r4 :: r5 :: tO l :: R) := lend_tR (Q := []) (by simp) f
@[simp] theorem giveR6 {r0 r1 r2 r3 r4 r5 : List Ob} {R : List (List Ob)} {l : List α} : giveSL (tR 6 0 l) (r0 :: r1 :: r2 :: r3 :: r4 :: r5 :: tO l :: R) = some (l.map Enc.o, r0 :: r1 :: r2 :: r3 :: r4 :: r5 :: gO l :: R) := by rw [give_tR (e := 6) (Q := []) (by simp)]; simp
@[simp] theorem soakR6 {r0 r1 r2 r3 r4 r5 : List Ob} {R : List (List Ob)} {l : List α} : soakL (tR 6 0 l) (r0 :: r1 :: r2 :: r3 :: r4 :: r5 :: tO l :: R) = (l.map Enc.o, r0 :: r1 :: r2 :: r3 :: r4 :: r5 :: gO l :: R) := by rw [soak_tR (e := 6) (Q := []) (by simp)]; simp
@[simp] theorem lendR6q {k : T → RM T} {r0 r1 r2 r3 r4 r5 : List Ob} {Q : List Ob} {R : List (List Ob)} {l : List α} {β : Type} {f : List T → RM β} : ((lendAL (lendA k) (tR 6 0 l)).bind f).run (r0 :: r1 :: r2 :: r3 :: r4 :: r5 :: (tO l ++ Q) :: R) = (f (l.map Enc.b)).run (r0 :: r1 :: r2 :: r3 :: r4 :: r5 :: (tO l ++ Q) :: R) := lend_tR (Q := Q) rfl f
@[simp] theorem giveR6q {r0 r1 r2 r3 r4 r5 : List Ob} {Q : List Ob} {R : List (List Ob)} {l : List α} : giveSL (tR 6 0 l) (r0 :: r1 :: r2 :: r3 :: r4 :: r5 :: (tO l ++ Q) :: R) = some (l.map Enc.o, r0 :: r1 :: r2 :: r3 :: r4 :: r5 :: (gO l ++ Q) :: R) := by rw [give_tR (e := 6) (Q := Q) rfl]; simp
@[simp] theorem soakR6q {r0 r1 r2 r3 r4 r5 : List Ob} {Q : List Ob} {R : List (List Ob)} {l : List α} : soakL (tR 6 0 l) (r0 :: r1 :: r2 :: r3 :: r4 :: r5 :: (tO l ++ Q) :: R) = (l.map Enc.o, r0 :: r1 :: r2 :: r3 :: r4 :: r5 :: (gO l ++ Q) :: R) := by rw [soak_tR (e := 6) (Q := Q) rfl]; simp
@[simp] theorem lendR7 {k : T → RM T} {r0 r1 r2 r3 r4 r5 r6 : List Ob} {R : List (List Ob)} {l : List α} {β : Type} {f : List T → RM β} : ((lendAL (lendA k) (tR 7 0 l)).bind f).run (r0 :: r1 :: r2 :: r3 :: r4 :: r5 :: r6 :: tO l :: R) = (f (l.map Enc.b)).run (r0 :: r1 :: r2 :: r3 :: r4 :: r5 :: r6 :: tO l :: R) := lend_tR (Q := []) (by simp) f
@[simp] theorem giveR7 {r0 r1 r2 r3 r4 r5 r6 : List Ob} {R : List (List Ob)} {l : List α} : giveSL (tR 7 0 l) (r0 :: r1 :: r2 :: r3 :: r4 :: r5 :: r6 :: tO l :: R) = some (l.map Enc.o, r0 :: r1 :: r2 :: r3 :: r4 :: r5 :: r6 :: gO l :: R) := by rw [give_tR (e := 7) (Q := []) (by simp)]; simp
@[simp] theorem soakR7 {r0 r1 r2 r3 r4 r5 r6 : List Ob} {R : List (List Ob)} {l : List α} : soakL (tR 7 0 l) (r0 :: r1 :: r2 :: r3 :: r4 :: r5 :: r6 :: tO l :: R) = (l.map Enc.o, r0 :: r1 :: r2 :: r3 :: r4 :: r5 :: r6 :: gO l :: R) := by rw [soak_tR (e := 7) (Q := []) (by simp)]; simp
@[simp] theorem lendR7q {k : T → RM T} {r0 r1 r2 r3 r4 r5 r6 : List Ob} {Q : List Ob} {R : List (List Ob)} {l : List α} {β : Type} {f : List T → RM β} : ((lendAL (lendA k) (tR 7 0 l)).bind f).run (r0 :: r1 :: r2 :: r3 :: r4 :: r5 :: r6 :: (tO l ++ Q) :: R) = (f (l.map Enc.b)).run (r0 :: r1 :: r2 :: r3 :: r4 :: r5 :: r6 :: (tO l ++ Q) :: R) := lend_tR (Q := Q) rfl f
@[simp] theorem giveR7q {r0 r1 r2 r3 r4 r5 r6 : List Ob} {Q : List Ob} {R : List (List Ob)} {l : List α} : giveSL (tR 7 0 l) (r0 :: r1 :: r2 :: r3 :: r4 :: r5 :: r6 :: (tO l ++ Q) :: R) = some (l.map Enc.o, r0 :: r1 :: r2 :: r3 :: r4 :: r5 :: r6 :: (gO l ++ Q) :: R) := by rw [give_tR (e := 7) (Q := Q) rfl]; simp
@[simp] theorem soakR7q {r0 r1 r2 r3 r4 r5 r6 : List Ob} {Q : List Ob} {R : List (List Ob)} {l : List α} : soakL (tR 7 0 l) (r0 :: r1 :: r2 :: r3 :: r4 :: r5 :: r6 :: (tO l ++ Q) :: R) = (l.map Enc.o, r0 :: r1 :: r2 :: r3 :: r4 :: r5 :: r6 :: (gO l ++ Q) :: R) := by rw [soak_tR (e := 7) (Q := Q) rfl]; simp
@[simp] theorem lendR8 {k : T → RM T} {r0 r1 r2 r3 r4 r5 r6 r7 : List Ob} {R : List (List Ob)} {l : List α} {β : Type} {f : List T → RM β} : ((lendAL (lendA k) (tR 8 0 l)).bind f).run (r0 :: r1 :: r2 :: r3 :: r4 :: r5 :: r6 :: r7 :: tO l :: R) = (f (l.map Enc.b)).run (r0 :: r1 :: r2 :: r3 :: r4 :: r5 :: r6 :: r7 :: tO l :: R) := lend_tR (Q := []) (by simp) f
@[simp] theorem giveR8 {r0 r1 r2 r3 r4 r5 r6 r7 : List Ob} {R : List (List Ob)} {l : List α} : giveSL (tR 8 0 l) (r0 :: r1 :: r2 :: r3 :: r4 :: r5 :: r6 :: r7 :: tO l :: R) = some (l.map Enc.o, r0 :: r1 :: r2 :: r3 :: r4 :: r5 :: r6 :: r7 :: gO l :: R) := by rw [give_tR (e := 8) (Q := []) (by simp)]; simp
@[simp] theorem soakR8 {r0 r1 r2 r3 r4 r5 r6 r7 : List Ob} {R : List (List Ob)} {l : List α} : soakL (tR 8 0 l) (r0 :: r1 :: r2 :: r3 :: r4 :: r5 :: r6 :: r7 :: tO l :: R) = (l.map Enc.o, r0 :: r1 :: r2 :: r3 :: r4 :: r5 :: r6 :: r7 :: gO l :: R) := by rw [soak_tR (e := 8) (Q := []) (by simp)]; simp
@[simp] theorem lendR8q {k : T → RM T} {r0 r1 r2 r3 r4 r5 r6 r7 : List Ob} {Q : List Ob} {R : List (List Ob)} {l : List α} {β : Type} {f : List T → RM β} : ((lendAL (lendA k) (tR 8 0 l)).bind f).run (r0 :: r1 :: r2 :: r3 :: r4 :: r5 :: r6 :: r7 :: (tO l ++ Q) :: R) = (f (l.map Enc.b)).run (r0 :: r1 :: r2 :: r3 :: r4 :: r5 :: r6 :: r7 :: (tO l ++ Q) :: R) := lend_tR (Q := Q) rfl f
@[simp] theorem giveR8q {r0 r1 r2 r3 r4 r5 r6 r7 : List Ob} {Q : List Ob} {R : List (List Ob)} {l : List α} : giveSL (tR 8 0 l) (r0 :: r1 :: r2 :: r3 :: r4 :: r5 :: r6 :: r7 :: (tO l ++ Q) :: R) = some (l.map Enc.o, r0 :: r1 :: r2 :: r3 :: r4 :: r5 :: r6 :: r7 :: (gO l ++ Q) :: R) := by rw [give_tR (e := 8) (Q := Q) rfl]; simp
@[simp] theorem soakR8q {r0 r1 r2 r3 r4 r5 r6 r7 : List Ob} {Q : List Ob} {R : List (List Ob)} {l : List α} : soakL (tR 8 0 l) (r0 :: r1 :: r2 :: r3 :: r4 :: r5 :: r6 :: r7 :: (tO l ++ Q) :: R) = (l.map Enc.o, r0 :: r1 :: r2 :: r3 :: r4 :: r5 :: r6 :: r7 :: (gO l ++ Q) :: R) := by rw [soak_tR (e := 8) (Q := Q) rfl]; simp
@[simp] theorem lendR9 {k : T → RM T} {r0 r1 r2 r3 r4 r5 r6 r7 r8 : List Ob} {R : List (List Ob)} {l : List α} {β : Type} {f : List T → RM β} : ((lendAL (lendA k) (tR 9 0 l)).bind f).run (r0 :: r1 :: r2 :: r3 :: r4 :: r5 :: r6 :: r7 :: r8 :: tO l :: R) = (f (l.map Enc.b)).run (r0 :: r1 :: r2 :: r3 :: r4 :: r5 :: r6 :: r7 :: r8 :: tO l :: R) := lend_tR (Q := []) (by simp) f
@[simp] theorem giveR9 {r0 r1 r2 r3 r4 r5 r6 r7 r8 : List Ob} {R : List (List Ob)} {l : List α} : giveSL (tR 9 0 l) (r0 :: r1 :: r2 :: r3 :: r4 :: r5 :: r6 :: r7 :: r8 :: tO l :: R) = some (l.map Enc.o, r0 :: r1 :: r2 :: r3 :: r4 :: r5 :: r6 :: r7 :: r8 :: gO l :: R) := by rw [give_tR (e := 9) (Q := []) (by simp)]; simp
@[simp] theorem soakR9 {r0 r1 r2 r3 r4 r5 r6 r7 r8 : List Ob} {R : List (List Ob)} {l : List α} : soakL (tR 9 0 l) (r0 :: r1 :: r2 :: r3 :: r4 :: r5 :: r6 :: r7 :: r8 :: tO l :: R) = (l.map Enc.o, r0 :: r1 :: r2 :: r3 :: r4 :: r5 :: r6 :: r7 :: r8 :: gO l :: R) := by rw [soak_tR (e := 9) (Q := []) (by simp)]; simp
@[simp] theorem lendR9q {k : T → RM T} {r0 r1 r2 r3 r4 r5 r6 r7 r8 : List Ob} {Q : List Ob} {R : List (List Ob)} {l : List α} {β : Type} {f : List T → RM β} : ((lendAL (lendA k) (tR 9 0 l)).bind f).run (r0 :: r1 :: r2 :: r3 :: r4 :: r5 :: r6 :: r7 :: r8 :: (tO l ++ Q) :: R) = (f (l.map Enc.b)).run (r0 :: r1 :: r2 :: r3 :: r4 :: r5 :: r6 :: r7 :: r8 :: (tO l ++ Q) :: R) := lend_tR (Q := Q) rfl f
@[simp] theorem giveR9q {r0 r1 r2 r3 r4 r5 r6 r7 r8 : List Ob} {Q : List Ob} {R : List (List Ob)} {l : List α} : giveSL (tR 9 0 l) (r0 :: r1 :: r2 :: r3 :: r4 :: r5 :: r6 :: r7 :: r8 :: (tO l ++ Q) :: R) = some (l.map Enc.o, r0 :: r1 :: r2 :: r3 :: r4 :: r5 :: r6 :: r7 :: r8 :: (gO l ++ Q) :: R) := by rw [give_tR (e := 9) (Q := Q) rfl]; simp
@[simp] theorem soakR9q {r0 r1 r2 r3 r4 r5 r6 r7 r8 : List Ob} {Q : List Ob} {R : List (List Ob)} {l : List α} : soakL (tR 9 0 l) (r0 :: r1 :: r2 :: r3 :: r4 :: r5 :: r6 :: r7 :: r8 :: (tO l ++ Q) :: R) = (l.map Enc.o, r0 :: r1 :: r2 :: r3 :: r4 :: r5 :: r6 :: r7 :: r8 :: (gO l ++ Q) :: R) := by rw [soak_tR (e := 9) (Q := Q) rfl]; simp
@[simp] theorem lendR10 {k : T → RM T} {r0 r1 r2 r3 r4 r5 r6 r7 r8 r9 : List Ob} {R : List (List Ob)} {l : List α} {β : Type} {f : List T → RM β} : ((lendAL (lendA k) (tR 10 0 l)).bind f).run (r0 :: r1 :: r2 :: r3 :: r4 :: r5 :: r6 :: r7 :: r8 :: r9 :: tO l :: R) = (f (l.map Enc.b)).run (r0 :: r1 :: r2 :: r3 :: r4 :: r5 :: r6 :: r7 :: r8 :: r9 :: tO l :: R) := lend_tR (Q := []) (by simp) f
@[simp] theorem giveR10 {r0 r1 r2 r3 r4 r5 r6 r7 r8 r9 : List Ob} {R : List (List Ob)} {l : List α} : giveSL (tR 10 0 l) (r0 :: r1 :: r2 :: r3 :: r4 :: r5 :: r6 :: r7 :: r8 :: r9 :: tO l :: R) = some (l.map Enc.o, r0 :: r1 :: r2 :: r3 :: r4 :: r5 :: r6 :: r7 :: r8 :: r9 :: gO l :: R) := by rw [give_tR (e := 10) (Q := []) (by simp)]; simp
@[simp] theorem lendR10q {k : T → RM T} {r0 r1 r2 r3 r4 r5 r6 r7 r8 r9 : List Ob} {Q : List Ob} {R : List (List Ob)} {l : List α} {β : Type} {f : List T → RM β} : ((lendAL (lendA k) (tR 10 0 l)).bind f).run (r0 :: r1 :: r2 :: r3 :: r4 :: r5 :: r6 :: r7 :: r8 :: r9 :: (tO l ++ Q) :: R) = (f (l.map Enc.b)).run (r0 :: r1 :: r2 :: r3 :: r4 :: r5 :: r6 :: r7 :: r8 :: r9 :: (tO l ++ Q) :: R) := lend_tR (Q := Q) rfl f
@[simp] theorem giveR10q {r0 r1 r2 r3 r4 r5 r6 r7 r8 r9 : List Ob} {Q : List Ob} {R : List (List Ob)} {l : List α} : giveSL (tR 10 0 l) (r0 :: r1 :: r2 :: r3 :: r4 :: r5 :: r6 :: r7 :: r8 :: r9 :: (tO l ++ Q) :: R) = some (l.map Enc.o, r0 :: r1 :: r2 :: r3 :: r4 :: r5 :: r6 :: r7 :: r8 :: r9 :: (gO l ++ Q) :: R) := by rw [give_tR (e := 10) (Q := Q) rfl]; simp
@[simp] theorem lendR11 {k : T → RM T} {r0 r1 r2 r3 r4 r5 r6 r7 r8 r9 r10 : List Ob} {R : List (List Ob)} {l : List α} {β : Type} {f : List T → RM β} : ((lendAL (lendA k) (tR 11 0 l)).bind f).run (r0 :: r1 :: r2 :: r3 :: r4 :: r5 :: r6 :: r7 :: r8 :: r9 :: r10 :: tO l :: R) = (f (l.map Enc.b)).run (r0 :: r1 :: r2 :: r3 :: r4 :: r5 :: r6 :: r7 :: r8 :: r9 :: r10 :: tO l :: R) := lend_tR (Q := []) (by simp) f
@[simp] theorem giveR11 {r0 r1 r2 r3 r4 r5 r6 r7 r8 r9 r10 : List Ob} {R : List (List Ob)} {l : List α} : giveSL (tR 11 0 l) (r0 :: r1 :: r2 :: r3 :: r4 :: r5 :: r6 :: r7 :: r8 :: r9 :: r10 :: tO l :: R) = some (l.map Enc.o, r0 :: r1 :: r2 :: r3 :: r4 :: r5 :: r6 :: r7 :: r8 :: r9 :: r10 :: gO l :: R) := by rw [give_tR (e := 11) (Q := []) (by simp)]; simp
@[simp] theorem lendR11q {k : T → RM T} {r0 r1 r2 r3 r4 r5 r6 r7 r8 r9 r10 : List Ob} {Q : List Ob} {R : List (List Ob)} {l : List α} {β : Type} {f : List T → RM β} : ((lendAL (lendA k) (tR 11 0 l)).bind f).run (r0 :: r1 :: r2 :: r3 :: r4 :: r5 :: r6 :: r7 :: r8 :: r9 :: r10 :: (tO l ++ Q) :: R) = (f (l.map Enc.b)).run (r0 :: r1 :: r2 :: r3 :: r4 :: r5 :: r6 :: r7 :: r8 :: r9 :: r10 :: (tO l ++ Q) :: R) := lend_tR (Q := Q) rfl f
@[simp] theorem giveR11q {r0 r1 r2 r3 r4 r5 r6 r7 r8 r9 r10 : List Ob} {Q : List Ob} {R : List (List Ob)} {l : List α} : giveSL (tR 11 0 l) (r0 :: r1 :: r2 :: r3 :: r4 :: r5 :: r6 :: r7 :: r8 :: r9 :: r10 :: (tO l ++ Q) :: R) = some (l.map Enc.o, r0 :: r1 :: r2 :: r3 :: r4 :: r5 :: r6 :: r7 :: r8 :: r9 :: r10 :: (gO l ++ Q) :: R) := by rw [give_tR (e := 11) (Q := Q) rfl]; simp
@[simp] theorem lendR12 {k : T → RM T} {r0 r1 r2 r3 r4 r5 r6 r7 r8 r9 r10 r11 : List Ob} {R : List (List Ob)} {l : List α} {β : Type} {f : List T → RM β} : ((lendAL (lendA k) (tR 12 0 l)).bind f).run (r0 :: r1 :: r2 :: r3 :: r4 :: r5 :: r6 :: r7 :: r8 :: r9 :: r10 :: r11 :: tO l :: R) = (f (l.map Enc.b)).run (r0 :: r1 :: r2 :: r3 :: r4 :: r5 :: r6 :: r7 :: r8 :: r9 :: r10 :: r11 :: tO l :: R) := lend_tR (Q := []) (by simp) f
@[simp] theorem giveR12 {r0 r1 r2 r3 r4 r5 r6 r7 r8 r9 r10 r11 : List Ob} {R : List (List Ob)} {l : List α} : giveSL (tR 12 0 l) (r0 :: r1 :: r2 :: r3 :: r4 :: r5 :: r6 :: r7 :: r8 :: r9 :: r10 :: r11 :: tO l :: R) = some (l.map Enc.o, r0 :: r1 :: r2 :: r3 :: r4 :: r5 :: r6 :: r7 :: r8 :: r9 :: r10 :: r11 :: gO l :: R) := by rw [give_tR (e := 12) (Q := []) (by simp)]; simp
@[simp] theorem lendR12q {k : T → RM T} {r0 r1 r2 r3 r4 r5 r6 r7 r8 r9 r10 r11 : List Ob} {Q : List Ob} {R : List (List Ob)} {l : List α} {β : Type} {f : List T → RM β} : ((lendAL (lendA k) (tR 12 0 l)).bind f).run (r0 :: r1 :: r2 :: r3 :: r4 :: r5 :: r6 :: r7 :: r8 :: r9 :: r10 :: r11 :: (tO l ++ Q) :: R) = (f (l.map Enc.b)).run (r0 :: r1 :: r2 :: r3 :: r4 :: r5 :: r6 :: r7 :: r8 :: r9 :: r10 :: r11 :: (tO l ++ Q) :: R) := lend_tR (Q := Q) rfl f
@[simp] theorem giveR12q {r0 r1 r2 r3 r4 r5 r6 r7 r8 r9 r10 r11 : List Ob} {Q : List Ob} {R : List (List Ob)} {l : List α} : giveSL (tR 12 0 l) (r0 :: r1 :: r2 :: r3 :: r4 :: r5 :: r6 :: r7 :: r8 :: r9 :: r10 :: r11 :: (tO l ++ Q) :: R) = some (l.map Enc.o, r0 :: r1 :: r2 :: r3 :: r4 :: r5 :: r6 :: r7 :: r8 :: r9 :: r10 :: r11 :: (gO l ++ Q) :: R) := by rw [give_tR (e := 12) (Q := Q) rfl]; simp
@[simp] theorem lendR13 {k : T → RM T} {r0 r1 r2 r3 r4 r5 r6 r7 r8 r9 r10 r11 r12 : List Ob} {R : List (List Ob)} {l : List α} {β : Type} {f : List T → RM β} : ((lendAL (lendA k) (tR 13 0 l)).bind f).run (r0 :: r1 :: r2 :: r3 :: r4 :: r5 :: r6 :: r7 :: r8 :: r9 :: r10 :: r11 :: r12 :: tO l :: R) = (f (l.map Enc.b)).run (r0 :: r1 :: r2 :: r3 :: r4 :: r5 :: r6 :: r7 :: r8 :: r9 :: r10 :: r11 :: r12 :: tO l :: R) := lend_tR (Q := []) (by simp) f
@[simp] theorem giveR13 {r0 r1 r2 r3 r4 r5 r6 r7 r8 r9 r10 r11 r12 : List Ob} {R : List (List Ob)} {l : List α} : giveSL (tR 13 0 l) (r0 :: r1 :: r2 :: r3 :: r4 :: r5 :: r6 :: r7 :: r8 :: r9 :: r10 :: r11 :: r12 :: tO l :: R) = some (l.map Enc.o, r0 :: r1 :: r2 :: r3 :: r4 :: r5 :: r6 :: r7 :: r8 :: r9 :: r10 :: r11 :: r12 :: gO l :: R) := by rw [give_tR (e := 13) (Q := []) (by simp)]; simp
@[simp] theorem lendR13q {k : T → RM T} {r0 r1 r2 r3 r4 r5 r6 r7 r8 r9 r10 r11 r12 : List Ob} {Q : List Ob} {R : List (List Ob)} {l : List α} {β : Type} {f : List T → RM β} : ((lendAL (lendA k) (tR 13 0 l)).bind f).run (r0 :: r1 :: r2 :: r3 :: r4 :: r5 :: r6 :: r7 :: r8 :: r9 :: r10 :: r11 :: r12 :: (tO l ++ Q) :: R) = (f (l.map Enc.b)).run (r0 :: r1 :: r2 :: r3 :: r4 :: r5 :: r6 :: r7 :: r8 :: r9 :: r10 :: r11 :: r12 :: (tO l ++ Q) :: R) := lend_tR (Q := Q) rfl f
@[simp] theorem giveR13q {r0 r1 r2 r3 r4 r5 r6 r7 r8 r9 r10 r11 r12 : List Ob} {Q : List Ob} {R : List (List Ob)} {l : List α} : giveSL (tR 13 0 l) (r0 :: r1 :: r2 :: r3 :: r4 :: r5 :: r6 :: r7 :: r8 :: r9 :: r10 :: r11 :: r12 :: (tO l ++ Q) :: R) = some (l.map Enc.o, r0 :: r1 :: r2 :: r3 :: r4 :: r5 :: r6 :: r7 :: r8 :: r9 :: r10 :: r11 :: r12 :: (gO l ++ Q) :: R) := by rw [give_tR (e := 13) (Q := Q) rfl]; simp
@[simp] theorem lendR14 {k : T → RM T} {r0 r1 r2 r3 r4 r5 r6 r7 r8 r9 r10 r11 r12 r13 : List Ob} {R : List (List Ob)} {l : List α} {β : Type} {f : List T → RM β} : ((lendAL (lendA k) (tR 14 0 l)).bind f).run (r0 :: r1 :: r2 :: r3 :: r4 :: r5 :: r6 :: r7 :: r8 :: r9 :: r10 :: r11 :: r12 :: r13 :: tO l :: R) = (f (l.map Enc.b)).run (r0 :: r1 :: r2 :: r3 :: r4 :: r5 :: r6 :: r7 :: r8 :: r9 :: r10 :: r11 :: r12 :: r13 :: tO l :: R) := lend_tR (Q := []) (by simp) f
@[simp] theorem giveR14 {r0 r1 r2 r3 r4 r5 r6 r7 r8 r9 r10 r11 r12 r13 : List Ob} {R : List (List Ob)} {l : List α} : giveSL (tR 14 0 l) (r0 :: r1 :: r2 :: r3 :: r4 :: r5 :: r6 :: r7 :: r8 :: r9 :: r10 :: r11 :: r12 :: r13 :: tO l :: R) = some (l.map Enc.o, r0 :: r1 :: r2 :: r3 :: r4 :: r5 :: r6 :: r7 :: r8 :: r9 :: r10 :: r11 :: r12 :: r13 :: gO l :: R) := by rw [give_tR (e := 14) (Q := []) (by simp)]; simp
@[simp] theorem lendR14q {k : T → RM T} {r0 r1 r2 r3 r4 r5 r6 r7 r8 r9 r10 r11 r12 r13 : List Ob} {Q : List Ob} {R : List (List Ob)} {l : List α} {β : Type} {f : List T → RM β} : ((lendAL (lendA k) (tR 14 0 l)).bind f).run (r0 :: r1 :: r2 :: r3 :: r4 :: r5 :: r6 :: r7 :: r8 :: r9 :: r10 :: r11 :: r12 :: r13 :: (tO l ++ Q) :: R) = (f (l.map Enc.b)).run (r0 :: r1 :: r2 :: r3 :: r4 :: r5 :: r6 :: r7 :: r8 :: r9 :: r10 :: r11 :: r12 :: r13 :: (tO l ++ Q) :: R) := lend_tR (Q := Q) rfl f
@[simp] theorem giveR14q {r0 r1 r2 r3 r4 r5 r6 r7 r8 r9 r10 r11 r12 r13 : List Ob} {Q : List Ob} {R : List (List Ob)} {l : List α} : giveSL (tR 14 0 l) (r0 :: r1 :: r2 :: r3 :: r4 :: r5 :: r6 :: r7 :: r8 :: r9 :: r10 :: r11 :: r12 :: r13 :: (tO l ++ Q) :: R) = some (l.map Enc.o, r0 :: r1 :: r2 :: r3 :: r4 :: r5 :: r6 :: r7 :: r8 :: r9 :: r10 :: r11 :: r12 :: r13 :: (gO l ++ Q) :: R) := by rw [give_tR (e := 14) (Q := Q) rfl]; simp
@[simp] theorem lendR15 {k : T → RM T} {r0 r1 r2 r3 r4 r5 r6 r7 r8 r9 r10 r11 r12 r13 r14 : List Ob} {R : List (List Ob)} {l : List α} {β : Type} {f : List T → RM β} : ((lendAL (lendA k) (tR 15 0 l)).bind f).run (r0 :: r1 :: r2 :: r3 :: r4 :: r5 :: r6 :: r7 :: r8 :: r9 :: r10 :: r11 :: r12 :: r13 :: r14 :: tO l :: R) = (f (l.map Enc.b)).run (r0 :: r1 :: r2 :: r3 :: r4 :: r5 :: r6 :: r7 :: r8 :: r9 :: r10 :: r11 :: r12 :: r13 :: r14 :: tO l :: R) := lend_tR (Q := []) (by simp) f
@[simp] theorem giveR15 {r0 r1 r2 r3 r4 r5 r6 r7 r8 r9 r10 r11 r12 r13 r14 : List Ob} {R : List (List Ob)} {l : List α} : giveSL (tR 15 0 l) (r0 :: r1 :: r2 :: r3 :: r4 :: r5 :: r6 :: r7 :: r8 :: r9 :: r10 :: r11 :: r12 :: r13 :: r14 :: tO l :: R) = some (l.map Enc.o, r0 :: r1 :: r2 :: r3 :: r4 :: r5 :: r6 :: r7 :: r8 :: r9 :: r10 :: r11 :: r12 :: r13 :: r14 :: gO l :: R) := by rw [give_tR (e := 15) (Q := []) (by simp)]; simp
@[simp] theorem lendR15q {k : T → RM T} {r0 r1 r2 r3 r4 r5 r6 r7 r8 r9 r10 r11 r12 r13 r14 : List Ob} {Q : List Ob} {R : List (List Ob)} {l : List α} {β : Type} {f : List T → RM β} : ((lendAL (lendA k) (tR 15 0 l)).bind f).run (r0 :: r1 :: r2 :: r3 :: r4 :: r5 :: r6 :: r7 :: r8 :: r9 :: r10 :: r11 :: r12 :: r13 :: r14 :: (tO l ++ Q) :: R) = (f (l.map Enc.b)).run (r0 :: r1 :: r2 :: r3 :: r4 :: r5 :: r6 :: r7 :: r8 :: r9 :: r10 :: r11 :: r12 :: r13 :: r14 :: (tO l ++ Q) :: R) := lend_tR (Q := Q) rfl f
@[simp] theorem giveR15q {r0 r1 r2 r3 r4 r5 r6 r7 r8 r9 r10 r11 r12 r13 r14 : List Ob} {Q : List Ob} {R : List (List Ob)} {l : List α} : giveSL (tR 15 0 l) (r0 :: r1 :: r2 :: r3 :: r4 :: r5 :: r6 :: r7 :: r8 :: r9 :: r10 :: r11 :: r12 :: r13 :: r14 :: (tO l ++ Q) :: R) = some (l.map Enc.o, r0 :: r1 :: r2 :: r3 :: r4 :: r5 :: r6 :: r7 :: r8 :: r9 :: r10 :: r11 :: r12 :: r13 :: r14 :: (gO l ++ Q) :: R) := by rw [give_tR (e := 15) (Q := Q) rfl]; simp
@[simp] theorem lendR16 {k : T → RM T} {r0 r1 r2 r3 r4 r5 r6 r7 r8 r9 r10 r11 r12 r13 r14 r15 : List Ob} {R : List (List Ob)} {l : List α} {β : Type} {f : List T → RM β} : ((lendAL (lendA k) (tR 16 0 l)).bind f).run (r0 :: r1 :: r2 :: r3 :: r4 :: r5 :: r6 :: r7 :: r8 :: r9 :: r10 :: r11 :: r12 :: r13 :: r14 :: r15 :: tO l :: R) = (f (l.map Enc.b)).run (r0 :: r1 :: r2 :: r3 :: r4 :: r5 :: r6 :: r7 :: r8 :: r9 :: r10 :: r11 :: r12 :: r13 :: r14 :: r15 :: tO l :: R) := lend_tR (Q := []) (by simp) f
@[simp] theorem giveR16 {r0 r1 r2 r3 r4 r5 r6 r7 r8 r9 r10 r11 r12 r13 r14 r15 : List Ob} {R : List (List Ob)} {l : List α} : giveSL (tR 16 0 l) (r0 :: r1 :: r2 :: r3 :: r4 :: r5 :: r6 :: r7 :: r8 :: r9 :: r10 :: r11 :: r12 :: r13 :: r14 :: r15 :: tO l :: R) = some (l.map Enc.o, r0 :: r1 :: r2 :: r3 :: r4 :: r5 :: r6 :: r7 :: r8 :: r9 :: r10 :: r11 :: r12 :: r13 :: r14 :: r15 :: gO l :: R) := by rw [give_tR (e := 16) (Q := []) (by simp)]; simp
@[simp] theorem lendR16q {k : T → RM T} {r0 r1 r2 r3 r4 r5 r6 r7 r8 r9 r10 r11 r12 r13 r14 r15 : List Ob} {Q : List Ob} {R : List (List Ob)} {l : List α} {β : Type} {f : List T → RM β} : ((lendAL (lendA k) (tR 16 0 l)).bind f).run (r0 :: r1 :: r2 :: r3 :: r4 :: r5 :: r6 :: r7 :: r8 :: r9 :: r10 :: r11 :: r12 :: r13 :: r14 :: r15 :: (tO l ++ Q) :: R) = (f (l.map Enc.b)).run (r0 :: r1 :: r2 :: r3 :: r4 :: r5 :: r6 :: r7 :: r8 :: r9 :: r10 :: r11 :: r12 :: r13 :: r14 :: r15 :: (tO l ++ Q) :: R) := lend_tR (Q := Q) rfl f
@[simp] theorem giveR16q {r0 r1 r2 r3 r4 r5 r6 r7 r8 r9 r10 r11 r12 r13 r14 r15 : List Ob} {Q : List Ob} {R : List (List Ob)} {l : List α} : giveSL (tR 16 0 l) (r0 :: r1 :: r2 :: r3 :: r4 :: r5 :: r6 :: r7 :: r8 :: r9 :: r10 :: r11 :: r12 :: r13 :: r14 :: r15 :: (tO l ++ Q) :: R) = some (l.map Enc.o, r0 :: r1 :: r2 :: r3 :: r4 :: r5 :: r6 :: r7 :: r8 :: r9 :: r10 :: r11 :: r12 :: r13 :: r14 :: r15 :: (gO l ++ Q) :: R) := by rw [give_tR (e := 16) (Q := Q) rfl]; simp
@[simp] theorem lendR17 {k : T → RM T} {r0 r1 r2 r3 r4 r5 r6 r7 r8 r9 r10 r11 r12 r13 r14 r15 r16 : List Ob} {R : List (List Ob)} {l : List α} {β : Type} {f : List T → RM β} : ((lendAL (lendA k) (tR 17 0 l)).bind f).run (r0 :: r1 :: r2 :: r3 :: r4 :: r5 :: r6 :: r7 :: r8 :: r9 :: r10 :: r11 :: r12 :: r13 :: r14 :: r15 :: r16 :: tO l :: R) = (f (l.map Enc.b)).run (r0 :: r1 :: r2 :: r3 :: r4 :: r5 :: r6 :: r7 :: r8 :: r9 :: r10 :: r11 :: r12 :: r13 :: r14 :: r15 :: r16 :: tO l :: R) := lend_tR (Q := []) (by simp) f
@[simp] theorem giveR17 {r0 r1 r2 r3 r4 r5 r6 r7 r8 r9 r10 r11 r12 r13 r14 r15 r16 : List Ob} {R : List (List Ob)} {l : List α} : giveSL (tR 17 0 l) (r0 :: r1 :: r2 :: r3 :: r4 :: r5 :: r6 :: r7 :: r8 :: r9 :: r10 :: r11 :: r12 :: r13 :: r14 :: r15 :: r16 :: tO l :: R) = some (l.map Enc.o, r0 :: r1 :: r2 :: r3 :: r4 :: r5 :: r6 :: r7 :: r8 :: r9 :: r10 :: r11 :: r12 :: r13 :: r14 :: r15 :: r16 :: gO l :: R) := by rw [give_tR (e := 17) (Q := []) (by simp)]; simp
@[simp] theorem lendR17q {k : T → RM T} {r0 r1 r2 r3 r4 r5 r6 r7 r8 r9 r10 r11 r12 r13 r14 r15 r16 : List Ob} {Q : List Ob} {R : List (List Ob)} {l : List α} {β : Type} {f : List T → RM β} : ((lendAL (lendA k) (tR 17 0 l)).bind f).run (r0 :: r1 :: r2 :: r3 :: r4 :: r5 :: r6 :: r7 :: r8 :: r9 :: r10 :: r11 :: r12 :: r13 :: r14 :: r15 :: r16 :: (tO l ++ Q) :: R) = (f (l.map Enc.b)).run (r0 :: r1 :: r2 :: r3 :: r4 :: r5 :: r6 :: r7 :: r8 :: r9 :: r10 :: r11 :: r12 :: r13 :: r14 :: r15 :: r16 :: (tO l ++ Q) :: R) := lend_tR (Q := Q) rfl f
@[simp] theorem giveR17q {r0 r1 r2 r3 r4 r5 r6 r7 r8 r9 r10 r11 r12 r13 r14 r15 r16 : List Ob} {Q : List Ob} {R : List (List Ob)} {l : List α} : giveSL (tR 17 0 l) (r0 :: r1 :: r2 :: r3 :: r4 :: r5 :: r6 :: r7 :: r8 :: r9 :: r10 :: r11 :: r12 :: r13 :: r14 :: r15 :: r16 :: (tO l ++ Q) :: R) = some (l.map Enc.o, r0 :: r1 :: r2 :: r3 :: r4 :: r5 :: r6 :: r7 :: r8 :: r9 :: r10 :: r11 :: r12 :: r13 :: r14 :: r15 :: r16 :: (gO l ++ Q) :: R) := by rw [give_tR (e := 17) (Q := Q) rfl]; simp
@[simp] theorem lendR18 {k : T → RM T} {r0 r1 r2 r3 r4 r5 r6 r7 r8 r9 r10 r11 r12 r13 r14 r15 r16 r17 : List Ob} {R : List (List Ob)} {l : List α} {β : Type} {f : List T → RM β} : ((lendAL (lendA k) (tR 18 0 l)).bind f).run (r0 :: r1 :: r2 :: r3 :: r4 :: r5 :: r6 :: r7 :: r8 :: r9 :: r10 :: r11 :: r12 :: r13 :: r14 :: r15 :: r16 :: r17 :: tO l :: R) = (f (l.map Enc.b)).run (r0 :: r1 :: r2 :: r3 :: r4 :: r5 :: r6 :: r7 :: r8 :: r9 :: r10 :: r11 :: r12 :: r13 :: r14 :: r15 :: r16 :: r17 :: tO l :: R) := lend_tR (Q := []) (by simp) f
@[simp] theorem giveR18 {r0 r1 r2 r3 r4 r5 r6 r7 r8 r9 r10 r11 r12 r13 r14 r15 r16 r17 : List Ob} {R : List (List Ob)} {l : List α} : giveSL (tR 18 0 l) (r0 :: r1 :: r2 :: r3 :: r4 :: r5 :: r6 :: r7 :: r8 :: r9 :: r10 :: r11 :: r12 :: r13 :: r14 :: r15 :: r16 :: r17 :: tO l :: R) = some (l.map Enc.o, r0 :: r1 :: r2 :: r3 :: r4 :: r5 :: r6 :: r7 :: r8 :: r9 :: r10 :: r11 :: r12 :: r13 :: r14 :: r15 :: r16 :: r17 :: gO l :: R) := by rw [give_tR (e := 18) (Q := []) (by simp)]; simp
@[simp] theorem lendR18q {k : T → RM T} {r0 r1 r2 r3 r4 r5 r6 r7 r8 r9 r10 r11 r12 r13 r14 r15 r16 r17 : List Ob} {Q : List Ob} {R : List (List Ob)} {l : List α} {β : Type} {f : List T → RM β} : ((lendAL (lendA k) (tR 18 0 l)).bind f).run (r0 :: r1 :: r2 :: r3 :: r4 :: r5 :: r6 :: r7 :: r8 :: r9 :: r10 :: r11 :: r12 :: r13 :: r14 :: r15 :: r16 :: r17 :: (tO l ++ Q) :: R) = (f (l.map Enc.b)).run (r0 :: r1 :: r2 :: r3 :: r4 :: r5 :: r6 :: r7 :: r8 :: r9 :: r10 :: r11 :: r12 :: r13 :: r14 :: r15 :: r16 :: r17 :: (tO l ++ Q) :: R) := lend_tR (Q := Q) rfl f
@[simp] theorem giveR18q {r0 r1 r2 r3 r4 r5 r6 r7 r8 r9 r10 r11 r12 r13 r14 r15 r16 r17 : List Ob} {Q : List Ob} {R : List (List Ob)} {l : List α} : giveSL (tR 18 0 l) (r0 :: r1 :: r2 :: r3 :: r4 :: r5 :: r6 :: r7 :: r8 :: r9 :: r10 :: r11 :: r12 :: r13 :: r14 :: r15 :: r16 :: r17 :: (tO l ++ Q) :: R) = some (l.map Enc.o, r0 :: r1 :: r2 :: r3 :: r4 :: r5 :: r6 :: r7 :: r8 :: r9 :: r10 :: r11 :: r12 :: r13 :: r14 :: r15 :: r16 :: r17 :: (gO l ++ Q) :: R) := by rw [give_tR (e := 18) (Q := Q) rfl]; simp
@[simp] theorem lendR19 {k : T → RM T} {r0 r1 r2 r3 r4 r5 r6 r7 r8 r9 r10 r11 r12 r13 r14 r15 r16 r17 r18 : List Ob} {R : List (List Ob)} {l : List α} {β : Type} {f : List T → RM β} : ((lendAL (lendA k) (tR 19 0 l)).bind f).run (r0 :: r1 :: r2 :: r3 :: r4 :: r5 :: r6 :: r7 :: r8 :: r9 :: r10 :: r11 :: r12 :: r13 :: r14 :: r15 :: r16 :: r17 :: r18 :: tO l :: R) = (f (l.map Enc.b)).run (r0 :: r1 :: r2 :: r3 :: r4 :: r5 :: r6 :: r7 :: r8 :: r9 :: r10 :: r11 :: r12 :: r13 :: r14 :: r15 :: r16 :: r17 :: r18 :: tO l :: R) := lend_tR (Q := []) (by simp) f
@[simp] theorem giveR19 {r0 r1 r2 r3 r4 r5 r6 r7 r8 r9 r10 r11 r12 r13 r14 r15 r16 r17 r18 : List Ob} {R : List (List Ob)} {l : List α} : giveSL (tR 19 0 l) (r0 :: r1 :: r2 :: r3 :: r4 :: r5 :: r6 :: r7 :: r8 :: r9 :: r10 :: r11 :: r12 :: r13 :: r14 :: r15 :: r16 :: r17 :: r18 :: tO l :: R) = some (l.map Enc.o, r0 :: r1 :: r2 :: r3 :: r4 :: r5 :: r6 :: r7 :: r8 :: r9 :: r10 :: r11 :: r12 :: r13 :: r14 :: r15 :: r16 :: r17 :: r18 :: gO l :: R) := by rw [give_tR (e := 19) (Q := []) (by simp)]; simp
@[simp] theorem lendR19q {k : T → RM T} {r0 r1 r2 r3 r4 r5 r6 r7 r8 r9 r10 r11 r12 r13 r14 r15 r16 r17 r18 : List Ob} {Q : List Ob} {R : List (List Ob)} {l : List α} {β : Type} {f : List T → RM β} : ((lendAL (lendA k) (tR 19 0 l)).bind f).run (r0 :: r1 :: r2 :: r3 :: r4 :: r5 :: r6 :: r7 :: r8 :: r9 :: r10 :: r11 :: r12 :: r13 :: r14 :: r15 :: r16 :: r17 :: r18 :: (tO l ++ Q) :: R) = (f (l.map Enc.b)).run (r0 :: r1 :: r2 :: r3 :: r4 :: r5 :: r6 :: r7 :: r8 :: r9 :: r10 :: r11 :: r12 :: r13 :: r14 :: r15 :: r16 :: r17 :: r18 :: (tO l ++ Q) :: R) := lend_tR (Q := Q) rfl f
@[simp] theorem giveR19q {r0 r1 r2 r3 r4 r5 r6 r7 r8 r9 r10 r11 r12 r13 r14 r15 r16 r17 r18 : List Ob} {Q : List Ob} {R : List (List Ob)} {l : List α} : giveSL (tR 19 0 l) (r0 :: r1 :: r2 :: r3 :: r4 :: r5 :: r6 :: r7 :: r8 :: r9 :: r10 :: r11 :: r12 :: r13 :: r14 :: r15 :: r16 :: r17 :: r18 :: (tO l ++ Q) :: R) = some (l.map Enc.o, r0 :: r1 :: r2 :: r3 :: r4 :: r5 :: r6 :: r7 :: r8 :: r9 :: r10 :: r11 :: r12 :: r13 :: r14 :: r15 :: r16 :: r17 :: r18 :: (gO l ++ Q) :: R) := by rw [give_tR (e := 19) (Q := Q) rfl]; simp
@[simp] theorem lendR20 {k : T → RM T} {r0 r1 r2 r3 r4 r5 r6 r7 r8 r9 r10 r11 r12 r13 r14 r15 r16 r17 r18 r19 : List Ob} {R : List (List Ob)} {l : List α} {β : Type} {f : List T → RM β} : ((lendAL (lendA k) (tR 20 0 l)).bind f).run (r0 :: r1 :: r2 :: r3 :: r4 :: r5 :: r6 :: r7 :: r8 :: r9 :: r10 :: r11 :: r12 :: r13 :: r14 :: r15 :: r16 :: r17 :: r18 :: r19 :: tO l :: R) = (f (l.map Enc.b)).run (r0 :: r1 :: r2 :: r3 :: r4 :: r5 :: r6 :: r7 :: r8 :: r9 :: r10 :: r11 :: r12 :: r13 :: r14 :: r15 :: r16 :: r17 :: r18 :: r19 :: tO l :: R) := lend_tR (Q := []) (by simp) f
@[simp] theorem giveR20 {r0 r1 r2 r3 r4 r5 r6 r7 r8 r9 r10 r11 r12 r13 r14 r15 r16 r17 r18 r19 : List Ob} {R : List (List Ob)} {l : List α} : giveSL (tR 20 0 l) (r0 :: r1 :: r2 :: r3 :: r4 :: r5 :: r6 :: r7 :: r8 :: r9 :: r10 :: r11 :: r12 :: r13 :: r14 :: r15 :: r16 :: r17 :: r18 :: r19 :: tO l :: R) = some (l.map Enc.o, r0 :: r1 :: r2 :: r3 :: r4 :: r5 :: r6 :: r7 :: r8 :: r9 :: r10 :: r11 :: r12 :: r13 :: r14 :: r15 :: r16 :: r17 :: r18 :: r19 :: gO l :: R) := by rw [give_tR (e := 20) (Q := []) (by simp)]; simp
@[simp] theorem lendR20q {k : T → RM T} {r0 r1 r2 r3 r4 r5 r6 r7 r8 r9 r10 r11 r12 r13 r14 r15 r16 r17 r18 r19 : List Ob} {Q : List Ob} {R : List (List Ob)} {l : List α} {β : Type} {f : List T → RM β} : ((lendAL (lendA k) (tR 20 0 l)).bind f).run (r0 :: r1 :: r2 :: r3 :: r4 :: r5 :: r6 :: r7 :: r8 :: r9 :: r10 :: r11 :: r12 :: r13 :: r14 :: r15 :: r16 :: r17 :: r18 :: r19 :: (tO l ++ Q) :: R) = (f (l.map Enc.b)).run (r0 :: r1 :: r2 :: r3 :: r4 :: r5 :: r6 :: r7 :: r8 :: r9 :: r10 :: r11 :: r12 :: r13 :: r14 :: r15 :: r16 :: r17 :: r18 :: r19 :: (tO l ++ Q) :: R) := lend_tR (Q := Q) rfl f
@[simp] theorem giveR20q {r0 r1 r2 r3 r4 r5 r6 r7 r8 r9 r10 r11 r12 r13 r14 r15 r16 r17 r18 r19 : List Ob} {Q : List Ob} {R : List (List Ob)} {l : List α} : giveSL (tR 20 0 l) (r0 :: r1 :: r2 :: r3 :: r4 :: r5 :: r6 :: r7 :: r8 :: r9 :: r10 :: r11 :: r12 :: r13 :: r14 :: r15 :: r16 :: r17 :: r18 :: r19 :: (tO l ++ Q) :: R) = some (l.map Enc.o, r0 :: r1 :: r2 :: r3 :: r4 :: r5 :: r6 :: r7 :: r8 :: r9 :: r10 :: r11 :: r12 :: r13 :: r14 :: r15 :: r16 :: r17 :: r18 :: r19 :: (gO l ++ Q) :: R) := by rw [give_tR (e := 20) (Q := Q) rfl]; simp
@[simp] theorem lendR21 {k : T → RM T} {r0 r1 r2 r3 r4 r5 r6 r7 r8 r9 r10 r11 r12 r13 r14 r15 r16 r17 r18 r19 r20 : List Ob} {R : List (List Ob)} {l : List α} {β : Type} {f : List T → RM β} : ((lendAL (lendA k) (tR 21 0 l)).bind f).run (r0 :: r1 :: r2 :: r3 :: r4 :: r5 :: r6 :: r7 :: r8 :: r9 :: r10 :: r11 :: r12 :: r13 :: r14 :: r15 :: r16 :: r17 :: r18 :: r19 :: r20 :: tO l :: R) = (f (l.map Enc.b)).run (r0 :: r1 :: r2 :: r3 :: r4 :: r5 :: r6 :: r7 :: r8 :: r9 :: r10 :: r11 :: r12 :: r13 :: r14 :: r15 :: r16 :: r17 :: r18 :: r19 :: r20 :: tO l :: R) := lend_tR (Q := []) (by simp) f
@[simp] theorem giveR21 {r0 r1 r2 r3 r4 r5 r6 r7 r8 r9 r10 r11 r12 r13 r14 r15 r16 r17 r18 r19 r20 : List Ob} {R : List (List Ob)} {l : List α} : giveSL (tR 21 0 l) (r0 :: r1 :: r2 :: r3 :: r4 :: r5 :: r6 :: r7 :: r8 :: r9 :: r10 :: r11 :: r12 :: r13 :: r14 :: r15 :: r16 :: r17 :: r18 :: r19 :: r20 :: tO l :: R) = some (l.map Enc.o, r0 :: r1 :: r2 :: r3 :: r4 :: r5 :: r6 :: r7 :: r8 :: r9 :: r10 :: r11 :: r12 :: r13 :: r14 :: r15 :: r16 :: r17 :: r18 :: r19 :: r20 :: gO l :: R) := by rw [give_tR (e := 21) (Q := []) (by simp)]; simp
@[simp] theorem lendR21q {k : T → RM T} {r0 r1 r2 r3 r4 r5 r6 r7 r8 r9 r10 r11 r12 r13 r14 r15 r16 r17 r18 r19 r20 : List Ob} {Q : List Ob} {R : List (List Ob)} {l : List α} {β : Type} {f : List T → RM β} : ((lendAL (lendA k) (tR 21 0 l)).bind f).run (r0 :: r1 :: r2 :: r3 :: r4 :: r5 :: r6 :: r7 :: r8 :: r9 :: r10 :: r11 :: r12 :: r13 :: r14 :: r15 :: r16 :: r17 :: r18 :: r19 :: r20 :: (tO l ++ Q) :: R) = (f (l.map Enc.b)).run (r0 :: r1 :: r2 :: r3 :: r4 :: r5 :: r6 :: r7 :: r8 :: r9 :: r10 :: r11 :: r12 :: r13 :: r14 :: r15 :: r16 :: r17 :: r18 :: r19 :: r20 :: (tO l ++ Q) :: R) := lend_tR (Q := Q) rfl f
@[simp] theorem giveR21q {r0 r1 r2 r3 r4 r5 r6 r7 r8 r9 r10 r11 r12 r13 r14 r15 r16 r17 r18 r19 r20 : List Ob} {Q : List Ob} {R : List (List Ob)} {l : List α} : giveSL (tR 21 0 l) (r0 :: r1 :: r2 :: r3 :: r4 :: r5 :: r6 :: r7 :: r8 :: r9 :: r10 :: r11 :: r12 :: r13 :: r14 :: r15 :: r16 :: r17 :: r18 :: r19 :: r20 :: (tO l ++ Q) :: R) = some (l.map Enc.o, r0 :: r1 :: r2 :: r3 :: r4 :: r5 :: r6 :: r7 :: r8 :: r9 :: r10 :: r11 :: r12 :: r13 :: r14 :: r15 :: r16 :: r17 :: r18 :: r19 :: r20 :: (gO l ++ Q) :: R) := by rw [give_tR (e := 21) (Q := Q) rfl]; simp
@[simp] theorem lendR22 {k : T → RM T} {r0 r1 r2 r3 r4 r5 r6 r7 r8 r9 r10 r11 r12 r13 r14 r15 r16 r17 r18 r19 r20 r21 : List Ob} {R : List (List Ob)} {l : List α} {β : Type} {f : List T → RM β} : ((lendAL (lendA k) (tR 22 0 l)).bind f).run (r0 :: r1 :: r2 :: r3 :: r4 :: r5 :: r6 :: r7 :: r8 :: r9 :: r10 :: r11 :: r12 :: r13 :: r14 :: r15 :: r16 :: r17 :: r18 :: r19 :: r20 :: r21 :: tO l :: R) = (f (l.map Enc.b)).run (r0 :: r1 :: r2 :: r3 :: r4 :: r5 :: r6 :: r7 :: r8 :: r9 :: r10 :: r11 :: r12 :: r13 :: r14 :: r15 :: r16 :: r17 :: r18 :: r19 :: r20 :: r21 :: tO l :: R) := lend_tR (Q := []) (by simp) f
@[simp] theorem giveR22 {r0 r1 r2 r3 r4 r5 r6 r7 r8 r9 r10 r11 r12 r13 r14 r15 r16 r17 r18 r19 r20 r21 : List Ob} {R : List (List Ob)} {l : List α} : giveSL (tR 22 0 l) (r0 :: r1 :: r2 :: r3 :: r4 :: r5 :: r6 :: r7 :: r8 :: r9 :: r10 :: r11 :: r12 :: r13 :: r14 :: r15 :: r16 :: r17 :: r18 :: r19 :: r20 :: r21 :: tO l :: R) = some (l.map Enc.o, r0 :: r1 :: r2 :: r3 :: r4 :: r5 :: r6 :: r7 :: r8 :: r9 :: r10 :: r11 :: r12 :: r13 :: r14 :: r15 :: r16 :: r17 :: r18 :: r19 :: r20 :: r21 :: gO l :: R) := by rw [give_tR (e := 22) (Q := []) (by simp)]; simp
@[simp] theorem lendR22q {k : T → RM T} {r0 r1 r2 r3 r4 r5 r6 r7 r8 r9 r10 r11 r12 r13 r14 r15 r16 r17 r18 r19 r20 r21 : List Ob} {Q : List Ob} {R : List (List Ob)} {l : List α} {β : Type} {f : List T → RM β} : ((lendAL (lendA k) (tR 22 0 l)).bind f).run (r0 :: r1 :: r2 :: r3 :: r4 :: r5 :: r6 :: r7 :: r8 :: r9 :: r10 :: r11 :: r12 :: r13 :: r14 :: r15 :: r16 :: r17 :: r18 :: r19 :: r20 :: r21 :: (tO l ++ Q) :: R) = (f (l.map Enc.b)).run (r0 :: r1 :: r2 :: r3 :: r4 :: r5 :: r6 :: r7 :: r8 :: r9 :: r10 :: r11 :: r12 :: r13 :: r14 :: r15 :: r16 :: r17 :: r18 :: r19 :: r20 :: r21 :: (tO l ++ Q) :: R) := lend_tR (Q := Q) rfl f
@[simp] theorem giveR22q {r0 r1 r2 r3 r4 r5 r6 r7 r8 r9 r10 r11 r12 r13 r14 r15 r16 r17 r18 r19 r20 r21 : List Ob} {Q : List Ob} {R : List (List Ob)} {l : List α} : giveSL (tR 22 0 l) (r0 :: r1 :: r2 :: r3 :: r4 :: r5 :: r6 :: r7 :: r8 :: r9 :: r10 :: r11 :: r12 :: r13 :: r14 :: r15 :: r16 :: r17 :: r18 :: r19 :: r20 :: r21 :: (tO l ++ Q) :: R) = some (l.map Enc.o, r0 :: r1 :: r2 :: r3 :: r4 :: r5 :: r6 :: r7 :: r8 :: r9 :: r10 :: r11 :: r12 :: r13 :: r14 :: r15 :: r16 :: r17 :: r18 :: r19 :: r20 :: r21 :: (gO l ++ Q) :: R) := by rw [give_tR (e := 22) (Q := Q) rfl]; simp
@[simp] theorem lendR23 {k : T → RM T} {r0 r1 r2 r3 r4 r5 r6 r7 r8 r9 r10 r11 r12 r13 r14 r15 r16 r17 r18 r19 r20 r21 r22 : List Ob} {R : List (List Ob)} {l : List α} {β : Type} {f : List T → RM β} : ((lendAL (lendA k) (tR 23 0 l)).bind f).run (r0 :: r1 :: r2 :: r3 :: r4 :: r5 :: r6 :: r7 :: r8 :: r9 :: r10 :: r11 :: r12 :: r13 :: r14 :: r15 :: r16 :: r17 :: r18 :: r19 :: r20 :: r21 :: r22 :: tO l :: R) = (f (l.map Enc.b)).run (r0 :: r1 :: r2 :: r3 :: r4 :: r5 :: r6 :: r7 :: r8 :: r9 :: r10 :: r11 :: r12 :: r13 :: r14 :: r15 :: r16 :: r17 :: r18 :: r19 :: r20 :: r21 :: r22 :: tO l :: R) := lend_tR (Q := []) (by simp) f
@[simp] theorem giveR23 {r0 r1 r2 r3 r4 r5 r6 r7 r8 r9 r10 r11 r12 r13 r14 r15 r16 r17 r18 r19 r20 r21 r22 : List Ob} {R : List (List Ob)} {l : List α} : giveSL (tR 23 0 l) (r0 :: r1 :: r2 :: r3 :: r4 :: r5 :: r6 :: r7 :: r8 :: r9 :: r10 :: r11 :: r12 :: r13 :: r14 :: r15 :: r16 :: r17 :: r18 :: r19 :: r20 :: r21 :: r22 :: tO l :: R) = some (l.map Enc.o, r0 :: r1 :: r2 :: r3 :: r4 :: r5 :: r6 :: r7 :: r8 :: r9 :: r10 :: r11 :: r12 :: r13 :: r14 :: r15 :: r16 :: r17 :: r18 :: r19 :: r20 :: r21 :: r22 :: gO l :: R) := by rw [give_tR (e := 23) (Q := []) (by simp)]; simp
@[simp] theorem lendR23q {k : T → RM T} {r0 r1 r2 r3 r4 r5 r6 r7 r8 r9 r10 r11 r12 r13 r14 r15 r16 r17 r18 r19 r20 r21 r22 : List Ob} {Q : List Ob} {R : List (List Ob)} {l : List α} {β : Type} {f : List T → RM β} : ((lendAL (lendA k) (tR 23 0 l)).bind f).run (r0 :: r1 :: r2 :: r3 :: r4 :: r5 :: r6 :: r7 :: r8 :: r9 :: r10 :: r11 :: r12 :: r13 :: r14 :: r15 :: r16 :: r17 :: r18 :: r19 :: r20 :: r21 :: r22 :: (tO l ++ Q) :: R) = (f (l.map Enc.b)).run (r0 :: r1 :: r2 :: r3 :: r4 :: r5 :: r6 :: r7 :: r8 :: r9 :: r10 :: r11 :: r12 :: r13 :: r14 :: r15 :: r16 :: r17 :: r18 :: r19 :: r20 :: r21 :: r22 :: (tO l ++ Q) :: R) := lend_tR (Q := Q) rfl f
@[simp] theorem giveR23q {r0 r1 r2 r3 r4 r5 r6 r7 r8 r9 r10 r11 r12 r13 r14 r15 r16 r17 r18 r19 r20 r21 r22 : List Ob} {Q : List Ob} {R : List (List Ob)} {l : List α} : giveSL (tR 23 0 l) (r0 :: r1 :: r2 :: r3 :: r4 :: r5 :: r6 :: r7 :: r8 :: r9 :: r10 :: r11 :: r12 :: r13 :: r14 :: r15 :: r16 :: r17 :: r18 :: r19 :: r20 :: r21 :: r22 :: (tO l ++ Q) :: R) = some (l.map Enc.o, r0 :: r1 :: r2 :: r3 :: r4 :: r5 :: r6 :: r7 :: r8 :: r9 :: r10 :: r11 :: r12 :: r13 :: r14 :: r15 :: r16 :: r17 :: r18 :: r19 :: r20 :: r21 :: r22 :: (gO l ++ Q) :: R) := by rw [give_tR (e := 23) (Q := Q) rfl]; simp
@[simp] theorem lendR24 {k : T → RM T} {r0 r1 r2 r3 r4 r5 r6 r7 r8 r9 r10 r11 r12 r13 r14 r15 r16 r17 r18 r19 r20 r21 r22 r23 : List Ob} {R : List (List Ob)} {l : List α} {β : Type} {f : List T → RM β} : ((lendAL (lendA k) (tR 24 0 l)).bind f).run (r0 :: r1 :: r2 :: r3 :: r4 :: r5 :: r6 :: r7 :: r8 :: r9 :: r10 :: r11 :: r12 :: r13 :: r14 :: r15 :: r16 :: r17 :: r18 :: r19 :: r20 :: r21 :: r22 :: r23 :: tO l :: R) = (f (l.map Enc.b)).run (r0 :: r1 :: r2 :: r3 :: r4 :: r5 :: r6 :: r7 :: r8 :: r9 :: r10 :: r11 :: r12 :: r13 :: r14 :: r15 :: r16 :: r17 :: r18 :: r19 :: r20 :: r21 :: r22 :: r23 :: tO l :: R) := lend_tR (Q := []) (by simp) f
@[simp] theorem giveR24 {r0 r1 r2 r3 r4 r5 r6 r7 r8 r9 r10 r11 r12 r13 r14 r15 r16 r17 r18 r19 r20 r21 r22 r23 : List Ob} {R : List (List Ob)} {l : List α} : giveSL (tR 24 0 l) (r0 :: r1 :: r2 :: r3 :: r4 :: r5 :: r6 :: r7 :: r8 :: r9 :: r10 :: r11 :: r12 :: r13 :: r14 :: r15 :: r16 :: r17 :: r18 :: r19 :: r20 :: r21 :: r22 :: r23 :: tO l :: R) = some (l.map Enc.o, r0 :: r1 :: r2 :: r3 :: r4 :: r5 :: r6 :: r7 :: r8 :: r9 :: r10 :: r11 :: r12 :: r13 :: r14 :: r15 :: r16 :: r17 :: r18 :: r19 :: r20 :: r21 :: r22 :: r23 :: gO l :: R) := by rw [give_tR (e := 24) (Q := []) (by simp)]; simp
@[simp] theorem lendR24q {k : T → RM T} {r0 r1 r2 r3 r4 r5 r6 r7 r8 r9 r10 r11 r12 r13 r14 r15 r16 r17 r18 r19 r20 r21 r22 r23 : List Ob} {Q : List Ob} {R : List (List Ob)} {l : List α} {β : Type} {f : List T → RM β} : ((lendAL (lendA k) (tR 24 0 l)).bind f).run (r0 :: r1 :: r2 :: r3 :: r4 :: r5 :: r6 :: r7 :: r8 :: r9 :: r10 :: r11 :: r12 :: r13 :: r14 :: r15 :: r16 :: r17 :: r18 :: r19 :: r20 :: r21 :: r22 :: r23 :: (tO l ++ Q) :: R) = (f (l.map Enc.b)).run (r0 :: r1 :: r2 :: r3 :: r4 :: r5 :: r6 :: r7 :: r8 :: r9 :: r10 :: r11 :: r12 :: r13 :: r14 :: r15 :: r16 :: r17 :: r18 :: r19 :: r20 :: r21 :: r22 :: r23 :: (tO l ++ Q) :: R) := lend_tR (Q := Q) rfl f
@[simp] theorem giveR24q {r0 r1 r2 r3 r4 r5 r6 r7 r8 r9 r10 r11 r12 r13 r14 r15 r16 r17 r18 r19 r20 r21 r22 r23 : List Ob} {Q : List Ob} {R : List (List Ob)} {l : List α} : giveSL (tR 24 0 l) (r0 :: r1 :: r2 :: r3 :: r4 :: r5 :: r6 :: r7 :: r8 :: r9 :: r10 :: r11 :: r12 :: r13 :: r14 :: r15 :: r16 :: r17 :: r18 :: r19 :: r20 :: r21 :: r22 :: r23 :: (tO l ++ Q) :: R) = some (l.map Enc.o, r0 :: r1 :: r2 :: r3 :: r4 :: r5 :: r6 :: r7 :: r8 :: r9 :: r10 :: r11 :: r12 :: r13 :: r14 :: r15 :: r16 :: r17 :: r18 :: r19 :: r20 :: r21 :: r22 :: r23 :: (gO l ++ Q) :: R) := by rw [give_tR (e := 24) (Q := Q) rfl]; simp
@[simp] theorem lendR25 {k : T → RM T} {r0 r1 r2 r3 r4 r5 r6 r7 r8 r9 r10 r11 r12 r13 r14 r15 r16 r17 r18 r19 r20 r21 r22 r23 r24 : List Ob} {R : List (List Ob)} {l : List α} {β : Type} {f : List T → RM β} : ((lendAL (lendA k) (tR 25 0 l)).bind f).run (r0 :: r1 :: r2 :: r3 :: r4 :: r5 :: r6 :: r7 :: r8 :: r9 :: r10 :: r11 :: r12 :: r13 :: r14 :: r15 :: r16 :: r17 :: r18 :: r19 :: r20 :: r21 :: r22 :: r23 :: r24 :: tO l :: R) = (f (l.map Enc.b)).run (r0 :: r1 :: r2 :: r3 :: r4 :: r5 :: r6 :: r7 :: r8 :: r9 :: r10 :: r11 :: r12 :: r13 :: r14 :: r15 :: r16 :: r17 :: r18 :: r19 :: r20 :: r21 :: r22 :: r23 :: r24 :: tO l :: R) := lend_tR (Q := []) (by simp) f
@[simp] theorem giveR25 {r0 r1 r2 r3 r4 r5 r6 r7 r8 r9 r10 r11 r12 r13 r14 r15 r16 r17 r18 r19 r20 r21 r22 r23 r24 : List Ob} {R : List (List Ob)} {l : List α} : giveSL (tR 25 0 l) (r0 :: r1 :: r2 :: r3 :: r4 :: r5 :: r6 :: r7 :: r8 :: r9 :: r10 :: r11 :: r12 :: r13 :: r14 :: r15 :: r16 :: r17 :: r18 :: r19 :: r20 :: r21 :: r22 :: r23 :: r24 :: tO l :: R) = some (l.map Enc.o, r0 :: r1 :: r2 :: r3 :: r4 :: r5 :: r6 :: r7 :: r8 :: r9 :: r10 :: r11 :: r12 :: r13 :: r14 :: r15 :: r16 :: r17 :: r18 :: r19 :: r20 :: r21 :: r22 :: r23 :: r24 :: gO l :: R) := by rw [give_tR (e := 25) (Q := []) (by simp)]; simp
@[simp] theorem lendR25q {k : T → RM T} {r0 r1 r2 r3 r4 r5 r6 r7 r8 r9 r10 r11 r12 r13 r14 r15 r16 r17 r18 r19 r20 r21 r22 r23 r24 : List Ob} {Q : List Ob} {R : List (List Ob)} {l : List α} {β : Type} {f : List T → RM β} : ((lendAL (lendA k) (tR 25 0 l)).bind f).run (r0 :: r1 :: r2 :: r3 :: r4 :: r5 :: r6 :: r7 :: r8 :: r9 :: r10 :: r11 :: r12 :: r13 :: r14 :: r15 :: r16 :: r17 :: r18 :: r19 :: r20 :: r21 :: r22 :: r23 :: r24 :: (tO l ++ Q) :: R) = (f (l.map Enc.b)).run (r0 :: r1 :: r2 :: r3 :: r4 :: r5 :: r6 :: r7 :: r8 :: r9 :: r10 :: r11 :: r12 :: r13 :: r14 :: r15 :: r16 :: r17 :: r18 :: r19 :: r20 :: r21 :: r22 :: r23 :: r24 :: (tO l ++ Q) :: R) := lend_tR (Q := Q) rfl f
@[simp] theorem giveR25q {r0 r1 r2 r3 r4 r5 r6 r7 r8 r9 r10 r11 r12 r13 r14 r15 r16 r17 r18 r19 r20 r21 r22 r23 r24 : List Ob} {Q : List Ob} {R : List (List Ob)} {l : List α} : giveSL (tR 25 0 l) (r0 :: r1 :: r2 :: r3 :: r4 :: r5 :: r6 :: r7 :: r8 :: r9 :: r10 :: r11 :: r12 :: r13 :: r14 :: r15 :: r16 :: r17 :: r18 :: r19 :: r20 :: r21 :: r22 :: r23 :: r24 :: (tO l ++ Q) :: R) = some (l.map Enc.o, r0 :: r1 :: r2 :: r3 :: r4 :: r5 :: r6 :: r7 :: r8 :: r9 :: r10 :: r11 :: r12 :: r13 :: r14 :: r15 :: r16 :: r17 :: r18 :: r19 :: r20 :: r21 :: r22 :: r23 :: r24 :: (gO l ++ Q) :: R) := by rw [give_tR (e := 25) (Q := Q) rfl]; simp
end
attribute [simp] bind_assoc
section
variable {α : Type} [Enc α]
theorem sizeL_takeb (l : List α) (i : Nat) (h : i ≤ l.length) : sizeL ((l.map Enc.b).take i) = i * Enc.es α := by
  rw [← List.map_take, sizeL_b, List.length_take, Nat.min_eq_left h]
theorem sizeL_takef (z : T) (l : List α) (i : Nat) (h : i ≤ l.length) : sizeL ((fillG z l i).take i) = i * Enc.es α := by
  have : (fillG z l i).take i = (l.take i).map Enc.o := by
    unfold fillG
    rw [List.take_append_of_le_length (by simp; omega), List.take_of_length_le (by simp; omega)]
  rw [this, sizeL_o, List.length_take, Nat.min_eq_left h]
theorem Norm.fillV {tm : List T} {H : Heap} (e j : Nat) {z : T} {l : List α} {i : Nat} {X : T} (ha : H.at e j = some (.var (.nd ((fillG z l i).set i X)))) (hi : i < l.length)
    (hs : (soakS X (H.put e j .gone)).1 = Enc.o l[i]) : Norm ⟨tm, H⟩ ⟨tm, (soakS X (H.put e j .gone)).2.put e j (.var (.nd (fillG z l (i + 1))))⟩ := by
  have hget : ((fillG z l i).set i X)[i]? = some X := List.getElem?_set_self (by rw [fill_len z l i (by omega)]; exact hi)
  have := Norm.soakAt (tm := tm) e j [i] (t := X) ha (by simp only [T.subAt, hget])
  rw [hs] at this
  have h2 : (T.nd ((fillG z l i).set i X)).setAt [i] (Enc.o l[i]) = .nd (fillG z l (i + 1)) := by
    simp only [T.setAt, hget, List.set_set]
    rw [fill_set z l i hi]
  rwa [h2] at this
end
/-! an array that was received whole, element by element: what is given away is gone, the rest is there -/
section
variable {α : Type} [Enc α] [Pl α]
theorem thaw_len (e j : Nat) (a : α) : (thawA e (Enc.o a) j).2.length = Pl.n α := by rw [thaw_obs _ (Pl.pl a) e j 0 0, Pl.len]
theorem tR_cons (e j : Nat) (a : α) (l : List α) : tR e j (a :: l) = (thawA e (Enc.o a) j).1 :: tR e (j + Pl.n α) l := by
  unfold tR; simp only [List.map_cons, thawAL]; rw [thaw_len]
theorem tO_cons (a : α) (l : List α) : tO (a :: l) = (thawA 0 (Enc.o a) 0).2 ++ tO l := by
  unfold tO; simp only [List.map_cons, thawAL]; rw [thawL_obs _ (plL_o l) 0 _ 0 0]
theorem tR_get : ∀ (l : List α) (e j i : Nat) (h : i < l.length), (tR e j l)[i]? = some (thawA e (Enc.o l[i]) (j + i * Pl.n α)).1
  | [], _, _, _, h => by simp at h
  | a :: l, e, j, 0, _ => by rw [tR_cons]; simp
  | a :: l, e, j, i + 1, h => by
    rw [tR_cons, List.getElem?_cons_succ, tR_get l e (j + Pl.n α) i (by simpa using h), List.getElem_cons_succ, Nat.succ_mul]
    congr 3; omega
theorem tR_len : ∀ (l : List α) (e j : Nat), (tR e j l).length = l.length
  | [], _, _ => rfl
  | a :: l, e, j => by rw [tR_cons, List.length_cons, tR_len l, List.length_cons]
theorem tR_take : ∀ (l : List α) (e j i : Nat), sizeL ((tR e j l).take i) = sizeL (((l.take i).map (Enc.o : α → T)))
  | [], _, _, i => by simp [tR, thawAL]
  | a :: l, _, _, 0 => by simp
  | a :: l, e, j, i + 1 => by
    rw [tR_cons]
    simp only [List.take_succ_cons, List.map_cons, sizeL, tR_take l, size_thaw _ (Pl.pl a)]
theorem sizeL_take_tR (l : List α) (e j i : Nat) (h : i ≤ l.length) : sizeL ((tR e j l).take i) = i * Enc.es α := by
  rw [tR_take, sizeL_o, List.length_take, Nat.min_eq_left h]
theorem give_at {e m : Nat} {x : α} {H : Heap} {Q : List Ob} (h : H[e]? = some (goneN m ++ ((thawA 0 (Enc.o x) 0).2 ++ Q))) : giveS (thawA e (Enc.o x) m).1 H = some (Enc.o x, H.set e (goneN (m + Pl.n α) ++ Q)) := by
  rw [give_thaw _ (Pl.pl x) e m H (goneN m) Q (by rw [thaw_obs _ (Pl.pl x) e m 0 0]; exact h) (by simp [goneN]), thaw_len, ← List.append_assoc, goneN_add]
end
/-! arrays that are lent under a name (a part of them is handed back) -/
structure Tgd (σ : Tag → Tag) (t : T) : Prop where
  lt : Lnt (t.tg σ)
  sz : (t.tg σ).size = t.size
  nw : (t.tg σ).nw = true
  gv : ∀ H, giveS t H = some (t, H)
structure TgdL (σ : Tag → Tag) (l : List T) : Prop where
  lt : LntL (tgL σ l)
  sz : sizeL (tgL σ l) = sizeL l
  nw : nwL (tgL σ l) = true
  gv : ∀ H, giveSL l H = some (l, H)
mutual
theorem lnt_tg (σ : Tag → Tag) {k : T → RM T} : ∀ (t : T), lendA k t = .pure t → t.cloA = true → Tgd σ t
  | .int .., _, _ => ⟨⟨fun _ _ => rfl, rfl, fun _ => rfl, rfl⟩, rfl, rfl, fun _ => rfl⟩
  | .bool _, _, _ => ⟨⟨fun _ _ => rfl, rfl, fun _ => rfl, rfl⟩, rfl, rfl, fun _ => rfl⟩
  | .str _, _, _ => ⟨⟨fun _ _ => rfl, rfl, fun _ => rfl, rfl⟩, rfl, rfl, fun _ => rfl⟩
  | .nilI, _, _ => ⟨⟨fun _ _ => rfl, rfl, fun _ => rfl, rfl⟩, rfl, rfl, fun _ => rfl⟩
  | .nilP, _, _ => ⟨⟨fun _ _ => rfl, rfl, fun _ => rfl, rfl⟩, rfl, rfl, fun _ => rfl⟩
  | .err, _, _ => ⟨⟨fun _ _ => rfl, rfl, fun _ => rfl, rfl⟩, rfl, rfl, fun _ => rfl⟩
  | .any, _, _ => ⟨⟨fun _ _ => rfl, rfl, fun _ => rfl, rfl⟩, rfl, rfl, fun _ => rfl⟩
  | .nd l, h, hc => by
    obtain ⟨u, h1, h2⟩ := bind_pure (by simpa only [lendA] using h)
    cases h2
    obtain ⟨⟨a, b, c, d⟩, e, f, g⟩ := lntL_tg σ l h1 (by simpa only [T.cloA] using hc)
    exact ⟨⟨fun e j => by simp only [T.tg, thawA, a], by simpa only [T.tg, ioSz] using b, fun j => by simpa only [T.tg, ioAtT] using c j, by simpa only [T.tg, ioKT] using d⟩, by simpa only [T.tg, T.size] using e, by simpa only [T.tg, T.nw] using f, fun H => by simp only [giveS, g]⟩
  | .sl g l, h, hc => ⟨⟨fun _ _ => rfl, rfl, fun _ => rfl, rfl⟩, rfl, rfl, fun H => by
      have : cloAL l = true := by simpa only [T.cloA] using hc
      simp only [giveS, this, if_true]⟩
  | .nils _, h, _ => by simp only [lendA] at h; cases h
  | .ow es l, h, _ => by
    obtain ⟨u, _, h2⟩ := bind_pure (by simpa only [lendA] using h); cases h2
  | .fp _, _, hc | .fn .., _, hc | .ref .., _, hc | .vr .., _, hc | .ptr .., _, hc | .io _, _, hc | .tup _, _, hc | .undef, _, hc | .opt .., _, hc => by simp [T.cloA] at hc
theorem lntL_tg (σ : Tag → Tag) {k : T → RM T} : ∀ (l : List T), lendAL k l = .pure l → cloAL l = true → TgdL σ l
  | [], _, _ => ⟨⟨fun _ _ => rfl, rfl, fun _ => rfl, rfl⟩, rfl, rfl, fun _ => rfl⟩
  | t :: l, h, hc => by
    simp only [cloAL, Bool.and_eq_true] at hc
    obtain ⟨u, h1, h2⟩ := bind_pure (by simpa only [lendAL] using h)
    obtain ⟨w, h3, h4⟩ := bind_pure h2
    cases h4
    obtain ⟨⟨a, b, c, d⟩, e, f, g⟩ := lnt_tg σ t h1 hc.1
    obtain ⟨⟨a', b', c', d'⟩, e', f', g'⟩ := lntL_tg σ l h3 hc.2
    exact ⟨⟨fun e j => by simp only [tgL, thawAL, a, a', List.append_nil], by simp only [tgL, ioSizes, b, b', List.append_nil], fun j => by simp only [tgL, ioAt, c, c', List.append_nil], by simp only [tgL, ioKs, d, d', List.append_nil]⟩,
      by simp only [tgL, sizeL, e, e'], by simp only [tgL, nwL, f, f', Bool.and_self], fun H => by simp only [giveSL, g, g']⟩
end
section
variable {α : Type} [Enc α]
theorem tgd (σ : Tag → Tag) (l : List α) : TgdL σ (l.map (Enc.b : α → T)) := lntL_tg σ (k := fun _ => .fail) _ (lendAL_b _ l) (cloAL_b l)
@[simp] theorem thawAL_t (σ : Tag → Tag) (l : List α) (e j : Nat) : thawAL e (tgL σ (l.map (Enc.b : α → T))) j = (tgL σ (l.map Enc.b), []) := (tgd σ l).lt.th e j
@[simp] theorem ioSizes_t (σ : Tag → Tag) (l : List α) : ioSizes (tgL σ (l.map (Enc.b : α → T))) = [] := (tgd σ l).lt.sz
@[simp] theorem ioAt_t (σ : Tag → Tag) (l : List α) (j : Nat) : ioAt (tgL σ (l.map (Enc.b : α → T))) j = [] := (tgd σ l).lt.at_ j
@[simp] theorem ioKs_t (σ : Tag → Tag) (l : List α) : ioKs (tgL σ (l.map (Enc.b : α → T))) = [] := (tgd σ l).lt.ks
@[simp] theorem nwL_t (σ : Tag → Tag) (l : List α) : nwL (tgL σ (l.map (Enc.b : α → T))) = true := (tgd σ l).nw
theorem sizeL_t (σ : Tag → Tag) (l : List α) : sizeL (tgL σ (l.map (Enc.b : α → T))) = l.length * Enc.es α := by rw [(tgd σ l).sz, sizeL_b]
@[simp] theorem giveSL_b (l : List α) (H : Heap) : giveSL (l.map (Enc.b : α → T)) H = some (l.map Enc.b, H) := (tgd id l).gv H
theorem tgL_take (σ : Tag → Tag) : ∀ (l : List T) (i : Nat), (tgL σ l).take i = tgL σ (l.take i)
  | [], i => by simp [tgL]
  | t :: l, 0 => by simp [tgL]
  | t :: l, i + 1 => by simp only [tgL, List.take_succ_cons, tgL_take σ l]
theorem sizeL_taket (σ : Tag → Tag) (l : List α) (i : Nat) (h : i ≤ l.length) : sizeL ((tgL σ (l.map (Enc.b : α → T))).take i) = i * Enc.es α := by
  rw [tgL_take, ← List.map_take, sizeL_t, List.length_take, Nat.min_eq_left h]
end
end Go.Vm

namespace Go.Vm
/-! ### marks of elements that hold slices: one behind the other -/
section
variable {α : Type} (f : α → Int → α × Int)
def thr : List α → Int → List α × Int
  | [], k => ([], k)
  | x :: l, k => ((f x k).1 :: (thr l (f x k).2).1, (thr l (f x k).2).2)
def mixT (l : List α) (k : Int) (i : Nat) : List α := (thr f (l.take i) k).1 ++ l.drop i
theorem thr_len : ∀ (l : List α) (k : Int), (thr f l k).1.length = l.length
  | [], _ => rfl
  | x :: l, k => by simp [thr, thr_len l]
theorem thr_app : ∀ (l m : List α) (k : Int), thr f (l ++ m) k = ((thr f l k).1 ++ (thr f m (thr f l k).2).1, (thr f m (thr f l k).2).2)
  | [], m, k => rfl
  | x :: l, m, k => by simp [thr, thr_app l m]
theorem thr_succ (l : List α) (k : Int) (i : Nat) (h : i < l.length) : thr f (l.take (i + 1)) k = ((thr f (l.take i) k).1 ++ [(f l[i] (thr f (l.take i) k).2).1], (f l[i] (thr f (l.take i) k).2).2) := by
  have e : l.take (i + 1) = l.take i ++ [l[i]] := by rw [List.take_add_one, List.getElem?_eq_getElem h]; rfl
  rw [e, thr_app]
  simp [thr]
theorem mixT_zero (l : List α) (k : Int) : mixT f l k 0 = l := by simp [mixT, thr]
theorem mixT_all (l : List α) (k : Int) : mixT f l k l.length = (thr f l k).1 := by simp [mixT]
theorem mixT_len (l : List α) (k : Int) (i : Nat) (h : i ≤ l.length) : (mixT f l k i).length = l.length := by
  simp [mixT, thr_len]; omega
theorem mixT_get (l : List α) (k : Int) (i : Nat) (h : i < l.length) : (mixT f l k i)[i]'(by rw [mixT_len f l k i (by omega)]; exact h) = l[i] := by
  have hl : (thr f (l.take i) k).1.length = i := by rw [thr_len, List.length_take]; omega
  simp only [mixT]
  rw [List.getElem_append_right (by omega)]
  simp [hl]
theorem mixT_set (l : List α) (k : Int) (i : Nat) (h : i < l.length) : (mixT f l k i).set i (f l[i] (thr f (l.take i) k).2).1 = mixT f l k (i + 1) := by
  have hl : (thr f (l.take i) k).1.length = i := by rw [thr_len, List.length_take]; omega
  unfold mixT
  rw [thr_succ f l k i h, List.set_append_right _ _ (by omega), hl, Nat.sub_self]
  have e : l.drop i = l[i] :: l.drop (i + 1) := List.drop_eq_getElem_cons h
  simp only [e, List.set_cons_zero, List.append_assoc, List.cons_append, List.nil_append]
theorem thr_get (l : List α) (k : Int) (i : Nat) (h : i < l.length) : (thr f l k).1[i]'(by rw [thr_len]; exact h) = (f l[i] (thr f (l.take i) k).2).1 := by
  have e : thr f l k = thr f (l.take (i + 1) ++ l.drop (i + 1)) k := by rw [List.take_append_drop]
  have hl : (thr f (l.take i) k).1.length = i := by rw [thr_len, List.length_take]; omega
  have h1 : (thr f l k).1 = ((thr f (l.take i) k).1 ++ [(f l[i] (thr f (l.take i) k).2).1]) ++ (thr f (l.drop (i + 1)) (thr f (l.take (i + 1)) k).2).1 := by
    rw [e, thr_app]; simp only; rw [thr_succ f l k i h]
  simp only [h1]
  rw [List.getElem_append_left (by simp [hl]), List.getElem_append_right (by omega)]
  simp [hl]
theorem thr_rng (E : Int) (hE : 0 ≤ E) : ∀ (l : List α) (k : Int), (∀ x ∈ l, ∀ c, c ≤ (f x c).2 ∧ (f x c).2 ≤ c + E) → k ≤ (thr f l k).2 ∧ (thr f l k).2 ≤ k + l.length * E
  | [], k, _ => by simp [thr]
  | x :: l, k, h => by
    have h1 := h x (by simp) k
    have h2 := thr_rng E hE l (f x k).2 (fun y hy => h y (by simp [hy]))
    simp only [thr, List.length_cons]
    have : ((l.length + 1 : Nat) : Int) * E = (l.length : Int) * E + E := by rw [Int.natCast_add, Int.add_mul]; simp
    omega
end
end Go.Vm

namespace Go.Vm
/-! ### arguments with arrays: what a value of a type is, part by part -/
def Dec (Y : TypeId → TyI) (n : Nat) (t : TypeId) (α : Type) [Enc α] : Prop := ∀ u, Typed Y n t u → ∃ x : α, u = Enc.b x ∧ Enc.lim maxLen x
def DecL (Y : TypeId → TyI) (n : Nat) (fs : List (TypeId × Nat)) (β : Type) [EncL β] : Prop := ∀ l, TypedL Y n fs l → ∃ x : β, l = EncL.bl x ∧ EncL.lim maxLen x
section
variable {Y : TypeId → TyI} {n : Nat} {t e : TypeId} {α β : Type} [Enc α] [EncL β]
theorem dec_ok (h : Enc.tyOk α Y n t = true) : Dec Y n t α := fun u hu => Enc.dec Y n t u h hu
theorem dec_list : ∀ (l : List T), (Dec Y n e α) → (∀ x ∈ l, Typed Y n e x) → ∃ l' : List α, l = l'.map Enc.b ∧ ∀ a ∈ l', Enc.lim maxLen a
  | [], _, _ => ⟨[], rfl, by simp⟩
  | x :: l, hd, h => by
    obtain ⟨a, rfl, ha⟩ := hd x (h x (by simp))
    obtain ⟨l', rfl, hl'⟩ := dec_list l hd fun y hy => h y (by simp [hy])
    exact ⟨a :: l', rfl, by simpa using ⟨ha, hl'⟩⟩
theorem dec_sl (h : Dec Y n e α) (hk : (Y t).k = .sl e) : Dec Y (n + 1) t (List α) := fun u hu => by
  simp only [Typed, hk] at hu
  obtain ⟨l, rfl, hl, he⟩ := hu
  obtain ⟨l', rfl, hl'⟩ := dec_list l h he
  exact ⟨l', rfl, by simpa using hl, hl'⟩
theorem dec_arr {m : Nat} (h : Dec Y n e α) (hk : (Y t).k = .ar m e) : Dec Y (n + 1) t (Arr m α) := fun u hu => by
  simp only [Typed, hk] at hu
  obtain ⟨l, rfl, hl, he⟩ := hu
  obtain ⟨l', rfl, hl'⟩ := dec_list l h he
  exact ⟨⟨l', by rw [List.length_map] at hl; exact hl⟩, rfl, hl'⟩
theorem decL_nil : DecL Y n [] Unit := fun l hl => ⟨(), hl, trivial⟩
theorem decL_cons {f : TypeId × Nat} {fs : List (TypeId × Nat)} (h : Dec Y n f.1 α) (hs : DecL Y n fs β) : DecL Y n (f :: fs) (α × β) := fun l hl => by
  obtain ⟨x, l', rfl, h1, h2⟩ := hl
  obtain ⟨a, rfl, ha⟩ := h x h1
  obtain ⟨b, rfl, hb⟩ := hs l' h2
  exact ⟨(a, b), rfl, ha, hb⟩
theorem dec_st {fs : List (TypeId × Nat)} (hk : (Y t).k = .st fs) (h : DecL Y n fs (α × β)) : Dec Y (n + 1) t (α × β) := fun u hu => by
  obtain ⟨l, rfl, hl⟩ := typed_st hu hk
  obtain ⟨a, rfl, ha⟩ := h l hl
  exact ⟨a, rfl, ha⟩
theorem dec_tup {m : Nat} (hk : (Y t).k = .ar m e) (h : DecL Y n (List.replicate m (e, 0)) (α × β)) : Dec Y (n + 1) t (α × β) := fun u hu => by
  simp only [Typed, hk] at hu
  obtain ⟨l, rfl, hl, he⟩ := hu
  obtain ⟨a, rfl, ha⟩ := h l (typedL_of _ l (by rw [List.length_replicate]; exact hl) fun i f x h1 h2 => by
    have hf : f = (e, 0) := List.eq_of_mem_replicate (List.mem_of_getElem? h1)
    subst hf
    exact he x (List.mem_of_getElem? h2))
  exact ⟨a, rfl, ha⟩
end
end Go.Vm
