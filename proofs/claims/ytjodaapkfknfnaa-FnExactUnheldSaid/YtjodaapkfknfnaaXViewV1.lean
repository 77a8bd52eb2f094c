/- Shows what the parts of the program do that the claim reaches: a machine of values over the model, and the contracts of functions, for all arguments within the lengths that each theorem names. -/
import Derived.Calls
import Derived.Orders
import Derived.Laws.Sem
import Derived.Laws.World
import Derived.Laws.Rows
import Derived.Laws.Cells
import Derived.Laws.Entries
set_option linter.all false

namespace Go.Vm

inductive Tag where
  | b | s | r (k : Nat)
  deriving DecidableEq, Repr, Inhabited

inductive T where
  | int (k : IntKind) (n : Int)
  | bool (b : Bool)
  | str (s : ByteArray)
  | nd (l : List T)
  | sl (g : Tag) (l : List T)
  | ow (es : Nat) (l : List T)
  | nils (es : Nat)
  | ref (e j : Nat) (off len : Nat)
  | vr (e j : Nat) (p : List Nat) (o es off len : Nat)
  | ptr (e j : Nat) (p : List Nat) (o : Nat)
  | fp (t : T)
  | io (t : T)
  | fn (f : FuncId) (first caps : List T)
  | nilI
  | nilP
  | err
  | any
  | tup (l : List T)
  | undef
  | opt (g : Bool) (t : T)
  deriving Inhabited

inductive Ob where
  | var (t : T)
  | arr (es : Nat) (l : List T) (fz : Bool)
  | gone
  deriving Inhabited

abbrev Heap := List (List Ob)

/-! ### trees -/

def T.get : T → List Nat → Option T
  | t, [] => some t
  | .nd l, i :: p => match l[i]? with | some t => t.get p | none => none
  | _, _ :: _ => none

def T.setp : T → List Nat → T → Option T
  | _, [], x => some x
  | .nd l, i :: p, x => match l[i]? with
    | some t => match t.setp p x with | some t' => some (.nd (l.set i t')) | none => none
    | none => none
  | _, _ :: _, _ => none

mutual
def T.size : T → Nat
  | .nd l => sizeL l
  | _ => 1
def sizeL : List T → Nat
  | [] => 0
  | t :: l => t.size + sizeL l
end

def T.offs : T → List Nat → Nat
  | _, [] => 0
  | .nd l, i :: p => sizeL (l.take i) + (match l[i]? with | some t => t.offs p | none => 0)
  | _, _ :: _ => 0

def T.isNd : T → Bool
  | .nd _ => true
  | _ => false

/-! ### what a tree is in memory -/

structure Info where
  blk : Nat
  off : Nat
  es : Nat
  cap : Nat
  arr0 : Array Value
  ty : TypeId
  fr : Nat × Nat

structure Cx where
  w : World
  Z : Nat → Prop
  Zs : Nat → Prop
  μ : Nat → Nat → Option Info
  R : Nat → Nat → Prop

def Cx.zz (c : Cx) : Tag → Nat → Prop
  | .b => c.Z
  | .s => c.Zs
  | .r k => fun b => c.R k b ∧ c.Z b

def CellsAt (w : World) (a : Addr) (cs : List Value) : Prop :=
  ∃ arr ty fr, w.heap[a.block]? = some (.cells arr ty fr) ∧ ∀ i v, cs[i]? = some v → arr[a.off + i]? = some v

def Free (n : Nat) (fr : Nat × Nat) : Prop := fr.1 ≤ fr.2 ∧ ∀ i, i < n → ¬ (fr.1 ≤ i ∧ i < fr.2)

def OwnArr (w : World) (a : Addr) (es k : Nat) : Prop :=
  a.spot = none ∧ 0 < es ∧ ∃ arr ty fr, w.heap[a.block]? = some (.cells arr ty fr) ∧ a.off + k * es ≤ arr.size ∧ Free arr.size fr

mutual
def RC (c : Cx) : T → List Value → List Nat → Prop
  | .int k n, cs, bs => cs = [.int k n] ∧ bs = []
  | .bool b, cs, bs => cs = [.bool b] ∧ bs = []
  | .str s, cs, bs => cs = [.string s] ∧ bs = []
  | .nd l, cs, bs => RCL c l cs bs
  | .sl g l, cs, bs => bs = [] ∧ ∃ A k, cs = [.slice A l.length k] ∧ l.length ≤ k ∧
      (l = [] ∨ ∃ a es rows, A = some a ∧ a.spot = none ∧ 0 < es ∧ RRows c es l rows [] ∧ CellsAt c.w a rows ∧ c.zz g a.block)
  | .ow es l, cs, bs => ∃ A k, cs = [.slice A l.length k] ∧ ((k = 0 ∧ l = [] ∧ bs = []) ∨
      ∃ a rows bs', A = some a ∧ OwnArr c.w a es k ∧ RRows c es l rows bs' ∧ CellsAt c.w a rows ∧ l.length ≤ k ∧ bs = a.block :: bs')
  | .nils _, cs, bs => bs = [] ∧ ∃ A, cs = [.slice A 0 0]
  | .ref e j off len, cs, bs => bs = [] ∧ ∃ A k i, cs = [.slice A len k] ∧ len ≤ k ∧ c.μ e j = some i ∧ off + k = i.cap ∧
      (k = 0 ∨ A = some ⟨i.blk, i.off + off * i.es, none⟩)
  | .vr e j _ o es off len, cs, bs => bs = [] ∧ ∃ k i, c.μ e j = some i ∧ cs = [.slice (some ⟨i.blk, i.off + (o + off * es), none⟩) len k] ∧ len ≤ k
  | .ptr e j _ o, cs, bs => bs = [] ∧ ∃ i, c.μ e j = some i ∧ cs = [.pointer (some ⟨i.blk, i.off + o, none⟩)]
  | .fp t, cs, bs => bs = [] ∧ ∃ a row, cs = [.pointer (some a)] ∧ a.spot = none ∧ RC c t row [] ∧ CellsAt c.w a row ∧ c.Z a.block
  | .fn f first caps, cs, bs => bs = [] ∧ ∃ xs ys, cs = [.func (.func f) xs ys] ∧ RVL c first xs.toList ∧ RVL c caps ys.toList
  | .nilI, cs, bs => cs = [.nilIface] ∧ bs = []
  | .nilP, cs, bs => cs = [.pointer none] ∧ bs = []
  | .err, cs, bs => bs = [] ∧ ∃ t v, cs = [.iface t v]
  | .any, cs, bs => bs = [] ∧ ∃ v, cs = [v] ∧ v.oneCell' = true
  | .tup _, _, _ => False
  | .io _, _, _ => False
  | .undef, _, _ => False
  | .opt _ _, _, _ => False
def RCL (c : Cx) : List T → List Value → List Nat → Prop
  | [], cs, bs => cs = [] ∧ bs = []
  | t :: l, cs, bs => ∃ c1 c2 b1 b2, cs = c1 ++ c2 ∧ bs = b1 ++ b2 ∧ RC c t c1 b1 ∧ RCL c l c2 b2
def RRows (c : Cx) (es : Nat) : List T → List Value → List Nat → Prop
  | [], cs, bs => cs = [] ∧ bs = []
  | t :: l, cs, bs => ∃ c1 c2 b1 b2, cs = c1 ++ c2 ∧ bs = b1 ++ b2 ∧ c1.length = es ∧ RC c t c1 b1 ∧ RRows c es l c2 b2
def RV (c : Cx) : T → Value → Prop
  | .nd l, v => ∃ cs, v = .agg cs ∧ RCL c l cs.toList []
  | .tup l, v => ∃ vs, v = .tuple vs ∧ RVL c l vs.toList
  | .undef, _ => True
  | .opt g t, v => (g = true → RV c t v) ∧ (g = false → v = undef)
  | .int k n, v => v = .int k n
  | .bool b, v => v = .bool b
  | .str s, v => v = .string s
  | .sl g l, v => ∃ A k, v = .slice A l.length k ∧ l.length ≤ k ∧
      (l = [] ∨ ∃ a es rows, A = some a ∧ a.spot = none ∧ 0 < es ∧ RRows c es l rows [] ∧ CellsAt c.w a rows ∧ c.zz g a.block)
  | .ow _ _, _ => False
  | .nils _, v => ∃ A, v = .slice A 0 0
  | .ref e j off len, v => ∃ A k i, v = .slice A len k ∧ len ≤ k ∧ c.μ e j = some i ∧ off + k = i.cap ∧
      (k = 0 ∨ A = some ⟨i.blk, i.off + off * i.es, none⟩)
  | .vr e j _ o es off len, v => ∃ k i, c.μ e j = some i ∧ v = .slice (some ⟨i.blk, i.off + (o + off * es), none⟩) len k ∧ len ≤ k
  | .ptr e j _ o, v => ∃ i, c.μ e j = some i ∧ v = .pointer (some ⟨i.blk, i.off + o, none⟩)
  | .fp t, v => ∃ a row, v = .pointer (some a) ∧ a.spot = none ∧ RC c t row [] ∧ CellsAt c.w a row ∧ c.Z a.block
  | .fn f first caps, v => ∃ xs ys, v = .func (.func f) xs ys ∧ RVL c first xs.toList ∧ RVL c caps ys.toList
  | .nilI, v => v = .nilIface
  | .nilP, v => v = .pointer none
  | .err, v => ∃ t x, v = .iface t x
  | .any, v => v.oneCell' = true
  | .io _, _ => False
def RVL (c : Cx) : List T → List Value → Prop
  | [], vs => vs = []
  | t :: l, vs => ∃ v vs', vs = v :: vs' ∧ RV c t v ∧ RVL c l vs'
end

/-! ### lengths -/
mutual
theorem RC_len {c : Cx} : ∀ (t : T) {cs : List Value} {bs : List Nat}, RC c t cs bs → cs.length = t.size
  | .int .., _, _, h => by simp [RC] at h; simp [h, T.size]
  | .bool .., _, _, h => by simp [RC] at h; simp [h, T.size]
  | .str .., _, _, h => by simp [RC] at h; simp [h, T.size]
  | .nd l, _, _, h => by simp only [RC] at h; simp only [T.size]; exact RCL_len l h
  | .sl .., _, _, h => by obtain ⟨_, A, k, rfl, _⟩ := h; rfl
  | .ow .., _, _, h => by obtain ⟨A, k, rfl, _⟩ := h; rfl
  | .nils _, _, _, h => by obtain ⟨_, A, rfl⟩ := h; rfl
  | .ref .., _, _, h => by obtain ⟨_, A, k, i, rfl, _⟩ := h; rfl
  | .vr .., _, _, h => by obtain ⟨_, k, i, _, rfl, _⟩ := h; rfl
  | .ptr .., _, _, h => by obtain ⟨_, i, _, rfl⟩ := h; rfl
  | .fp _, _, _, h => by obtain ⟨_, a, row, rfl, _⟩ := h; rfl
  | .fn .., _, _, h => by obtain ⟨_, xs, ys, rfl, _⟩ := h; rfl
  | .nilI, _, _, h => by simp [RC] at h; simp [h, T.size]
  | .nilP, _, _, h => by simp [RC] at h; simp [h, T.size]
  | .err, _, _, h => by obtain ⟨_, t, v, rfl⟩ := h; rfl
  | .any, _, _, h => by obtain ⟨_, v, rfl, _⟩ := h; rfl
  | .tup _, _, _, h => by simp [RC] at h
  | .io _, _, _, h => by simp [RC] at h
  | .undef, _, _, h => by simp [RC] at h
  | .opt _ _, _, _, h => by simp [RC] at h
theorem RCL_len {c : Cx} : ∀ (l : List T) {cs : List Value} {bs : List Nat}, RCL c l cs bs → cs.length = sizeL l
  | [], _, _, h => by simp [RCL] at h; simp [h, sizeL]
  | t :: l, _, _, h => by
    obtain ⟨c1, c2, b1, b2, rfl, rfl, h1, h2⟩ := h
    simp only [List.length_append, sizeL, RC_len t h1, RCL_len l h2]
end

theorem RRows_len {c : Cx} {es : Nat} : ∀ (l : List T) {cs : List Value} {bs : List Nat}, RRows c es l cs bs → cs.length = l.length * es
  | [], _, _, h => by simp [RRows] at h; simp [h]
  | t :: l, _, _, h => by
    obtain ⟨c1, c2, b1, b2, rfl, rfl, h0, h1, h2⟩ := h
    simp only [List.length_append, h0, RRows_len l h2, List.length_cons]
    rw [Nat.add_mul]; omega

/-! ### worlds that agree -/
theorem CellsAt.agree {w w' : World} {a : Addr} {cs : List Value} (h : CellsAt w a cs) (e : w'.heap[a.block]? = w.heap[a.block]?) : CellsAt w' a cs := by
  unfold CellsAt at *; rw [e]; exact h
theorem OwnArr.agree {w w' : World} {a : Addr} {es k : Nat} (h : OwnArr w a es k) (e : w'.heap[a.block]? = w.heap[a.block]?) : OwnArr w' a es k := by
  unfold OwnArr at *; rw [e]; exact h

structure Cx.Le (c c' : Cx) : Prop where
  z : ∀ b, c.Z b → c'.Z b
  zs : ∀ b, c.Zs b → c'.Zs b
  hz : ∀ b, c.Z b → c'.w.heap[b]? = c.w.heap[b]?
  hs : ∀ b, c.Zs b → c'.w.heap[b]? = c.w.heap[b]?
  mu : ∀ e j i, c.μ e j = some i → c'.μ e j = some i
  r : ∀ k b, c.R k b → c'.R k b

theorem Cx.Le.zz {c c' : Cx} (h : c.Le c') (g : Tag) (b : Nat) (hb : c.zz g b) : c'.zz g b := by
  cases g
  · exact h.z b hb
  · exact h.zs b hb
  · exact ⟨h.r _ b hb.1, h.z b hb.2⟩
theorem Cx.Le.hzz {c c' : Cx} (h : c.Le c') (g : Tag) (b : Nat) (hb : c.zz g b) : c'.w.heap[b]? = c.w.heap[b]? := by
  cases g
  · exact h.hz b hb
  · exact h.hs b hb
  · exact h.hz b hb.2

mutual
theorem RC.mono {c c' : Cx} (h : c.Le c') : ∀ (t : T) {cs : List Value} {bs : List Nat}, (∀ b ∈ bs, c'.w.heap[b]? = c.w.heap[b]?) → RC c t cs bs → RC c' t cs bs
  | .int .., _, _, _, r => r
  | .bool .., _, _, _, r => r
  | .str .., _, _, _, r => r
  | .nd l, _, _, hb, r => by simp only [RC] at r ⊢; exact RCL.mono h l hb r
  | .sl g l, _, _, hb, r => by
    obtain ⟨e, A, k, e1, hk, r⟩ := r
    refine ⟨e, A, k, e1, hk, r.imp id ?_⟩
    rintro ⟨a, es, rows, e2, e3, e4, r1, r2, r3⟩
    exact ⟨a, es, rows, e2, e3, e4, RRows.mono h es l (by simp) r1, r2.agree (h.hzz g _ r3), h.zz g _ r3⟩
  | .ow es l, _, _, hb, r => by
    obtain ⟨A, k, e1, r⟩ := r
    refine ⟨A, k, e1, r.imp id ?_⟩
    rintro ⟨a, rows, bs', e2, o, r1, r2, r3, rfl⟩
    have h0 := hb a.block (by simp)
    exact ⟨a, rows, bs', e2, o.agree h0, RRows.mono h es l (fun b hx => hb b (by simp [hx])) r1, r2.agree h0, r3, rfl⟩
  | .nils _, _, _, _, r => r
  | .ref .., _, _, _, r => by
    obtain ⟨e, A, k, i, e1, e2, e3, e4⟩ := r
    exact ⟨e, A, k, i, e1, e2, h.mu _ _ _ e3, e4⟩
  | .vr .., _, _, _, r => by
    obtain ⟨e, k, i, e1, e2⟩ := r
    exact ⟨e, k, i, h.mu _ _ _ e1, e2⟩
  | .ptr .., _, _, _, r => by
    obtain ⟨e, i, e1, e2⟩ := r
    exact ⟨e, i, h.mu _ _ _ e1, e2⟩
  | .fp t, _, _, _, r => by
    obtain ⟨e, a, row, e1, e2, r1, r2, r3⟩ := r
    exact ⟨e, a, row, e1, e2, RC.mono h t (by simp) r1, r2.agree (h.hz _ r3), h.z _ r3⟩
  | .fn f x y, _, _, _, r => by
    obtain ⟨e, xs, ys, e1, r1, r2⟩ := r
    exact ⟨e, xs, ys, e1, RVL.mono h x r1, RVL.mono h y r2⟩
  | .nilI, _, _, _, r => r
  | .nilP, _, _, _, r => r
  | .err, _, _, _, r => r
  | .any, _, _, _, r => r
  | .tup _, _, _, _, r => r
  | .io _, _, _, _, r => r
  | .undef, _, _, _, r => r
  | .opt _ _, _, _, _, r => r
theorem RCL.mono {c c' : Cx} (h : c.Le c') : ∀ (l : List T) {cs : List Value} {bs : List Nat}, (∀ b ∈ bs, c'.w.heap[b]? = c.w.heap[b]?) → RCL c l cs bs → RCL c' l cs bs
  | [], _, _, _, r => r
  | t :: l, _, _, hb, r => by
    obtain ⟨c1, c2, b1, b2, e1, rfl, r1, r2⟩ := r
    exact ⟨c1, c2, b1, b2, e1, rfl, RC.mono h t (fun b hx => hb b (by simp [hx])) r1, RCL.mono h l (fun b hx => hb b (by simp [hx])) r2⟩
theorem RRows.mono {c c' : Cx} (h : c.Le c') (es : Nat) : ∀ (l : List T) {cs : List Value} {bs : List Nat}, (∀ b ∈ bs, c'.w.heap[b]? = c.w.heap[b]?) → RRows c es l cs bs → RRows c' es l cs bs
  | [], _, _, _, r => r
  | t :: l, _, _, hb, r => by
    obtain ⟨c1, c2, b1, b2, e1, rfl, e2, r1, r2⟩ := r
    exact ⟨c1, c2, b1, b2, e1, rfl, e2, RC.mono h t (fun b hx => hb b (by simp [hx])) r1, RRows.mono h es l (fun b hx => hb b (by simp [hx])) r2⟩
theorem RV.mono {c c' : Cx} (h : c.Le c') : ∀ (t : T) {v : Value}, RV c t v → RV c' t v
  | .nd l, _, r => by
    obtain ⟨cs, e, r⟩ := r
    exact ⟨cs, e, RCL.mono h l (by simp) r⟩
  | .tup l, _, r => by
    obtain ⟨cs, e, r⟩ := r
    exact ⟨cs, e, RVL.mono h l r⟩
  | .undef, _, _ => trivial
  | .opt g t, _, r => ⟨fun e => RV.mono h t (r.1 e), r.2⟩
  | .int .., _, r => r
  | .bool .., _, r => r
  | .str .., _, r => r
  | .sl g l, _, r => by
    obtain ⟨A, k, e1, hk, r⟩ := r
    refine ⟨A, k, e1, hk, r.imp id ?_⟩
    rintro ⟨a, es, rows, e2, e3, e4, r1, r2, r3⟩
    exact ⟨a, es, rows, e2, e3, e4, RRows.mono h es l (by simp) r1, r2.agree (h.hzz g _ r3), h.zz g _ r3⟩
  | .ow _ _, _, r => r
  | .nils _, _, r => r
  | .ref .., _, r => by
    obtain ⟨A, k, i, e1, e2, e3, e4⟩ := r
    exact ⟨A, k, i, e1, e2, h.mu _ _ _ e3, e4⟩
  | .vr .., _, r => by
    obtain ⟨k, i, e1, e2⟩ := r
    exact ⟨k, i, h.mu _ _ _ e1, e2⟩
  | .ptr .., _, r => by
    obtain ⟨i, e1, e2⟩ := r
    exact ⟨i, h.mu _ _ _ e1, e2⟩
  | .fp t, _, r => by
    obtain ⟨a, row, e1, e2, r1, r2, r3⟩ := r
    exact ⟨a, row, e1, e2, RC.mono h t (by simp) r1, r2.agree (h.hz _ r3), h.z _ r3⟩
  | .fn f x y, _, r => by
    obtain ⟨xs, ys, e1, r1, r2⟩ := r
    exact ⟨xs, ys, e1, RVL.mono h x r1, RVL.mono h y r2⟩
  | .nilI, _, r => r
  | .nilP, _, r => r
  | .err, _, r => r
  | .any, _, r => r
  | .io _, _, r => r
theorem RVL.mono {c c' : Cx} (h : c.Le c') : ∀ (l : List T) {vs : List Value}, RVL c l vs → RVL c' l vs
  | [], _, r => r
  | t :: l, _, r => by
    obtain ⟨v, vs', e, r1, r2⟩ := r
    exact ⟨v, vs', e, RV.mono h t r1, RVL.mono h l r2⟩
end

end Go.Vm

namespace Go.Vm

/-! ### values and cells -/
mutual
def T.nw : T → Bool
  | .nd l => nwL l
  | .ow .. => false
  | _ => true
def nwL : List T → Bool
  | [] => true
  | t :: l => t.nw && nwL l
end

/-- may lie in a cell -/
def T.cel : T → Bool
  | .undef | .opt .. | .tup _ | .io _ | .ow .. => false
  | _ => true

theorem RV.cells {c : Cx} {t : T} {v : Value} (h : RV c t v) (ht : t.cel = true) : RC c t v.cells.toList [] := by
  cases t with
  | nd l => obtain ⟨cs, rfl, r⟩ := h; simpa only [RC, Value.cells] using r
  | sl g l => obtain ⟨A, k, rfl, r⟩ := h; exact ⟨rfl, A, k, rfl, r⟩
  | nils => obtain ⟨A, rfl⟩ := h; exact ⟨rfl, A, rfl⟩
  | ref => obtain ⟨A, k, i, rfl, r⟩ := h; exact ⟨rfl, A, k, i, rfl, r⟩
  | vr => obtain ⟨k, i, e, rfl, r⟩ := h; exact ⟨rfl, k, i, e, rfl, r⟩
  | ptr => obtain ⟨i, e, rfl⟩ := h; exact ⟨rfl, i, e, rfl⟩
  | fp t => obtain ⟨a, row, rfl, r⟩ := h; exact ⟨rfl, a, row, rfl, r⟩
  | fn => obtain ⟨xs, ys, rfl, r⟩ := h; exact ⟨rfl, xs, ys, rfl, r⟩
  | err => obtain ⟨t, x, rfl⟩ := h; exact ⟨rfl, t, x, rfl⟩
  | any => exact ⟨rfl, v, by cases v <;> first | rfl | (exact absurd h (by simp [RV, Value.oneCell'])), h⟩
  | undef => simp [T.cel] at ht
  | opt => simp [T.cel] at ht
  | tup => simp [T.cel] at ht
  | io => simp [T.cel] at ht
  | ow => simp [T.cel] at ht
  | _ => simp only [RV] at h; subst h; exact ⟨rfl, rfl⟩

def valOf (t : T) (cs : List Value) : Value := if t.isNd then .agg cs.toArray else cs.headD undef

mutual
theorem RC_nw {c : Cx} : ∀ (t : T) {cs : List Value} {bs : List Nat}, t.nw = true → RC c t cs bs → bs = []
  | .int .., _, _, _, h => h.2
  | .bool .., _, _, _, h => h.2
  | .str .., _, _, _, h => h.2
  | .nd l, _, _, hn, h => RCL_nw l (by simpa [T.nw] using hn) h
  | .sl .., _, _, _, h => h.1
  | .ow .., _, _, hn, _ => by simp [T.nw] at hn
  | .nils _, _, _, _, h => h.1
  | .ref .., _, _, _, h => h.1
  | .vr .., _, _, _, h => h.1
  | .ptr .., _, _, _, h => h.1
  | .fp _, _, _, _, h => h.1
  | .fn .., _, _, _, h => h.1
  | .nilI, _, _, _, h => h.2
  | .nilP, _, _, _, h => h.2
  | .err, _, _, _, h => h.1
  | .any, _, _, _, h => h.1
  | .tup _, _, _, _, h => by simp [RC] at h
  | .io _, _, _, _, h => by simp [RC] at h
  | .undef, _, _, _, h => by simp [RC] at h
  | .opt _ _, _, _, _, h => by simp [RC] at h
theorem RCL_nw {c : Cx} : ∀ (l : List T) {cs : List Value} {bs : List Nat}, nwL l = true → RCL c l cs bs → bs = []
  | [], _, _, _, h => h.2
  | t :: l, _, _, hn, h => by
    simp only [nwL, Bool.and_eq_true] at hn
    obtain ⟨c1, c2, b1, b2, rfl, rfl, h1, h2⟩ := h
    rw [RC_nw t hn.1 h1, RCL_nw l hn.2 h2]; rfl
end

theorem RC.val {c : Cx} {t : T} {cs : List Value} {bs : List Nat} (h : RC c t cs bs) (hn : t.nw = true) : RV c t (valOf t cs) := by
  have hb := RC_nw t hn h
  subst hb
  cases t with
  | nd l => exact ⟨cs.toArray, by simp [valOf, T.isNd], by simpa only [RC] using h⟩
  | sl g l => obtain ⟨_, A, k, rfl, r⟩ := h; exact ⟨A, k, rfl, r⟩
  | nils => obtain ⟨_, A, rfl⟩ := h; exact ⟨A, rfl⟩
  | ref => obtain ⟨_, A, k, i, rfl, r⟩ := h; exact ⟨A, k, i, rfl, r⟩
  | vr => obtain ⟨_, k, i, e, rfl, r⟩ := h; exact ⟨k, i, e, rfl, r⟩
  | ptr => obtain ⟨_, i, e, rfl⟩ := h; exact ⟨i, e, rfl⟩
  | fp t => obtain ⟨_, a, row, rfl, r⟩ := h; exact ⟨a, row, rfl, r⟩
  | fn => obtain ⟨_, xs, ys, rfl, r⟩ := h; exact ⟨xs, ys, rfl, r⟩
  | err => obtain ⟨_, t, x, rfl⟩ := h; exact ⟨t, x, rfl⟩
  | any => obtain ⟨_, v, rfl, r⟩ := h; exact r
  | undef => simp [RC] at h
  | opt => simp [RC] at h
  | tup => simp [RC] at h
  | io => simp [RC] at h
  | ow => simp [T.nw] at hn
  | _ => obtain ⟨rfl, _⟩ := h; rfl

/-! ### a tree at a path -/
theorem RCL_split {c : Cx} : ∀ {l : List T} {cs : List Value} {bs : List Nat} {i : Nat} {t : T}, RCL c l cs bs → l[i]? = some t →
    ∃ x y z p q r, cs = x ++ (y ++ z) ∧ bs = p ++ (q ++ r) ∧ x.length = sizeL (l.take i) ∧ RC c t y q ∧
      ∀ t' y' q', RC c t' y' q' → RCL c (l.set i t') (x ++ (y' ++ z)) (p ++ (q' ++ r))
  | [], _, _, i, _, _, e => by simp at e
  | u :: l, _, _, 0, t, h, e => by
    obtain ⟨c1, c2, b1, b2, rfl, rfl, h1, h2⟩ := h
    simp at e; subst e
    exact ⟨[], c1, c2, [], b1, b2, rfl, rfl, rfl, h1, fun t' y' q' r => ⟨y', c2, q', b2, rfl, rfl, r, h2⟩⟩
  | u :: l, _, _, i + 1, t, h, e => by
    obtain ⟨c1, c2, b1, b2, rfl, rfl, h1, h2⟩ := h
    obtain ⟨x, y, z, p, q, r, rfl, rfl, hx, hr, hs⟩ := RCL_split (i := i) h2 (by simpa using e)
    exact ⟨c1 ++ x, y, z, b1 ++ p, q, r, by simp, by simp, by simp [sizeL, RC_len u h1, hx], hr,
      fun t' y' q' r' => ⟨c1, x ++ (y' ++ z), b1, p ++ (q' ++ r), by simp, by simp, h1, hs t' y' q' r'⟩⟩

theorem RC_path {c : Cx} : ∀ {p : List Nat} {t u : T} {cs : List Value} {bs : List Nat}, RC c t cs bs → t.get p = some u →
    ∃ x y z b1 b2 b3, cs = x ++ (y ++ z) ∧ bs = b1 ++ (b2 ++ b3) ∧ x.length = t.offs p ∧ RC c u y b2 ∧
      ∀ u' y' b2', RC c u' y' b2' → ∃ t', t.setp p u' = some t' ∧ RC c t' (x ++ (y' ++ z)) (b1 ++ (b2' ++ b3))
  | [], t, u, cs, bs, h, e => by
    simp [T.get] at e; subst e
    exact ⟨[], cs, [], [], bs, [], by simp, by simp, by cases t <;> rfl, h, fun u' y' b2' r => ⟨u', by cases t <;> rfl, by simpa using r⟩⟩
  | i :: p, t, u, cs, bs, h, e => by
    cases t with
    | nd l =>
      simp only [T.get] at e
      cases hi : l[i]? with
      | none => simp [hi] at e
      | some v =>
        simp only [hi] at e
        simp only [RC] at h
        obtain ⟨x, y, z, b1, b2, b3, rfl, rfl, hx, hv, hs⟩ := RCL_split h hi
        obtain ⟨x', y', z', d1, d2, d3, rfl, rfl, hx', hu, hs'⟩ := RC_path hv e
        refine ⟨x ++ x', y', z' ++ z, b1 ++ d1, d2, d3 ++ b3, by simp, by simp, by simp [T.offs, hi, hx, hx'], hu, ?_⟩
        intro u' w' b' r
        obtain ⟨v', e1, r1⟩ := hs' u' w' b' r
        refine ⟨.nd (l.set i v'), by simp [T.setp, hi, e1], ?_⟩
        have := hs v' _ _ r1
        simp only [RC]
        simpa using this
    | _ => simp [T.get] at e

theorem RRows_split {c : Cx} {es : Nat} : ∀ {l : List T} {cs : List Value} {bs : List Nat} {i : Nat} {t : T}, RRows c es l cs bs → l[i]? = some t →
    ∃ x y z p q r, cs = x ++ (y ++ z) ∧ bs = p ++ (q ++ r) ∧ x.length = i * es ∧ y.length = es ∧ RC c t y q ∧
      ∀ t' y' q', y'.length = es → RC c t' y' q' → RRows c es (l.set i t') (x ++ (y' ++ z)) (p ++ (q' ++ r))
  | [], _, _, i, _, _, e => by simp at e
  | u :: l, _, _, 0, t, h, e => by
    obtain ⟨c1, c2, b1, b2, rfl, rfl, h0, h1, h2⟩ := h
    simp at e; subst e
    exact ⟨[], c1, c2, [], b1, b2, rfl, rfl, by simp, h0, h1, fun t' y' q' e r => ⟨y', c2, q', b2, rfl, rfl, e, r, h2⟩⟩
  | u :: l, _, _, i + 1, t, h, e => by
    obtain ⟨c1, c2, b1, b2, rfl, rfl, h0, h1, h2⟩ := h
    obtain ⟨x, y, z, p, q, r, rfl, rfl, hx, hy, hr, hs⟩ := RRows_split (i := i) h2 (by simpa using e)
    exact ⟨c1 ++ x, y, z, b1 ++ p, q, r, by simp, by simp, by simp [h0, hx]; rw [Nat.add_mul]; omega, hy, hr,
      fun t' y' q' e r' => ⟨c1, x ++ (y' ++ z), b1, p ++ (q' ++ r), by simp, by simp, h0, h1, hs t' y' q' e r'⟩⟩

theorem RRows_append {c : Cx} {es : Nat} : ∀ {l m : List T} {cs ds : List Value} {bs ts : List Nat}, RRows c es l cs bs → RRows c es m ds ts →
    RRows c es (l ++ m) (cs ++ ds) (bs ++ ts)
  | [], _, _, _, _, _, h, h' => by obtain ⟨rfl, rfl⟩ := h; simpa using h'
  | t :: l, _, _, _, _, _, h, h' => by
    obtain ⟨c1, c2, b1, b2, rfl, rfl, h0, h1, h2⟩ := h
    exact ⟨c1, c2 ++ _, b1, b2 ++ _, by simp, by simp, h0, h1, RRows_append h2 h'⟩

theorem RRows_app {c : Cx} {es : Nat} : ∀ {l m : List T} {cs : List Value} {bs : List Nat}, RRows c es (l ++ m) cs bs →
    ∃ c1 c2 b1 b2, cs = c1 ++ c2 ∧ bs = b1 ++ b2 ∧ RRows c es l c1 b1 ∧ RRows c es m c2 b2
  | [], _, cs, bs, h => ⟨[], cs, [], bs, rfl, rfl, ⟨rfl, rfl⟩, h⟩
  | t :: l, m, _, _, h => by
    obtain ⟨c1, c2, b1, b2, rfl, rfl, h0, h1, h2⟩ := h
    obtain ⟨d1, d2, e1, e2, rfl, rfl, r1, r2⟩ := RRows_app h2
    exact ⟨c1 ++ d1, d2, b1 ++ e1, e2, by simp, by simp, ⟨c1, d1, b1, e1, rfl, rfl, h0, h1, r1⟩, r2⟩

theorem RRows_window {c : Cx} {es : Nat} (i n : Nat) {l : List T} {cs : List Value} {bs : List Nat} (h : RRows c es l cs bs) (hi : i ≤ l.length) :
    ∃ x y z p q r, cs = x ++ (y ++ z) ∧ bs = p ++ (q ++ r) ∧ x.length = i * es ∧ RRows c es (l.take i) x p ∧ RRows c es ((l.drop i).take n) y q ∧
      RRows c es ((l.drop i).drop n) z r := by
  have e : l = l.take i ++ ((l.drop i).take n ++ (l.drop i).drop n) := by rw [List.take_append_drop, List.take_append_drop]
  rw [e] at h
  obtain ⟨x, c2, p, b2, rfl, rfl, h1, h2⟩ := RRows_app h
  obtain ⟨y, z, q, r, rfl, rfl, h3, h4⟩ := RRows_app h2
  exact ⟨x, y, z, p, q, r, rfl, rfl, by rw [RRows_len _ h1, List.length_take, Nat.min_eq_left hi], h1, h3, h4⟩

theorem RCL_app {c : Cx} : ∀ {l m : List T} {cs : List Value} {bs : List Nat}, RCL c (l ++ m) cs bs →
    ∃ c1 c2 b1 b2, cs = c1 ++ c2 ∧ bs = b1 ++ b2 ∧ RCL c l c1 b1 ∧ RCL c m c2 b2
  | [], _, cs, bs, h => ⟨[], cs, [], bs, rfl, rfl, ⟨rfl, rfl⟩, h⟩
  | t :: l, m, _, _, h => by
    obtain ⟨c1, c2, b1, b2, rfl, rfl, h1, h2⟩ := h
    obtain ⟨d1, d2, e1, e2, rfl, rfl, r1, r2⟩ := RCL_app h2
    exact ⟨c1 ++ d1, d2, b1 ++ e1, e2, by simp, by simp, ⟨c1, d1, b1, e1, rfl, rfl, h1, r1⟩, r2⟩

theorem RVL_get {c : Cx} : ∀ {l : List T} {vs : List Value} {i : Nat} {t : T}, RVL c l vs → l[i]? = some t → ∃ v, vs[i]? = some v ∧ RV c t v
  | [], _, i, _, _, e => by simp at e
  | u :: l, _, 0, t, h, e => by
    obtain ⟨v, vs', rfl, h1, h2⟩ := h
    simp at e; subst e; exact ⟨v, rfl, h1⟩
  | u :: l, _, i + 1, t, h, e => by
    obtain ⟨v, vs', rfl, h1, h2⟩ := h
    simpa using RVL_get (i := i) h2 (by simpa using e)

theorem RVL_len {c : Cx} : ∀ {l : List T} {vs : List Value}, RVL c l vs → vs.length = l.length
  | [], _, h => by simp [RVL] at h; simp [h]
  | u :: l, _, h => by
    obtain ⟨v, vs', rfl, h1, h2⟩ := h
    simp [RVL_len h2]

theorem RVL_append {c : Cx} : ∀ {l m : List T} {vs us : List Value}, RVL c l vs → RVL c m us → RVL c (l ++ m) (vs ++ us)
  | [], _, _, _, h, h' => by simp [RVL] at h; subst h; simpa using h'
  | u :: l, m, _, _, h, h' => by
    obtain ⟨v, vs', rfl, h1, h2⟩ := h
    exact ⟨v, vs' ++ _, rfl, h1, RVL_append h2 h'⟩

theorem RVL_set {c : Cx} : ∀ {l : List T} {vs : List Value} (i : Nat) {t : T} {v : Value}, RVL c l vs → RV c t v → RVL c (l.set i t) (vs.set i v)
  | [], _, i, _, _, h, _ => by simp [RVL] at h; subst h; simp [RVL]
  | u :: l, _, 0, t, v, h, r => by
    obtain ⟨v', vs', rfl, h1, h2⟩ := h
    exact ⟨v, vs', rfl, r, h2⟩
  | u :: l, _, i + 1, t, v, h, r => by
    obtain ⟨v', vs', rfl, h1, h2⟩ := h
    exact ⟨v', vs'.set i v, rfl, h1, RVL_set i h2 r⟩

end Go.Vm

namespace Go.Vm

def Heap.at (H : Heap) (e j : Nat) : Option Ob := match H[e]? with | some l => l[j]? | none => none
def Heap.put (H : Heap) (e j : Nat) (x : Ob) : Heap := match H[e]? with | some l => H.set e (l.set j x) | none => H

def Info.addr (i : Info) : Addr := ⟨i.blk, i.off, none⟩

def HVar (c : Cx) (i : Info) (t : T) (bs : List Nat) : Prop :=
  ∃ cs bs' arr, bs = i.blk :: bs' ∧ RC c t cs bs' ∧ c.w.heap[i.blk]? = some (.cells arr i.ty i.fr) ∧ arr.size = i.arr0.size ∧ Free arr.size i.fr ∧
    i.off + cs.length ≤ arr.size ∧ (∀ j v, cs[j]? = some v → arr[i.off + j]? = some v) ∧ (∀ j, j < i.off ∨ i.off + cs.length ≤ j → arr[j]? = i.arr0[j]?)

def HArr (c : Cx) (i : Info) (es : Nat) (l : List T) (bs : List Nat) : Prop :=
  i.es = es ∧ (i.cap = 0 ∨ 0 < es) ∧ l.length ≤ i.cap ∧ ((i.cap = 0 ∧ bs = []) ∨
    ∃ rows bs', bs = i.blk :: bs' ∧ RRows c es l rows bs' ∧ CellsAt c.w i.addr rows ∧ OwnArr c.w i.addr es i.cap)

def HFz (c : Cx) (i : Info) (es : Nat) (l : List T) (bs : List Nat) : Prop :=
  bs = [] ∧ i.es = es ∧ (i.cap = 0 ∨ 0 < es) ∧ l.length ≤ i.cap ∧ (i.cap = 0 ∨ ∃ rows, RRows c es l rows [] ∧ CellsAt c.w i.addr rows ∧ c.Zs i.blk)

def HOb (c : Cx) (e j : Nat) : Ob → List Nat → Prop
  | .var t, bs => ∃ i, c.μ e j = some i ∧ HVar c i t bs
  | .arr es l false, bs => ∃ i, c.μ e j = some i ∧ HArr c i es l bs
  | .arr es l true, bs => ∃ i, c.μ e j = some i ∧ HFz c i es l bs
  | .gone, bs => bs = []

theorem HVar.mono {c c' : Cx} (h : c.Le c') {i : Info} {t : T} {bs : List Nat} (hb : ∀ b ∈ bs, c'.w.heap[b]? = c.w.heap[b]?) (r : HVar c i t bs) : HVar c' i t bs := by
  obtain ⟨cs, bs', arr, rfl, r1, r2, r3⟩ := r
  exact ⟨cs, bs', arr, rfl, r1.mono h t (fun b hx => hb b (by simp [hx])), by rw [hb i.blk (by simp)]; exact r2, r3⟩
theorem HArr.mono {c c' : Cx} (h : c.Le c') {i : Info} {es : Nat} {l : List T} {bs : List Nat} (hb : ∀ b ∈ bs, c'.w.heap[b]? = c.w.heap[b]?) (r : HArr c i es l bs) : HArr c' i es l bs := by
  obtain ⟨e1, e2, e3, r⟩ := r
  refine ⟨e1, e2, e3, r.imp id ?_⟩
  rintro ⟨rows, bs', rfl, r1, r2, r3⟩
  have h0 := hb i.blk (by simp)
  exact ⟨rows, bs', rfl, r1.mono h es l (fun b hx => hb b (by simp [hx])), r2.agree h0, r3.agree h0⟩
theorem HFz.mono {c c' : Cx} (h : c.Le c') {i : Info} {es : Nat} {l : List T} {bs : List Nat} (r : HFz c i es l bs) : HFz c' i es l bs := by
  obtain ⟨e0, e1, e2, e3, r⟩ := r
  refine ⟨e0, e1, e2, e3, r.imp id ?_⟩
  rintro ⟨rows, r1, r2, r3⟩
  exact ⟨rows, r1.mono h es l (by simp), r2.agree (h.hs _ r3), h.zs _ r3⟩
theorem HOb.mono {c c' : Cx} (h : c.Le c') {e j : Nat} : ∀ {ob : Ob} {bs : List Nat}, (∀ b ∈ bs, c'.w.heap[b]? = c.w.heap[b]?) → HOb c e j ob bs → HOb c' e j ob bs
  | .var t, bs, hb, ⟨i, e1, r⟩ => ⟨i, h.mu _ _ _ e1, r.mono h hb⟩
  | .arr es l false, bs, hb, ⟨i, e1, r⟩ => ⟨i, h.mu _ _ _ e1, r.mono h hb⟩
  | .arr es l true, bs, hb, ⟨i, e1, r⟩ => ⟨i, h.mu _ _ _ e1, r.mono h⟩
  | .gone, bs, hb, r => r

def HRow (c : Cx) (e : Nat) : Nat → List Ob → List Nat → Prop
  | _, [], bs => bs = []
  | j, ob :: l, bs => ∃ b1 b2, bs = b1 ++ b2 ∧ HOb c e j ob b1 ∧ HRow c e (j + 1) l b2
def HR (c : Cx) : Nat → Heap → List Nat → Prop
  | _, [], bs => bs = []
  | e, r :: H, bs => ∃ b1 b2, bs = b1 ++ b2 ∧ HRow c e 0 r b1 ∧ HR c (e + 1) H b2

theorem HRow.mono {c c' : Cx} (h : c.Le c') {e : Nat} : ∀ {l : List Ob} {j : Nat} {bs : List Nat}, (∀ b ∈ bs, c'.w.heap[b]? = c.w.heap[b]?) → HRow c e j l bs → HRow c' e j l bs
  | [], _, _, _, r => r
  | ob :: l, j, _, hb, ⟨b1, b2, e1, r1, r2⟩ => by
    subst e1
    exact ⟨b1, b2, rfl, r1.mono h (fun b hx => hb b (by simp [hx])), HRow.mono h (fun b hx => hb b (by simp [hx])) r2⟩
theorem HR.mono {c c' : Cx} (h : c.Le c') : ∀ {H : Heap} {e : Nat} {bs : List Nat}, (∀ b ∈ bs, c'.w.heap[b]? = c.w.heap[b]?) → HR c e H bs → HR c' e H bs
  | [], _, _, _, r => r
  | l :: H, e, _, hb, ⟨b1, b2, e1, r1, r2⟩ => by
    subst e1
    exact ⟨b1, b2, rfl, r1.mono h (fun b hx => hb b (by simp [hx])), HR.mono h (fun b hx => hb b (by simp [hx])) r2⟩

theorem HRow.at {c : Cx} {e : Nat} : ∀ {l : List Ob} {j k : Nat} {bs : List Nat} {ob : Ob}, HRow c e j l bs → l[k]? = some ob →
    ∃ p q r, bs = p ++ (q ++ r) ∧ HOb c e (j + k) ob q ∧ ∀ c' ob' q', c.Le c' → (∀ b ∈ p, c'.w.heap[b]? = c.w.heap[b]?) → (∀ b ∈ r, c'.w.heap[b]? = c.w.heap[b]?) →
      HOb c' e (j + k) ob' q' → HRow c' e j (l.set k ob') (p ++ (q' ++ r))
  | [], _, _, _, _, _, e => by simp at e
  | x :: l, j, 0, _, ob, ⟨b1, b2, e1, r1, r2⟩, e => by
    simp at e; subst e; subst e1
    exact ⟨[], b1, b2, rfl, r1, fun c' ob' q' h hp hr ho => ⟨q', b2, rfl, ho, HRow.mono h hr r2⟩⟩
  | x :: l, j, k + 1, _, ob, ⟨b1, b2, e1, r1, r2⟩, e => by
    subst e1
    obtain ⟨p, q, r, rfl, ho, hs⟩ := HRow.at (k := k) r2 (by simpa using e)
    refine ⟨b1 ++ p, q, r, by simp, by simpa [Nat.add_assoc, Nat.add_comm 1 k] using ho, fun c' ob' q' h hp hr ho' => ?_⟩
    refine ⟨b1, p ++ (q' ++ r), by simp, r1.mono h (fun b hx => hp b (by simp [hx])), ?_⟩
    have := hs c' ob' q' h (fun b hx => hp b (by simp [hx])) hr (by simpa [Nat.add_assoc, Nat.add_comm 1 k] using ho')
    simpa using this

theorem HR.row {c : Cx} : ∀ {H : Heap} {e k : Nat} {bs : List Nat} {l : List Ob}, HR c e H bs → H[k]? = some l →
    ∃ p q r, bs = p ++ (q ++ r) ∧ HRow c (e + k) 0 l q ∧ ∀ c' l' q', c.Le c' → (∀ b ∈ p, c'.w.heap[b]? = c.w.heap[b]?) → (∀ b ∈ r, c'.w.heap[b]? = c.w.heap[b]?) →
      HRow c' (e + k) 0 l' q' → HR c' e (H.set k l') (p ++ (q' ++ r))
  | [], _, _, _, _, _, e => by simp at e
  | x :: H, j, 0, _, ob, ⟨b1, b2, e1, r1, r2⟩, e => by
    simp at e; subst e; subst e1
    exact ⟨[], b1, b2, rfl, r1, fun c' ob' q' h hp hr ho => ⟨q', b2, rfl, ho, HR.mono h hr r2⟩⟩
  | x :: H, j, k + 1, _, ob, ⟨b1, b2, e1, r1, r2⟩, e => by
    subst e1
    obtain ⟨p, q, r, rfl, ho, hs⟩ := HR.row (k := k) r2 (by simpa using e)
    refine ⟨b1 ++ p, q, r, by simp, by simpa [Nat.add_assoc, Nat.add_comm 1 k] using ho, fun c' ob' q' h hp hr ho' => ?_⟩
    refine ⟨b1, p ++ (q' ++ r), by simp, r1.mono h (fun b hx => hp b (by simp [hx])), ?_⟩
    have := hs c' ob' q' h (fun b hx => hp b (by simp [hx])) hr (by simpa [Nat.add_assoc, Nat.add_comm 1 k] using ho')
    simpa using this

theorem HR.at {c : Cx} {H : Heap} {e j : Nat} {bs : List Nat} {ob : Ob} (h : HR c 0 H bs) (ha : H.at e j = some ob) :
    ∃ p q r, bs = p ++ (q ++ r) ∧ HOb c e j ob q ∧ ∀ c' ob' q', c.Le c' → (∀ b ∈ p, c'.w.heap[b]? = c.w.heap[b]?) → (∀ b ∈ r, c'.w.heap[b]? = c.w.heap[b]?) →
      HOb c' e j ob' q' → HR c' 0 (H.put e j ob') (p ++ (q' ++ r)) := by
  unfold Heap.at at ha
  cases hl : H[e]? with
  | none => simp [hl] at ha
  | some l =>
    simp only [hl] at ha
    obtain ⟨p, q, r, rfl, hr, hs⟩ := HR.row h hl
    obtain ⟨p', q', r', rfl, ho, hs'⟩ := HRow.at hr ha
    refine ⟨p ++ p', q', r' ++ r, by simp, by simpa using ho, fun c' ob' x hle hp hr' ho' => ?_⟩
    have h1 := hs' c' ob' x hle (fun b hx => hp b (by simp [hx])) (fun b hx => hr' b (by simp [hx])) (by simpa using ho')
    have h2 := hs c' (l.set j ob') _ hle (fun b hx => hp b (by simp [hx])) (fun b hx => hr' b (by simp [hx])) h1
    simpa [Heap.put, hl] using h2

/-! ### the state -/
structure S where
  tm : List T
  hp : Heap

/-- what was there when the activation began -/
structure Fr where
  w : World
  own : Nat → Prop
  Z : Nat → Prop
  Zs : Nat → Prop
  pin : Nat → Option Info
  R : Nat → Nat → Prop

/-- what no step of ours touches -/
structure Keep (w w' : World) : Prop where
  os : w'.os = w.os
  out : w'.output = w.output
theorem Keep.refl (w : World) : Keep w w := ⟨rfl, rfl⟩
theorem Keep.trans {w w1 w2 : World} (h : Keep w w1) (h' : Keep w1 w2) : Keep w w2 := ⟨h'.os.trans h.os, h'.out.trans h.out⟩
theorem Keep.alloc (w : World) (cells : Array Value) (ty : TypeId) : Keep w (w.alloc (.cells cells ty)) := ⟨rfl, rfl⟩

structure InvH (F : Fr) (c : Cx) (H : Heap) (bs : List Nat) : Prop where
  hp : HR c 0 H bs
  nd : bs.Nodup
  dz : ∀ b ∈ bs, ¬ c.Z b
  zz : ∀ b, c.Zs b → c.Z b
  zl : ∀ b, c.Z b → b < c.w.heap.size
  bl : ∀ b ∈ bs, b < c.w.heap.size
  mu : ∀ e j i, c.μ e j = some i → ∃ ob, H.at e j = some ob
  fs : F.w.heap.size ≤ c.w.heap.size
  ff : ∀ b, b < F.w.heap.size → ¬ F.own b → c.w.heap[b]? = F.w.heap[b]?
  fb : ∀ b ∈ bs, F.own b ∨ F.w.heap.size ≤ b
  fz : ∀ b, c.Zs b → F.Zs b ∨ F.own b ∨ F.w.heap.size ≤ b
  fZ : ∀ b, c.Z b → F.Z b ∨ c.Zs b
  kp : Keep F.w c.w
  rr : c.R = F.R

structure Inv (F : Fr) (c : Cx) (s : S) (a : Act) (bs : List Nat) : Prop where
  h : InvH F c s.hp bs
  tm : RVL c s.tm a.tmps.toList
  df : a.defers = []
  pin : ∀ j i, F.pin j = some i → c.μ 0 j = some i

/-! ### reading the heap -/
inductive RM (α : Type) where
  | pure (a : α)
  | fail
  | get (e j : Nat) (k : Ob → RM α)

def RM.bind {α β : Type} : RM α → (α → RM β) → RM β
  | .pure a, f => f a
  | .fail, _ => .fail
  | .get e j k, f => .get e j fun o => (k o).bind f

def RM.run {α : Type} (H : Heap) : RM α → Option α
  | .pure a => some a
  | .fail => none
  | .get e j k => match H.at e j with | some o => (k o).run H | none => none

def RM.rd {α : Type} (H : Heap) : RM α → List (Nat × Nat)
  | .pure _ => []
  | .fail => []
  | .get e j k => (e, j) :: match H.at e j with | some o => (k o).rd H | none => []

theorem RM.run_bind {α β : Type} (H : Heap) (f : α → RM β) : ∀ m : RM α, (m.bind f).run H = match m.run H with | some a => (f a).run H | none => none
  | .pure a => rfl
  | .fail => rfl
  | .get e j k => by
    simp only [RM.bind, RM.run]
    cases H.at e j with
    | none => rfl
    | some o => exact RM.run_bind H f (k o)

theorem RM.agree {α : Type} {H H' : Heap} : ∀ m : RM α, (∀ l ∈ m.rd H, H'.at l.1 l.2 = H.at l.1 l.2) → m.run H' = m.run H ∧ m.rd H' = m.rd H
  | .pure a, _ => ⟨rfl, rfl⟩
  | .fail, _ => ⟨rfl, rfl⟩
  | .get e j k, h => by
    have h0 := h (e, j) (by simp [RM.rd])
    simp only at h0
    simp only [RM.run, RM.rd, h0]
    cases ho : H.at e j with
    | none => exact ⟨rfl, rfl⟩
    | some o =>
      have := RM.agree (H := H) (H' := H') (k o) (fun l hl => h l (by simp [RM.rd, ho, hl]))
      exact ⟨this.1, by show (e, j) :: (k o).rd H' = (e, j) :: (k o).rd H; rw [this.2]⟩

end Go.Vm

namespace Go.Vm

inductive Ty where
  | int (k : IntKind) | bool | str | sl (e : TypeId) | ptr (e : TypeId) | fn | ifc
  | st (fs : List (TypeId × Nat)) | ar (n : Nat) (e : TypeId) | bad
  deriving Inhabited

structure TyI where
  k : Ty
  cells : Nat
  bytes : Nat
  deriving Inhabited

def Ty.isFn : Ty → Bool
  | .fn => true
  | _ => false
def Ty.isU8 : Ty → Bool
  | .int .u8 => true
  | _ => false
def Ty.agg : Ty → Bool
  | .st _ | .ar .. => true
  | _ => false
def TyI.agg (t : TyI) : Bool := t.k.agg

def zeroT (Y : TypeId → TyI) : Nat → TypeId → T
  | 0, _ => .undef
  | n + 1, t => match (Y t).k with
    | .int k => .int k 0
    | .bool => .bool false
    | .str => .str .empty
    | .sl e => .nils (Y e).cells
    | .ptr _ => .nilP
    | .ifc => .nilI
    | .st fs => .nd (fs.map fun f => zeroT Y n f.1)
    | .ar m e => .nd (List.replicate m (zeroT Y n e))
    | _ => .undef

def ofConst : Value → T
  | .int k n => .int k n
  | .bool b => .bool b
  | .string s => .str s
  | .slice none 0 0 => .nils 0
  | .nilIface => .nilI
  | .pointer none => .nilP
  | _ => .undef

def S.ev (s : S) : Operand → T
  | .tmp t => s.tm.getD t .undef
  | .const v => ofConst v
  | .func f => .fn f [] []
  | .global _ => .undef

def S.put (s : S) (d : Option Tmp) (v : T) : S := match d with | some d => { s with tm := s.tm.set d v } | none => s

structure Out where
  v : T
  ups : List (Nat × Nat × Ob) := []
  news : List Ob := []

def RM.ofOpt {α : Type} : Option α → RM α
  | some a => .pure a
  | none => .fail

def binT (op : BinOp) : T → T → Option T
  | .int k a, .int k' b =>
    match op with
    | .shl => if b < 0 then none else some (.int k (k.wrap (a * 2 ^ (min b.toNat k.bits))))
    | .shr => if b < 0 then none else some (.int k (a.fdiv (2 ^ (min b.toNat k.bits))))
    | .add => if k = k' then some (.int k (k.wrap (a + b))) else none
    | .sub => if k = k' then some (.int k (k.wrap (a - b))) else none
    | .mul => if k = k' then some (.int k (k.wrap (a * b))) else none
    | .quo => if k = k' ∧ b ≠ 0 then some (.int k (k.wrap (a.tdiv b))) else none
    | .rem => if k = k' ∧ b ≠ 0 then some (.int k (a.tmod b)) else none
    | .and => if k = k' then some (.int k (k.wrap (BitVec.ofInt k.bits a &&& BitVec.ofInt k.bits b).toNat)) else none
    | .or => if k = k' then some (.int k (k.wrap (BitVec.ofInt k.bits a ||| BitVec.ofInt k.bits b).toNat)) else none
    | .xor => if k = k' then some (.int k (k.wrap (BitVec.ofInt k.bits a ^^^ BitVec.ofInt k.bits b).toNat)) else none
    | .andNot => if k = k' then some (.int k (k.wrap (BitVec.ofInt k.bits a &&& ~~~ BitVec.ofInt k.bits b).toNat)) else none
    | .eql => if k = k' then some (.bool (a == b)) else none
    | .neq => if k = k' then some (.bool (a != b)) else none
    | .lss => if k = k' then some (.bool (a < b)) else none
    | .leq => if k = k' then some (.bool (a ≤ b)) else none
    | .gtr => if k = k' then some (.bool (a > b)) else none
    | .geq => if k = k' then some (.bool (a ≥ b)) else none
  | .str a, .str b =>
    match op with
    | .add => if a.size + b.size ≤ 2 ^ 60 then some (.str (a ++ b)) else none
    | .eql => some (.bool (a.toList == b.toList))
    | .neq => some (.bool (!(a.toList == b.toList)))
    | _ => none
  | _, _ => none

/-- '==' of bools, of interface values against nil: by the operands' type -/
def binTy (Y : TypeId → TyI) (op : BinOp) (t : TypeId) (x y : T) : Option T :=
  match (Y t).k, x, y with
  | .bool, .bool a, .bool b => match op with | .eql => some (.bool (a == b)) | .neq => some (.bool (!(a == b))) | _ => none
  | .ifc, .err, .nilI => match op with | .eql => some (.bool false) | .neq => some (.bool true) | _ => none
  | .ifc, .nilI, .nilI => match op with | .eql => some (.bool true) | .neq => some (.bool false) | _ => none
  | _, x, y => binT op x y

def unT (op : UnOp) : T → Option T
  | .bool b => match op with | .not => some (.bool (!b)) | _ => none
  | .int k n => match op with | .neg => some (.int k (k.wrap (0 - n))) | _ => none
  | _ => none

/-- the tree of an object, its path's flat place known -/
def subM (p : List Nat) (o : Nat) : Ob → RM T
  | .var t => match t.get p with | some u => if t.offs p = o then .pure u else .fail | none => .fail
  | .arr es l _ => match p with
    | i :: q => match l[i]? with
      | some t => match t.get q with | some u => if i * es + t.offs q = o then .pure u else .fail | none => .fail
      | none => .fail
    | [] => .fail
  | .gone => .fail

def setOb (p : List Nat) (v : T) : Ob → Option Ob
  | .var t => match t.setp p v with | some t' => some (.var t') | none => none
  | .arr es l false => match p with
    | i :: q => match l[i]? with
      | some t => match t.setp q v with | some t' => some (.arr es (l.set i t') false) | none => none
      | none => none
    | [] => none
  | _ => none

def loadM (Y : TypeId → TyI) (ty : TypeId) : T → RM Out
  | .ptr e j p o => .get e j fun ob => (subM p o ob).bind fun u =>
      if u.nw = true ∧ u.isNd = (Y ty).agg ∧ u.size = (Y ty).cells ∧ 0 < (Y ty).cells then .pure { v := u } else .fail
  | .fp u => if u.nw = true ∧ u.isNd = (Y ty).agg ∧ u.size = (Y ty).cells ∧ 0 < (Y ty).cells then .pure { v := u } else .fail
  | _ => .fail

def storeM (Y : TypeId → TyI) (ty : TypeId) (v : T) : T → RM Out
  | .ptr e j p o => .get e j fun ob => (subM p o ob).bind fun u =>
      if v.cel = true ∧ v.size = (Y ty).cells ∧ u.size = v.size ∧ 0 < (Y ty).cells then
        match setOb p v ob with | some ob' => .pure { v := .undef, ups := [(e, j, ob')] } | none => .fail
      else .fail
  | _ => .fail

def fieldAddrM (Y : TypeId → TyI) (st f : Nat) : T → RM Out
  | .ptr e j p o => match (Y st).k with
    | .st fs => match fs[f]? with | some (_, off) => .pure { v := .ptr e j (p ++ [f]) (o + off) } | none => .fail
    | _ => .fail
  | .fp (.nd l) => match (Y st).k with
    | .st fs => match fs[f]? with
      | some (_, off) => match l[f]? with | some t => if sizeL (l.take f) = off then .pure { v := .fp t } else .fail | none => .fail
      | none => .fail
    | _ => .fail
  | _ => .fail

def indexAddrM (Y : TypeId → TyI) (ty : TypeId) (x i : T) : RM Out :=
  match (Y ty).k, x, i with
  | .sl el, .sl _ l, .int _ n => if 0 ≤ n then match l[n.toNat]? with | some t => if t.size = (Y el).cells then .pure { v := .fp t } else .fail | none => .fail else .fail
  | .sl el, .ref e j off len, .int _ n => if 0 ≤ n ∧ n < len then .get e j fun
      | .arr es _ _ => if es = (Y el).cells then .pure { v := .ptr e j [off + n.toNat] ((off + n.toNat) * es) } else .fail
      | _ => .fail
    else .fail
  | .sl el, .vr e j p o es off len, .int _ n => if 0 ≤ n ∧ n < len ∧ es = (Y el).cells then
      .pure { v := .ptr e j (p ++ [off + n.toNat]) (o + (off + n.toNat) * es) } else .fail
  | .ar m el, .ptr e j p o, .int _ n => if 0 ≤ n ∧ n < m then .pure { v := .ptr e j (p ++ [n.toNat]) (o + n.toNat * (Y el).cells) } else .fail
  | .ar m el, .fp (.nd l), .int _ n => if 0 ≤ n ∧ n < m ∧ sizeL (l.take n.toNat) = n.toNat * (Y el).cells then
      match l[n.toNat]? with | some t => .pure { v := .fp t } | none => .fail
    else .fail
  | _, _, _ => .fail

def lenT (k : Ty) : T → Option T
  | .str s => match k with | .str => some (.int .i64 s.size) | _ => none
  | .sl _ l => match k with | .sl _ => some (.int .i64 l.length) | _ => none
  | .nils _ => match k with | .sl _ => some (.int .i64 0) | _ => none
  | .ref _ _ _ len => match k with | .sl _ => some (.int .i64 len) | _ => none
  | .vr _ _ _ _ _ _ len => match k with | .sl _ => some (.int .i64 len) | _ => none
  | _ => none

/-- parts laid into a list of trees: each at its flat place -/
def setAll (pl : Nat → Option (Nat × Nat)) : List T → List (Nat × T) → Option (List T)
  | l, [] => some l
  | l, (i, v) :: r => match l[i]?, pl i with
    | some u, some (off, sz) => if v.cel = true ∧ u.size = v.size ∧ v.size = sz ∧ sizeL (l.take i) = off then setAll pl (l.set i v) r else none
    | _, _ => none

def plSt (Y : TypeId → TyI) (fs : List (TypeId × Nat)) (i : Nat) : Option (Nat × Nat) := match fs[i]? with | some (t, off) => some (off, (Y t).cells) | none => none
def plAr (es : Nat) (i : Nat) : Option (Nat × Nat) := some (i * es, es)

def buildM (Y : TypeId → TyI) (t : TypeId) (parts : List (Nat × T)) : RM Out :=
  match (Y t).k, zeroT Y 9 t with
  | .st fs, .nd l => match setAll (plSt Y fs) l parts with | some l' => .pure { v := .nd l' } | none => .fail
  | .ar _ e, .nd l => match setAll (plAr (Y e).cells) l parts with | some l' => .pure { v := .nd l' } | none => .fail
  | _, _ => .fail

def buildSliceM (Y : TypeId → TyI) (own : Nat) (t : TypeId) (len : Nat) (parts : List (Nat × T)) : RM Out :=
  match (Y t).k with
  | .sl e => if 0 < (Y e).cells ∧ len * (Y e).cells ≤ 2 ^ 24 ∧ (Y e).k.isFn = false then
      match setAll (plAr (Y e).cells) (List.replicate len (zeroT Y 9 e)) parts with
      | some l => .pure { v := .ref own 0 0 len, news := [.arr (Y e).cells l false] }
      | none => .fail
    else .fail
  | _ => .fail

def allocM (Y : TypeId → TyI) (own : Nat) (t : TypeId) : RM Out :=
  if 0 < (Y t).cells ∧ (Y t).k.isFn = false then .pure { v := .ptr own 0 [] 0, news := [.var (zeroT Y 9 t)] } else .fail

def boxM (own : Nat) (x : T) : RM Out := if x.cel = true then .pure { v := .ptr own 0 [] 0, news := [.var x] } else .fail

def makeSliceM (Y : TypeId → TyI) (own : Nat) (t : TypeId) (x y : T) : RM Out :=
  match (Y t).k, x, y with
  | .sl e, .int .i64 n, .int .i64 m => if n = m ∧ 0 ≤ n ∧ 0 < (Y e).cells ∧ (Y e).bytes * n ≤ 2 ^ 47 ∧ n < 2 ^ 62 ∧ (Y e).k.isFn = false then
      .pure { v := .ref own 0 0 n.toNat, news := [.arr (Y e).cells (List.replicate n.toNat (zeroT Y 9 e)) false] }
    else .fail
  | _, _, _ => .fail

/-- the elements that a slice value shows -/
def elemsM : T → RM (List T)
  | .sl _ l => .pure l
  | .nils _ => .pure []
  | .ref e j off len => .get e j fun
    | .arr _ l _ => if off + len ≤ l.length then .pure ((l.drop off).take len) else .fail
    | _ => .fail
  | .vr e j p o es off len => .get e j fun ob => (subM p o ob).bind fun
    | .nd l => if ((l.drop off).take len).all (fun u => u.size == es) = true ∧ sizeL (l.take off) = off * es ∧ 0 < es ∧ ((l.drop off).take len).length = len then .pure ((l.drop off).take len) else .fail
    | _ => .fail
  | _ => .fail

def isByte : T → Bool
  | .int .u8 n => 0 ≤ n && n < 256
  | _ => false
def byteOf : T → UInt8
  | .int _ n => UInt8.ofNat n.toNat
  | _ => 0
def byteT (b : UInt8) : T := .int .u8 b.toNat

/-- the ends of a slice expression; none: left out -/
def loF : Option T → Option Int
  | none => some 0
  | some (.int .i64 n) => some n
  | _ => none
def hiF (len : Nat) : Option T → Option Int
  | none => some len
  | some (.int .i64 n) => some n
  | _ => none

def sliceM (Y : TypeId → TyI) (t : TypeId) (x : T) (lo hi mx : Option T) : RM Out :=
  match mx, (Y t).k, x with
  | none, .str, .str s => match loF lo, hiF s.size hi with
    | some a, some b => if 0 ≤ a ∧ a ≤ b ∧ b ≤ s.size then .pure { v := .str (s.extract a.toNat b.toNat) } else .fail
    | _, _ => .fail
  | none, .sl el, .sl g l => match loF lo, hiF l.length hi with
    | some a, some b => if 0 ≤ a ∧ a ≤ b ∧ b ≤ l.length ∧ (∀ u ∈ l.take 1, u.size = (Y el).cells) then .pure { v := .sl g ((l.drop a.toNat).take (b.toNat - a.toNat)) } else .fail
    | _, _ => .fail
  | none, .sl _, .nils es => match loF lo, hiF 0 hi with
    | some a, some b => if a = 0 ∧ b = 0 then .pure { v := .nils es } else .fail
    | _, _ => .fail
  | none, .sl el, .ref e j off len => match loF lo, hiF len hi with
    | some a, some b => if 0 ≤ a ∧ a ≤ b ∧ b ≤ len then .get e j fun
        | .arr es _ _ => if es = (Y el).cells then .pure { v := .ref e j (off + a.toNat) (b.toNat - a.toNat) } else .fail
        | _ => .fail
      else .fail
    | _, _ => .fail
  | none, .ar n el, .ptr e j p o => match lo, hi with
    | none, none => if 0 < n then .pure { v := .vr e j p o (Y el).cells 0 n } else .fail
    | _, _ => .fail
  | _, _, _ => .fail

def indexM (Y : TypeId → TyI) (t : TypeId) (x i : T) : RM Out :=
  match (Y t).k, x, i with
  | .str, .str s, .int _ n => if 0 ≤ n then match s[n.toNat]? with | some b => .pure { v := byteT b } | none => .fail else .fail
  | .ar m el, .nd l, .int _ n => if 0 ≤ n ∧ n < m ∧ sizeL (l.take n.toNat) = n.toNat * (Y el).cells then
      match l[n.toNat]? with | some u => if u.size = (Y el).cells ∧ u.isNd = (Y el).agg ∧ u.nw = true then .pure { v := u } else .fail | none => .fail
    else .fail
  | _, _, _ => .fail

def fieldM (Y : TypeId → TyI) (t : TypeId) (x : T) (f : Nat) : RM Out :=
  match (Y t).k, x with
  | .st fs, .nd l => match fs[f]?, l[f]? with
    | some (ty, off), some u => if sizeL (l.take f) = off ∧ u.size = (Y ty).cells ∧ 0 < (Y ty).cells ∧ u.isNd = (Y ty).agg ∧ u.nw = true then .pure { v := u } else .fail
    | _, _ => .fail
  | _, _ => .fail

def bytesOf (l : List T) : ByteArray := ⟨(l.map byteOf).toArray⟩

def convertM (Y : TypeId → TyI) (own : Nat) (src dst : TypeId) (x : T) : RM Out :=
  match (Y src).k, (Y dst).k, x with
  | .int _, .int k, .int _ n => .pure { v := .int k (k.wrap n) }
  | .sl e, .str, x => if (Y e).k.isU8 = true then (elemsM x).bind fun l => if l.all isByte = true then .pure { v := .str (bytesOf l) } else .fail else .fail
  | .sl e, .sl e2, .ref i j off len => if src = dst ∧ e = e2 ∧ (Y e).k.isU8 = true ∧ 0 < len then .get i j fun
      | .arr _ l false => if off + len ≤ l.length then .pure { v := .ref i j off len } else .fail
      | _ => .fail
    else .fail
  | .str, .sl e, .str s => if (Y e).k.isU8 = true ∧ s.size ≤ 2 ^ 40 then .pure { v := .ref own 0 0 s.size, news := [.arr 1 (s.data.toList.map byteT) false] } else .fail
  | _, _, _ => .fail

def kill : T → List (Nat × Nat × Ob)
  | .ref e j _ _ => [(e, j, .gone)]
  | _ => []

/-- only what is one's own may grow -/
def mayGrow (es : Nat) : T → RM (List T)
  | .nils _ => .pure []
  | .ref e j off len => .get e j fun
    | .arr es' l false => if off + len ≤ l.length ∧ es' = es then .pure ((l.drop off).take len) else .fail
    | _ => .fail
  | _ => .fail

def srcM (es : Nat) (k : Ty) (y : T) : RM (List T) :=
  match k, y with
  | .str, .str s => if es = 1 then .pure (s.data.toList.map byteT) else .fail
  | .sl _, y => elemsM y
  | _, _ => .fail

def appendM (Y : TypeId → TyI) (own : Nat) (t u : TypeId) (x y : T) : RM Out :=
  match (Y t).k with
  | .sl e => (mayGrow (Y e).cells x).bind fun xs => (srcM (Y e).cells (Y u).k y).bind fun ys =>
      if 0 < (Y e).cells ∧ (Y e).k.isFn = false ∧ 0 < (Y e).bytes ∧ (Y e).bytes ≤ 2 ^ 16 ∧ xs.length + ys.length ≤ 2 ^ 30 ∧ nwL ys = true ∧ (∀ z ∈ ys.take 1, z.size = (Y e).cells) then
        .pure { v := .ref own 0 0 (xs.length + ys.length), ups := kill x, news := [.arr (Y e).cells (xs ++ ys) false] }
      else .fail
  | _ => .fail

/-- append of 'make(.., n)' to nil: an array of zeros -/
def appendZM (Y : TypeId → TyI) (own : Nat) (t : TypeId) (x y : T) : RM Out :=
  match (Y t).k, x, y with
  | .sl e, .nils _, .int .i64 n => if 0 < (Y e).cells ∧ (Y e).k.isFn = false ∧ 0 < (Y e).bytes ∧ (Y e).bytes ≤ 2 ^ 16 ∧ 0 ≤ n ∧ n ≤ 2 ^ 30 then
      .pure { v := .ref own 0 0 n.toNat, news := [.arr (Y e).cells (List.replicate n.toNat (zeroT Y 9 e)) false] } else .fail
  | _, _, _ => .fail
def capT (k : Ty) : T → Option T
  | .nils _ => match k with | .sl _ => some (.int .i64 0) | _ => none
  | _ => none
def Ty.isInt : Ty → Bool
  | .int _ => true
  | _ => false
def appM (b : Bool) (Y : TypeId → TyI) (own : Nat) (t u : TypeId) (x y : T) : RM Out := match b with
  | true => appendZM Y own t x y
  | false => appendM Y own t u x y

/-- 'clear' of what is one's own -/
def clearM (Y : TypeId → TyI) (t : TypeId) (x : T) : RM Out :=
  match (Y t).k, x with
  | .sl el, .ref e j off len => .get e j fun
    | .arr es l false => if es = (Y el).cells ∧ (Y el).k.isFn = false ∧ off + len ≤ l.length ∧ 0 < es then
        .pure { v := .tup [], ups := [(e, j, .arr es (l.take off ++ (List.replicate len (zeroT Y 9 el) ++ l.drop (off + len))) false)] } else .fail
    | _ => .fail
  | _, _ => .fail

def extractT (i : Nat) : T → Option T
  | .tup l => l[i]?
  | _ => none

def mnmx (mx : Bool) : T → T → Option T
  | .int k a, .int k' b => if k = k' then some (.int k (if mx then (if b > a then b else a) else (if b < a then b else a))) else none
  | _, _ => none

def pickT (x y : T) (c : Bool) : Option T :=
  match x, y with
  | .undef, _ => some .undef
  | _, .undef => some .undef
  | .bool x, .bool y => some (.bool (if c then x else y))
  | .opt false (.bool x), .bool y => if c = false then some (.bool (if c then x else y)) else none
  | .bool x, .opt false (.bool y) => if c = true then some (.bool (if c then x else y)) else none
  | x, y => some (if c then x else y)

/-- a nil slice whose element type is known -/
def nilAs (k : Ty) (Y : TypeId → TyI) : T → T
  | .nils n => match k with | .sl e => .nils (Y e).cells | _ => .nils n
  | t => t

def sumT (k : Ty) : Bool := match k with | .sl _ => true | _ => false

/-- does the operation take an entry of the heap? -/
def allocs (Y : TypeId → TyI) : Op → Bool
  | .alloc _ | .box .. | .buildSlice .. | .makeSlice .. => true
  | .convert _ dst _ => sumT (Y dst).k
  | .call { callee := .builtin b, .. } => match b with | .append => true | _ => false
  | .call _ => true
  | _ => false

/-- an operation that calls no Go function -/
def opM (Y : TypeId → TyI) (ρ : Operand → T) (own : Nat) (ty : TypeId) : Op → RM Out
  | .move x => .pure { v := ρ x }
  | .assign x => .pure { v := nilAs (Y ty).k Y (ρ x) }
  | .nilCheck x => match ρ x with
    | .ptr e j p o => .pure { v := .ptr e j p o }
    | .fp t => .pure { v := .fp t }
    | _ => .fail
  | .pick c a b => match ρ c with
    | .bool t => RM.ofOpt ((pickT (ρ a) (ρ b) t).map fun v => { v })
    | _ => .fail
  | .alloc t => allocM Y own t
  | .box _ x => boxM own (ρ x)
  | .build t ps => buildM Y t (ps.toList.map fun x => (x.1, ρ x.2))
  | .buildSlice t n ps => buildSliceM Y own t n (ps.toList.map fun x => (x.1, ρ x.2))
  | .load t a => loadM Y t (ρ a)
  | .store t a v => storeM Y t (nilAs (Y t).k Y (ρ v)) (ρ a)
  | .fieldAddr st x f => fieldAddrM Y st f (ρ x)
  | .field t x f => fieldM Y t (ρ x) f
  | .indexAddr t x i => indexAddrM Y t (ρ x) (ρ i)
  | .index t x i => indexM Y t (ρ x) (ρ i)
  | .binOp op t x y _ => match ρ x, ρ y with
    | .nilI, .nilI => match y with | .const _ => RM.ofOpt ((binTy Y op t .nilI .nilI).map fun v => { v }) | _ => .fail
    | a, b => RM.ofOpt ((binTy Y op t a b).map fun v => { v })
  | .unOp op _ x => RM.ofOpt ((unT op (ρ x)).map fun v => { v })
  | .convert src dst x => convertM Y own src dst (ρ x)
  | .slice t x lo hi mx => sliceM Y t (ρ x) (lo.map ρ) (hi.map ρ) (mx.map ρ)
  | .makeSlice t n m => makeSliceM Y own t (ρ n) (ρ m)
  | .makeFunc f first caps => match f with
    | .func f => .pure { v := .fn f (first.toList.map ρ) (caps.toList.map ρ) }
    | _ => .fail
  | .extract x i => RM.ofOpt ((extractT i (ρ x)).map fun v => { v })
  | .call { callee := .builtin b, args, argTypes } => match b, args.toList, argTypes.toList with
    | .len, [x], [t] => RM.ofOpt ((lenT (Y t).k (ρ x)).map fun v => { v })
    | .cap, [x], [t] => RM.ofOpt ((capT (Y t).k (ρ x)).map fun v => { v })
    | .append, [x, y], [t, u] => appM (Y u).k.isInt Y own t u (ρ x) (ρ y)
    | .clear, [x], [t] => clearM Y t (ρ x)
    | .max, [x, y], _ => RM.ofOpt ((mnmx true (ρ x) (ρ y)).map fun v => { v })
    | .min, [x, y], _ => RM.ofOpt ((mnmx false (ρ x) (ρ y)).map fun v => { v })
    | _, _, _ => .fail
  | _ => .fail

end Go.Vm

namespace Go.Vm

/-! ### the table of types -/
def TyM (P : Program) (d : TypeDesc) : Ty → Prop
  | .int k => d = .int k
  | .bool => d = .bool
  | .str => d = .string
  | .sl e => d = .slice e
  | .ptr e => d = .pointer e
  | .fn => ∃ a b v, d = .func a b v
  | .ifc => ∃ m, d = .interface m
  | .st fs => ∃ fields, d = .struct fields ∧ fields.toList.map (fun f => (f.type, f.offset)) = fs
  | .ar n e => d = .array n e
  | .bad => False

mutual
def zc : T → List Value
  | .int k n => [.int k n]
  | .bool b => [.bool b]
  | .str s => [.string s]
  | .nils _ => [.slice none 0 0]
  | .nilI => [.nilIface]
  | .nilP => [.pointer none]
  | .nd l => zcL l
  | _ => []
def zcL : List T → List Value
  | [] => []
  | t :: l => zc t ++ zcL l
end
mutual
def zl : T → Bool
  | .int _ _ | .bool _ | .str _ | .nils _ | .nilI | .nilP => true
  | .nd l => zlL l
  | _ => false
def zlL : List T → Bool
  | [] => true
  | t :: l => zl t && zlL l
end
mutual
theorem RC_zero (c : Cx) : ∀ t : T, zl t = true → RC c t (zc t) []
  | .int .., _ => ⟨rfl, rfl⟩
  | .bool .., _ => ⟨rfl, rfl⟩
  | .str .., _ => ⟨rfl, rfl⟩
  | .nils _, _ => ⟨rfl, none, rfl⟩
  | .nilI, _ => ⟨rfl, rfl⟩
  | .nilP, _ => ⟨rfl, rfl⟩
  | .nd l, h => by simp only [RC, zc]; exact RCL_zero c l (by simpa [zl] using h)
  | .sl .., h => by simp [zl] at h
  | .ow .., h => by simp [zl] at h
  | .ref .., h => by simp [zl] at h
  | .vr .., h => by simp [zl] at h
  | .ptr .., h => by simp [zl] at h
  | .fp .., h => by simp [zl] at h
  | .fn .., h => by simp [zl] at h
  | .err, h => by simp [zl] at h
  | .any, h => by simp [zl] at h
  | .tup .., h => by simp [zl] at h
  | .io .., h => by simp [zl] at h
  | .undef, h => by simp [zl] at h
  | .opt .., h => by simp [zl] at h
theorem RCL_zero (c : Cx) : ∀ l : List T, zlL l = true → RCL c l (zcL l) []
  | [], _ => ⟨rfl, rfl⟩
  | t :: l, h => by
    simp only [zlL, Bool.and_eq_true] at h
    exact ⟨zc t, zcL l, [], [], rfl, rfl, RC_zero c t h.1, RCL_zero c l h.2⟩
end

structure TyOk (P : Program) (Y : TypeId → TyI) (t : TypeId) : Prop where
  ex : ∃ i d, P.info? t = some i ∧ P.underlying t = some d ∧ i.size = (Y t).cells ∧ i.bytes = (Y t).bytes ∧ TyM P d (Y t).k
  zo : (Y t).k = .fn ∨ ∃ i z, P.info? t = some i ∧ i.zero = some z ∧ z.cells.toList = zc (zeroT Y 9 t) ∧ zl (zeroT Y 9 t) = true ∧ (zeroT Y 9 t).size = (Y t).cells

def TysOk (P : Program) (Y : TypeId → TyI) : Prop := ∀ t, 0 < (Y t).cells → TyOk P Y t

section
variable {P : Program} {Y : TypeId → TyI} {t : TypeId} (w : World)

theorem TyOk.run_size (h : TyOk P Y t) : (sizeOf t).run P w = .ok (Y t).cells w := by
  obtain ⟨i, d, hi, hd, hs, _⟩ := h.ex
  simp [sizeOf, typeInfo, hi, hs]
theorem TyOk.run_under (h : TyOk P Y t) : ∃ d, (underlying t).run P w = .ok d w ∧ TyM P d (Y t).k ∧ P.underlying t = some d := by
  obtain ⟨i, d, hi, hd, hs, hb, hm⟩ := h.ex
  exact ⟨d, run_underlying hd w, hm, hd⟩
def aggD : TypeDesc → Bool
  | .struct _ | .array _ _ => true
  | _ => false
theorem TyM.agg {P : Program} {d : TypeDesc} {k : Ty} (hm : TyM P d k) : aggD d = k.agg := by
  cases k <;> simp only [TyM] at hm
  all_goals first
    | (subst hm; rfl)
    | (obtain ⟨a, b, v, rfl⟩ := hm; rfl)
    | (obtain ⟨m, rfl⟩ := hm; rfl)
    | (obtain ⟨fields, rfl, _⟩ := hm; rfl)
theorem TyOk.run_agg (h : TyOk P Y t) : (isAgg t).run P w = .ok (Y t).agg w := by
  obtain ⟨i, d, hi, hd, hs, hb, hm⟩ := h.ex
  have : (isAgg t).run P w = .ok (aggD d) w := by
    simp only [isAgg, Sem.run_bind, run_underlying hd w, Result.andThen]
    cases d <;> rfl
  rw [this, hm.agg]; rfl
end

theorem CellsAt.cell {w : World} {a : Addr} {cs : List Value} (h : CellsAt w a cs) (ha : a.spot = none) (j : Nat) (v : Value) (hj : cs[j]? = some v) :
    w.cell? (a.add j) = some v := by
  obtain ⟨arr, ty, fr, hh, hc⟩ := h
  have := hc j v hj
  unfold Addr.add
  split
  · rename_i h0; subst h0; simp [World.cell?, hh, ha]; simpa using this
  · simp [World.cell?, hh]; simpa using this

theorem Addr_add (b o n : Nat) : (⟨b, o, none⟩ : Addr).add n = ⟨b, o + n, none⟩ := by
  unfold Addr.add; split
  · rename_i h; subst h; rfl
  · rfl
theorem Addr_add' (a : Addr) (n : Nat) (ha : a.spot = none) : a.add n = ⟨a.block, a.off + n, none⟩ := by
  obtain ⟨b, o, s⟩ := a; simp at ha; subst ha; exact Addr_add b o n

theorem run_loadVar {P : Program} {Y : TypeId → TyI} {ty : TypeId} {w : World} {a : Addr} {t : T} {cs : List Value} (h : TyOk P Y ty) (hc : CellsAt w a cs)
    (ha : a.spot = none) (hl : cs.length = (Y ty).cells) (hg : t.isNd = (Y ty).agg) (h1 : t.isNd = false → cs.length = 1) : (loadVar ty a).run P w = .ok (valOf t cs) w := by
  simp only [loadVar, Sem.run_bind, h.run_agg w, Result.andThen, ← hg]
  cases hn : t.isNd with
  | true =>
    simp only [if_true, Sem.run_bind, h.run_size w, Result.andThen]
    have := run_loadCells_list (P := P) w a cs (fun j v hj => hc.cell ha j v hj)
    rw [hl] at this
    simp only [this, Sem.run_pure, valOf, hn, if_true]
  | false =>
    have h1 := h1 hn
    obtain ⟨v, rfl⟩ : ∃ v, cs = [v] := List.length_eq_one_iff.1 h1
    have := hc.cell ha 0 v rfl
    rw [Addr.add] at this
    simp only [if_true] at this
    simp [run_load, this, valOf, hn]

/-! ### writing cells -/
def spl (arr : Array Value) (o : Nat) : List Value → Array Value
  | [] => arr
  | v :: vs => spl (arr.setIfInBounds o v) (o + 1) vs

theorem spl_size : ∀ (vs : List Value) (arr : Array Value) (o : Nat), (spl arr o vs).size = arr.size
  | [], _, _ => rfl
  | v :: vs, arr, o => by simp [spl, spl_size vs]

theorem spl_out : ∀ (vs : List Value) (arr : Array Value) (o j : Nat), j < o ∨ o + vs.length ≤ j → (spl arr o vs)[j]? = arr[j]?
  | [], _, _, _, _ => rfl
  | v :: vs, arr, o, j, h => by
    simp only [spl]
    simp only [List.length_cons] at h
    rw [spl_out vs _ _ _ (by omega), Array.getElem?_setIfInBounds_ne (by omega)]

theorem spl_in : ∀ (vs : List Value) (arr : Array Value) (o j : Nat) (v : Value), o + vs.length ≤ arr.size → vs[j]? = some v → (spl arr o vs)[o + j]? = some v
  | [], _, _, _, _, _, h => by simp at h
  | x :: vs, arr, o, 0, v, hs, h => by
    simp at h; subst h
    simp only [List.length_cons] at hs
    simp only [spl]
    rw [spl_out vs _ _ _ (by omega)]
    simp only [Nat.add_zero]
    rw [Array.getElem?_setIfInBounds_self_of_lt (by omega)]
  | x :: vs, arr, o, j + 1, v, hs, h => by
    simp only [List.length_cons] at hs
    have := spl_in vs (arr.setIfInBounds o x) (o + 1) j v (by simp; omega) (by simpa using h)
    simp only [spl]
    rwa [show o + (j + 1) = o + 1 + j by omega]

/-- 'w'' is w but for block b -/
structure But (w w' : World) (b : Nat) : Prop where
  size : w'.heap.size = w.heap.size
  oth : ∀ k, k ≠ b → w'.heap[k]? = w.heap[k]?
  kp : Keep w w'

theorem But.refl (w : World) (b : Nat) : But w w b := ⟨rfl, fun _ _ => rfl, .refl w⟩
theorem But.trans {w w1 w2 : World} {b : Nat} (h : But w w1 b) (h' : But w1 w2 b) : But w w2 b :=
  ⟨h'.size.trans h.size, fun k hk => (h'.oth k hk).trans (h.oth k hk), h.kp.trans h'.kp⟩

theorem setCell_heap {w : World} {b o : Nat} {v : Value} {arr : Array Value} {ty : TypeId} {fr : Nat × Nat} (h : w.heap[b]? = some (.cells arr ty fr)) :
    (w.setCell ⟨b, o, none⟩ v).heap[b]? = some (.cells (arr.setIfInBounds o v) ty fr) ∧ But w (w.setCell ⟨b, o, none⟩ v) b := by
  refine ⟨?_, ⟨by simp [World.setCell], fun k hk => ?_, ⟨rfl, rfl⟩⟩⟩
  · simp [World.setCell, Array.getElem?_modify, h]
  · simp [World.setCell, Array.getElem?_modify, Ne.symm hk]

theorem run_storeCells {P : Program} {b : Nat} {ty : TypeId} {fr : Nat × Nat} : ∀ (vs : List Value) (w : World) (arr : Array Value) (o i : Nat),
    w.heap[b]? = some (.cells arr ty fr) → Free arr.size fr → o + i + vs.length ≤ arr.size → (∀ v ∈ vs, v.oneCell' = true) →
    ∃ w', (storeCells ⟨b, o, none⟩ vs i).run P w = .ok () w' ∧ w'.heap[b]? = some (.cells (spl arr (o + i) vs) ty fr) ∧ But w w' b
  | [], w, arr, o, i, h, _, _, _ => ⟨w, rfl, h, But.refl w b⟩
  | v :: vs, w, arr, o, i, h, hf, hl, h1 => by
    simp only [List.length_cons] at hl
    have hc : w.cell? ⟨b, o + i, none⟩ = some (arr[o + i]'(by omega)) := by simp [World.cell?, h]
    have hz : w.frozen? ⟨b, o + i, none⟩ = false := by
      obtain ⟨lo, hi⟩ := fr
      have := hf.2 (o + i) (by omega)
      simp only [World.frozen?, h]
      simp only at this
      simp; omega
    obtain ⟨hs, hb⟩ := setCell_heap (o := o + i) (v := v) h
    obtain ⟨w', r, e, hb'⟩ := run_storeCells vs _ _ o (i + 1) hs (by simpa using hf) (by simp; omega) (fun x hx => h1 x (by simp [hx]))
    refine ⟨w', ?_, by simpa [spl, Nat.add_assoc] using e, hb.trans hb'⟩
    simp only [storeCells, Addr_add, Sem.run_bind, run_store P w _ v _ (h1 v (by simp)), hc, hz, Bool.false_eq_true, if_false, Result.andThen]
    exact r

mutual
theorem RC_one {c : Cx} : ∀ (t : T) {cs : List Value} {bs : List Nat}, RC c t cs bs → ∀ v ∈ cs, v.oneCell' = true
  | .int .., _, _, h => by obtain ⟨rfl, _⟩ := h; simp [Value.oneCell']
  | .bool .., _, _, h => by obtain ⟨rfl, _⟩ := h; simp [Value.oneCell']
  | .str .., _, _, h => by obtain ⟨rfl, _⟩ := h; simp [Value.oneCell']
  | .nd l, _, _, h => RCL_one l (by simpa only [RC] using h)
  | .sl .., _, _, h => by obtain ⟨_, A, k, rfl, _⟩ := h; simp [Value.oneCell']
  | .ow .., _, _, h => by obtain ⟨A, k, rfl, _⟩ := h; simp [Value.oneCell']
  | .nils _, _, _, h => by obtain ⟨_, A, rfl⟩ := h; simp [Value.oneCell']
  | .ref .., _, _, h => by obtain ⟨_, A, k, i, rfl, _⟩ := h; simp [Value.oneCell']
  | .vr .., _, _, h => by obtain ⟨_, k, i, _, rfl, _⟩ := h; simp [Value.oneCell']
  | .ptr .., _, _, h => by obtain ⟨_, i, _, rfl⟩ := h; simp [Value.oneCell']
  | .fp _, _, _, h => by obtain ⟨_, a, row, rfl, _⟩ := h; simp [Value.oneCell']
  | .fn .., _, _, h => by obtain ⟨_, xs, ys, rfl, _⟩ := h; simp [Value.oneCell']
  | .nilI, _, _, h => by obtain ⟨rfl, _⟩ := h; simp [Value.oneCell']
  | .nilP, _, _, h => by obtain ⟨rfl, _⟩ := h; simp [Value.oneCell']
  | .err, _, _, h => by obtain ⟨_, t, v, rfl⟩ := h; simp [Value.oneCell']
  | .any, _, _, h => by obtain ⟨_, v, rfl, r⟩ := h; simpa using r
  | .tup _, _, _, h => by simp [RC] at h
  | .io _, _, _, h => by simp [RC] at h
  | .undef, _, _, h => by simp [RC] at h
  | .opt _ _, _, _, h => by simp [RC] at h
theorem RCL_one {c : Cx} : ∀ (l : List T) {cs : List Value} {bs : List Nat}, RCL c l cs bs → ∀ v ∈ cs, v.oneCell' = true
  | [], _, _, h => by obtain ⟨rfl, _⟩ := h; simp
  | t :: l, _, _, h => by
    obtain ⟨c1, c2, b1, b2, rfl, rfl, h1, h2⟩ := h
    intro v hv
    rcases List.mem_append.1 hv with hv | hv
    · exact RC_one t h1 v hv
    · exact RCL_one l h2 v hv
end
theorem RRows_one {c : Cx} {es : Nat} : ∀ (l : List T) {cs : List Value} {bs : List Nat}, RRows c es l cs bs → ∀ v ∈ cs, v.oneCell' = true
  | [], _, _, h => by obtain ⟨rfl, _⟩ := h; simp
  | t :: l, _, _, h => by
    obtain ⟨c1, c2, b1, b2, rfl, rfl, _, h1, h2⟩ := h
    intro v hv
    rcases List.mem_append.1 hv with hv | hv
    · exact RC_one t h1 v hv
    · exact RRows_one l h2 v hv

end Go.Vm

namespace Go.Vm

/-! ### one operation -/
def Heap.ups (H : Heap) : List (Nat × Nat × Ob) → Heap
  | [] => H
  | (e, j, ob) :: r => Heap.ups (H.put e j ob) r

def Heap.after (H : Heap) (al : Bool) (own : Nat) (o : Out) : Heap := if al then (H.ups o.ups).set own o.news else H.ups o.ups

def Done (F : Fr) (c : Cx) (H' : Heap) (t : T) (r : Result Value) : Prop :=
  ∃ x c' bs', r = .ok x c'.w ∧ c.Le c' ∧ InvH F c' H' bs' ∧ RV c' t x

theorem Cx.Le.refl (c : Cx) : c.Le c := ⟨fun _ h => h, fun _ h => h, fun _ _ => rfl, fun _ _ => rfl, fun _ _ _ h => h, fun _ _ h => h⟩
theorem Cx.Le.trans {c c1 c2 : Cx} (h : c.Le c1) (h' : c1.Le c2) : c.Le c2 :=
  ⟨fun b x => h'.z b (h.z b x), fun b x => h'.zs b (h.zs b x), fun b x => (h'.hz b (h.z b x)).trans (h.hz b x),
   fun b x => (h'.hs b (h.zs b x)).trans (h.hs b x), fun e j i x => h'.mu e j i (h.mu e j i x), fun k b x => h'.r k b (h.r k b x)⟩

/-- nothing in memory turns -/
theorem Done.same {F : Fr} {c : Cx} {H : Heap} {bs : List Nat} {t : T} {x : Value} (h : InvH F c H bs) (r : RV c t x) : Done F c H t (.ok x c.w) :=
  ⟨x, c, bs, rfl, .refl c, h, r⟩

/-! #### a block of one's own is written -/
def Cx.with (c : Cx) (w : World) : Cx := { c with w }

theorem Le_but {F : Fr} {c : Cx} {H : Heap} {bs : List Nat} {w' : World} {b : Nat} (h : InvH F c H bs) (hb : b ∈ bs) (hw : But c.w w' b) : c.Le (c.with w') where
  z _ h := h
  zs _ h := h
  hz k hk := hw.oth k (fun e => h.dz b hb (e ▸ hk))
  hs k hk := hw.oth k (fun e => h.dz b hb (e ▸ h.zz k hk))
  mu _ _ _ h := h
  r _ _ h := h

theorem InvH.write {F : Fr} {c : Cx} {H : Heap} {p q r q' : List Nat} {w' : World} {b e j : Nat} {ob' : Ob} (h : InvH F c H (p ++ (q ++ r))) (hb : b ∈ q) (hw : But c.w w' b)
    (hq : ∀ x ∈ q', x ∈ q) (hn : q'.Nodup) (hr : HR (c.with w') 0 (H.put e j ob') (p ++ (q' ++ r))) : InvH F (c.with w') (H.put e j ob') (p ++ (q' ++ r)) where
  hp := hr
  nd := by
    have := h.nd
    rw [List.nodup_append, List.nodup_append] at this ⊢
    obtain ⟨h1, ⟨h2, h3, h4⟩, h5⟩ := this
    refine ⟨h1, ⟨hn, h3, fun a ha b hb => h4 a (hq a ha) b hb⟩, fun a ha b hb => h5 a ha b ?_⟩
    rcases List.mem_append.1 hb with hb | hb
    · exact List.mem_append.2 (.inl (hq b hb))
    · exact List.mem_append.2 (.inr hb)
  dz x hx := h.dz x (by
    simp only [List.mem_append] at hx ⊢
    exact hx.imp id (.imp (hq x) id))
  zz := h.zz
  zl x hx := by
    have := h.zl x hx
    rw [show (c.with w').w.heap.size = c.w.heap.size from hw.size]; exact this
  bl x hx := by
    have := h.bl x (by
      simp only [List.mem_append] at hx ⊢
      exact hx.imp id (.imp (hq x) id))
    rw [show (c.with w').w.heap.size = c.w.heap.size from hw.size]; exact this
  mu e' j' i hi := by
    obtain ⟨ob, ho⟩ := h.mu e' j' i hi
    unfold Heap.at Heap.put at *
    cases hl : H[e]? with
    | none => exact ⟨ob, ho⟩
    | some l =>
      by_cases he : e = e'
      · subst he
        simp only [hl] at ho ⊢
        have hlt : e < H.length := (List.getElem?_eq_some_iff.1 hl).1
        simp only [List.getElem?_set_self hlt]
        by_cases hj : j = j'
        · subst hj
          exact ⟨ob', List.getElem?_set_self (List.getElem?_eq_some_iff.1 ho).1⟩
        · exact ⟨ob, by rw [List.getElem?_set_ne hj]; exact ho⟩
      · simp only [List.getElem?_set_ne he]; exact ⟨ob, ho⟩
  fs := by rw [show (c.with w').w.heap.size = c.w.heap.size from hw.size]; exact h.fs
  ff x hx ho := by
    have hne : x ≠ b := fun e => by
      subst e
      rcases h.fb x (by simp [hb]) with h' | h'
      · exact ho h'
      · omega
    rw [show (c.with w').w.heap[x]? = c.w.heap[x]? from hw.oth x hne]
    exact h.ff x hx ho
  fb x hx := h.fb x (by
    simp only [List.mem_append] at hx ⊢
    exact hx.imp id (.imp (hq x) id))
  fz := h.fz
  fZ := h.fZ
  kp := h.kp.trans hw.kp
  rr := h.rr

/-! #### a new block -/
def Cx.newAt (c : Cx) (w : World) (own : Nat) (i : Info) : Cx := { c with w, μ := fun e j => if e = own ∧ j = 0 then some i else c.μ e j }

theorem Le_new {F : Fr} {c : Cx} {H : Heap} {bs : List Nat} {w' : World} {own : Nat} {i : Info} (h : InvH F c H bs) (hown : H[own]? = some [])
    (hw : ∀ k, k < c.w.heap.size → w'.heap[k]? = c.w.heap[k]?) : c.Le (c.newAt w' own i) where
  z _ h := h
  zs _ h := h
  hz k hk := hw k (h.zl k hk)
  hs k hk := hw k (h.zl k (h.zz k hk))
  mu e j x hx := by
    simp only [Cx.newAt]
    split
    · rename_i he
      obtain ⟨rfl, rfl⟩ := he
      obtain ⟨ob, ho⟩ := h.mu _ _ _ hx
      simp [Heap.at, hown] at ho
    · exact hx
  r _ _ h := h

theorem InvH.new {F : Fr} {c : Cx} {H : Heap} {bs q : List Nat} {w' : World} {own : Nat} {i : Info} {ob : Ob} (h : InvH F c H bs) (hown : H[own]? = some [])
    (hs : w'.heap.size = c.w.heap.size + 1) (hw : ∀ k, k < c.w.heap.size → w'.heap[k]? = c.w.heap[k]?) (hkp : Keep c.w w') (hq : q = [] ∨ q = [c.w.heap.size])
    (ho : HOb (c.newAt w' own i) own 0 ob q) : ∃ bs', InvH F (c.newAt w' own i) (H.set own [ob]) bs' := by
  have hle := Le_new (i := i) h hown hw
  obtain ⟨p, q0, r, rfl, hr0, hset⟩ := HR.row h.hp hown
  simp only [HRow] at hr0; subst hr0
  have hlt : own < H.length := (List.getElem?_eq_some_iff.1 hown).1
  have hmem : ∀ x ∈ q, x = c.w.heap.size := fun x hx => by rcases hq with rfl | rfl <;> simp at hx; exact hx
  have hold : ∀ x ∈ p ++ ([] ++ r), x < c.w.heap.size := h.bl
  refine ⟨p ++ (q ++ r), ?_⟩
  constructor
  · have := hset (c.newAt w' own i) [ob] q hle (fun b hb => hw b (hold b (by simp [hb]))) (fun b hb => hw b (hold b (by simp [hb])))
      ⟨q, [], by simp, by simpa using ho, rfl⟩
    simpa using this
  · have hn := h.nd
    simp only [List.nil_append] at hn
    rw [List.nodup_append] at hn
    rw [List.nodup_append, List.nodup_append]
    refine ⟨hn.1, ⟨by rcases hq with rfl | rfl <;> simp, hn.2.1, fun a ha b hb e => ?_⟩, fun a ha b hb e => ?_⟩
    · have := hold b (by simp [hb]); have := hmem a ha; omega
    · rcases List.mem_append.1 hb with hb | hb
      · have := hold a (by simp [ha]); have := hmem b hb; omega
      · exact hn.2.2 a ha b hb e
  · intro b hb hz
    simp only [List.mem_append] at hb
    rcases hb with hb | hb | hb
    · exact h.dz b (by simp [hb]) hz
    · have := h.zl b hz; have := hmem b hb; omega
    · exact h.dz b (by simp [hb]) hz
  · exact h.zz
  · intro b hb; have := h.zl b hb; show b < w'.heap.size; omega
  · intro b hb
    show b < w'.heap.size
    simp only [List.mem_append] at hb
    rcases hb with hb | hb | hb
    · have := hold b (by simp [hb]); omega
    · have := hmem b hb; omega
    · have := hold b (by simp [hb]); omega
  · intro e j x hx
    simp only [Cx.newAt] at hx
    split at hx
    · rename_i he
      obtain ⟨rfl, rfl⟩ := he
      exact ⟨ob, by simp [Heap.at, List.getElem?_set_self hlt]⟩
    · obtain ⟨ob', ho'⟩ := h.mu _ _ _ hx
      unfold Heap.at at *
      by_cases he : own = e
      · subst he; simp [hown] at ho'
      · rw [List.getElem?_set_ne he]; exact ⟨ob', ho'⟩
  · show F.w.heap.size ≤ w'.heap.size
    have := h.fs; omega
  · intro b hb hn
    show w'.heap[b]? = _
    rw [hw b (by have := h.fs; omega)]
    exact h.ff b hb hn
  · intro b hb
    simp only [List.mem_append] at hb
    rcases hb with hb | hb | hb
    · exact h.fb b (by simp [hb])
    · right; have := hmem b hb; have := h.fs; omega
    · exact h.fb b (by simp [hb])
  · exact h.fz
  · exact h.fZ
  · exact h.kp.trans hkp
  · exact h.rr

end Go.Vm

namespace Go.Vm

theorem CellsAt.part {w : World} {b o : Nat} {x y z : List Value} (h : CellsAt w ⟨b, o, none⟩ (x ++ (y ++ z))) : CellsAt w ⟨b, o + x.length, none⟩ y := by
  obtain ⟨arr, ty, fr, hh, hc⟩ := h
  refine ⟨arr, ty, fr, hh, fun i v hv => ?_⟩
  have := hc (x.length + i) v (by
    rw [List.getElem?_append_right (by omega), Nat.add_sub_cancel_left]
    rw [List.getElem?_append_left (List.getElem?_eq_some_iff.1 hv).1]; exact hv)
  simpa [Nat.add_assoc] using this

theorem HVar.cells {c : Cx} {i : Info} {t : T} {bs : List Nat} (h : HVar c i t bs) : ∃ cs bs', bs = i.blk :: bs' ∧ RC c t cs bs' ∧ CellsAt c.w ⟨i.blk, i.off, none⟩ cs := by
  obtain ⟨cs, bs', arr, e, r, hh, _, _, _, hc, _⟩ := h
  exact ⟨cs, bs', e, r, arr, i.ty, i.fr, hh, hc⟩

theorem sub_ok {F : Fr} {c : Cx} {H : Heap} {bs : List Nat} {e j : Nat} {ob : Ob} {p : List Nat} {o : Nat} {u : T} (h : InvH F c H bs) (ha : H.at e j = some ob)
    (hu : (subM p o ob).run H = some u) : ∃ i y b2, c.μ e j = some i ∧ RC c u y b2 ∧ CellsAt c.w ⟨i.blk, i.off + o, none⟩ y ∧ (i.blk ∈ bs ∨ c.Zs i.blk) ∧ ∀ x ∈ b2, x ∈ bs := by
  obtain ⟨_, q, _, hbs, ho, _⟩ := h.hp.at ha
  have hqb : ∀ x ∈ q, x ∈ bs := fun x hx => by rw [hbs]; simp [hx]
  cases ob with
  | gone => simp [subM, RM.run] at hu
  | var t =>
    obtain ⟨i, hi, hv⟩ := ho
    obtain ⟨cs, bs', hq, hr, hc⟩ := hv.cells
    simp only [subM] at hu
    cases hg : t.get p with
    | none => simp [hg, RM.run] at hu
    | some u' =>
      simp only [hg] at hu
      split at hu
      · rename_i hof
        simp [RM.run] at hu; subst hu
        obtain ⟨x, y, z, b1, b2, b3, rfl, hb, hx, hr', _⟩ := RC_path hr hg
        exact ⟨i, y, b2, hi, hr', by have := hc.part; rwa [hx, hof] at this, .inl (hqb _ (by rw [hq]; simp)), fun w hw => hqb _ (by rw [hq, hb]; simp [hw])⟩
      · simp [RM.run] at hu
  | arr es l fz =>
    simp only [subM] at hu
    cases p with
    | nil => simp [RM.run] at hu
    | cons k p =>
      simp only at hu
      cases hl : l[k]? with
      | none => simp [hl, RM.run] at hu
      | some t =>
        simp only [hl] at hu
        cases hg : t.get p with
        | none => simp [hg, RM.run] at hu
        | some u' =>
          simp only [hg] at hu
          split at hu
          · rename_i hof
            simp [RM.run] at hu; subst hu
            have key : ∃ i rows bs', c.μ e j = some i ∧ RRows c es l rows bs' ∧ CellsAt c.w ⟨i.blk, i.off, none⟩ rows ∧ (i.blk ∈ bs ∨ c.Zs i.blk) ∧ ∀ x ∈ bs', x ∈ bs := by
              have hne : 0 < l.length := by
                rcases Nat.lt_or_ge k l.length with h' | h'
                · omega
                · simp [List.getElem?_eq_none h'] at hl
              cases fz with
              | false =>
                obtain ⟨i, hi, he, hp, hl', hr⟩ := ho
                rcases hr with ⟨h0, _⟩ | ⟨rows, bs', hq, hr, hc, _⟩
                · omega
                · exact ⟨i, rows, bs', hi, hr, hc, .inl (hqb _ (by rw [hq]; simp)), fun w hw => hqb _ (by rw [hq]; simp [hw])⟩
              | true =>
                obtain ⟨i, hi, _, he, hp, hl', hr⟩ := ho
                rcases hr with h0 | ⟨rows, hr, hc, hz⟩
                · omega
                · exact ⟨i, rows, [], hi, hr, hc, .inr hz, by simp⟩
            obtain ⟨i, rows, bs', hi, hr, hc, hblk, hbl⟩ := key
            obtain ⟨x, y, z, p1, q1, r1, rfl, hb1, hx, hy, hr', _⟩ := RRows_split hr hl
            obtain ⟨x', y', z', b1, b2, b3, rfl, hb2, hx', hr'', _⟩ := RC_path hr' hg
            refine ⟨i, y', b2, hi, hr'', ?_, hblk, fun w hw => hbl w (by rw [hb1, hb2]; simp [hw])⟩
            have h1 := hc.part
            have h2 := h1.part
            rw [hx, hx', Nat.add_assoc, hof] at h2
            exact h2
          · simp [RM.run] at hu

section
variable {P : Program} {Y : TypeId → TyI} (hY : TysOk P Y)
include hY

theorem load_ok {F : Fr} {c : Cx} {H : Heap} {bs : List Nat} {ty : TypeId} {t : T} {v : Value} {out : Out} (h : InvH F c H bs) (hv : RV c t v) 
    (hm : (loadM Y ty t).run H = some out) : out.ups = [] ∧ out.news = [] ∧ Done F c H out.v ((Instr.loadAt ty v).run P c.w) := by
  have fin : ∀ (u : T) (y : List Value) (b2 : List Nat) (a : Addr), RC c u y b2 → CellsAt c.w a y → a.spot = none →
      (u.nw = true ∧ u.isNd = (Y ty).agg ∧ u.size = (Y ty).cells ∧ 0 < (Y ty).cells) → Done F c H u ((loadVar ty a).run P c.w) := by
    intro u y b2 a hr hc ha ⟨h1, h2, h3, hty⟩
    rw [run_loadVar (t := u) (hY ty hty) hc ha (by rw [RC_len u hr, h3]) h2 (fun hn => by rw [RC_len u hr]; cases u <;> first | rfl | simp [T.isNd] at hn)]
    exact Done.same h (hr.val h1)
  cases t with
  | ptr e j p o =>
    obtain ⟨i, hi, rfl⟩ := hv
    simp only [loadM, RM.run] at hm
    cases ha : H.at e j with
    | none => simp [ha] at hm
    | some ob =>
      simp only [ha, RM.run_bind] at hm
      cases hs : (subM p o ob).run H with
      | none => simp [hs] at hm
      | some u =>
        simp only [hs] at hm
        split at hm
        · rename_i hc
          simp [RM.run] at hm; subst hm
          obtain ⟨i', y, b2, hi', hr, hcell, _⟩ := sub_ok h ha hs
          rw [hi] at hi'; cases hi'
          refine ⟨rfl, rfl, ?_⟩
          simp only [Instr.loadAt, Instr.sureAddr, Sem.run_bind, Sem.run_pure, Result.andThen]
          exact fin u y b2 _ hr hcell rfl hc
        · simp [RM.run] at hm
  | fp u =>
    obtain ⟨a, row, rfl, ha, hr, hc, _⟩ := hv
    simp only [loadM] at hm
    split at hm
    · rename_i hcond
      simp [RM.run] at hm; subst hm
      refine ⟨rfl, rfl, ?_⟩
      simp only [Instr.loadAt, Instr.sureAddr, Sem.run_bind, Sem.run_pure, Result.andThen]
      exact fin u row [] a hr hc ha hcond
    · simp [RM.run] at hm
  | _ => simp [loadM, RM.run] at hm

theorem run_storeVar {w : World} {ty : TypeId} {b o : Nat} {v : Value} {arr : Array Value} {tyb : TypeId} {fr : Nat × Nat} (hty : 0 < (Y ty).cells)
    (hh : w.heap[b]? = some (.cells arr tyb fr)) (hf : Free arr.size fr) (hs : v.cells.size = (Y ty).cells) (hl : o + v.cells.size ≤ arr.size) (h1 : ∀ x ∈ v.cells.toList, x.oneCell' = true) :
    ∃ w', (storeVar ty ⟨b, o, none⟩ v).run P w = .ok () w' ∧ w'.heap[b]? = some (.cells (spl arr o v.cells.toList) tyb fr) ∧ But w w' b := by
  obtain ⟨w', r, e, hb⟩ := run_storeCells (P := P) v.cells.toList w arr o 0 hh hf (by simpa using hl) h1
  refine ⟨w', ?_, by simpa using e, hb⟩
  simp only [storeVar, Sem.run_bind, (hY ty hty).run_size w, Result.andThen, hs, ne_eq, not_true_eq_false, if_false]
  exact r
end

theorem CellsAt.splice {w w' : World} {b o : Nat} {x y z y' : List Value} {arr : Array Value} {ty : TypeId} {fr : Nat × Nat} (hh : w.heap[b]? = some (.cells arr ty fr))
    (hc : CellsAt w ⟨b, o, none⟩ (x ++ (y ++ z))) (hl : y'.length = y.length) (hs : o + x.length + y.length ≤ arr.size)
    (hw : w'.heap[b]? = some (.cells (spl arr (o + x.length) y') ty fr)) : CellsAt w' ⟨b, o, none⟩ (x ++ (y' ++ z)) := by
  obtain ⟨arr', ty', fr', hh', hc⟩ := hc
  simp only at hh'
  rw [hh] at hh'; cases hh'
  refine ⟨_, _, _, hw, fun i v hv => ?_⟩
  simp only
  rcases Nat.lt_or_ge i x.length with h1 | h1
  · rw [List.getElem?_append_left h1] at hv
    rw [spl_out _ _ _ _ (by omega)]
    exact hc i v (by rw [List.getElem?_append_left h1]; exact hv)
  · rw [List.getElem?_append_right h1] at hv
    rcases Nat.lt_or_ge (i - x.length) y'.length with h2 | h2
    · rw [List.getElem?_append_left h2] at hv
      have := spl_in y' arr (o + x.length) (i - x.length) v (by omega) hv
      rwa [show o + x.length + (i - x.length) = o + i by omega] at this
    · rw [List.getElem?_append_right h2] at hv
      rw [spl_out _ _ _ _ (by omega)]
      refine hc i v ?_
      rw [List.getElem?_append_right h1, List.getElem?_append_right (by omega), ← hl]; exact hv

end Go.Vm

namespace Go.Vm

def DoneU (F : Fr) (c : Cx) (H' : Heap) (r : Result Unit) : Prop := ∃ c' bs', r = .ok () c'.w ∧ c.Le c' ∧ InvH F c' H' bs'

theorem nodup_mid {p q r : List Nat} (h : (p ++ (q ++ r)).Nodup) : q.Nodup := by
  rw [List.nodup_append, List.nodup_append] at h; exact h.2.1.1

section
variable {P : Program} {Y : TypeId → TyI} (hY : TysOk P Y)
include hY

theorem store_ok {F : Fr} {c : Cx} {H : Heap} {bs : List Nat} {ty : TypeId} {t u : T} {v x : Value} {out : Out} (h : InvH F c H bs) (hv : RV c t v) (hx : RV c u x)
    (hm : (storeM Y ty u t).run H = some out) : out.v = .undef ∧ out.news = [] ∧ DoneU F c (H.ups out.ups) ((Instr.storeAt ty v x).run P c.w) := by
  cases t with
  | ptr e j p o =>
    obtain ⟨i, hi, rfl⟩ := hv
    simp only [storeM, RM.run] at hm
    cases ha : H.at e j with
    | none => simp [ha] at hm
    | some ob =>
      simp only [ha, RM.run_bind] at hm
      cases hs : (subM p o ob).run H with
      | none => simp [hs] at hm
      | some old =>
        simp only [hs] at hm
        split at hm
        case isFalse => simp [RM.run] at hm
        rename_i hcond
        obtain ⟨hcel, hsz, hold, hty⟩ := hcond
        cases hset : setOb p u ob with
        | none => simp [hset, RM.run] at hm
        | some ob' =>
          simp [hset, RM.run] at hm; subst hm
          refine ⟨rfl, rfl, ?_⟩
          have hru := hx.cells hcel
          have hul : x.cells.toList.length = u.size := RC_len u hru
          have hul' : x.cells.size = (Y ty).cells := by simpa using hul.trans hsz
          have hone := RC_one u hru
          obtain ⟨p1, q, r1, rfl, ho, hput⟩ := h.hp.at ha
          have hnd := nodup_mid h.nd
          simp only [Instr.storeAt, Instr.sureAddr, Sem.run_bind, Sem.run_pure, Result.andThen]
          cases ob with
          | gone => simp [setOb] at hset
          | var t =>
            obtain ⟨i', hi', cs, bs', arr, rfl, hr, hh, hsize, hfree, hfit, hin, hout⟩ := ho
            rw [hi] at hi'; cases hi'
            simp only [subM] at hs
            cases hg : t.get p with
            | none => simp [hg, RM.run] at hs
            | some u' =>
              simp only [hg] at hs
              split at hs
              case isFalse => simp [RM.run] at hs
              rename_i hof
              simp [RM.run] at hs; subst hs
              obtain ⟨a1, y, z, b1, b2, b3, rfl, rfl, ha1, hry, _⟩ := RC_path hr hg
              have hyl : y.length = u.size := by rw [RC_len _ hry, hold]
              simp only [List.length_append] at hfit
              obtain ⟨w', hrun, hw1, hbut⟩ := run_storeVar hY (o := i.off + o) (v := x) hty hh hfree hul' (by rw [hul', ← hsz, ← hof, ← ha1]; omega) hone
              have hmem : i.blk ∈ p1 ++ (i.blk :: (b1 ++ (b2 ++ b3)) ++ r1) := by simp
              have hle := Le_but h hmem hbut
              have hnot : ∀ b ∈ b1 ++ (b2 ++ b3), b ≠ i.blk := fun b hb e => by
                subst e; exact (List.nodup_cons.1 hnd).1 hb
              have hr' : RC (c.with w') t (a1 ++ (y ++ z)) (b1 ++ (b2 ++ b3)) := hr.mono hle t (fun b hb => hbut.oth b (hnot b hb))
              obtain ⟨a1', y', z', d1, d2, d3, e1, e2, ha1', hry', hupd⟩ := RC_path hr' hg
              have hlen1 : a1 = a1' := (List.append_inj e1 (by rw [ha1, ha1'])).1
              subst hlen1
              have e1' := List.append_cancel_left e1
              have hyl' : y'.length = y.length := by rw [RC_len _ hry', RC_len _ hry]
              have hyy : y = y' := (List.append_inj e1' (by rw [hyl'])).1
              subst hyy
              have hzz : z = z' := List.append_cancel_left e1'
              subst hzz
              obtain ⟨t', hset', hrt'⟩ := hupd u x.cells.toList [] (hru.mono hle u (by simp))
              simp only [setOb, hset', Option.some.injEq] at hset
              subst hset
              refine ⟨c.with w', p1 ++ ((i.blk :: (d1 ++ ([] ++ d3))) ++ r1), hrun, hle, ?_⟩
              have hother : ∀ b, b ∈ p1 ∨ b ∈ r1 → w'.heap[b]? = c.w.heap[b]? := fun b hb => hbut.oth b (fun e => by
                subst e
                have hn := h.nd
                rw [List.nodup_append, List.nodup_append] at hn
                rcases hb with hb | hb
                · exact hn.2.2 _ hb _ (by simp) rfl
                · exact hn.2.1.2.2 _ (by simp) _ hb rfl)
              have hsub : ∀ b ∈ i.blk :: (d1 ++ ([] ++ d3)), b ∈ i.blk :: (b1 ++ (b2 ++ b3)) := fun b hb => by
                rw [e2]; simp only [List.mem_cons, List.mem_append, List.not_mem_nil, false_or] at hb ⊢
                rcases hb with hb | hb | hb
                · exact .inl hb
                · exact .inr (.inl hb)
                · exact .inr (.inr (.inr hb))
              refine InvH.write (q := i.blk :: (b1 ++ (b2 ++ b3))) h (by simp) hbut hsub ?_ ?_
              · rw [e2] at hnd
                refine List.Nodup.sublist ?_ hnd
                refine List.Sublist.cons_cons _ (List.Sublist.append (List.Sublist.refl _) ?_)
                simp
              · refine hput (c.with w') (.var t') (i.blk :: (d1 ++ ([] ++ d3))) hle (fun b hb => hother b (.inl hb)) (fun b hb => hother b (.inr hb)) ?_
                have hlx : x.cells.toList.length = y.length := by rw [hul, hyl]
                refine ⟨i, hi, a1 ++ (x.cells.toList ++ z), d1 ++ ([] ++ d3), spl arr (i.off + o) x.cells.toList, rfl, hrt', hw1, by rw [spl_size, hsize], by rw [spl_size]; exact hfree, ?_, ?_, ?_⟩
                · rw [spl_size]; simp only [List.length_append, hlx]; omega
                · have hcs : CellsAt c.w ⟨i.blk, i.off, none⟩ (a1 ++ (y ++ z)) := ⟨arr, i.ty, i.fr, hh, hin⟩
                  have := hcs.splice (w' := w') hh hlx (by simp only at *; omega) (by rw [ha1, hof]; exact hw1)
                  obtain ⟨arr', ty', fr', hh', hc'⟩ := this
                  simp only at hh'
                  rw [hw1] at hh'; cases hh'
                  exact hc'
                · intro k hk
                  rw [spl_out _ _ _ _ (by simp only [List.length_append, hlx] at hk; rw [hlx]; omega)]
                  exact hout k (by simp only [List.length_append, hlx] at hk ⊢; exact hk)
          | arr es l fz =>
            cases fz with
            | true => simp [setOb] at hset
            | false =>
              cases p with
              | nil => simp [setOb] at hset
              | cons k p =>
                simp only [subM] at hs
                cases hl : l[k]? with
                | none => simp [hl, RM.run] at hs
                | some tk =>
                  simp only [hl] at hs
                  cases hg : tk.get p with
                  | none => simp [hg, RM.run] at hs
                  | some u' =>
                    simp only [hg] at hs
                    split at hs
                    case isFalse => simp [RM.run] at hs
                    rename_i hof
                    simp [RM.run] at hs; subst hs
                    obtain ⟨i', hi', hes, hpos, hlen, hr⟩ := ho
                    rw [hi] at hi'; cases hi'
                    have hne : 0 < l.length := by
                      rcases Nat.lt_or_ge k l.length with h' | h'
                      · omega
                      · simp [List.getElem?_eq_none h'] at hl
                    rcases hr with ⟨h0, _⟩ | ⟨rows, bs', rfl, hr, hc, hown⟩
                    · omega
                    · obtain ⟨arr, tyb, fr, hh, hin⟩ := hc
                      obtain ⟨_, hp0, arr', tyb', fr', hh', hcap, hfree⟩ := hown
                      simp only [Info.addr] at hh hh' hcap hin
                      rw [hh] at hh'; cases hh'
                      have hrl := RRows_len _ hr
                      obtain ⟨ax, ay, az, bp, bq, br, rfl, rfl, hax, hay, hrk, _⟩ := RRows_split hr hl
                      obtain ⟨a1, y, z, b1, b2, b3, rfl, rfl, ha1, hry, _⟩ := RC_path hrk hg
                      have hyl : y.length = u.size := by rw [RC_len _ hry, hold]
                      have hbound : i.off + (ax.length + (a1.length + (y.length + z.length)) + az.length) ≤ arr.size := by
                        simp only [List.length_append] at hrl
                        have : l.length * es ≤ i.cap * es := Nat.mul_le_mul_right _ hlen
                        omega
                      have hoff : i.off + o = i.off + ax.length + a1.length := by rw [hax, ha1, ← hof]; omega
                      obtain ⟨w', hrun, hw1, hbut⟩ := run_storeVar hY (o := i.off + o) (v := x) hty hh hfree hul' (by rw [hul', ← hsz, hoff]; omega) hone
                      have hmem : i.blk ∈ p1 ++ (i.blk :: (bp ++ (b1 ++ (b2 ++ b3) ++ br)) ++ r1) := by simp
                      have hle := Le_but h hmem hbut
                      have hnot : ∀ b ∈ bp ++ (b1 ++ (b2 ++ b3) ++ br), b ≠ i.blk := fun b hb e => by
                        subst e; exact (List.nodup_cons.1 hnd).1 hb
                      have hr' := hr.mono hle es l (fun b hb => hbut.oth b (hnot b hb))
                      obtain ⟨ax', ay', az', bp', bq', br', e1, e2, hax', hay', hrk', hupdr⟩ := RRows_split hr' hl
                      have hx1 : ax = ax' := (List.append_inj e1 (by rw [hax, hax'])).1
                      subst hx1
                      have e1 := List.append_cancel_left e1
                      have hx2 : a1 ++ (y ++ z) = ay' := (List.append_inj e1 (by rw [hay', hay])).1
                      subst hx2
                      have hx3 : az = az' := List.append_cancel_left e1
                      subst hx3
                      obtain ⟨a1', y', z', d1, d2, d3, e1, e3, ha1', hry', hupd⟩ := RC_path hrk' hg
                      have hx4 : a1 = a1' := (List.append_inj e1 (by rw [ha1, ha1'])).1
                      subst hx4
                      have e1 := List.append_cancel_left e1
                      have hx5 : y = y' := (List.append_inj e1 (by rw [RC_len _ hry', RC_len _ hry])).1
                      subst hx5
                      have hx6 : z = z' := List.append_cancel_left e1
                      subst hx6
                      subst e3
                      obtain ⟨t', hset', hrt'⟩ := hupd u x.cells.toList [] (hru.mono hle u (by simp))
                      simp only [setOb, hl, hset', Option.some.injEq] at hset
                      subst hset
                      have hlx : x.cells.toList.length = y.length := by rw [hul, hyl]
                      have hnew := hupdr t' _ _ (by simp only [List.length_append, hlx]; simpa using hay) hrt'
                      refine ⟨c.with w', p1 ++ ((i.blk :: (bp' ++ (d1 ++ ([] ++ d3) ++ br'))) ++ r1), hrun, hle, ?_⟩
                      have hother : ∀ b, b ∈ p1 ∨ b ∈ r1 → w'.heap[b]? = c.w.heap[b]? := fun b hb => hbut.oth b (fun e => by
                        subst e
                        have hn := h.nd
                        rw [List.nodup_append, List.nodup_append] at hn
                        rcases hb with hb | hb
                        · exact hn.2.2 _ hb _ (by simp) rfl
                        · exact hn.2.1.2.2 _ (by simp) _ hb rfl)
                      have hsubl : List.Sublist (i.blk :: (bp' ++ (d1 ++ ([] ++ d3) ++ br'))) (i.blk :: (bp ++ (b1 ++ (b2 ++ b3) ++ br))) := by
                        rw [e2]
                        refine List.Sublist.cons_cons _ (List.Sublist.append (List.Sublist.refl _) (List.Sublist.append ?_ (List.Sublist.refl _)))
                        exact List.Sublist.append (List.Sublist.refl _) (by simp)
                      refine InvH.write (q := i.blk :: (bp ++ (b1 ++ (b2 ++ b3) ++ br))) h (by simp) hbut (fun b hb => hsubl.subset hb) (hnd.sublist hsubl) ?_
                      refine hput (c.with w') (.arr es (l.set k t') false) _ hle (fun b hb => hother b (.inl hb)) (fun b hb => hother b (.inr hb)) ?_
                      refine ⟨i, hi, hes, hpos, by simpa using hlen, .inr ⟨_, _, rfl, hnew, ?_, ?_⟩⟩
                      · have hcs : CellsAt c.w ⟨i.blk, i.off, none⟩ ((ax ++ a1) ++ (y ++ (z ++ az))) := ⟨arr, tyb, fr, hh, by simpa using hin⟩
                        have := hcs.splice (w' := w') (y' := x.cells.toList) hh hlx (by simp only [List.length_append]; omega)
                          (by rw [show i.off + (ax ++ a1).length = i.off + o by rw [hoff]; simp; omega]; exact hw1)
                        show CellsAt w' _ _
                        simpa [Info.addr] using this
                      · exact ⟨rfl, hp0, _, _, _, hw1, by rw [spl_size]; exact hcap, by rw [spl_size]; exact hfree⟩
  | _ => simp [storeM, RM.run] at hm
end

end Go.Vm

namespace Go.Vm

theorem RM.run_ofOpt {α : Type} (H : Heap) (o : Option α) : (RM.ofOpt o).run H = o := by cases o <;> rfl

section
variable {P : Program} {Y : TypeId → TyI} (hY : TysOk P Y)

def DoneP (F : Fr) (c : Cx) (H : Heap) (out : Out) (r : Result Value) : Prop := out.ups = [] ∧ out.news = [] ∧ Done F c H out.v r

include hY in
theorem fieldAddr_ok {F : Fr} {c : Cx} {H : Heap} {bs : List Nat} {st f : Nat} {t : T} {v : Value} {out : Out} (h : InvH F c H bs) (hv : RV c t v) (hty : 0 < (Y st).cells)
    (hf : ∀ fs x, (Y st).k = .st fs → fs[f]? = some x → 0 < (Y x.1).cells)
    (hm : (fieldAddrM Y st f t).run H = some out) : DoneP F c H out ((Instr.fieldAt st v f).run P c.w) := by
  obtain ⟨d, hd, htm, _⟩ := (hY st hty).run_under c.w
  have key : ∀ fs off ty, (Y st).k = .st fs → fs[f]? = some (ty, off) → ∀ a : Addr, a.spot = none →
      (Instr.fieldAt st (.pointer (some a)) f).run P c.w = .ok (.pointer (some ⟨a.block, a.off + off, none⟩)) c.w := by
    intro fs off ty hk hfs a ha
    rw [hk] at htm
    obtain ⟨fields, rfl, hmap⟩ := htm
    have hsz := hf fs (ty, off) hk hfs
    rw [← hmap, List.getElem?_map] at hfs
    cases hfd : fields[f]? with
    | none => simp [hfd] at hfs
    | some fd =>
      simp only [Array.getElem?_toList, hfd, Option.map_some, Option.some.injEq, Prod.mk.injEq] at hfs
      obtain ⟨h1, h2⟩ := hfs
      simp only [Instr.fieldAt, Sem.run_bind, hd, Result.andThen, hfd, Instr.sureAddr, Sem.run_pure, fieldPlace]
      rw [h1, (hY ty hsz).run_size c.w]
      simp only [Nat.ne_of_gt hsz, if_false, Sem.run_pure, h2, Addr_add' _ _ ha]
  cases t with
  | ptr e j p o =>
    obtain ⟨i, hi, rfl⟩ := hv
    simp only [fieldAddrM] at hm
    cases hk : (Y st).k <;> simp only [hk] at hm <;> try (simp [RM.run] at hm; done)
    rename_i fs
    cases hfs : fs[f]? with
    | none => simp [hfs, RM.run] at hm
    | some x =>
      obtain ⟨ty, off⟩ := x
      simp [hfs, RM.run] at hm; subst hm
      refine ⟨rfl, rfl, ?_⟩
      rw [key fs off ty hk hfs _ rfl]
      exact Done.same h ⟨i, hi, by simp [Nat.add_assoc]⟩
  | fp u =>
    cases u with
    | nd l =>
      obtain ⟨a, row, rfl, ha, hr, hc, hz⟩ := hv
      simp only [fieldAddrM] at hm
      cases hk : (Y st).k <;> simp only [hk] at hm <;> try (simp [RM.run] at hm; done)
      rename_i fs
      cases hfs : fs[f]? with
      | none => simp [hfs, RM.run] at hm
      | some x =>
        obtain ⟨ty, off⟩ := x
        simp only [hfs] at hm
        cases hl : l[f]? with
        | none => simp [hl, RM.run] at hm
        | some t =>
          simp only [hl] at hm
          split at hm
          case isFalse => simp [RM.run] at hm
          rename_i hoff
          simp [RM.run] at hm; subst hm
          refine ⟨rfl, rfl, ?_⟩
          rw [key fs off ty hk hfs _ ha]
          simp only [RC] at hr
          obtain ⟨x, y, z, b1, b2, b3, rfl, hb, hx, hry, _⟩ := RCL_split hr hl
          have : b2 = [] := by simp at hb; exact hb.2.1
          subst this
          obtain ⟨ab, ao, as⟩ := a
          simp only at ha; subst ha
          exact Done.same h ⟨_, y, rfl, rfl, hry, by have := hc.part; rwa [hx, hoff] at this, hz⟩
    | _ => simp [fieldAddrM, RM.run] at hm
  | _ => simp [fieldAddrM, RM.run] at hm

include hY in
theorem len_ok {F : Fr} {c : Cx} {H : Heap} {bs : List Nat} {ty res : TypeId} {t r : T} {v : Value} (h : InvH F c H bs) (hv : RV c t v) (hty : 0 < (Y ty).cells)
    (hm : lenT (Y ty).k t = some r) : Done F c H r ((Builtin.len_ #[ty] res #[v]).run P c.w) := by
  obtain ⟨d, hd, htm, _⟩ := (hY ty hty).run_under c.w
  simp only [Builtin.len_, List.getElem?_toArray, List.getElem?_cons_zero, Sem.run_bind, hd, Result.andThen]
  cases t with
  | str s =>
    simp only [RV] at hv; subst hv
    simp only [lenT] at hm
    cases hk : (Y ty).k <;> simp only [hk] at hm htm <;> first | (cases hm; done) | skip
    simp only [Option.some.injEq] at hm; subst hm
    simp only [TyM] at htm; subst htm
    exact Done.same h rfl
  | sl g l =>
    obtain ⟨A, k, rfl, _⟩ := hv
    simp only [lenT] at hm
    cases hk : (Y ty).k <;> simp only [hk] at hm htm <;> first | (cases hm; done) | skip
    simp only [Option.some.injEq] at hm; subst hm
    simp only [TyM] at htm; subst htm
    exact Done.same h rfl
  | nils =>
    obtain ⟨A, rfl⟩ := hv
    simp only [lenT] at hm
    cases hk : (Y ty).k <;> simp only [hk] at hm htm <;> first | (cases hm; done) | skip
    simp only [Option.some.injEq] at hm; subst hm
    simp only [TyM] at htm; subst htm
    exact Done.same h rfl
  | ref e j off len =>
    obtain ⟨A, k, i, rfl, _⟩ := hv
    simp only [lenT] at hm
    cases hk : (Y ty).k <;> simp only [hk] at hm htm <;> first | (cases hm; done) | skip
    simp only [Option.some.injEq] at hm; subst hm
    simp only [TyM] at htm; subst htm
    exact Done.same h rfl
  | vr e j p o es off len =>
    obtain ⟨k, i, _, rfl, _⟩ := hv
    simp only [lenT] at hm
    cases hk : (Y ty).k <;> simp only [hk] at hm htm <;> first | (cases hm; done) | skip
    simp only [Option.some.injEq] at hm; subst hm
    simp only [TyM] at htm; subst htm
    exact Done.same h rfl
  | _ => simp [lenT] at hm

/-- an element of a slice that is not one's own -/
theorem sl_elem {c : Cx} {g : Tag} {l : List T} {A : Option Addr} {n : Nat} {t : T} (hr : l = [] ∨ ∃ a es rows, A = some a ∧ a.spot = none ∧ 0 < es ∧ RRows c es l rows [] ∧ CellsAt c.w a rows ∧ c.zz g a.block)
    (hl : l[n]? = some t) : ∃ a es y, A = some a ∧ a.spot = none ∧ 0 < es ∧ (∀ u ∈ l, u.size = es) ∧ y.length = es ∧ RC c t y [] ∧ CellsAt c.w ⟨a.block, a.off + n * es, none⟩ y ∧ c.zz g a.block := by
  rcases hr with rfl | ⟨a, es, rows, rfl, ha, hes, hr, hc, hz⟩
  · simp at hl
  · have hall : ∀ u ∈ l, u.size = es := by
      clear hl hc
      induction l generalizing rows with
      | nil => simp
      | cons u l ih =>
        obtain ⟨c1, c2, b1, b2, rfl, hb, h0, h1, h2⟩ := hr
        have hb' : b2 = [] := by simp at hb; exact hb.2
        subst hb'
        intro x hx
        rcases List.mem_cons.1 hx with rfl | hx
        · rw [← RC_len _ h1, h0]
        · exact ih _ h2 x hx
    obtain ⟨x, y, z, p, q, r, rfl, hb, hx, hy, hry, _⟩ := RRows_split hr hl
    have : q = [] := by simp at hb; exact hb.2.1
    subst this
    obtain ⟨ab, ao, as⟩ := a
    simp only at ha; subst ha
    exact ⟨_, es, y, rfl, rfl, hes, hall, hy, hry, by have := hc.part; rwa [hx] at this, hz⟩

theorem zz_Z {F : Fr} {c : Cx} {H : Heap} {bs : List Nat} (h : InvH F c H bs) {g : Tag} {b : Nat} (hz : c.zz g b) : c.Z b := by
  cases g
  · exact hz
  · exact h.zz b hz
  · exact hz.2

include hY in
theorem indexAddr_ok {F : Fr} {c : Cx} {H : Heap} {bs : List Nat} {ty : TypeId} {t u : T} {v x : Value} {out : Out} (h : InvH F c H bs) (hv : RV c t v) (hx : RV c u x) (hty : 0 < (Y ty).cells)
    (hel : ∀ e, (Y ty).k = .sl e ∨ (∃ n, (Y ty).k = .ar n e) → 0 < (Y e).cells)
    (hm : (indexAddrM Y ty t u).run H = some out) : DoneP F c H out ((Instr.indexAt ty v x).run P c.w) := by
  obtain ⟨d, hd, htm, _⟩ := (hY ty hty).run_under c.w
  unfold indexAddrM at hm
  split at hm
  · rename_i el g l k n hk
    have hel' := hel el (.inl hk)
    split at hm
    case isFalse => simp [RM.run] at hm
    rename_i hn
    cases hl : l[n.toNat]? with
    | none => simp [hl, RM.run] at hm
    | some tt =>
      simp only [hl] at hm
      split at hm
      case isFalse => simp [RM.run] at hm
      rename_i hsz
      simp [RM.run] at hm; subst hm
      obtain ⟨A, kk, rfl, hlk, hr⟩ := hv
      simp only [RV] at hx; subst hx
      obtain ⟨a, es, y, rfl, ha, hes, hall, hy, hry, hc, hz⟩ := sl_elem hr hl
      have hlt : n.toNat < l.length := (List.getElem?_eq_some_iff.1 hl).1
      have hes' : es = (Y el).cells := by
        rw [← hsz, ← RC_len _ hry, hy]
      rw [hk] at htm; simp only [TyM] at htm; subst htm
      refine ⟨rfl, rfl, ?_⟩
      simp only [Instr.indexAt, asIntOf, Sem.run_bind, Sem.run_pure, Result.andThen, hd]
      rw [if_pos ⟨hn, by omega⟩]
      simp only [Sem.run_bind, (hY el hel').run_size c.w, Result.andThen, Sem.run_pure]
      rw [Addr_add' _ _ ha, ← hes']
      exact Done.same h ⟨_, y, rfl, rfl, hry, hc, zz_Z h hz⟩
  · rename_i el e j off len k n hk
    have hel' := hel el (.inl hk)
    split at hm
    case isFalse => simp [RM.run] at hm
    rename_i hn
    obtain ⟨hn, hlt⟩ := hn
    simp only [RM.run] at hm
    cases ha : H.at e j with
    | none => simp [ha] at hm
    | some ob =>
      simp only [ha] at hm
      cases ob with
      | arr es l fz =>
        simp only at hm
        split at hm
        case isFalse => simp [RM.run] at hm
        rename_i hes
        simp [RM.run] at hm; subst hm
        obtain ⟨A, kk, i, rfl, hlk, hi, hcap, hA⟩ := hv
        simp only [RV] at hx; subst hx
        have hies : i.es = es := by
          obtain ⟨_, q, _, _, ho, _⟩ := h.hp.at ha
          cases fz with
          | false => obtain ⟨i', hi', hr⟩ := ho; rw [hi] at hi'; cases hi'; exact hr.1
          | true => obtain ⟨i', hi', hr⟩ := ho; rw [hi] at hi'; cases hi'; exact hr.2.1
        have hA : A = some ⟨i.blk, i.off + off * i.es, none⟩ := by
          rcases hA with h0 | hA
          · omega
          · exact hA
        subst hA
        rw [hk] at htm; simp only [TyM] at htm; subst htm
        refine ⟨rfl, rfl, ?_⟩
        simp only [Instr.indexAt, asIntOf, Sem.run_bind, Sem.run_pure, Result.andThen, hd]
        rw [if_pos ⟨hn, hlt⟩]
        simp only [Sem.run_bind, (hY el hel').run_size c.w, Result.andThen, Sem.run_pure, Addr_add, ← hes]
        refine Done.same h ⟨i, hi, ?_⟩
        rw [hies, Nat.add_mul]
        simp [Nat.add_assoc]
      | var _ => simp [RM.run] at hm
      | gone => simp [RM.run] at hm
  · rename_i el e j p o es off len k n hk
    have hel' := hel el (.inl hk)
    split at hm
    case isFalse => simp [RM.run] at hm
    rename_i hn
    obtain ⟨hn, hlt, hes⟩ := hn
    simp [RM.run] at hm; subst hm
    obtain ⟨kk, i, hi, rfl, hlk⟩ := hv
    simp only [RV] at hx; subst hx
    rw [hk] at htm; simp only [TyM] at htm; subst htm
    refine ⟨rfl, rfl, ?_⟩
    simp only [Instr.indexAt, asIntOf, Sem.run_bind, Sem.run_pure, Result.andThen, hd]
    rw [if_pos ⟨hn, hlt⟩]
    simp only [Sem.run_bind, (hY el hel').run_size c.w, Result.andThen, Sem.run_pure, Addr_add, ← hes]
    refine Done.same h ⟨i, hi, ?_⟩
    rw [Nat.add_mul]
    simp [Nat.add_assoc]
  · rename_i m el e j p o k n hk
    have hel' := hel el (.inr ⟨m, hk⟩)
    split at hm
    case isFalse => simp [RM.run] at hm
    rename_i hn
    obtain ⟨hn, hlt⟩ := hn
    simp [RM.run] at hm; subst hm
    obtain ⟨i, hi, rfl⟩ := hv
    simp only [RV] at hx; subst hx
    rw [hk] at htm; simp only [TyM] at htm; subst htm
    refine ⟨rfl, rfl, ?_⟩
    simp only [Instr.indexAt, asIntOf, Instr.sureAddr, Sem.run_bind, Sem.run_pure, Result.andThen, hd]
    rw [if_pos ⟨hn, hlt⟩]
    simp only [Sem.run_bind, (hY el hel').run_size c.w, Result.andThen, Sem.run_pure, Addr_add]
    exact Done.same h ⟨i, hi, by simp [Nat.add_assoc]⟩
  · rename_i m el l k n hk
    have hel' := hel el (.inr ⟨m, hk⟩)
    split at hm
    case isFalse => simp [RM.run] at hm
    rename_i hn
    obtain ⟨hn, hlt, hof⟩ := hn
    cases hl : l[n.toNat]? with
    | none => simp [hl, RM.run] at hm
    | some tt =>
      simp [hl, RM.run] at hm; subst hm
      obtain ⟨a, row, rfl, ha, hr, hc, hz⟩ := hv
      simp only [RV] at hx; subst hx
      rw [hk] at htm; simp only [TyM] at htm; subst htm
      refine ⟨rfl, rfl, ?_⟩
      simp only [Instr.indexAt, asIntOf, Instr.sureAddr, Sem.run_bind, Sem.run_pure, Result.andThen, hd]
      rw [if_pos ⟨hn, hlt⟩]
      simp only [Sem.run_bind, (hY el hel').run_size c.w, Result.andThen, Sem.run_pure]
      rw [Addr_add' _ _ ha]
      simp only [RC] at hr
      obtain ⟨x, y, z, b1, b2, b3, rfl, hb, hx, hry, _⟩ := RCL_split hr hl
      have : b2 = [] := by simp at hb; exact hb.2.1
      subst this
      obtain ⟨ab, ao, as⟩ := a
      simp only at ha; subst ha
      exact Done.same h ⟨_, y, rfl, rfl, hry, by have := hc.part; rwa [hx, hof] at this, hz⟩
  · simp [RM.run] at hm
end
end Go.Vm

namespace Go.Vm

section
variable {P : Program} {Y : TypeId → TyI} (hY : TysOk P Y)

theorem run_ite_both {α : Type} {b : Prop} [Decidable b] {x y : Sem α} {w : World} {r : Result α} (h1 : x.run P w = r) (h2 : y.run P w = r) : (if b then x else y).run P w = r := by split <;> assumption

theorem run_eqGuard_int {op : BinOp} {t : TypeId} {x y : Operand} {a b : Value} {w : World} (h1 : ¬ (a = .nilIface ∧ b = .nilIface)) (h2 : ∀ cs ds, ¬ (a = .agg cs ∧ b = .agg ds)) :
    (eqGuard op t x y a b).run P w = .ok () w := by
  unfold eqGuard
  refine run_ite_both rfl ?_
  · cases a <;> cases b <;> first | rfl | (exfalso; simp at h1; done) | (rename_i cs ds; exact absurd ⟨rfl, rfl⟩ (h2 cs ds))

theorem bin_ok {F : Fr} {c : Cx} {H : Heap} {bs : List Nat} {op : BinOp} {ty : TypeId} {t u r : T} {v x : Value} (h : InvH F c H bs) (hv : RV c t v) (hx : RV c u x)
    (hm : binT op t u = some r) : Done F c H r ((binOp op ty v x).run P c.w) ∧ ¬ (v = .nilIface ∧ x = .nilIface) ∧ ∀ cs ds, ¬ (v = .agg cs ∧ x = .agg ds) := by
  cases t with
  | int k a =>
    cases u with
    | int k' b =>
      simp only [RV] at hv hx; subst hv; subst hx
      refine ⟨?_, by simp, by simp⟩
      simp only [binT] at hm
      cases op <;> simp only at hm <;> split at hm <;> first | (cases hm; done) | skip
      all_goals
        rename_i hc
        simp only [Option.some.injEq] at hm; subst hm
        first
          | (subst hc
             simp only [binOp, ne_eq, not_true_eq_false, if_false, Op.intArith, Op.intBits, Op.intCmp]
             exact Done.same h rfl)
          | (obtain ⟨rfl, hc⟩ := hc
             simp only [binOp, ne_eq, not_true_eq_false, if_false, Op.intDiv, hc]
             exact Done.same h rfl)
          | (simp only [binOp, Op.shift, if_neg hc]; exact Done.same h rfl)
    | _ => simp [binT] at hm
  | str a =>
    cases u with
    | str b =>
      simp only [RV] at hv hx; subst hv; subst hx
      refine ⟨?_, by simp, by simp⟩
      simp only [binT] at hm
      cases op <;> simp only at hm <;> first | (cases hm; done) | skip
      · split at hm
        case isFalse => cases hm
        rename_i hc
        simp only [Option.some.injEq] at hm; subst hm
        have : ¬ (((a.size + b.size : Nat) : Int) > IntKind.i64.max) := by
          have : IntKind.i64.max = 9223372036854775807 := by rfl
          rw [this]; omega
        simp only [binOp, Op.stringOp, if_neg this]
        exact Done.same h rfl
      · simp only [Option.some.injEq] at hm; subst hm
        exact Done.same h rfl
      · simp only [Option.some.injEq] at hm; subst hm
        exact Done.same h rfl
    | _ => simp [binT] at hm
  | _ => simp [binT] at hm

theorem un_ok {F : Fr} {c : Cx} {H : Heap} {bs : List Nat} {op : UnOp} {t r : T} {v : Value} (h : InvH F c H bs) (hv : RV c t v)
    (hm : unT op t = some r) : Done F c H r ((Op.unary op v).run P c.w) := by
  cases t with
  | bool b =>
    simp only [RV] at hv; subst hv
    cases op <;> simp [unT] at hm
    subst hm
    exact Done.same h rfl
  | int k n =>
    simp only [RV] at hv; subst hv
    cases op <;> simp [unT] at hm
    subst hm
    simp only [Op.unary, Op.intArith]
    refine Done.same h ?_
    simp [RV]
  | _ => simp [unT] at hm

theorem equal_succ (t : TypeId) (x y : Value) : Op.equal t x y = Op.equalIn (9999 + 1) t x y := rfl
theorem run_equal_bool {t : TypeId} {w : World} {a b : Bool} (hd : (underlying t).run P w = .ok .bool w) : (Op.equal t (.bool a) (.bool b)).run P w = .ok (a == b) w := by
  rw [equal_succ, Op.equalIn]
  simp only [Sem.run_bind, hd, Result.andThen]
  rfl
theorem run_equal_err {t : TypeId} {w : World} {ms : Array (String × TypeId)} {tt : TypeId} {vv : Value} (hd : (underlying t).run P w = .ok (.interface ms) w) : (Op.equal t (.iface tt vv) .nilIface).run P w = .ok false w := by
  rw [equal_succ, Op.equalIn]
  simp only [Sem.run_bind, hd, Result.andThen]
  rfl
theorem run_equal_nil {t : TypeId} {w : World} {ms : Array (String × TypeId)} (hd : (underlying t).run P w = .ok (.interface ms) w) : (Op.equal t .nilIface .nilIface).run P w = .ok true w := by
  rw [equal_succ, Op.equalIn]
  simp only [Sem.run_bind, hd, Result.andThen]
  rfl

include hY in
theorem binTy_ok {F : Fr} {c : Cx} {H : Heap} {bs : List Nat} {op : BinOp} {ty : TypeId} {t u r : T} {v x : Value} {ox oy : Operand} (h : InvH F c H bs) (hv : RV c t v) (hx : RV c u x)
    (hty : 0 < (Y ty).cells) (hnil : t = .nilI → u = .nilI → ∃ k, oy = .const k) (hm : binTy Y op ty t u = some r) :
    Done F c H r ((do eqGuard op ty ox oy v x; binOp op ty v x).run P c.w) := by
  obtain ⟨d, hd, htm, _⟩ := (hY ty hty).run_under c.w
  have gen : binT op t u = some r → Done F c H r ((do eqGuard op ty ox oy v x; binOp op ty v x).run P c.w) := fun hm => by
    obtain ⟨h1, h2, h3⟩ := bin_ok (P := P) (ty := ty) h hv hx hm
    simp only [Sem.run_bind, run_eqGuard_int h2 h3, Result.andThen]
    exact h1
  unfold binTy at hm
  split at hm
  · rename_i a b hk
    simp only [RV] at hv hx; subst hv; subst hx
    rw [hk] at htm; simp only [TyM] at htm; subst htm
    cases op <;> simp only at hm <;> first | (cases hm; done) | skip
    all_goals
      simp only [Option.some.injEq] at hm; subst hm
      simp only [Sem.run_bind, run_eqGuard_int (P := P) (w := c.w) (a := .bool a) (b := .bool b) (by simp) (by simp), Result.andThen, binOp, run_equal_bool hd, Sem.run_pure]
      exact Done.same h rfl
  · rename_i hk
    simp only [RV] at hx; subst hx
    obtain ⟨tt, vv, rfl⟩ := hv
    rw [hk] at htm; obtain ⟨ms, rfl⟩ := htm
    cases op <;> simp only at hm <;> first | (cases hm; done) | skip
    all_goals
      simp only [Option.some.injEq] at hm; subst hm
      simp only [Sem.run_bind, run_eqGuard_int (P := P) (w := c.w) (a := .iface tt vv) (b := .nilIface) (by simp) (by simp), Result.andThen, binOp, run_equal_err hd, Sem.run_pure]
      exact Done.same h rfl
  · rename_i hk
    simp only [RV] at hv hx; subst hv; subst hx
    rw [hk] at htm; obtain ⟨ms, rfl⟩ := htm
    obtain ⟨kv, rfl⟩ := hnil rfl rfl
    have hg : (eqGuard op ty ox (.const kv) .nilIface .nilIface).run P c.w = .ok () c.w := by
      unfold eqGuard
      cases op <;> first | rfl | (cases ox <;> rfl)
    cases op <;> simp only at hm <;> first | (cases hm; done) | skip
    all_goals
      simp only [Option.some.injEq] at hm; subst hm
      simp only [Sem.run_bind, hg, Result.andThen, binOp, run_equal_nil hd, Sem.run_pure]
      exact Done.same h rfl
  · exact gen hm
end
end Go.Vm

namespace Go.Vm

theorem run_newRow {P : Program} (elem : TypeId) (cells : Array Value) (w : World) :
    (newRow elem cells).run P w = .ok ⟨w.heap.size, 0, none⟩ (w.alloc (.cells cells elem)) := rfl

theorem alloc_old {w : World} {o : Obj} (k : Nat) (h : k < w.heap.size) : (w.alloc o).heap[k]? = w.heap[k]? := heap_alloc_old w o k h

/-- a new variable -/
theorem newVar_ok {P : Program} {F : Fr} {c : Cx} {H : Heap} {bs : List Nat} {own : Nat} {elem : TypeId} {t : T} {cells : Array Value} (h : InvH F c H bs) (hown : H[own]? = some [])
    (hr : ∀ c' : Cx, c.Le c' → RC c' t cells.toList []) :
    Done F c (H.set own [.var t]) (.ptr own 0 [] 0) ((do pure (.pointer (some (← newRow elem cells))) : Sem Value).run P c.w) := by
  simp only [Sem.run_bind, run_newRow, Result.andThen, Sem.run_pure]
  let i : Info := { blk := c.w.heap.size, off := 0, es := 0, cap := 0, arr0 := cells, ty := elem, fr := (0, 0) }
  have hold : ∀ k, k < c.w.heap.size → (c.w.alloc (.cells cells elem)).heap[k]? = c.w.heap[k]? := fun k hk => alloc_old k hk
  have hnew : (c.w.alloc (.cells cells elem)).heap[c.w.heap.size]? = some (.cells cells elem (0, 0)) := heap_alloc_new _ _
  have hle := Le_new (i := i) h hown hold
  obtain ⟨bs', hinv⟩ := InvH.new (i := i) (ob := .var t) (q := [c.w.heap.size]) h hown (by simp) hold (.alloc _ _ _) (.inr rfl) (by
    refine ⟨i, by simp [Cx.newAt], cells.toList, [], cells, rfl, hr _ hle, hnew, rfl, ?_, by simp [i], ?_, ?_⟩
    · exact ⟨Nat.le_refl _, fun k _ hk => by simp only [i] at hk; omega⟩
    · intro j v hv; simpa [i] using hv
    · intro j hj; rfl)
  exact ⟨_, c.newAt _ own i, bs', rfl, hle, hinv, ⟨i, by simp [Cx.newAt], rfl⟩⟩

/-- a new array -/
theorem newArr_ok {P : Program} {F : Fr} {c : Cx} {H : Heap} {bs : List Nat} {own es n : Nat} {elem : TypeId} {l : List T} {cells : Array Value} (h : InvH F c H bs) (hown : H[own]? = some [])
    (hes : 0 < es) (hn : l.length = n) (hr : ∀ c' : Cx, c.Le c' → RRows c' es l cells.toList []) :
    Done F c (H.set own [.arr es l false]) (.ref own 0 0 n) ((do pure (.slice (some (← newRow elem cells)) n n) : Sem Value).run P c.w) := by
  simp only [Sem.run_bind, run_newRow, Result.andThen, Sem.run_pure]
  let i : Info := { blk := c.w.heap.size, off := 0, es := es, cap := n, arr0 := cells, ty := elem, fr := (0, 0) }
  have hold : ∀ k, k < c.w.heap.size → (c.w.alloc (.cells cells elem)).heap[k]? = c.w.heap[k]? := fun k hk => alloc_old k hk
  have hnew : (c.w.alloc (.cells cells elem)).heap[c.w.heap.size]? = some (.cells cells elem (0, 0)) := heap_alloc_new _ _
  have hle := Le_new (i := i) h hown hold
  have hlen : cells.size = n * es := by have := RRows_len _ (hr c (.refl c)); simpa [hn] using this
  obtain ⟨bs', hinv⟩ := InvH.new (i := i) (ob := .arr es l false) (q := [c.w.heap.size]) h hown (by simp) hold (.alloc _ _ _) (.inr rfl) (by
    refine ⟨i, by simp [Cx.newAt], rfl, .inr hes, by simp [i, hn], .inr ⟨cells.toList, [], rfl, hr _ hle, ?_, ?_⟩⟩
    · exact ⟨cells, elem, (0, 0), hnew, fun j v hv => by simpa [i, Info.addr] using hv⟩
    · exact ⟨rfl, hes, cells, elem, (0, 0), hnew, by simp [i, Info.addr, hlen], ⟨Nat.le_refl _, fun k _ hk => by simp only at hk; omega⟩⟩)
  exact ⟨_, c.newAt _ own i, bs', rfl, hle, hinv, ⟨_, n, i, rfl, Nat.le_refl _, by simp [Cx.newAt], by simp [i], .inr (by simp [i])⟩⟩

section
variable {P : Program} {Y : TypeId → TyI} (hY : TysOk P Y)

theorem box_ok {F : Fr} {c : Cx} {H : Heap} {bs : List Nat} {own : Nat} {elem : TypeId} {t : T} {v : Value} {out : Out} (h : InvH F c H bs) (hv : RV c t v) (hown : H[own]? = some [])
    (hm : (boxM own t).run H = some out) : out.ups = [] ∧ Done F c (H.set own out.news) out.v ((Instr.box elem v).run P c.w) := by
  unfold boxM at hm
  split at hm
  case isFalse => simp [RM.run] at hm
  rename_i hc
  simp [RM.run] at hm; subst hm
  exact ⟨rfl, newVar_ok h hown (fun c' hle => (hv.cells hc).mono hle t (by simp))⟩

include hY in
theorem zero_rc {t : TypeId} (ht : 0 < (Y t).cells) (hf : (Y t).k.isFn = false) : ∃ z, (∀ w, (zeroValue t).run P w = .ok z w) ∧ (∀ c, RC c (zeroT Y 9 t) z.cells.toList []) ∧ z.cells.size = (Y t).cells := by
  have hok := hY t ht
  rcases hok.zo with hk | ⟨i, z, hi, hz, hc, hl, hs⟩
  · rw [hk] at hf; simp [Ty.isFn] at hf
  · have hrc : ∀ c, RC c (zeroT Y 9 t) z.cells.toList [] := fun c => by rw [hc]; exact RC_zero c _ hl
    refine ⟨z, fun w => by simp [zeroValue, typeInfo, hi, hz], hrc, ?_⟩
    have := RC_len _ (hrc ⟨default, fun _ => False, fun _ => False, fun _ _ => none, fun _ _ => False⟩)
    simpa [hs] using this

include hY in
theorem alloc_ok {F : Fr} {c : Cx} {H : Heap} {bs : List Nat} {own : Nat} {t : TypeId} {out : Out} (h : InvH F c H bs) (hown : H[own]? = some [])
    (hm : (allocM Y own t).run H = some out) : out.ups = [] ∧ Done F c (H.set own out.news) out.v ((Instr.alloc t true (.tuple #[])).run P c.w) := by
  unfold allocM at hm
  split at hm
  case isFalse => simp [RM.run] at hm
  rename_i hc
  simp [RM.run] at hm; subst hm
  obtain ⟨z, hz, hr, _⟩ := zero_rc hY hc.1 hc.2
  refine ⟨rfl, ?_⟩
  have : (Instr.alloc t true (.tuple #[])).run P c.w = ((do pure (.pointer (some (← newRow t z.cells))) : Sem Value).run P c.w) := by
    simp only [Instr.alloc, Sem.run_bind, hz, Result.andThen_ok, newVar]
  rw [this]
  exact newVar_ok h hown (fun c' hle => hr c')

/-! #### zeros in a row -/
theorem range_rows {c : Cx} {t : T} {z : Array Value} {es : Nat} (hr : RC c t z.toList []) (hz : z.size = es) (hes : 0 < es) : ∀ n : Nat,
    RRows c es (List.replicate n t) ((Array.range (n * es)).map (fun i => z[i % z.size]!)).toList []
  | 0 => by simp [RRows]
  | n + 1 => by
    have ih := range_rows hr hz hes n
    have hone : RRows c es [t] z.toList [] := ⟨z.toList, [], [], [], by simp, rfl, by simpa using hz, hr, ⟨rfl, rfl⟩⟩
    have := RRows_append ih hone
    rw [List.replicate_succ']
    refine cast ?_ this
    congr 1
    simp only [Array.toList_map, Array.toList_range]
    rw [Nat.add_mul, Nat.one_mul, List.range_add, List.map_append, List.map_map]
    congr 1
    apply List.ext_getElem
    · simp [hz]
    · intro k h1 h2
      simp only [Array.length_toList] at h1
      simp only [List.getElem_map, List.getElem_range, Function.comp, Array.getElem_toList]
      have : (n * es + k) % z.size = k := by
        rw [hz, Nat.add_comm, Nat.add_mul_mod_self_right, Nat.mod_eq_of_lt (by omega)]
      rw [this]
      simp [h1]

include hY in
theorem makeSlice_ok {F : Fr} {c : Cx} {H : Heap} {bs : List Nat} {own : Nat} {t : TypeId} {x y : T} {v u : Value} {out : Out} (h : InvH F c H bs) (hv : RV c x v) (hu : RV c y u) (hown : H[own]? = some [])
    (ht : 0 < (Y t).cells) (hm : (makeSliceM Y own t x y).run H = some out) : out.ups = [] ∧ Done F c (H.set own out.news) out.v ((Instr.makeSlice t v u).run P c.w) := by
  obtain ⟨d, hd, htm, _⟩ := (hY t ht).run_under c.w
  unfold makeSliceM at hm
  split at hm
  case h_2 => simp [RM.run] at hm
  rename_i e n m hk
  split at hm
  case isFalse => simp [RM.run] at hm
  rename_i hc
  obtain ⟨rfl, h0, hce, hb, hn, hf⟩ := hc
  simp [RM.run] at hm; subst hm
  simp only [RV] at hv hu; subst hv; subst hu
  rw [hk] at htm; simp only [TyM] at htm; subst htm
  obtain ⟨z, hz, hr, hzs⟩ := zero_rc hY hce hf
  refine ⟨rfl, ?_⟩
  obtain ⟨i, d', hi, _, hsz, hby, _⟩ := (hY e hce).ex
  have hti : (typeInfo e).run P c.w = .ok i c.w := by simp [typeInfo, hi]
  have hw : IntKind.i64.wrap n = n := by
    have : n % (2 ^ 64 : Int) = n := Int.emod_eq_of_lt h0 (by omega)
    simp only [IntKind.wrap, IntKind.bits, IntKind.signed, this, Bool.true_and]
    rw [if_neg (by simp; omega)]
  have hl1 : ¬ (n < 0) := by omega
  have hl2 : ¬ ((Y e).bytes * n > 2 ^ 48) := by omega
  have key : (Instr.makeSlice t (.int .i64 n) (.int .i64 n)).run P c.w = ((do pure (.slice (some (← newRow e ((Array.range (n.toNat * (Y e).cells)).map (z.cells[· % z.cells.size]!)))) n.toNat n.toNat) : Sem Value).run P c.w) := by
    simp only [Instr.makeSlice, asInt, asIntOf, Sem.run_bind, hd, Result.andThen_ok, Sem.run_pure, hti, hby, hw]
    rw [if_neg (by simp; omega)]
    simp only [Sem.run_bind, run_askRoom, Result.andThen_ok, (hY e hce).run_size]
    by_cases hn0 : n.toNat * (Y e).cells = 0
    · have he : Array.range 0 = #[] := rfl
      simp only [hn0, if_true, he, List.map_toArray, List.map_nil]
      rfl
    · simp only [hn0, if_false, Sem.run_bind, hz, Result.andThen_ok, Sem.run_pure]
  rw [key]
  exact newArr_ok h hown hce (by simp) (fun c' hle => range_rows (hr c') hzs hce n.toNat)
end
end Go.Vm

namespace Go.Vm

/-! ### composite literals -/
theorem foldl_spl (vs : List Value) : ∀ (arr : Array Value) (o k : Nat),
    (vs.zipIdx k).foldl (fun cs (x : Value × Nat) => cs.setIfInBounds (o + x.2) x.1) arr = spl arr (o + k) vs := by
  induction vs with
  | nil => intro arr o k; rfl
  | cons v vs ih => intro arr o k; simp only [List.zipIdx_cons, List.foldl_cons, spl]; rw [ih]; rfl

theorem foldl_spl' (v : Array Value) (arr : Array Value) (o : Nat) :
    v.zipIdx.foldl (fun cs (x : Value × Nat) => cs.setIfInBounds (o + x.2) x.1) arr = spl arr o v.toList := by
  rw [← Array.foldl_toList, Array.toList_zipIdx]
  exact foldl_spl v.toList arr o 0

theorem spl_list (arr : Array Value) (x y z y' : List Value) (h : arr.toList = x ++ (y ++ z)) (hl : y'.length = y.length) : (spl arr x.length y').toList = x ++ (y' ++ z) := by
  apply List.ext_getElem?
  intro i
  rw [Array.getElem?_toList]
  have hs : arr.size = x.length + (y.length + z.length) := by rw [← Array.length_toList, h]; simp
  rcases Nat.lt_or_ge i x.length with h1 | h1
  · rw [spl_out _ _ _ _ (by omega), ← Array.getElem?_toList, h, List.getElem?_append_left h1, List.getElem?_append_left h1]
  · rw [List.getElem?_append_right h1]
    rcases Nat.lt_or_ge (i - x.length) y'.length with h2 | h2
    · rw [List.getElem?_append_left h2]
      have := spl_in y' arr x.length (i - x.length) (y'[i - x.length]) (by omega) (List.getElem?_eq_getElem h2)
      rw [show x.length + (i - x.length) = i by omega] at this
      rw [this, List.getElem?_eq_getElem h2]
    · rw [List.getElem?_append_right h2, spl_out _ _ _ _ (by omega), ← Array.getElem?_toList, h, List.getElem?_append_right h1, List.getElem?_append_right (by omega), hl]

theorem RCL_none {c : Cx} : ∀ {l : List T} {cs : List Value} {bs : List Nat}, RCL c l cs bs → cs.length = sizeL l := fun h => RCL_len _ h

/-- RVs of parts, in step -/
def RVP (c : Cx) : List (Nat × T) → List (Nat × Value) → Prop
  | [], vs => vs = []
  | (i, t) :: l, vs => ∃ v vs', vs = (i, v) :: vs' ∧ RV c t v ∧ RVP c l vs'

theorem fill_ok {c : Cx} {pl : Nat → Option (Nat × Nat)} : ∀ (parts : List (Nat × T)) (vs : List (Nat × Value)) (l l' : List T) (cells : Array Value), RVP c parts vs → RCL c l cells.toList [] →
    setAll pl l parts = some l' → ∃ cells', Instr.fill pl cells vs = some cells' ∧ RCL c l' cells'.toList []
  | [], vs, l, l', cells, hp, hr, hs => by
    simp only [RVP] at hp; subst hp
    simp only [setAll, Option.some.injEq] at hs; subst hs
    exact ⟨cells, rfl, hr⟩
  | (i, t) :: parts, vs, l, l', cells, hp, hr, hs => by
    obtain ⟨v, vs', rfl, hv, hp⟩ := hp
    simp only [setAll] at hs
    cases hl : l[i]? with
    | none => simp [hl] at hs
    | some u =>
      cases hpl : pl i with
      | none => simp [hl, hpl] at hs
      | some x =>
        obtain ⟨off, sz⟩ := x
        simp only [hl, hpl] at hs
        split at hs
        case isFalse => cases hs
        rename_i hc
        obtain ⟨hcel, hus, hvs, hoff⟩ := hc
        obtain ⟨x, y, z, p, q, r, hcells, hb, hx, hry, hupd⟩ := RCL_split hr hl
        have hq : p = [] ∧ q = [] ∧ r = [] := by
          have := hb.symm; simp at this; exact this
        obtain ⟨rfl, rfl, rfl⟩ := hq
        have hvr := hv.cells hcel
        have hvl : v.cells.toList.length = y.length := by rw [RC_len _ hvr, RC_len _ hry, hus]
        have hsize : v.cells.size = sz := by have := RC_len _ hvr; rw [Array.length_toList] at this; omega
        have hfit : off + v.cells.size ≤ cells.size := by
          have : cells.size = x.length + (y.length + z.length) := by rw [← Array.length_toList, hcells]; simp
          rw [Array.length_toList] at hvl; omega
        have hnew := hupd t _ [] hvr
        have hspl := spl_list cells x y z v.cells.toList hcells hvl
        obtain ⟨cells', e, hr'⟩ := fill_ok parts vs' (l.set i t) l' (spl cells x.length v.cells.toList) hp (by rw [hspl]; simpa using hnew) hs
        refine ⟨cells', ?_, hr'⟩
        simp only [Instr.fill, hpl]
        rw [if_neg (by simp [hsize]; omega), foldl_spl', ← hoff, ← hx]
        exact e

theorem RCL_rows {c : Cx} {es : Nat} : ∀ {l : List T} {cs : List Value}, RCL c l cs [] → (∀ t ∈ l, t.size = es) → RRows c es l cs []
  | [], _, h, _ => by obtain ⟨rfl, _⟩ := h; exact ⟨rfl, rfl⟩
  | t :: l, _, h, hs => by
    obtain ⟨c1, c2, b1, b2, rfl, hb, h1, h2⟩ := h
    have hb' : b1 = [] ∧ b2 = [] := by have := hb.symm; simpa using this
    obtain ⟨rfl, rfl⟩ := hb'
    exact ⟨c1, c2, [], [], rfl, rfl, by rw [RC_len _ h1]; exact hs t (by simp), h1, RCL_rows h2 (fun t ht => hs t (by simp [ht]))⟩
theorem RRows_cells {c : Cx} {es : Nat} : ∀ {l : List T} {cs : List Value} {bs : List Nat}, RRows c es l cs bs → RCL c l cs bs ∧ ∀ t ∈ l, t.size = es
  | [], _, _, h => ⟨h, by simp⟩
  | t :: l, _, _, h => by
    obtain ⟨c1, c2, b1, b2, rfl, rfl, h0, h1, h2⟩ := h
    obtain ⟨r1, r2⟩ := RRows_cells h2
    refine ⟨⟨c1, c2, b1, b2, rfl, rfl, h1, r1⟩, fun u hu => ?_⟩
    rcases List.mem_cons.1 hu with rfl | hu
    · rw [← RC_len _ h1, h0]
    · exact r2 u hu

theorem setAll_sizes {pl : Nat → Option (Nat × Nat)} {es : Nat} : ∀ {parts : List (Nat × T)} {l l' : List T}, setAll pl l parts = some l' → (∀ t ∈ l, t.size = es) → (∀ t ∈ l', t.size = es) ∧ l'.length = l.length
  | [], l, l', h, hs => by simp only [setAll, Option.some.injEq] at h; subst h; exact ⟨hs, rfl⟩
  | (i, t) :: parts, l, l', h, hs => by
    simp only [setAll] at h
    cases hl : l[i]? with
    | none => simp [hl] at h
    | some u =>
      cases hpl : pl i with
      | none => simp [hl, hpl] at h
      | some x =>
        obtain ⟨off, sz⟩ := x
        simp only [hl, hpl] at h
        split at h
        case isFalse => cases h
        rename_i hc
        have := setAll_sizes h (fun t' ht' => by
          rcases List.mem_or_eq_of_mem_set ht' with h' | h'
          · exact hs t' h'
          · subst h'; rw [← hc.2.1]; exact hs u (List.mem_of_getElem? hl))
        exact ⟨this.1, by simpa using this.2⟩

section
variable {P : Program} {Y : TypeId → TyI} (hY : TysOk P Y)

theorem mapM_places {P : Program} {Y : TypeId → TyI} (hY : TysOk P Y) {w : World} (fields : Array Field) (hf : ∀ f ∈ fields.toList, 0 < (Y f.type).cells) :
    (fields.mapM (fun f => do pure (f.offset, ← sizeOf f.type) : Field → Sem (Nat × Nat))).run P w = .ok (fields.map fun f => (f.offset, (Y f.type).cells)) w := by
  have hl : ∀ (l : List Field), (∀ f ∈ l, 0 < (Y f.type).cells) → (l.mapM (fun f => do pure (f.offset, ← sizeOf f.type) : Field → Sem (Nat × Nat))).run P w = .ok (l.map fun f => (f.offset, (Y f.type).cells)) w := by
    intro l
    induction l with
    | nil => intro _; rfl
    | cons f l ih =>
      intro h
      rw [List.mapM_cons]
      simp only [Sem.run_bind, (hY f.type (h f (by simp))).run_size w, Result.andThen_ok, Sem.run_pure, ih (fun f' hf' => h f' (by simp [hf'])), List.map_cons]
  have := hl fields.toList hf
  rw [Array.mapM_eq_mapM_toList]
  simp only [Sem.run_map, this, Result.andThen_ok]
  congr 1
  apply Array.ext'
  simp

include hY in
theorem build_ok {F : Fr} {c : Cx} {H : Heap} {bs : List Nat} {t : TypeId} {parts : List (Nat × T)} {vs : Array (Nat × Value)} {out : Out} (h : InvH F c H bs) (hp : RVP c parts vs.toList)
    (ht : 0 < (Y t).cells) (hel : ∀ e, (∃ n, (Y t).k = .ar n e) → 0 < (Y e).cells) (hfs : ∀ fs, (Y t).k = .st fs → ∀ f ∈ fs, 0 < (Y f.1).cells)
    (hm : (buildM Y t parts).run H = some out) : DoneP F c H out ((Instr.build t vs).run P c.w) := by
  obtain ⟨d, hd, htm, _⟩ := (hY t ht).run_under c.w
  have hnf : (Y t).k.isFn = false := by
    unfold buildM at hm
    split at hm <;> first | (rename_i hk _; rw [hk]; rfl) | (simp [RM.run] at hm)
  obtain ⟨z, hz, hr, _⟩ := zero_rc hY ht hnf
  unfold buildM at hm
  split at hm
  · rename_i fs l hk hzt
    cases hs : setAll (plSt Y fs) l parts with
    | none => simp [hs, RM.run] at hm
    | some l' =>
      simp [hs, RM.run] at hm; subst hm
      rw [hk] at htm
      obtain ⟨fields, rfl, hmap⟩ := htm
      have hr' := hr c
      rw [hzt] at hr'
      simp only [RC] at hr'
      have hpl : (fun i => (fields.map fun f => (f.offset, (Y f.type).cells))[i]?) = plSt Y fs := by
        funext i
        unfold plSt
        rw [← hmap, List.getElem?_map, Array.getElem?_toList]
        simp only [Array.getElem?_map]
        cases fields[i]? <;> rfl
      obtain ⟨cells', e, hrl⟩ := fill_ok parts vs.toList l l' z.cells hp hr' hs
      refine ⟨rfl, rfl, ?_⟩
      simp only [Instr.build, Sem.run_bind, hz, Result.andThen_ok, hd]
      rw [mapM_places hY fields (fun f hf => hfs fs hk (f.type, f.offset) (by rw [← hmap]; exact List.mem_map.2 ⟨f, hf, rfl⟩))]
      simp only [Result.andThen_ok, hpl, e, Sem.run_pure]
      exact Done.same h ⟨cells', rfl, hrl⟩
  · rename_i m e l hk hzt
    cases hs : setAll (plAr (Y e).cells) l parts with
    | none => simp [hs, RM.run] at hm
    | some l' =>
      simp [hs, RM.run] at hm; subst hm
      rw [hk] at htm
      simp only [TyM] at htm; subst htm
      have hr' := hr c
      rw [hzt] at hr'
      simp only [RC] at hr'
      obtain ⟨cells', ee, hrl⟩ := fill_ok parts vs.toList l l' z.cells hp hr' hs
      refine ⟨rfl, rfl, ?_⟩
      simp only [Instr.build, Sem.run_bind, hz, Result.andThen_ok, hd, (hY e (hel e ⟨m, hk⟩)).run_size]
      have hpl : (fun i => some (i * (Y e).cells, (Y e).cells)) = plAr (Y e).cells := rfl
      simp only [hpl, ee, Sem.run_pure]
      exact Done.same h ⟨cells', rfl, hrl⟩
  · simp [RM.run] at hm

include hY in
theorem buildSlice_ok {F : Fr} {c : Cx} {H : Heap} {bs : List Nat} {own : Nat} {t : TypeId} {len : Nat} {parts : List (Nat × T)} {vs : Array (Nat × Value)} {out : Out} (h : InvH F c H bs) (hp : RVP c parts vs.toList)
    (hown : H[own]? = some []) (ht : 0 < (Y t).cells) (hm : (buildSliceM Y own t len parts).run H = some out) :
    out.ups = [] ∧ Done F c (H.set own out.news) out.v ((Instr.buildSlice t len vs).run P c.w) := by
  obtain ⟨d, hd, htm, _⟩ := (hY t ht).run_under c.w
  unfold buildSliceM at hm
  split at hm
  case h_2 => simp [RM.run] at hm
  rename_i e hk
  split at hm
  case isFalse => simp [RM.run] at hm
  rename_i hc
  obtain ⟨hce, hlen, hf⟩ := hc
  cases hs : setAll (plAr (Y e).cells) (List.replicate len (zeroT Y 9 e)) parts with
  | none => simp [hs, RM.run] at hm
  | some l =>
    simp [hs, RM.run] at hm; subst hm
    rw [hk] at htm
    simp only [TyM] at htm; subst htm
    obtain ⟨z, hz, hr, hzs⟩ := zero_rc hY hce hf
    have hrows := range_rows (hr c) hzs hce len
    obtain ⟨hrl, hsz⟩ := RRows_cells hrows
    obtain ⟨cells', ee, hrl'⟩ := fill_ok parts vs.toList _ l _ hp hrl hs
    obtain ⟨hsz', hll⟩ := setAll_sizes hs hsz
    have hrows' := RCL_rows hrl' hsz'
    refine ⟨rfl, ?_⟩
    have hpl : (fun i => some (i * (Y e).cells, (Y e).cells)) = plAr (Y e).cells := rfl
    have key : (Instr.buildSlice t len vs).run P c.w = ((do pure (.slice (some (← newRow e cells')) len len) : Sem Value).run P c.w) := by
      simp only [Instr.buildSlice, Sem.run_bind, hd, Result.andThen_ok, (hY e hce).run_size]
      rw [if_neg (by omega)]
      by_cases hn0 : len * (Y e).cells = 0
      · have he : Array.range 0 = #[] := rfl
        simp only [hn0, he, List.map_toArray, List.map_nil] at ee
        simp only [hn0, if_true, Sem.run_bind, Sem.run_pure, Result.andThen_ok, he, List.map_toArray, List.map_nil, hpl, ee]
      · simp only [hn0, if_false, Sem.run_bind, hz, Result.andThen_ok, Sem.run_pure, hpl, ee]
    rw [key]
    exact newArr_ok h hown hce (by simpa using hll) (fun c' hle => hrows'.mono hle _ l (by simp))
end
end Go.Vm

namespace Go.Vm

theorem part_of_list {c : Cx} {l : List T} {cs : List Value} {i : Nat} {u : T} (h : RCL c l cs []) (hl : l[i]? = some u) :
    ∃ x y z, cs = x ++ (y ++ z) ∧ x.length = sizeL (l.take i) ∧ RC c u y [] := by
  obtain ⟨x, y, z, p, q, r, rfl, hb, hx, hry, _⟩ := RCL_split h hl
  have : q = [] := by have := hb.symm; simp at this; exact this.2.1
  subst this
  exact ⟨x, y, z, rfl, hx, hry⟩

section
variable {P : Program} {Y : TypeId → TyI} (hY : TysOk P Y)

include hY in
theorem part_ok {c : Cx} {l : List T} {cs : Array Value} {i off : Nat} {u : T} {ty : TypeId} {w : World} (h : RCL c l cs.toList []) (hl : l[i]? = some u) (hof : sizeL (l.take i) = off)
    (hsz : u.size = (Y ty).cells) (ht : 0 < (Y ty).cells) (hg : u.isNd = (Y ty).agg) (hn : u.nw = true) : ∃ v, (Go.part ty cs off).run P w = .ok v w ∧ RV c u v := by
  obtain ⟨x, y, z, hcs, hx, hry⟩ := part_of_list h hl
  have hyl := RC_len u hry
  have hv := hry.val hn
  refine ⟨valOf u y, ?_, hv⟩
  simp only [Go.part, Sem.run_bind, (hY ty ht).run_agg w, Result.andThen_ok, ← hg]
  cases hk : u.isNd with
  | true =>
    simp only [if_true, Sem.run_bind, (hY ty ht).run_size w, Result.andThen_ok, Sem.run_pure, valOf, hk]
    congr 2
    apply Array.ext'
    rw [Array.toList_extract, hcs]
    have : x.length = off := by rw [hx, hof]
    rw [← hsz, ← hyl, ← this]
    simp
  | false =>
    have h1 : y.length = 1 := by rw [hyl]; cases u <;> first | rfl | simp [T.isNd] at hk
    obtain ⟨v, rfl⟩ := List.length_eq_one_iff.1 h1
    have : cs[off]? = some v := by
      rw [← Array.getElem?_toList, hcs, ← hof, ← hx]
      rw [List.getElem?_append_right (by omega)]; simp
    simp only [Bool.false_eq_true, if_false, this, Sem.run_pure, valOf, hk]
    rfl

include hY in
theorem index_ok {F : Fr} {c : Cx} {H : Heap} {bs : List Nat} {ty : TypeId} {t u : T} {v x : Value} {out : Out} (h : InvH F c H bs) (hv : RV c t v) (hx : RV c u x) (hty : 0 < (Y ty).cells)
    (hel : ∀ e, (∃ n, (Y ty).k = .ar n e) → 0 < (Y e).cells) (hm : (indexM Y ty t u).run H = some out) : DoneP F c H out ((Instr.index ty v x).run P c.w) := by
  obtain ⟨d, hd, htm, _⟩ := (hY ty hty).run_under c.w
  unfold indexM at hm
  split at hm
  · rename_i s k n hk
    split at hm
    case isFalse => simp [RM.run] at hm
    rename_i hn
    cases hs : s[n.toNat]? with
    | none => simp [hs, RM.run] at hm
    | some b =>
      simp [hs, RM.run] at hm; subst hm
      simp only [RV] at hv hx; subst hv; subst hx
      rw [hk] at htm; simp only [TyM] at htm; subst htm
      refine ⟨rfl, rfl, ?_⟩
      simp only [Instr.index, asIntOf, Sem.run_bind, Sem.run_pure, Result.andThen_ok, hd, if_pos hn, hs]
      exact Done.same h rfl
  · rename_i m el l k n hk
    split at hm
    case isFalse => simp [RM.run] at hm
    rename_i hc
    obtain ⟨hn, hlt, hof⟩ := hc
    cases hl : l[n.toNat]? with
    | none => simp [hl, RM.run] at hm
    | some w =>
      simp only [hl] at hm
      split at hm
      case isFalse => simp [RM.run] at hm
      rename_i hc
      simp [RM.run] at hm; subst hm
      obtain ⟨cs, rfl, hr⟩ := hv
      simp only [RV] at hx; subst hx
      rw [hk] at htm; simp only [TyM] at htm; subst htm
      have hel' := hel el ⟨m, hk⟩
      refine ⟨rfl, rfl, ?_⟩
      obtain ⟨pv, hrun, hpv⟩ := part_ok (w := c.w) hY hr hl hof hc.1 hel' hc.2.1 hc.2.2
      simp only [Instr.index, asIntOf, Sem.run_bind, Sem.run_pure, Result.andThen_ok, hd]
      rw [if_pos ⟨hn, hlt⟩]
      simp only [Sem.run_bind, (hY el hel').run_size, Result.andThen_ok, hrun]
      exact Done.same h hpv
  · simp [RM.run] at hm

include hY in
theorem field_ok {F : Fr} {c : Cx} {H : Heap} {bs : List Nat} {ty : TypeId} {f : Nat} {t : T} {v : Value} {out : Out} (h : InvH F c H bs) (hv : RV c t v) (hty : 0 < (Y ty).cells)
    (hm : (fieldM Y ty t f).run H = some out) : DoneP F c H out ((Instr.field ty v f).run P c.w) := by
  obtain ⟨d, hd, htm, _⟩ := (hY ty hty).run_under c.w
  unfold fieldM at hm
  split at hm
  case h_2 => simp [RM.run] at hm
  rename_i fs l hk
  cases hfs : fs[f]? with
  | none => simp [hfs, RM.run] at hm
  | some x =>
    obtain ⟨fty, off⟩ := x
    cases hl : l[f]? with
    | none => simp [hfs, hl, RM.run] at hm
    | some u =>
      simp only [hfs, hl] at hm
      split at hm
      case isFalse => simp [RM.run] at hm
      rename_i hc
      simp [RM.run] at hm; subst hm
      obtain ⟨cs, rfl, hr⟩ := hv
      rw [hk] at htm
      obtain ⟨fields, rfl, hmap⟩ := htm
      rw [← hmap, List.getElem?_map] at hfs
      cases hfd : fields[f]? with
      | none => simp [hfd] at hfs
      | some fd =>
        simp only [Array.getElem?_toList, hfd, Option.map_some, Option.some.injEq, Prod.mk.injEq] at hfs
        obtain ⟨h1, h2⟩ := hfs
        obtain ⟨pv, hrun, hpv⟩ := part_ok (w := c.w) hY hr hl hc.1 hc.2.1 hc.2.2.1 hc.2.2.2.1 hc.2.2.2.2
        refine ⟨rfl, rfl, ?_⟩
        simp only [Instr.field, Sem.run_bind, hd, Result.andThen_ok, hfd, asAgg, Sem.run_pure, h1, h2, hrun]
        exact Done.same h hpv

theorem extract_ok {F : Fr} {c : Cx} {H : Heap} {bs : List Nat} {i : Nat} {t r : T} {v : Value} (h : InvH F c H bs) (hv : RV c t v) (hm : extractT i t = some r) :
    Done F c H r ((Instr.extract v i).run P c.w) := by
  cases t with
  | tup l =>
    obtain ⟨vs, rfl, hr⟩ := hv
    obtain ⟨x, hx, hrx⟩ := RVL_get hr hm
    rw [Array.getElem?_toList] at hx
    simp only [Instr.extract, hx, Sem.run_pure]
    exact Done.same h hrx
  | _ => simp [extractT] at hm

/-- what a slice value shows -/
theorem elems_ok {F : Fr} {c : Cx} {H : Heap} {bs : List Nat} {t : T} {v : Value} {l : List T} (h : InvH F c H bs) (hv : RV c t v) (hm : (elemsM t).run H = some l) :
    ∃ A k, v = .slice A l.length k ∧ l.length ≤ k ∧ (l = [] ∨ ∃ a es rows b, A = some a ∧ a.spot = none ∧ 0 < es ∧ RRows c es l rows b ∧ CellsAt c.w a rows ∧ (a.block ∈ bs ∨ c.Z a.block) ∧ ∀ x ∈ b, x ∈ bs) := by
  cases t with
  | sl g l' =>
    simp [elemsM, RM.run] at hm; subst hm
    obtain ⟨A, k, rfl, hlk, hr⟩ := hv
    refine ⟨A, k, rfl, hlk, hr.imp id ?_⟩
    rintro ⟨a, es, rows, e1, e2, e3, e4, e5, e6⟩
    exact ⟨a, es, rows, [], e1, e2, e3, e4, e5, .inr (zz_Z h e6), by simp⟩
  | nils =>
    simp [elemsM, RM.run] at hm; subst hm
    obtain ⟨A, rfl⟩ := hv
    exact ⟨A, 0, rfl, Nat.le_refl _, .inl rfl⟩
  | ref e j off len =>
    simp only [elemsM, RM.run] at hm
    cases ha : H.at e j with
    | none => simp [ha] at hm
    | some ob =>
      simp only [ha] at hm
      cases ob with
      | arr es l' fz =>
        simp only at hm
        split at hm
        case isFalse => simp [RM.run] at hm
        rename_i hfit
        simp [RM.run] at hm
        have hlen : l.length = len := by rw [← hm]; simp; omega
        obtain ⟨A, k, i, rfl, hlk, hi, hcap, hA⟩ := hv
        refine ⟨A, k, by rw [hlen], by omega, ?_⟩
        obtain ⟨_, q, _, hbs, ho, _⟩ := h.hp.at ha
        have hqb : ∀ x ∈ q, x ∈ bs := fun x hx => by rw [hbs]; simp [hx]
        have key : i.es = es ∧ (i.cap = 0 ∨ 0 < es) ∧ l'.length ≤ i.cap ∧ (i.cap = 0 ∨ ∃ rows b, RRows c es l' rows b ∧ CellsAt c.w i.addr rows ∧ (i.blk ∈ bs ∨ c.Z i.blk) ∧ ∀ x ∈ b, x ∈ bs) := by
          cases fz with
          | false =>
            obtain ⟨i', hi', h1, h2, h3, h4⟩ := ho
            rw [hi] at hi'; cases hi'
            refine ⟨h1, h2, h3, h4.imp (·.1) ?_⟩
            rintro ⟨rows, b, hq, r1, r2, _⟩; exact ⟨rows, b, r1, r2, .inl (hqb _ (by rw [hq]; simp)), fun x hx => hqb _ (by rw [hq]; simp [hx])⟩
          | true =>
            obtain ⟨i', hi', _, h1, h2, h3, h4⟩ := ho
            rw [hi] at hi'; cases hi'
            refine ⟨h1, h2, h3, h4.imp id ?_⟩
            rintro ⟨rows, r1, r2, r3⟩; exact ⟨rows, [], r1, r2, .inr (h.zz _ r3), by simp⟩
        obtain ⟨h1, h2, h3, h4⟩ := key
        by_cases hl0 : l = []
        · exact .inl hl0
        · have hpos : 0 < l.length := List.length_pos_iff.2 hl0
          rcases h4 with h4 | ⟨rows, b, hr, hc, hblk, hbl⟩
          · omega
          · have h2 : 0 < es := h2.resolve_left (by omega)
            have hA : A = some ⟨i.blk, i.off + off * i.es, none⟩ := by
              rcases hA with h0 | hA
              · omega
              · exact hA
            obtain ⟨x, y, z, p, q', r, rfl, rfl, hx, _, hry, _⟩ := RRows_window off len hr (by omega)
            rw [hm] at hry
            exact .inr ⟨_, es, y, q', hA, rfl, h2, hry, by have := CellsAt.part (b := i.blk) (o := i.off) hc; rw [hx] at this; rwa [h1], hblk, fun x hx => hbl x (by simp [hx])⟩
      | var _ => simp [RM.run] at hm
      | gone => simp [RM.run] at hm
  | vr e j p o es off len =>
    simp only [elemsM, RM.run] at hm
    cases ha : H.at e j with
    | none => simp [ha] at hm
    | some ob =>
      simp only [ha, RM.run_bind] at hm
      cases hs : (subM p o ob).run H with
      | none => simp [hs] at hm
      | some u =>
        simp only [hs] at hm
        cases u with
        | nd l' =>
          simp only at hm
          split at hm
          case isFalse => simp [RM.run] at hm
          rename_i hc
          obtain ⟨hall, hof, hes, hll⟩ := hc
          simp [RM.run] at hm
          rw [hm] at hall hll
          obtain ⟨k, i, hi, rfl, hlk⟩ := hv
          refine ⟨_, k, by rw [hll], by rw [← hll] at hlk; exact hlk, ?_⟩
          obtain ⟨i', y, b2, hi', hr, hcell, hblk, hbl⟩ := sub_ok h ha hs
          rw [hi] at hi'; cases hi'
          simp only [RC] at hr
          have e0 : l' = l'.take off ++ (l ++ (l'.drop off).drop len) := by rw [← hm, List.take_append_drop, List.take_append_drop]
          rw [e0] at hr
          obtain ⟨c1, c2, d1, d2, rfl, rfl, r1, r2⟩ := RCL_app hr
          obtain ⟨c3, c4, d3, d4, rfl, rfl, r3, r4⟩ := RCL_app r2
          have hrows : ∀ {m : List T} {cs : List Value} {b : List Nat}, RCL c m cs b → (∀ t ∈ m, t.size = es) → RRows c es m cs b := by
            intro m
            induction m with
            | nil => intro cs b h _; exact h
            | cons t m ih =>
              intro cs b h hs
              obtain ⟨x1, x2, y1, y2, rfl, rfl, z1, z2⟩ := h
              exact ⟨x1, x2, y1, y2, rfl, rfl, by rw [RC_len _ z1]; exact hs t (by simp), z1, ih z2 (fun t ht => hs t (by simp [ht]))⟩
          refine .inr ⟨_, es, c3, d3, rfl, rfl, hes, hrows r3 (fun t ht => by have := List.all_eq_true.1 hall t ht; simpa using this), ?_, hblk.imp id (h.zz _), fun x hx => hbl x (by simp [hx])⟩
          have := hcell.part
          rw [RCL_len _ r1, hof] at this
          simpa [Nat.add_assoc] using this
        | _ => simp [RM.run] at hm
  | _ => simp [elemsM, RM.run] at hm
end
end Go.Vm

namespace Go.Vm

def RO (c : Cx) : Option T → Option Value → Prop
  | none, v => v = none
  | some t, v => ∃ x, v = some x ∧ RV c t x

theorem bounds_ok {P : Program} {c : Cx} {w : World} {lo hi : Option T} {low high : Option Value} {len cap : Nat} {a b : Int} {isS : Bool} (hlo : RO c lo low) (hhi : RO c hi high)
    (ha : loF lo = some a) (hb : hiF len hi = some b) (h0 : 0 ≤ a) (hab : a ≤ b) (hbl : b ≤ len) (hlc : len ≤ cap) :
    (Instr.sliceBounds isS len cap low high none).run P w = .ok (a.toNat, b.toNat, cap) w := by
  have sb : ∀ (n : Int) (y : Nat) (code : BoundsCode), 0 ≤ n → n ≤ y → (Instr.sliceBound (.int .i64 n) y code).run P w = .ok n.toNat w := by
    intro n y code h1 h2
    simp only [Instr.sliceBound, asIntOf, Sem.run_bind, Sem.run_pure, Result.andThen_ok]
    rw [if_pos ⟨h1, h2⟩]; rfl
  have hlo' : (low = none ∧ a = 0) ∨ low = some (.int .i64 a) := by
    cases lo with
    | none => simp only [loF, Option.some.injEq] at ha; exact .inl ⟨hlo, ha.symm⟩
    | some t =>
      obtain ⟨x, rfl, hx⟩ := hlo
      cases t <;> simp only [loF] at ha <;> first | (cases ha; done) | skip
      rename_i kk n
      cases kk <;> simp only at ha <;> first | (cases ha; done) | skip
      simp only [Option.some.injEq] at ha; subst ha
      simp only [RV] at hx; subst hx; exact .inr rfl
  have hhi' : (high = none ∧ b = len) ∨ high = some (.int .i64 b) := by
    cases hi with
    | none => simp only [hiF, Option.some.injEq] at hb; exact .inl ⟨hhi, hb.symm⟩
    | some t =>
      obtain ⟨x, rfl, hx⟩ := hhi
      cases t <;> simp only [hiF] at hb <;> first | (cases hb; done) | skip
      rename_i kk n
      cases kk <;> simp only at hb <;> first | (cases hb; done) | skip
      simp only [Option.some.injEq] at hb; subst hb
      simp only [RV] at hx; subst hx; exact .inr rfl
  have hb1 : ∀ code, (Instr.sliceBound (.int .i64 b) cap code).run P w = .ok b.toNat w := fun code => sb b cap code (by omega) (by omega)
  have ha1 : ∀ code, (Instr.sliceBound (.int .i64 a) b.toNat code).run P w = .ok a.toNat w := fun code => sb a b.toNat code h0 (by omega)
  have ha2 : b = len → ∀ code, (Instr.sliceBound (.int .i64 a) len code).run P w = .ok a.toNat w := fun e code => sb a len code h0 (by omega)
  rcases hlo' with ⟨rfl, rfl⟩ | rfl <;> rcases hhi' with ⟨rfl, e⟩ | rfl
  · simp [Instr.sliceBounds, e]
  · simp [Instr.sliceBounds, hb1]
  · simp [Instr.sliceBounds, ha2 e]; omega
  · simp [Instr.sliceBounds, hb1, ha1]

section
variable {P : Program} {Y : TypeId → TyI} (hY : TysOk P Y)

include hY in
theorem slice_ok {F : Fr} {c : Cx} {H : Heap} {bs : List Nat} {ty : TypeId} {t : T} {lo hi mx : Option T} {v : Value} {low high mxv : Option Value} {out : Out} (h : InvH F c H bs) (hv : RV c t v)
    (hlo : RO c lo low) (hhi : RO c hi high) (hmx : RO c mx mxv) (hty : 0 < (Y ty).cells) (hel : ∀ e, (Y ty).k = .sl e ∨ (∃ n, (Y ty).k = .ar n e) → 0 < (Y e).cells)
    (hm : (sliceM Y ty t lo hi mx).run H = some out) : DoneP F c H out ((Instr.sliceAt ty v low high mxv).run P c.w) := by
  obtain ⟨d, hd, htm, _⟩ := (hY ty hty).run_under c.w
  unfold sliceM at hm
  split at hm
  · -- a string
    rename_i s hk
    simp only [RO] at hmx; subst hmx
    cases ha : loF lo with
    | none => simp [ha, RM.run] at hm
    | some a =>
      cases hb : hiF s.size hi with
      | none => simp [ha, hb, RM.run] at hm
      | some b =>
        simp only [ha, hb] at hm
        split at hm
        case isFalse => simp [RM.run] at hm
        rename_i hc
        simp [RM.run] at hm; subst hm
        simp only [RV] at hv; subst hv
        rw [hk] at htm; simp only [TyM] at htm; subst htm
        refine ⟨rfl, rfl, ?_⟩
        have hbd := bounds_ok (P := P) (w := c.w) (isS := false) (cap := s.size) hlo hhi ha hb hc.1 hc.2.1 hc.2.2 (Nat.le_refl _)
        simp only [Instr.sliceAt, Instr.slice, Sem.run_bind, hd, Result.andThen_ok, Option.isSome_none, Bool.false_eq_true, if_false, hbd, Sem.run_pure]
        exact Done.same h rfl
  · -- a slice of others
    rename_i el g l hk
    simp only [RO] at hmx; subst hmx
    have hel' := hel el (.inl hk)
    cases ha : loF lo with
    | none => simp [ha, RM.run] at hm
    | some a =>
      cases hb : hiF l.length hi with
      | none => simp [ha, hb, RM.run] at hm
      | some b =>
        simp only [ha, hb] at hm
        split at hm
        case isFalse => simp [RM.run] at hm
        rename_i hc
        obtain ⟨h0, hab, hbl, hsz⟩ := hc
        simp [RM.run] at hm; subst hm
        obtain ⟨A, k, rfl, hlk, hr⟩ := hv
        rw [hk] at htm; simp only [TyM] at htm; subst htm
        refine ⟨rfl, rfl, ?_⟩
        have hbd := bounds_ok (P := P) (w := c.w) (isS := true) (cap := k) hlo hhi ha hb h0 hab hbl hlk
        simp only [Instr.sliceAt, Instr.slice, Sem.run_bind, hd, Result.andThen_ok, hbd, (hY el hel').run_size, Sem.run_pure]
        have hlen : ((l.drop a.toNat).take (b.toNat - a.toNat)).length = b.toNat - a.toNat := by simp; omega
        refine Done.same h ⟨_, k - a.toNat, by rw [hlen], by rw [hlen]; omega, ?_⟩
        rcases hr with rfl | ⟨ad, es, rows, rfl, ha', hes, hrow, hcell, hz⟩
        · left; simp
        · by_cases hl0 : (l.drop a.toNat).take (b.toNat - a.toNat) = []
          · exact .inl hl0
          · right
            have hpos := List.length_pos_iff.2 hl0
            rw [hlen] at hpos
            have hnk : k ≠ a.toNat := by omega
            have hes' : es = (Y el).cells := by
              cases l with
              | nil => exact absurd hpos (by simp only [List.length_nil] at hbl; omega)
              | cons u l =>
                obtain ⟨c1, c2, b1, b2, rfl, hbb, h1, h2, _⟩ := hrow
                rw [← h1, RC_len _ h2]
                exact hsz u (by simp)
            obtain ⟨x, y, z, p, q, r, rfl, hbb, hx, _, hry, _⟩ := RRows_window a.toNat (b.toNat - a.toNat) hrow (by omega)
            have : q = [] := by have := hbb.symm; simp at this; exact this.2.1
            subst this
            obtain ⟨ab, ao, as⟩ := ad
            simp only at ha'; subst ha'
            refine ⟨⟨ab, ao + a.toNat * es, none⟩, es, y, ?_, rfl, hes, hry, by have := hcell.part; rwa [hx] at this, hz⟩
            rw [if_neg hnk, Option.map_some, Addr_add, ← hes']
  · -- nothing
    rename_i el es0 hk
    simp only [RO] at hmx; subst hmx
    have hel' := hel el (.inl hk)
    cases ha : loF lo with
    | none => simp [ha, RM.run] at hm
    | some a =>
      cases hb : hiF 0 hi with
      | none => simp [ha, hb, RM.run] at hm
      | some b =>
        simp only [ha, hb] at hm
        split at hm
        case isFalse => simp [RM.run] at hm
        rename_i hc
        obtain ⟨rfl, rfl⟩ := hc
        simp [RM.run] at hm; subst hm
        obtain ⟨A, rfl⟩ := hv
        rw [hk] at htm; simp only [TyM] at htm; subst htm
        refine ⟨rfl, rfl, ?_⟩
        have hbd := bounds_ok (P := P) (w := c.w) (isS := true) (len := 0) (cap := 0) hlo hhi ha hb (by omega) (by omega) (by omega) (Nat.le_refl _)
        simp only [Instr.sliceAt, Instr.slice, Sem.run_bind, hd, Result.andThen_ok, hbd, (hY el hel').run_size, Sem.run_pure]
        exact Done.same h ⟨_, rfl⟩
  · -- one's own
    rename_i el e j off len hk
    simp only [RO] at hmx; subst hmx
    have hel' := hel el (.inl hk)
    cases ha : loF lo with
    | none => simp [ha, RM.run] at hm
    | some a =>
      cases hb : hiF len hi with
      | none => simp [ha, hb, RM.run] at hm
      | some b =>
        simp only [ha, hb] at hm
        split at hm
        case isFalse => simp [RM.run] at hm
        rename_i hc
        obtain ⟨h0, hab, hbl⟩ := hc
        simp only [RM.run] at hm
        cases hat : H.at e j with
        | none => simp [hat] at hm
        | some ob =>
          simp only [hat] at hm
          cases ob with
          | arr es l fz =>
            simp only at hm
            split at hm
            case isFalse => simp [RM.run] at hm
            rename_i hes
            simp [RM.run] at hm; subst hm
            obtain ⟨A, k, i, rfl, hlk, hi, hcap, hA⟩ := hv
            have hies : i.es = es := by
              obtain ⟨_, q, _, _, ho, _⟩ := h.hp.at hat
              cases fz with
              | false => obtain ⟨i', hi', hr⟩ := ho; rw [hi] at hi'; cases hi'; exact hr.1
              | true => obtain ⟨i', hi', hr⟩ := ho; rw [hi] at hi'; cases hi'; exact hr.2.1
            rw [hk] at htm; simp only [TyM] at htm; subst htm
            refine ⟨rfl, rfl, ?_⟩
            have hbd := bounds_ok (P := P) (w := c.w) (isS := true) (cap := k) hlo hhi ha hb h0 hab hbl hlk
            simp only [Instr.sliceAt, Instr.slice, Sem.run_bind, hd, Result.andThen_ok, hbd, (hY el hel').run_size, Sem.run_pure]
            refine Done.same h ⟨_, k - a.toNat, i, rfl, by omega, hi, by omega, ?_⟩
            by_cases hka : k = a.toNat
            · left; omega
            · right
              rcases hA with h0 | rfl
              · omega
              · rw [if_neg hka, Option.map_some, Addr_add, ← hes, hies, Nat.add_mul, Nat.add_assoc]
          | var _ => simp [RM.run] at hm
          | gone => simp [RM.run] at hm
  · -- an array's variable
    rename_i n el e j p o hk
    simp only [RO] at hmx; subst hmx
    have hel' := hel el (.inr ⟨n, hk⟩)
    cases lo with
    | some _ => simp [RM.run] at hm
    | none =>
      cases hi with
      | some _ => simp [RM.run] at hm
      | none =>
        simp only at hm
        split at hm
        case isFalse => simp [RM.run] at hm
        rename_i hn
        simp [RM.run] at hm; subst hm
        obtain ⟨i, hi, rfl⟩ := hv
        rw [hk] at htm; simp only [TyM] at htm; subst htm
        refine ⟨rfl, rfl, ?_⟩
        have hbd := bounds_ok (P := P) (w := c.w) (isS := false) (len := n) (cap := n) hlo hhi (a := 0) (b := n) rfl rfl (by omega) (by omega) (by omega) (Nat.le_refl _)
        simp only [Int.toNat_natCast, Int.toNat_zero] at hbd
        simp only [Instr.sliceAt, Instr.sureAddr, Sem.run_bind, hd, Result.andThen_ok, hbd, (hY el hel').run_size, Sem.run_pure]
        refine Done.same h ⟨n, i, hi, ?_, Nat.le_refl _⟩
        rw [if_neg (by omega), Addr_add]
        simp
  · simp [RM.run] at hm
end
end Go.Vm
