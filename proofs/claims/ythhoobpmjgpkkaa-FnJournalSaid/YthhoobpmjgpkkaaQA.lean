/- A value semantics of the machine code, proved sound. -/
import Derived.Below
import Derived.Deep.MidRow
import Derived.Laws.MakeOwn
import Derived.Laws.OwnMore
import Derived.WalkKit
import Derived.StillTail
import Derived.Laws.StructEq
import Derived.Laws.Small
import Derived.LoopN
import Derived.Deep.Slices
import Derived.ChangeArms
set_option linter.unusedVariables false
set_option linter.unusedSimpArgs false
namespace Go.Sim
open Go Go.RowKit

/-- What a slot or a cell holds, told without addresses: a value without memory, a struct's cells, several results,
a slice that is only read (n elements of sz cells each), a slice of a row of the call's own, an address in a variable of the call's own, in an element of a row of its own, in memory that is only read. -/
inductive V where
  | val (v : Value)
  | any
  | agg (cs : List V)
  | tup (vs : List V)
  | fz (sz n : Nat) (g : Nat → List V)
  | row (o off len : Nat)
  | ptr (o j : Nat)
  | eptr (o i j : Nat)
  | fptr (cs : List V)
  deriving Inhabited

/-- Memory of the call's own: a variable, a row, or what may no longer be looked at. -/
inductive Ob where
  | dead
  | box (ty : TypeId) (cs : List V)
  | row (ty : TypeId) (sz n : Nat) (g : Nat → List V)
  deriving Inhabited

def All2 {α β : Type} (R : α → β → Prop) : List α → List β → Prop
  | [], [] => True
  | a :: as, b :: bs => R a b ∧ All2 R as bs
  | _, _ => False

section all2
variable {α β : Type} {R R' : α → β → Prop}
theorem All2.mono (h : ∀ a b, R a b → R' a b) : ∀ {as : List α} {bs : List β}, All2 R as bs → All2 R' as bs
  | [], [], _ => trivial
  | _ :: _, _ :: _, hh => ⟨h _ _ hh.1, All2.mono h hh.2⟩
  | [], _ :: _, hh => hh.elim
  | _ :: _, [], hh => hh.elim
theorem All2.length : ∀ {as : List α} {bs : List β}, All2 R as bs → as.length = bs.length
  | [], [], _ => rfl
  | _ :: _, _ :: _, hh => by simp [All2.length hh.2]
  | [], _ :: _, hh => hh.elim
  | _ :: _, [], hh => hh.elim
theorem All2.get : ∀ {as : List α} {bs : List β} {i : Nat} {a : α}, All2 R as bs → as[i]? = some a → ∃ b, bs[i]? = some b ∧ R a b
  | [], _, _, _, _, h => by simp at h
  | _ :: _, b :: _, 0, _, hh, h => by simp at h; subst h; exact ⟨b, rfl, hh.1⟩
  | _ :: _, _ :: _, i + 1, _, hh, h => by simp at h; simpa using All2.get hh.2 h
  | _ :: _, [], _, _, hh, _ => hh.elim
theorem All2.set : ∀ {as : List α} {bs : List β} {a : α} {b : β} (i : Nat), All2 R as bs → R a b → All2 R (as.set i a) (bs.set i b)
  | [], [], _, _, _, _, _ => trivial
  | _ :: _, _ :: _, _, _, 0, hh, h => ⟨h, hh.2⟩
  | _ :: _, _ :: _, _, _, i + 1, hh, h => ⟨hh.1, All2.set i hh.2 h⟩
  | [], _ :: _, _, _, _, hh, _ => hh.elim
  | _ :: _, [], _, _, _, hh, _ => hh.elim
theorem All2.append : ∀ {as as' : List α} {bs bs' : List β}, All2 R as bs → All2 R as' bs' → All2 R (as ++ as') (bs ++ bs')
  | [], _, [], _, _, h => h
  | _ :: _, _, _ :: _, _, hh, h => ⟨hh.1, All2.append hh.2 h⟩
  | [], _, _ :: _, _, hh, _ => hh.elim
  | _ :: _, _, [], _, hh, _ => hh.elim
theorem All2.take : ∀ {as : List α} {bs : List β} (n : Nat), All2 R as bs → All2 R (as.take n) (bs.take n)
  | [], [], _, _ => by simp [All2]
  | _ :: _, _ :: _, 0, _ => by simp [All2]
  | _ :: _, _ :: _, n + 1, hh => by simpa [All2] using ⟨hh.1, All2.take n hh.2⟩
  | [], _ :: _, _, hh => hh.elim
  | _ :: _, [], _, hh => hh.elim
theorem All2.drop : ∀ {as : List α} {bs : List β} (n : Nat), All2 R as bs → All2 R (as.drop n) (bs.drop n)
  | [], [], _, _ => by simp [All2]
  | _ :: _, _ :: _, 0, hh => hh
  | _ :: _, _ :: _, n + 1, hh => by simpa using All2.drop n hh.2
  | [], _ :: _, _, hh => hh.elim
  | _ :: _, [], _, hh => hh.elim
theorem All2.of_get : ∀ {as : List α} {bs : List β}, as.length = bs.length → (∀ (i : Nat) (a : α) (b : β), as[i]? = some a → bs[i]? = some b → R a b) → All2 R as bs
  | [], [], _, _ => trivial
  | a :: as, b :: bs, hl, h => ⟨h 0 a b rfl rfl, All2.of_get (by simpa using hl) (fun i x y hx hy => h (i + 1) x y (by simpa using hx) (by simpa using hy))⟩
  | [], _ :: _, hl, _ => by simp at hl
  | _ :: _, [], hl, _ => by simp at hl
theorem All2.map_left {γ : Type} {f : γ → α} : ∀ {cs : List γ} {bs : List β}, All2 (fun c b => R (f c) b) cs bs ↔ All2 R (cs.map f) bs
  | [], [] => Iff.rfl
  | _ :: _, _ :: _ => and_congr Iff.rfl All2.map_left
  | [], _ :: _ => Iff.rfl
  | _ :: _, [] => Iff.rfl
end all2

/-- A cell that is only read, in the world w: what it leads to lies in no block of 'bad'. -/
inductive FR (w : World) (bad : Nat → Prop) : V → Value → Prop
  | val {v : Value} (h : v.oneCell' = true) : FR w bad (.val v) v
  | fz {sz n cap : Nat} {g : Nat → List V} {A : Option Addr} (u : Nat → Nat → Value) (hn : n ≤ cap)
      (hA : 0 < n → ∃ b off, A = some ⟨b, off, none⟩ ∧ ¬ bad b ∧ b < w.heap.size ∧ ∀ k j, k < n → j < sz → w.cell? ⟨b, off + k * sz + j, none⟩ = some (u k j))
      (hl : ∀ k, k < n → (g k).length = sz)
      (hc : ∀ k j c, k < n → (g k)[j]? = some c → FR w bad c (u k j)) : FR w bad (.fz sz n g) (.slice A n cap)

theorem FR.mono {w w' : World} {bad bad' : Nat → Prop} (hw : ∀ b, ¬ bad b → b < w.heap.size → ∀ off v, w.cell? ⟨b, off, none⟩ = some v → w'.cell? ⟨b, off, none⟩ = some v) (hs : w.heap.size ≤ w'.heap.size)
    (hb : ∀ b, b < w.heap.size → ¬ bad b → ¬ bad' b) {c : V} {v : Value} (h : FR w bad c v) : FR w' bad' c v := by
  induction h with
  | val h => exact .val h
  | fz u hn hA hl hc ih =>
    refine .fz u hn (fun h0 => ?_) hl (fun k j c hk hj => ih k j c hk hj)
    obtain ⟨b, off, rfl, h1, h2, h3⟩ := hA h0
    exact ⟨b, off, rfl, hb b h2 h1, by omega, fun k j hk hj => hw b h1 h2 _ _ (h3 k j hk hj)⟩

def bsize (w : World) (b : Nat) : Nat := match w.heap[b]? with | some (.cells c _ _) => c.size | _ => 0

abbrev Map := Nat → Option (Nat × Nat)

/-- A cell of the call's own variables, or a slot. -/
def CR (w : World) (bad : Nat → Prop) (ob : List Ob) (m : Map) (c : V) (v : Value) : Prop :=
  match c with
  | .agg _ | .tup _ => False
  | .row o off len =>
    match ob[o]? with
    | none => False
    | some (.row _ sz _ _) => ∃ A cap, v = .slice A len cap ∧ len ≤ cap ∧ (0 < cap → ∃ b base, m o = some (b, base) ∧ A = some ⟨b, base + off * sz, none⟩ ∧ base + (off + cap) * sz ≤ bsize w b)
    | some _ => v.oneCell' = true
  | .ptr o j =>
    match ob[o]? with
    | none => False
    | some (.box _ _) => ∃ b base, m o = some (b, base) ∧ v = .pointer (some ⟨b, base + j, none⟩)
    | some _ => v.oneCell' = true
  | .eptr o i j =>
    match ob[o]? with
    | none => False
    | some (.row _ sz _ _) => ∃ b base, m o = some (b, base) ∧ v = .pointer (some ⟨b, base + i * sz + j, none⟩)
    | some _ => v.oneCell' = true
  | .fptr cs => ∃ (b off : Nat) (u : Nat → Value), v = .pointer (some ⟨b, off, none⟩) ∧ ¬ bad b ∧ b < w.heap.size ∧ ∀ j x, cs[j]? = some x → w.cell? ⟨b, off + j, none⟩ = some (u j) ∧ FR w bad x (u j)
  | .val u => v = u
  | .any => True
  | .fz sz n g => FR w bad (.fz sz n g) v

/-- What replaces an object may be dead, or of the same make. -/
def compat : Ob → Ob → Prop
  | _, .dead => True
  | .box _ _, .box _ _ => True
  | .row _ sz _ _, .row _ sz' _ _ => sz' = sz
  | _, _ => False

structure Ext (w w' : World) (bad bad' : Nat → Prop) (ob ob' : List Ob) (m m' : Map) : Prop where
  cell : ∀ b, ¬ bad b → b < w.heap.size → ∀ off v, w.cell? ⟨b, off, none⟩ = some v → w'.cell? ⟨b, off, none⟩ = some v
  size : w.heap.size ≤ w'.heap.size
  bads : ∀ b, b < w.heap.size → ¬ bad b → ¬ bad' b
  bsz : ∀ b, bsize w b ≤ bsize w' b
  obs : ∀ (o : Nat) (x : Ob), ob[o]? = some x → ∃ x', ob'[o]? = some x' ∧ compat x x'
  map : ∀ o : Nat, o < ob.length → m' o = m o

theorem FR.one {w : World} {bad : Nat → Prop} {c : V} {v : Value} (h : FR w bad c v) : v.oneCell' = true := by
  cases h with
  | val h => exact h
  | fz => rfl

theorem lt_of_get {α : Type} {l : List α} {i : Nat} {a : α} (h : l[i]? = some a) : i < l.length := (List.getElem?_eq_some_iff.1 h).1

theorem CR.ext {w w' : World} {bad bad' : Nat → Prop} {ob ob' : List Ob} {m m' : Map} (e : Ext w w' bad bad' ob ob' m m') {c : V} {v : Value} (h : CR w bad ob m c v) : CR w' bad' ob' m' c v := by
  cases c with
  | agg _ => exact h.elim
  | tup _ => exact h.elim
  | val u => exact h
  | any => trivial
  | fz sz n g => exact FR.mono e.cell e.size e.bads h
  | fptr cs =>
    obtain ⟨b, off, u, rfl, h1, h2, h3⟩ := h
    exact ⟨b, off, u, rfl, e.bads b h2 h1, Nat.lt_of_lt_of_le h2 e.size, fun j x hj => ⟨e.cell b h1 h2 _ _ (h3 j x hj).1, FR.mono e.cell e.size e.bads (h3 j x hj).2⟩⟩
  | row o off len =>
    simp only [CR] at h ⊢
    cases ho : ob[o]? with
    | none => rw [ho] at h; exact h.elim
    | some x =>
      rw [ho] at h
      obtain ⟨x', hx', hc⟩ := e.obs o x ho
      rw [hx']
      cases x <;> cases x' <;> simp only [compat] at hc <;> try exact h
      · rename_i t sz n g
        obtain ⟨A, cap, rfl, _⟩ := h
        rfl
      · rename_i t sz n g t' sz' n' g'
        subst hc
        obtain ⟨A, cap, rfl, h1, h2⟩ := h
        refine ⟨A, cap, rfl, h1, fun h0 => ?_⟩
        obtain ⟨b, base, h3, h4, h5⟩ := h2 h0
        exact ⟨b, base, (e.map o (lt_of_get ho)).trans h3, h4, Nat.le_trans h5 (e.bsz b)⟩
  | ptr o j =>
    simp only [CR] at h ⊢
    cases ho : ob[o]? with
    | none => rw [ho] at h; exact h.elim
    | some x =>
      rw [ho] at h
      obtain ⟨x', hx', hc⟩ := e.obs o x ho
      rw [hx']
      cases x <;> cases x' <;> simp only [compat] at hc <;> try exact h
      · obtain ⟨b, base, _, rfl⟩ := h; rfl
      · obtain ⟨b, base, h3, h4⟩ := h
        exact ⟨b, base, (e.map o (lt_of_get ho)).trans h3, h4⟩
  | eptr o i j =>
    simp only [CR] at h ⊢
    cases ho : ob[o]? with
    | none => rw [ho] at h; exact h.elim
    | some x =>
      rw [ho] at h
      obtain ⟨x', hx', hc⟩ := e.obs o x ho
      rw [hx']
      cases x <;> cases x' <;> simp only [compat] at hc <;> try exact h
      · obtain ⟨b, base, _, rfl⟩ := h; rfl
      · subst hc
        obtain ⟨b, base, h3, h4⟩ := h
        exact ⟨b, base, (e.map o (lt_of_get ho)).trans h3, h4⟩

/-- A slot: a cell, or a struct's cells; several results: of these. -/
def VA (w : World) (bad : Nat → Prop) (ob : List Ob) (m : Map) (c : V) (v : Value) : Prop :=
  match c with
  | .agg cs => ∃ us : List Value, v = .agg us.toArray ∧ All2 (CR w bad ob m) cs us
  | c => CR w bad ob m c v
def VR (w : World) (bad : Nat → Prop) (ob : List Ob) (m : Map) (c : V) (v : Value) : Prop :=
  match c with
  | .tup vs => ∃ us : List Value, v = .tuple us.toArray ∧ All2 (VA w bad ob m) vs us
  | c => VA w bad ob m c v

theorem VA.ext {w w' : World} {bad bad' : Nat → Prop} {ob ob' : List Ob} {m m' : Map} (e : Ext w w' bad bad' ob ob' m m') {c : V} {v : Value} (h : VA w bad ob m c v) : VA w' bad' ob' m' c v := by
  cases c with
  | agg cs => obtain ⟨us, rfl, h⟩ := h; exact ⟨us, rfl, h.mono fun _ _ => CR.ext e⟩
  | val u => exact CR.ext (c := .val u) e h
  | any => trivial
  | fz sz n g => exact CR.ext (c := .fz sz n g) e h
  | row o off len => exact CR.ext (c := .row o off len) e h
  | ptr o j => exact CR.ext (c := .ptr o j) e h
  | eptr o i j => exact CR.ext (c := .eptr o i j) e h
  | fptr cs => exact CR.ext (c := .fptr cs) e h
  | tup vs => exact h.elim
theorem VR.ext {w w' : World} {bad bad' : Nat → Prop} {ob ob' : List Ob} {m m' : Map} (e : Ext w w' bad bad' ob ob' m m') {c : V} {v : Value} (h : VR w bad ob m c v) : VR w' bad' ob' m' c v := by
  cases c with
  | tup cs => obtain ⟨us, rfl, h⟩ := h; exact ⟨us, rfl, h.mono fun _ _ => VA.ext e⟩
  | val u => exact VA.ext (c := .val u) e h
  | any => trivial
  | fz sz n g => exact VA.ext (c := .fz sz n g) e h
  | row o off len => exact VA.ext (c := .row o off len) e h
  | ptr o j => exact VA.ext (c := .ptr o j) e h
  | eptr o i j => exact VA.ext (c := .eptr o i j) e h
  | fptr cs => exact VA.ext (c := .fptr cs) e h
  | agg cs => exact VA.ext (c := .agg cs) e h

/-- An object and its block. -/
def OR (w : World) (bad : Nat → Prop) (ob : List Ob) (m : Map) (o : Nat) : Ob → Prop
  | .dead => True
  | .box ty cs => ∃ b arr, m o = some (b, 0) ∧ w.heap[b]? = some (.cells arr ty (0, 0)) ∧ All2 (CR w bad ob m) cs arr.toList
  | .row ty sz n g =>
    match m o with
    | none => n = 0
    | some (b, base) => ∃ arr, w.heap[b]? = some (.cells arr ty (0, 0)) ∧ ∀ k, k < n → (g k).length = sz ∧ ∀ j c, (g k)[j]? = some c → ∃ u, arr[base + k * sz + j]? = some u ∧ FR w bad c u

def Ob.live : Ob → Bool
  | .dead => false
  | _ => true

/-- The slots: n of them, f tells those that are known. -/
structure Tm where
  n : Nat
  f : Nat → Option V
def upd (n : Nat) (f : Nat → Option V) (d : Nat) (v : V) (i : Nat) : Option V := match Nat.beq i d with
  | true => match Nat.blt d n with
    | true => some v
    | false => f i
  | false => f i
def noT (_ : Nat) : Option V := none
def argT (vs : List V) (i : Nat) : Option V := vs[i]?
def Tm.set (t : Tm) (d : Nat) (v : V) : Tm := ⟨t.n, upd t.n t.f d v⟩
/-- Only the slots that are needed on. -/
def keepL (t : Tm) : List Nat → Tm
  | [] => ⟨t.n, noT⟩
  | i :: r => match t.f i with
    | some v => (keepL t r).set i v
    | none => keepL t r

structure St where
  tm : Tm
  ob : List Ob

structure TmR (R : V → Value → Prop) (t : Tm) (us : List Value) : Prop where
  len : us.length = t.n
  at' : ∀ i v, t.f i = some v → ∃ u, us[i]? = some u ∧ R v u
theorem TmR.get {R : V → Value → Prop} {t : Tm} {us : List Value} (h : TmR R t us) {i : Nat} {v : V} (hi : t.f i = some v) : ∃ u, us[i]? = some u ∧ R v u := h.at' i v hi
theorem TmR.mono {R R' : V → Value → Prop} {t : Tm} {us : List Value} (h : TmR R t us) (f : ∀ a b, R a b → R' a b) : TmR R' t us :=
  ⟨h.len, fun i v hi => let ⟨u, h1, h2⟩ := h.at' i v hi; ⟨u, h1, f _ _ h2⟩⟩
theorem TmR.none {R : V → Value → Prop} {n : Nat} {us : List Value} (h : us.length = n) : TmR R ⟨n, noT⟩ us := ⟨h, fun i v hi => by cases hi⟩
theorem upd_self {n : Nat} {f : Nat → Option V} {d : Nat} {v : V} (h : d < n) : upd n f d v d = some v := by
  have h1 : Nat.beq d d = true := Nat.beq_refl d
  have h2 : Nat.blt d n = true := by simpa using h
  simp only [upd, h1, h2]
theorem upd_out {n : Nat} {f : Nat → Option V} {d : Nat} {v : V} (h : ¬ d < n) : upd n f d v = f := by
  funext i
  have h2 : Nat.blt d n = false := by
    cases hb : Nat.blt d n with
    | false => rfl
    | true => exact absurd (by simpa using hb) h
  simp only [upd, h2]
  cases Nat.beq i d <;> rfl
theorem upd_ne {n : Nat} {f : Nat → Option V} {d i : Nat} {v : V} (h : i ≠ d) : upd n f d v i = f i := by
  have h1 : Nat.beq i d = false := by
    cases hb : Nat.beq i d with
    | false => rfl
    | true => exact absurd (Nat.eq_of_beq_eq_true hb) h
  simp only [upd, h1]
theorem TmR.set {R : V → Value → Prop} {t : Tm} {us : List Value} (h : TmR R t us) (d : Nat) {v : V} {u : Value} (hv : R v u) : TmR R (t.set d v) (us.set d u) := by
  refine ⟨by rw [List.length_set]; exact h.len, fun i v' hi => ?_⟩
  by_cases hd : d < t.n
  · by_cases hid : i = d
    · subst hid
      simp only [Tm.set, upd_self hd, Option.some.injEq] at hi
      subst hi
      exact ⟨u, by rw [List.getElem?_set_self (by rw [h.len]; exact hd)], hv⟩
    · simp only [Tm.set, upd_ne hid] at hi
      obtain ⟨u', h1, h2⟩ := h.at' i v' hi
      exact ⟨u', by rw [List.getElem?_set_ne (fun e => hid e.symm)]; exact h1, h2⟩
  · simp only [Tm.set, upd_out hd] at hi
    rw [List.set_eq_of_length_le (by rw [h.len]; omega)]
    exact h.at' i v' hi
theorem keepL_n {t : Tm} : ∀ {l : List Nat}, (keepL t l).n = t.n
  | [] => rfl
  | i :: r => by
    simp only [keepL]
    split
    · exact keepL_n (l := r)
    · exact keepL_n (l := r)
theorem keepL_sub {t : Tm} : ∀ {l : List Nat} {i : Nat} {v : V}, (keepL t l).f i = some v → t.f i = some v
  | [], i, v, h => by cases h
  | j :: r, i, v, h => by
    simp only [keepL] at h
    split at h
    · rename_i u hu
      by_cases hd : j < (keepL t r).n
      · by_cases hij : i = j
        · subst hij
          simp only [Tm.set, upd_self hd, Option.some.injEq] at h
          rw [hu, h]
        · simp only [Tm.set, upd_ne hij] at h
          exact keepL_sub h
      · simp only [Tm.set, upd_out hd] at h
        exact keepL_sub h
    · exact keepL_sub h
theorem TmR.keep {R : V → Value → Prop} {t : Tm} {us : List Value} (h : TmR R t us) (l : List Nat) : TmR R (keepL t l) us :=
  ⟨h.len.trans keepL_n.symm, fun i v hi => h.at' i v (keepL_sub hi)⟩

structure Ctx where
  P : Program
  w0 : World
  E : Nat → Prop
  L : Nat → Prop
  p : Nat
  m0 : Nat → Option (Nat × Nat)

def badOf (E : Nat → Prop) (ob : List Ob) (m : Map) (b : Nat) : Prop := E b ∨ ∃ (o : Nat) (x : Ob) (base : Nat), ob[o]? = some x ∧ x.live = true ∧ m o = some (b, base)

/-- The world since the call began: its old blocks, but those lent, are as they were. -/
structure Keep (C : Ctx) (w : World) : Prop where
  os : w.os = C.w0.os
  tape : w.tape = C.w0.tape
  output : w.output = C.w0.output
  size : C.w0.heap.size ≤ w.heap.size
  block : ∀ b, b < C.w0.heap.size → ¬ C.L b → w.heap[b]? = C.w0.heap[b]?

/-- All objects of a state lie as told. -/
structure Mem (C : Ctx) (ob : List Ob) (m : Map) (w : World) : Prop where
  ok : ∀ (o : Nat) (x : Ob), ob[o]? = some x → OR w (badOf C.E ob m) ob m o x
  inj : ∀ (o o' : Nat) (x x' : Ob) (b base base' : Nat), ob[o]? = some x → ob[o']? = some x' → x.live = true → x'.live = true → m o = some (b, base) → m o' = some (b, base') → o = o'
  blk : ∀ (o : Nat) (x : Ob) (b base : Nat), ob[o]? = some x → x.live = true → m o = some (b, base) → ¬ C.E b ∧ (C.w0.heap.size ≤ b ∨ C.L b) ∧ b < w.heap.size
  kp : Keep C w
  eb : ∀ b, C.E b → b < C.w0.heap.size
  pl : C.p ≤ ob.length
  pm : ∀ o, o < C.p → m o = C.m0 o

structure Rel (C : Ctx) (st : St) (m : Map) (a : Act) (w : World) : Prop where
  df : a.defers = []
  tm : TmR (VR w (badOf C.E st.ob m) st.ob m) st.tm a.tmps.toList
  mem : Mem C st.ob m w
end Go.Sim
namespace Go.Sim
open Go Go.RowKit

inductive TK where
  | sl (e : TypeId)
  | st (fs : List (Nat × TypeId))
  | int (k : IntKind)
  | str
  | bool
  | other
  deriving Inhabited

structure TI where
  size : Nat
  bytes : Nat
  zero : List Value
  kind : TK
  deriving Inhabited

abbrev Tab := List (Nat × TI)
def Tab.at (T : Tab) (t : Nat) : Option TI := match T with
  | [] => none
  | (k, i) :: r => match Nat.beq k t with | true => some i | false => Tab.at r t

def V.cells : V → List V
  | .agg cs => cs
  | v => [v]
def V.one : V → Bool
  | .val v => v.oneCell'
  | .any | .agg _ | .tup _ => false
  | _ => true

def opt {α : Type} (o : Option α) (f : α → Prop) : Prop := match o with
  | some a => f a
  | none => False
def br (b : Bool) (A B : Prop) : Prop := match b with
  | true => A
  | false => B

/-- The same for parts that are to be run one at a time. -/
def brT (b : Bool) (A B : Unit → Prop) : Prop := match b with
  | true => A ()
  | false => B ()
theorem brT_cases {b : Bool} {A B : Unit → Prop} (h : brT b A B) : (b = true ∧ A ()) ∨ (b = false ∧ B ()) := by
  cases b
  · exact .inr ⟨rfl, h⟩
  · exact .inl ⟨rfl, h⟩
/-- A rest for the run of a goal, each sixth slot. -/
def pause (d : Option Tmp) (K : Unit → Prop) : Prop := match d with
  | some d => match Nat.beq (Nat.mod d 6) 0 with
    | true => ∃ _ : True, K ()
    | false => K ()
  | none => K ()
theorem pause_out {d : Option Tmp} {K : Unit → Prop} (h : pause d K) : K () := by
  unfold pause at h
  split at h
  · split at h
    · exact h.2
    · exact h
  · exact h
theorem pause_in {d : Option Tmp} {K : Unit → Prop} (h : K ()) : pause d K := by
  unfold pause
  split
  · split
    · exact ⟨trivial, h⟩
    · exact h
  · exact h
/-- A truth value that is mostly known. -/
def caseB (b : Bool) (K : Bool → Prop) : Prop := match b with
  | true => K true
  | false => K false
theorem caseB_out {b : Bool} {K : Bool → Prop} (h : caseB b K) : K b := by cases b <;> exact h
theorem caseB_in {b : Bool} {K : Bool → Prop} (h : K b) : caseB b K := by cases b <;> exact h

def St.ev (s : St) : Operand → Option V
  | .tmp t => s.tm.f t
  | .const v => some (.val v)
  | .func f => some (.val (.func (.func f) #[] #[]))
  | .global _ => none

/-- The cells of an element of a row: what they lead to is only read from now on. -/
def frz (K : List V → List Ob → Prop) : List V → List V → List Ob → Prop
  | [], acc, ob => K acc ob
  | c :: cs, acc, ob => match c with
    | .val v => br v.oneCell' (frz K cs (acc ++ [.val v]) ob) False
    | .fz sz n g => frz K cs (acc ++ [.fz sz n g]) ob
    | .row o off len => match ob[o]? with
      | some (.row _ sz n g) => ∃ _ : off + len ≤ n, ∃ g', (∀ k, k < len → g' k = g (k + off)) ∧ frz K cs (acc ++ [.fz sz len g']) (ob.set o .dead)
      | _ => False
    | _ => False

/-- Elements to be put into a row, one behind the other. -/
def frzs (K : List (List V) → List Ob → Prop) : List (List V) → List (List V) → List Ob → Prop
  | [], acc, ob => K acc ob
  | e :: es, acc, ob => frz (fun e' ob' => frzs K es (acc ++ [e']) ob') e [] ob

/-- A value whose rows are only read from now on. -/
def one1 (K : V → List Ob → Prop) : List V → List Ob → Prop
  | [c], ob => K c ob
  | _, _ => False
def frzA (K : V → List Ob → Prop) (v : V) (ob : List Ob) : Prop := match v with
  | .agg cs => frz (fun cs' ob' => K (.agg cs') ob') cs [] ob
  | c => frz (one1 K) [c] [] ob
def frzAs (K : List V → List Ob → Prop) : List V → List V → List Ob → Prop
  | [], acc, ob => K acc ob
  | v :: vs, acc, ob => frzA (fun v' ob' => frzAs K vs (acc ++ [v']) ob') v ob
def frzV (K : V → List Ob → Prop) (v : V) (ob : List Ob) : Prop := match v with
  | .tup vs => frzAs (fun vs' ob' => K (.tup vs') ob') vs [] ob
  | v => frzA K v ob
inductive Frz where
  | own
  | frozen

/-- A struct's cells with its parts. -/
def fillA (T : Tab) (fs : List (Nat × TypeId)) : List (Nat × V) → List V → Option (List V)
  | [], cs => some cs
  | (i, v) :: rest, cs => match fs[i]? with
    | none => none
    | some (off, t) => match T.at t with
      | none => none
      | some ti => match Nat.beq v.cells.length ti.size, Nat.ble (off + ti.size) cs.length with
        | true, true => fillA T fs rest (cs.take off ++ v.cells ++ cs.drop (off + ti.size))
        | _, _ => none

def evAll (s : St) : List (Nat × Operand) → Option (List (Nat × V))
  | [] => some []
  | (i, x) :: r => match s.ev x, evAll s r with
    | some v, some l => some ((i, v) :: l)
    | _, _ => none

def evs (s : St) : List Operand → Option (List V)
  | [] => some []
  | x :: r => match s.ev x, evs s r with
    | some v, some l => some (v :: l)
    | _, _ => none

/-- Two values of one kind of integers. -/
def same (k k' : IntKind) (K : Prop) : Prop := br (decide (k = k')) K False
def binA (op : BinOp) (x y : Value) (K : Value → Prop) : Prop :=
  match x, y with
  | .int k a, .int k' b => match op with
    | .add => same k k' (∀ n, n = k.wrap (a + b) → K (.int k n))
    | .sub => same k k' (∀ n, n = k.wrap (a - b) → K (.int k n))
    | .mul => same k k' (∀ n, n = k.wrap (a * b) → K (.int k n))
    | .quo => same k k' (∃ _ : b ≠ 0, ∀ n, n = k.wrap (a.tdiv b) → K (.int k n))
    | .rem => same k k' (∃ _ : b ≠ 0, ∀ n, n = a.tmod b → K (.int k n))
    | .eql => same k k' (∀ d, (a == b) = d → K (.bool d))
    | .neq => same k k' (∀ d, (a != b) = d → K (.bool d))
    | .lss => same k k' (∀ d, (decide (a < b)) = d → K (.bool d))
    | .leq => same k k' (∀ d, (decide (a ≤ b)) = d → K (.bool d))
    | .gtr => same k k' (∀ d, (decide (b < a)) = d → K (.bool d))
    | .geq => same k k' (∀ d, (decide (b ≤ a)) = d → K (.bool d))
    | .and => same k k' (∀ n, n = k.wrap (BitVec.ofInt k.bits a &&& BitVec.ofInt k.bits b).toNat → K (.int k n))
    | .or => same k k' (∀ n, n = k.wrap (BitVec.ofInt k.bits a ||| BitVec.ofInt k.bits b).toNat → K (.int k n))
    | .shl => ∃ _ : 0 ≤ b, ∀ n, n = k.wrap (a * 2 ^ (min b.toNat k.bits)) → K (.int k n)
    | .shr => ∃ _ : 0 ≤ b, ∀ n, n = a.fdiv (2 ^ (min b.toNat k.bits)) → K (.int k n)
    | _ => False
  | .string a, .string b => match op with
    | .add => ∃ _ : a.size + b.size ≤ 9223372036854775807, ∀ z, z = a ++ b → K (.string z)
    | .eql => ∀ d, (a.toList == b.toList) = d → K (.bool d)
    | .neq => ∀ d, (!(a.toList == b.toList)) = d → K (.bool d)
    | _ => False
  | _, _ => False

def eqCells : List V → List V → Option Bool
  | [.val (.int .i64 a)], [.val (.int .i64 b)] => some (a == b)
  | .val (.int .i64 a) :: as, .val (.int .i64 b) :: bs => match eqCells as bs with
    | some r => some (a == b && r)
    | none => none
  | _, _ => none
def neCells : List V → List V → Option Bool
  | [.val (.int .i64 a)], [.val (.int .i64 b)] => some (!(a == b))
  | .val (.int .i64 a) :: as, .val (.int .i64 b) :: bs => match neCells as bs with
    | some r => some (!(a == b) || r)
    | none => none
  | _, _ => none
/-- Structs of whole numbers alone. -/
def flatK (T : Tab) : Nat → List (Nat × TypeId) → Bool
  | 0, _ => false
  | k + 1, fs => fs.all fun p => match T.at p.2 with
    | some { kind := .int .i64, .. } => true
    | some { kind := .st gs, .. } => flatK T k gs
    | _ => false

/-- What an append takes its elements from. -/
def srcA (ob : List Ob) : V → (Nat → Nat → (Nat → List V) → Prop) → Prop
  | .row o off len, K => match ob[o]? with
    | some (.row _ sz n g) => ∃ _ : off + len ≤ n, K sz len (fun k => g (k + off))
    | _ => False
  | .fz sz n g, K => K sz n g
  | _, _ => False

/-- The upper bound of a slice. -/
def hiA (s : St) (hi : Option Operand) (len : Nat) (K : Int → Prop) : Prop := match hi with
  | none => ∀ h, h = (len : Int) → K h
  | some x => match s.ev x with
    | some (.val (.int _ h)) => K h
    | _ => False

/-- What an operation answers, and the state behind it. -/
def opA (T : Tab) (CALL : FuncId → List V → St → (V → St → Prop) → Prop) (op : Op) (s : St) (K : V → St → Prop) : Prop :=
  match op with
  | .move x | .assign x => opt (s.ev x) fun v => K v s
  | .pick c a b => match s.ev c with
    | some (.val (.bool t)) => br t (opt (s.ev a) fun v => K v s) (opt (s.ev b) fun v => K v s)
    | _ => False
  | .alloc t => opt (T.at t) fun i => K (.ptr s.ob.length 0) { s with ob := s.ob ++ [.box t (i.zero.map .val)] }
  | .box t x => opt (s.ev x) fun v => br (v.cells.all V.one) (K (.ptr s.ob.length 0) { s with ob := s.ob ++ [.box t v.cells] }) False
  | .build t parts => match T.at t with
    | some { kind := .st fs, zero := z, .. } => opt (evAll s parts.toList) fun vs => br (vs.all fun p => p.2.cells.all V.one) (opt (fillA T fs vs (z.map .val)) fun cs => K (.agg cs) s) False
    | _ => False
  | .buildSlice t len parts => match T.at t with
    | some { kind := .sl e, .. } => opt (T.at e) fun i => opt (evAll s parts.toList) fun vs =>
        br (Nat.ble (len * i.size) 16777216 && Nat.ble 1 i.size && Nat.beq vs.length len && (vs.zipIdx.all fun p => Nat.beq p.1.1 p.2 && Nat.beq p.1.2.cells.length i.size) && vs.all fun p => p.2.cells.all V.one)
          (frzs (fun es ob => ∃ g', (∀ k, k < len → g' k = es.getD k []) ∧ K (.row ob.length 0 len) { s with ob := ob ++ [.row e i.size len g'] }) (vs.map fun p => p.2.cells) [] s.ob) False
    | _ => False
  | .load t p => opt (T.at t) fun i => match s.ev p with
    | some (.ptr o j) => match s.ob[o]? with
      | some (.box _ cs) => match i.kind with
        | .st _ => br (Nat.ble (j + i.size) cs.length) (K (.agg ((cs.drop j).take i.size)) s) False
        | _ => opt cs[j]? fun c => K c s
      | _ => False
    | some (.eptr o k j) => match s.ob[o]? with
      | some (.row _ sz n g) => ∃ _ : k < n, ∀ cs, cs = g k → match i.kind with
        | .st _ => br (Nat.ble (j + i.size) sz) (K (.agg ((cs.drop j).take i.size)) s) False
        | _ => opt cs[j]? fun c => K c s
      | _ => False
    | some (.fptr cs) => match i.kind with
      | .st _ => br (Nat.ble i.size cs.length) (K (.agg (cs.take i.size)) s) False
      | _ => opt cs[0]? fun c => K c s
    | _ => False
  | .store t p x => opt (T.at t) fun i => opt (s.ev x) fun v => br (Nat.beq v.cells.length i.size && v.cells.all V.one) (match s.ev p with
    | some (.ptr o j) => match s.ob[o]? with
      | some (.box ty cs) => br (Nat.ble (j + i.size) cs.length) (K (.val undef) { s with ob := s.ob.set o (.box ty (cs.take j ++ v.cells ++ cs.drop (j + i.size))) }) False
      | _ => False
    | some (.eptr o k j) => frz (fun cells ob => match ob[o]? with
      | some (.row ty sz n g) => br (Nat.ble (j + i.size) sz && Nat.ble 1 i.size) (∃ _ : k < n, ∃ g', (∀ q, q < n → g' q = if q = k then (g q).take j ++ cells ++ (g q).drop (j + i.size) else g q) ∧ K (.val undef) { s with ob := ob.set o (.row ty sz n g') }) False
      | _ => False) v.cells [] s.ob
    | _ => False) False
  | .indexAddr t x ix => match T.at t, s.ev ix with
    | some { kind := .sl e, .. }, some (.val (.int _ q)) => opt (T.at e) fun i => match s.ev x with
      | some (.row o off len) => match s.ob[o]? with
        | some (.row _ sz _ _) => br (Nat.beq sz i.size) (∃ _ : 0 ≤ q, ∃ _ : q < (len : Int), ∀ k, k = q.toNat + off → K (.eptr o k 0) s) False
        | _ => False
      | some (.fz sz n g) => br (Nat.beq sz i.size) (∃ _ : 0 ≤ q, ∃ _ : q < (n : Int), ∀ cs, cs = g q.toNat → K (.fptr cs) s) False
      | _ => False
    | _, _ => False
  | .fieldAddr t x f => match T.at t with
    | some { kind := .st fs, .. } => opt fs[f]? fun p => opt (T.at p.2) fun i => br (Nat.ble 1 i.size) (match s.ev x with
      | some (.ptr o j) => match s.ob[o]? with
        | some (.box _ _) => K (.ptr o (j + p.1)) s
        | _ => False
      | some (.eptr o k j) => match s.ob[o]? with
        | some (.row _ _ _ _) => K (.eptr o k (j + p.1)) s
        | _ => False
      | some (.fptr cs) => K (.fptr (cs.drop p.1)) s
      | _ => False) False
    | _ => False
  | .field t x f => match T.at t with
    | some { kind := .st fs, .. } => opt fs[f]? fun p => opt (T.at p.2) fun i => match s.ev x with
      | some (.agg cs) => match i.kind with
        | .st _ => br (Nat.ble (p.1 + i.size) cs.length) (K (.agg ((cs.drop p.1).take i.size)) s) False
        | _ => opt cs[p.1]? fun c => K c s
      | _ => False
    | _ => False
  | .index t x ix => match T.at t, s.ev x, s.ev ix with
    | some { kind := .str, .. }, some (.val (.string z)), some (.val (.int _ q)) => ∃ _ : 0 ≤ q, ∃ _ : q < (z.size : Int), ∀ b, b = ((z.data.getD q.toNat 0).toNat : Int) → K (.val (.int .u8 b)) s
    | _, _, _ => False
  | .slice t x lo hi mx => match T.at t, mx, (lo.map s.ev).getD (some (.val (.int .i64 0))) with
    | some { kind := .str, .. }, none, some (.val (.int _ l)) => match s.ev x with
      | some (.val (.string z)) => hiA s hi z.size fun h => ∃ _ : 0 ≤ l, ∃ _ : l ≤ h, ∃ _ : h ≤ (z.size : Int), ∀ y, y = z.extract l.toNat h.toNat → K (.val (.string y)) s
      | _ => False
    | some { kind := .sl e, .. }, none, some (.val (.int _ l)) => opt (T.at e) fun i => match s.ev x with
      | some (.row o off len) => match s.ob[o]? with
        | some (.row _ sz _ _) => br (Nat.beq sz i.size) (hiA s hi len fun h => ∃ _ : 0 ≤ l, ∃ _ : l ≤ h, ∃ _ : h ≤ (len : Int), ∀ off' n', off' = l.toNat + off → n' = h.toNat - l.toNat → K (.row o off' n') s) False
        | _ => False
      | some (.fz sz n g) => br (Nat.beq sz i.size) (hiA s hi n fun h => ∃ _ : 0 ≤ l, ∃ _ : l ≤ h, ∃ _ : h ≤ (n : Int), ∀ n', n' = h.toNat - l.toNat → ∃ g', (∀ k, k < n' → g' k = g (k + l.toNat)) ∧ K (.fz sz n' g') s) False
      | _ => False
    | _, _, _ => False
  | .extract x i => match s.ev x with
    | some (.tup vs) => opt vs[i]? fun v => K v s
    | _ => False
  | .makeSlice t l c => match T.at t, s.ev l, s.ev c with
    | some { kind := .sl e, .. }, some (.val (.int _ a)), some (.val (.int _ b)) => opt (T.at e) fun i => ∃ _ : 0 ≤ a, ∃ _ : a ≤ b, ∃ _ : (i.bytes : Int) * b ≤ 281474976710656, ∃ _ : b ≤ 9223372036854775807, ∀ n, n = a.toNat →
        ∃ g', (∀ k, k < n → g' k = i.zero.map .val) ∧ K (.row s.ob.length 0 n) { s with ob := s.ob ++ [.row e i.size n g'] }
    | _, _, _ => False
  | .binOp op t x y _ => match s.ev x, s.ev y with
    | some (.val (.bool a)), some (.val (.bool b)) => match op, T.at t with
      | .eql, some { kind := .bool, .. } => caseB (a == b) fun d => K (.val (.bool d)) s
      | .neq, some { kind := .bool, .. } => caseB (!(a == b)) fun d => K (.val (.bool d)) s
      | _, _ => False
    | some (.val a), some (.val b) => binA op a b fun v => K (.val v) s
    | some (.agg as), some (.agg bs) => match op, T.at t with
      | .eql, some { kind := .st fs, size := n, .. } => br (flatK T 3 fs && Nat.beq as.length n && Nat.beq bs.length n && (eqCells as bs).isSome) (∀ d, eqCells as bs = some d → K (.val (.bool d)) s) False
      | .neq, some { kind := .st fs, size := n, .. } => br (flatK T 3 fs && Nat.beq as.length n && Nat.beq bs.length n && (neCells as bs).isSome) (∀ d, neCells as bs = some d → K (.val (.bool d)) s) False
      | _, _ => False
    | _, _ => False
  | .unOp op _ x => match op, s.ev x with
    | .not, some (.val (.bool b)) => caseB (!b) fun d => K (.val (.bool d)) s
    | .neg, some (.val (.int k n)) => ∀ n', n' = k.wrap (0 - n) → K (.val (.int k n')) s
    | _, _ => False
  | .convert src dst x => match T.at src, T.at dst, s.ev x with
    | some _, some { kind := .int k, .. }, some (.val (.int _ n)) => ∀ n', n' = k.wrap n → K (.val (.int k n')) s
    | _, _, _ => False
  | .nilCheck x => match s.ev x with
    | some (.ptr o j) => match s.ob[o]? with
      | some (.box _ _) => K (.ptr o j) s
      | _ => False
    | some (.eptr o k j) => match s.ob[o]? with
      | some (.row _ _ _ _) => K (.eptr o k j) s
      | _ => False
    | some (.fptr cs) => K (.fptr cs) s
    | _ => False
  | .call { callee := .builtin .len, args := as, argTypes := ts } => match as.toList, (ts.toList.head?.bind T.at) with
    | [x], some { kind := .sl _, .. } => match s.ev x with
      | some (.row o _ len) => match s.ob[o]? with
        | some (.row _ _ _ _) => ∀ n', n' = (len : Int) → K (.val (.int .i64 n')) s
        | _ => False
      | some (.fz _ n _) => ∀ n', n' = (n : Int) → K (.val (.int .i64 n')) s
      | some (.val (.slice none 0 0)) => K (.val (.int .i64 0)) s
      | _ => False
    | [x], some { kind := .str, .. } => match s.ev x with
      | some (.val (.string z)) => ∀ n', n' = (z.size : Int) → K (.val (.int .i64 n')) s
      | _ => False
    | _, _ => False
  | .call { callee := .builtin .max, args := as, .. } => match as.toList with
    | [x, y] => match s.ev x, s.ev y with
      | some (.val (.int k a)), some (.val (.int k' b)) => same k k' (∀ n, n = (if a < b then b else a) → K (.val (.int k n)) s)
      | _, _ => False
    | _ => False
  | .call { callee := .builtin .min, args := as, .. } => match as.toList with
    | [x, y] => match s.ev x, s.ev y with
      | some (.val (.int k a)), some (.val (.int k' b)) => same k k' (∀ n, n = (if b < a then b else a) → K (.val (.int k n)) s)
      | _, _ => False
    | _ => False
  | .call { callee := .builtin .append, args := as, argTypes := ts } => match as.toList, ts.toList with
    | [x, y], [t, u] => br (Nat.beq t u) (match T.at t with
      | some { kind := .sl e, .. } => opt (T.at e) fun i => opt (s.ev y) fun vy => srcA s.ob vy fun sz m gx => br (Nat.beq sz i.size && Nat.ble 1 i.size) (match s.ev x with
        | some (.row o off len) => match s.ob[o]? with
          | some (.row ty sz n g) => br (Nat.beq sz i.size && Nat.beq ty e) (∃ _ : off + len ≤ n, ∃ _ : (len + m) * i.bytes ≤ 140737488355328, ∃ _ : len + m ≤ 9223372036854775807, ∀ n', n' = len + m →
              ∃ g', (∀ k, k < n' → g' k = if k < len then g (k + off) else gx (k - len)) ∧ K (.row s.ob.length 0 n') { s with ob := s.ob.set o .dead ++ [.row e i.size n' g'] }) False
          | _ => False
        | some (.val (.slice none 0 0)) => ∃ _ : m * i.bytes ≤ 140737488355328, ∃ _ : m ≤ 9223372036854775807, ∃ g', (∀ k, k < m → g' k = gx k) ∧ K (.row s.ob.length 0 m) { s with ob := s.ob ++ [.row e i.size m g'] }
        | _ => False) False
      | _ => False) False
    | _, _ => False
  | .call { callee := .value f, args := as, .. } => match s.ev f with
    | some (.val (.func (.func n) fs cs)) => br (fs.isEmpty && cs.isEmpty) (opt (evs s as.toList) fun vs => CALL n vs s fun v s' => ∃ f : Frz, match f with
      | .own => K v s'
      | .frozen => frzV (fun v' ob' => K v' { s' with ob := ob' }) v s'.ob) False
    | _ => False
  | _ => False

def pureOp : Op → Bool
  | .move _ | .assign _ | .pick .. | .extract .. | .unOp .. | .convert .. | .nilCheck _ | .load .. | .fieldAddr .. | .indexAddr .. | .field .. | .index .. | .slice .. | .binOp .. => true
  | .call { callee := .builtin .len, .. } => true
  | .call { callee := .builtin .max, .. } => true
  | .call { callee := .builtin .min, .. } => true
  | _ => false

inductive Ex where
  | normal
  | exit (id : Nat)
  | ret

def St.put (s : St) (d : Option Tmp) (v : V) : St := match d with
  | some d => { s with tm := s.tm.set d v }
  | none => s

inductive Own where
  | kept
  | row
inductive Fate where
  | kept
  | dead

/-- The nil slice may be taken for an empty row of the call's own. -/
def nilA (T : Tab) (t : TypeId) (v : V) (s : St) (K : V → St → Prop) : Prop := match v with
  | .val (.slice none 0 0) => match T.at t with
    | some { kind := .sl e, .. } => opt (T.at e) fun i => ∃ own : Own, match own with
      | .kept => K v s
      | .row => K (.row s.ob.length 0 0) { s with ob := s.ob ++ [.row e i.size 0 (fun _ => [])] }
    | _ => K v s
  | v => K v s

/-- The operations of a region, in the order of the text. -/
def opsA (T : Tab) (CALL : FuncId → List V → St → (V → St → Prop) → Prop) (all : List Oper) (K : St → Prop) : List Oper → St → Prop
  | [], s => K s
  | o :: rest, s => pause o.dst fun _ => match o.guard with
    | none => opA T CALL o.op s fun v s' => nilA T o.type v s' fun v s' => opsA T CALL all K rest (s'.put o.dst v)
    | some (j, want) => match (all[j]?).bind (·.dst) with
      | none => False
      | some d => match s.tm.f d with
        | some (.val (.bool b)) => brT (b == want) (fun _ => opA T CALL o.op s fun v s' => nilA T o.type v s' fun v s' => opsA T CALL all K rest (s'.put o.dst v)) (fun _ => opsA T CALL all K rest (s.put o.dst (.val undef)))
        | some (.val (.tuple _)) => opsA T CALL all K rest (s.put o.dst (.val undef))
        | _ => False
end Go.Sim
namespace Go.Sim
open Go Go.RowKit

/-! ### Regions whose order is drawn: their operations on memory one behind the other, the others where they may -/
/-- An operation that leaves memory alone. -/
def stillOp : Op → Bool
  | .build .. => true
  | op => pureOp op

/-- The objects that a value names. -/
def namesC : V → List Nat
  | .row o _ _ | .ptr o _ | .eptr o _ _ => [o]
  | _ => []
def namesV : Option V → List Nat
  | some v => namesC v
  | none => []
/-- The objects that an operation looks at: at what they hold, or only at what they are. -/
def namesOf (s : St) : Op → List (Nat × Bool)
  | .load _ p => (namesV (s.ev p)).map fun o => (o, true)
  | .fieldAddr _ x _ | .nilCheck x | .indexAddr _ x _ | .slice _ x _ _ _ => (namesV (s.ev x)).map fun o => (o, false)
  | .call { callee := .builtin .len, args := as, .. } => match as.toList with
    | [x] => (namesV (s.ev x)).map fun o => (o, false)
    | _ => []
  | _ => []
def weakOb : Ob → Ob
  | .dead => .dead
  | .box ty _ => .box ty []
  | .row ty sz _ _ => .row ty sz 0 (fun _ => [])
def agr (a b : List Ob) (x : Nat × Bool) : Prop := match x.2 with
  | true => a[x.1]? = b[x.1]?
  | false => (a[x.1]?).map weakOb = (b[x.1]?).map weakOb

/-- One operation of a region, with its guard. -/
def stepC (T : Tab) (CALL : FuncId → List V → St → (V → St → Prop) → Prop) (all : List Oper) (o : Oper) (s : St) (K : V → St → Prop) : Prop :=
  match o.guard with
  | none => match stillOp o.op with
    | true => opA T CALL o.op s fun v s' => K v s'
    | false => opA T CALL o.op s fun v s' => nilA T o.type v s' fun v s' => K v s'
  | some (j, want) => match (all[j]?).bind (·.dst) with
    | none => False
    | some d => match s.tm.f d with
      | some (.val (.bool b)) => brT (b == want) (fun _ => match stillOp o.op with
        | true => opA T CALL o.op s fun v s' => K v s'
        | false => opA T CALL o.op s fun v s' => nilA T o.type v s' fun v s' => K v s') (fun _ => K (.val undef) s)
      | some (.val (.tuple _)) => K (.val undef) s
      | _ => False

def agreeN (a b : List Ob) (K : Prop) : List (Nat × Bool) → Prop
  | [] => K
  | (o, true) :: r => ∃ _ : a[o]? = b[o]?, agreeN a b K r
  | (o, false) :: r => ∃ _ : (a[o]?).map weakOb = (b[o]?).map weakOb, agreeN a b K r
/-- What a still operation looks at is the same at all times at which it may come up. -/
def agreeP (obs : List (List Ob)) (nms : List (List (Nat × Bool))) (K : Prop) : List (Nat × Nat) → Prop
  | [] => K
  | (i, k) :: r => agreeN (obs.getD k []) (obs.getD i []) (agreeP obs nms K r) (nms.getD i [])

def chainA (T : Tab) (CALL : FuncId → List V → St → (V → St → Prop) → Prop) (all : List Oper) (ws : List (Nat × Nat)) (K : St → Prop) : List Oper → List (List Ob) → List (List (Nat × Bool)) → St → Prop
  | [], obs, nms, s => agreeP obs nms (K s) ws
  | o :: rest, obs, nms, s => pause o.dst fun _ => stepC T CALL all o s fun v s' => chainA T CALL all ws K rest (obs ++ [s'.ob]) (nms ++ [namesOf s o.op]) (s'.put o.dst v)

def addTo (l : List Nat) (x : Nat) : List Nat := match l.contains x with
  | true => l
  | false => x :: l
/-- For each operation, those that come up ahead of it in any order. -/
def ancs : List Oper → List (List Nat) → List (List Nat)
  | [], acc => acc
  | o :: r, acc => ancs r (acc ++ [(o.after.toList.filter (Region.binds .any)).foldl (fun l e => (e.on :: acc.getD e.on []).foldl addTo l) []])

def stillAt (L : List Oper) (i : Nat) : Bool := match L[i]? with
  | some o => stillOp o.op
  | none => true
def dstIs (L : List Oper) (j t : Nat) : Bool := match L[j]? with
  | some o => o.dst == some t
  | none => false
/-- Still operation i may come up when the operations on memory ahead of k have, and no others. -/
def winB (L : List Oper) (an : List (List Nat)) (i k : Nat) : Bool :=
  (List.range L.length).all fun j => stillAt L j || ((!((an.getD i []).contains j) || Nat.blt j k) && (!(Nat.blt j k) || !((an.getD j []).contains i)))
def nearB (L : List Oper) (k i : Nat) : Bool := Nat.ble k i && (List.range L.length).all fun j => stillAt L j || Nat.blt j k || Nat.ble i j
def chainB (L : List Oper) (an : List (List Nat)) (ws : List (Nat × Nat)) : Bool :=
  (List.range L.length).all fun i => match L[i]? with
    | none => false
    | some o =>
      (an.getD i []).all (fun j => o.after.toList.any fun e => Region.binds .any e && (Nat.beq e.on j || (an.getD e.on []).contains j)) &&
      o.after.toList.all (fun e => !Region.binds .any e || Nat.blt e.on i) &&
      (o.looksAt L.toArray).all (fun t => (List.range L.length).all fun j => !dstIs L j t || (an.getD i []).contains j) &&
      (List.range i).all (fun j => (match o.dst with | some t => !dstIs L j t | none => true) && (stillOp o.op || stillAt L j || (an.getD i []).contains j)) &&
      (!stillOp o.op || (0 :: (List.range L.length).filterMap fun j => if stillAt L j then none else some (j + 1)).all fun k => !winB L an i k || nearB L k i || ws.contains (i, k))
end Go.Sim
namespace Go.Sim
open Go Go.RowKit

def pos (o : Nat) : List Nat → Option Nat
  | [] => none
  | x :: xs => match Nat.beq o x with
    | true => some 0
    | false => (pos o xs).map (· + 1)
def nodup : List Nat → Bool
  | [] => true
  | x :: xs => (pos x xs).isNone && nodup xs

/-- A cell under other names of the objects: those of ids, in its order. -/
def renC (ids : List Nat) : V → Option V
  | .val v => some (.val v)
  | .any => some .any
  | .fz sz n g => some (.fz sz n g)
  | .row o off len => (pos o ids).map fun p => .row p off len
  | .ptr o j => (pos o ids).map fun p => .ptr p j
  | .eptr o i j => (pos o ids).map fun p => .eptr p i j
  | .fptr cs => some (.fptr cs)
  | _ => none
def renCs (ids : List Nat) : List V → Option (List V)
  | [] => some []
  | c :: cs => match renC ids c, renCs ids cs with
    | some c, some cs => some (c :: cs)
    | _, _ => none
def renA (ids : List Nat) : V → Option V
  | .agg cs => (renCs ids cs).map .agg
  | c => renC ids c
def renAs (ids : List Nat) : List V → Option (List V)
  | [] => some []
  | c :: cs => match renA ids c, renAs ids cs with
    | some c, some cs => some (c :: cs)
    | _, _ => none
def renV (ids : List Nat) : V → Option V
  | .tup vs => (renAs ids vs).map .tup
  | c => renA ids c
def renO (ids : List Nat) : Ob → Option Ob
  | .dead => some .dead
  | .box ty cs => (renCs ids cs).map (.box ty)
  | .row ty sz n g => some (.row ty sz n g)
def renOs (ids : List Nat) (ob : List Ob) : List Nat → Option (List Ob)
  | [] => some []
  | o :: os => match ob[o]?, renOs ids ob os with
    | some x, some r => (renO ids x).map (· :: r)
    | _, _ => none
/-- The slots that are needed on, the others forgotten. -/
def keepTm (ids : List Nat) (t : Tm) : List Nat → Option Tm
  | [] => some ⟨t.n, noT⟩
  | i :: l => match t.f i with
    | none => keepTm ids t l
    | some c => match renV ids c, keepTm ids t l with
      | some c, some r => some (r.set i c)
      | _, _ => none
/-- The state of what is needed on: slots 'live', objects 'ids' under new names. -/
def pre : Nat → Nat → List Nat → Bool
  | _, 0, _ => true
  | i, p + 1, x :: xs => Nat.beq x i && pre (i + 1) p xs
  | _, _ + 1, [] => false
def canon (p : Nat) (live ids : List Nat) (s : St) (K : St → Prop) : Prop :=
  br (nodup ids && pre 0 p ids) (opt (keepTm ids s.tm live) fun tm => opt (renOs ids s.ob ids) fun ob => K ⟨tm, ob⟩) False

/-- The objects that the needed slots lead to: those lent, then in the order of the slots. -/
def refsC : V → List Nat
  | .row o _ _ | .ptr o _ | .eptr o _ _ => [o]
  | _ => []
def refsA : V → List Nat
  | .agg cs => cs.flatMap refsC
  | c => refsC c
def refsV : V → List Nat
  | .tup vs => vs.flatMap refsA
  | c => refsA c
def reach (ob : List Ob) : Nat → List Nat → List Nat → List Nat
  | 0, _, acc => acc
  | _, [], acc => acc
  | f + 1, o :: q, acc => match pos o acc with
    | some _ => reach ob f q acc
    | none => match ob[o]? with
      | some (.box _ cs) => reach ob f (q ++ cs.flatMap refsC) (acc ++ [o])
      | _ => reach ob f q (acc ++ [o])
def liveRefs (tm : Tm) : List Nat → List Nat
  | [] => []
  | i :: r => match tm.f i with
    | some v => refsV v ++ liveRefs tm r
    | none => liveRefs tm r
def idsOf (p : Nat) (live : List Nat) (s : St) : List Nat := reach s.ob 200 (liveRefs s.tm live) (List.range p)
/-- The state at the head of a loop. -/
def canonA (p : Nat) (live : List Nat) (s : St) (K : St → Prop) : Prop := canon p live (idsOf p live s) s K

/-- An argument as the callee sees it: rows of the caller's own are only read, boxes that are lent are the callee's own. -/
def expC (lend : List Nat) (ob : List Ob) (c : V) (K : V → Prop) : Prop := match c with
  | .val v => K (.val v)
  | .fz sz n g => K (.fz sz n g)
  | .row o off len => match ob[o]? with
    | some (.row _ sz n g) => ∃ _ : off + len ≤ n, ∃ g', (∀ k, k < len → g' k = g (k + off)) ∧ K (.fz sz len g')
    | _ => False
  | .ptr o j => match pos o lend with
    | some p => K (.ptr p j)
    | none => False
  | _ => False
def expCs (lend : List Nat) (ob : List Ob) (K : List V → Prop) : List V → List V → Prop
  | [], acc => K acc
  | c :: cs, acc => expC lend ob c fun c' => expCs lend ob K cs (acc ++ [c'])
def expA (lend : List Nat) (ob : List Ob) (c : V) (K : V → Prop) : Prop := match c with
  | .agg cs => expCs lend ob (fun cs' => K (.agg cs')) cs []
  | c => expC lend ob c K
def expAs (lend : List Nat) (ob : List Ob) (K : List V → Prop) : List V → List V → Prop
  | [], acc => K acc
  | c :: cs, acc => expA lend ob c fun c' => expAs lend ob K cs (acc ++ [c'])

def rowsC : V → List Nat
  | .row o _ _ => [o]
  | _ => []
def rowsA : V → List Nat
  | .agg cs => cs.flatMap rowsC
  | c => rowsC c
/-- What is told of a result leads to no memory that is only read. -/
def cleanC : V → Bool
  | .val _ | .row _ _ _ | .ptr _ _ => true
  | _ => false
def cleanA : V → Bool
  | .agg cs => cs.all cleanC
  | c => cleanC c
def cleanV : V → Bool
  | .tup vs => vs.all cleanA
  | c => cleanA c
def cleanO : List Ob → Prop
  | [] => True
  | .dead :: r => cleanO r
  | .box _ cs :: r => br (cs.all cleanC) (cleanO r) False
  | .row _ _ n g :: r => (∀ k, k < n → (g k).all cleanC = true) ∧ cleanO r

/-- A box that may be lent: its cells lead to nothing of the call's own. -/
def flatC : V → Bool
  | .val v => v.oneCell'
  | .fz _ _ _ => true
  | _ => false
def flatO : Ob → Bool
  | .box _ cs => cs.all flatC
  | _ => false

/-- An answer's names in the caller: p were lent, the others are new. -/
def inC (lend : List Nat) (N : Nat) : V → V
  | .row o off len => .row (o - lend.length + N) off len
  | .ptr o j => .ptr (lend.getD o 0) j
  | c => c
def inA (lend : List Nat) (N : Nat) : V → V
  | .agg cs => .agg (cs.map (inC lend N))
  | c => inC lend N c
def inV (lend : List Nat) (N : Nat) : V → V
  | .tup vs => .tup (vs.map (inA lend N))
  | c => inA lend N c
/-- An answer's form: rows that are new, or addresses of boxes that were lent. -/
def ansC (p q : Nat) : V → Bool
  | .val _ => true
  | .fz _ _ _ => true
  | .row o _ _ => Nat.ble p o && Nat.blt o q
  | .ptr o _ => Nat.blt o p
  | _ => false
def ansA (p q : Nat) : V → Bool
  | .agg cs => cs.all (ansC p q)
  | c => ansC p q c
def ansV (p q : Nat) : V → Bool
  | .tup vs => vs.all (ansA p q)
  | c => ansA p q c
def ansO : List Ob → Bool
  | [] => true
  | .row _ _ _ _ :: r => ansO r
  | _ => false

def sameLens : List Ob → List Ob → Bool
  | .box _ cs :: r, .box _ cs' :: r' => Nat.beq cs.length cs'.length && sameLens r r'
  | [], [] => true
  | _, _ => false

def setAll (ob : List Ob) : List Nat → List Ob → List Ob
  | o :: os, x :: xs => setAll (ob.set o x) os xs
  | _, _ => ob
def killAll (ob : List Ob) : List Nat → List Ob
  | [] => ob
  | o :: os => killAll (ob.set o .dead) os

def lentBy (n : Nat) (m : Map) (b : Nat) : Prop := ∃ o base, o < n ∧ m o = some (b, base)

/-- A call of it enters its text. -/
def Enters (P : Program) (f : FuncId) : Prop := ∃ fn, P.funcs[f]? = some fn ∧ (fn.name == "runtime.NumGoroutine") = false ∧ fn.body.isNone = false

/-- A function's contract: called with such arguments, it answers rv; 'ins': the boxes that it is lent, 'outs': these behind the call, then the rows that it made. -/
def CallOK (P : Program) (f : FuncId) (args : List V) (ins : List Ob) (rv : V) (outs : List Ob) : Prop :=
  Enters P f ∧ ∀ (w : World) (E : Nat → Prop) (m : Map) (vs : List Value),
    Mem ⟨P, w, E, lentBy ins.length m, ins.length, m⟩ ins m w → All2 (VA w (badOf E ins m) ins m) args vs →
    Calls P f vs.toArray w fun e w' => ∃ v m', e = .returned v ∧ VR w' (badOf E outs m') outs m' rv v ∧ Mem ⟨P, w, E, lentBy ins.length m, ins.length, m⟩ outs m' w' ∧ ∀ o, o < ins.length → m' o = m o

/-- A region whose order is drawn: its first n operations leave the world alone, the others come one behind the other. -/
def drawnB (ops : Array Oper) (n : Nat) : Bool := (ops.toList.take n).all (fun o => pureOp o.op) && (Region.lexTailB .any ops n || (decide (n = ops.size) && Region.lexB .any ops))

/-- A call. -/
def callA (P : Program) (f : FuncId) (vs : List V) (s : St) (K : V → St → Prop) : Prop :=
  ∃ lend : List Nat, br (nodup lend) (opt (renOs lend s.ob lend) fun ins => br (ins.all flatO)
    (expAs lend s.ob (fun args => ∃ rv outs, CallOK P f args ins rv outs ∧
      br (Nat.ble lend.length outs.length && sameLens ins (outs.take lend.length) && (outs.take lend.length).all flatO && ansO (outs.drop lend.length) && ansV lend.length outs.length rv)
        (let s' : List Ob → St := fun ob => { s with ob := setAll ob lend (outs.take lend.length) ++ outs.drop lend.length }
         match vs.flatMap rowsA with
         | [] => K (inV lend s.ob.length rv) (s' s.ob)
         | rs => ∃ kill : Fate, match kill with
           | .dead => K (inV lend s.ob.length rv) (s' (killAll s.ob rs))
           | .kept => ∃ _ : cleanV rv = true, ∃ _ : cleanO outs, K (inV lend s.ob.length rv) (s' s.ob)) False) vs []) False) False

/-- Cells of boxes that hold nil are taken for empty rows of the call's own: box, cell, type and size of the elements. -/
def promo (K : St → Prop) : List (Nat × Nat × Nat × Nat) → St → Prop
  | [], s => K s
  | (o, j, e, sz) :: r, s => match s.ob[o]? with
    | some (.box ty cs) => match cs[j]? with
      | some (.val (.slice none 0 0)) => promo K r ⟨s.tm, s.ob.set o (.box ty (cs.set j (.row s.ob.length 0 0))) ++ [.row e sz 0 (fun _ => [])]⟩
      | _ => False
    | _ => False

/-- How a drawn region is taken. -/
inductive Draw where
  | still (n : Nat)
  | chain (ws : List (Nat × Nat))

/-- What is forgotten ahead of a region: all slots but those named. -/
def at2 : List (Nat × List Nat) → Nat → Option (List Nat)
  | [], _ => none
  | (k, l) :: r, id => match Nat.beq k id with
    | true => some l
    | false => at2 r id
/-- What the run is told of the text: slots to be forgotten ahead of a region, and where ways are joined. -/
structure Dir where
  drop : List (Nat × List Nat)
  join : List Nat
def joinAt (D : Dir) : Code → Option Nat
  | .cond (.tmp t) _ _ => match D.join.contains t with
    | true => some t
    | false => none
  | .block id _ => match D.join.contains (id + 100000) with
    | true => some (id + 100000)
    | false => none
  | .seq _ b => joinAt D b
  | _ => none
def Jt (_ : Nat) : Type := St → Prop
def Jt.at {t : Nat} (J : Jt t) : St → Prop := J
def forget (D : List (Nat × List Nat)) (id : Nat) (s : St) : St := match at2 D id with
  | none => s
  | some l => ⟨keepL s.tm l, s.ob⟩
def regA (T : Tab) (P : Program) (ops : Array Oper) (K : St → Prop) (s : St) : Bool → Prop
  | false => opsA T (callA P) ops.toList K ops.toList s
  | true => ∃ d : Draw, match d with
      | .still n => ∃ _ : drawnB ops n = true, opsA T (callA P) ops.toList K ops.toList s
      | .chain ws => ∃ _ : chainB ops.toList (ancs ops.toList []) ws = true, chainA T (callA P) ops.toList ws K ops.toList [s.ob] [] s
def codeA (T : Tab) (P : Program) (D : Dir) (p : Nat) : Code → (Ex → St → Prop) → St → Prop
  | .skip, Q, s => Q .normal s
  | .region id ops draw, Q, s => regA T P ops (Q .normal) (forget D.drop id s) draw
  | .seq a b, Q, s => match joinAt D a with
    | none => codeA T P D p a (fun e s' => match e with
    | .normal => codeA T P D p b Q s'
    | e => Q e s') s
    | some t => ∃ J : Jt t, ∃ _ : ∀ s1, J.at s1 → codeA T P D p b Q s1, codeA T P D p a (fun e s' => match e with
    | .normal => ∃ live, canonA p live s' J.at
    | e => Q e s') s
  | .cond c a b, Q, s => match s.ev c with
    | some (.val (.bool t)) => brT t (fun _ => codeA T P D p a Q s) (fun _ => codeA T P D p b Q s)
    | _ => False
  | .block id c, Q, s => codeA T P D p c (fun e s' => match e with
    | .exit i => brT (Nat.beq i id) (fun _ => Q .normal s') (fun _ => Q (.exit i) s')
    | e => Q e s') s
  | .loop c, Q, s => ∃ I : Nat → St → Prop, ∃ _ : ∀ n s1, I n s1 → codeA T P D p c (fun e s' => match e with
    | .normal => ∃ n' live, ∃ _ : n' < n, canonA p live s' (I n')
    | e => Q e s') s1, ∃ pr : List (Nat × Nat × Nat × Nat), promo (fun s => ∃ n live, canonA p live s (I n)) pr s
  | .exit id, Q, s => Q (.exit id) s
  | .ret, Q, s => Q .ret s
  | _, _, _ => False

/-- What is returned. -/
def resA (T : Tab) (s : St) : List ResultVar → Option (List V)
  | [] => some []
  | .tmp t :: r => match s.tm.f t, resA T s r with
    | some v, some l => some (v :: l)
    | _, _ => none
  | .cell a t :: r => match T.at t, s.tm.f a, resA T s r with
    | some i, some (.ptr o j), some l => match s.ob[o]? with
      | some (.box _ cs) => match i.kind with
        | .st _ => match Nat.ble (j + i.size) cs.length with
          | true => some (.agg ((cs.drop j).take i.size) :: l)
          | false => none
        | _ => match cs[j]? with
          | some c => some (c :: l)
          | none => none
      | _ => none
    | _, _, _ => none
def oneOf : List V → V
  | [v] => v
  | vs => .tup vs
/-- Where a row of an answer comes from: an own row from some element on, or nowhere (nil). -/
abbrev Bind := Option (Nat × Nat)
def bindC : V → V → List Bind
  | .row o off _, .row _ _ _ => [some (o, off)]
  | .val _, .row _ _ _ => [none]
  | _, _ => []
def bindCs : List V → List V → List Bind
  | c :: cs, r :: rs => bindC c r ++ bindCs cs rs
  | _, _ => []
def bindA : V → V → List Bind
  | .agg cs, .agg rs => bindCs cs rs
  | c, r => bindC c r
def bindAs : List V → List V → List Bind
  | c :: cs, r :: rs => bindA c r ++ bindAs cs rs
  | _, _ => []
def bindV : V → V → List Bind
  | .tup vs, .tup rs => bindAs vs rs
  | c, r => bindA c r
def bindNames : List Bind → List Nat
  | [] => []
  | some (o, _) :: r => o :: bindNames r
  | none :: r => bindNames r

/-- A cell of an answer, and what the contract says of it. -/
def fitC (B : List Bind) (lent : Nat) (ob : List Ob) (c r : V) (K : Prop) : Prop := match c, r with
  | .row o off len, .row p off' n' => br (Nat.beq off' 0 && Nat.ble lent p) (∃ _ : B[p - lent]? = some (some (o, off)), ∃ _ : len = n', K) False
  | .row o off len, .fz sz n' g' => br (!(bindNames B).contains o) (match ob[o]? with
    | some (.row _ sz' n g) => br (Nat.beq sz sz') (∃ _ : off + len ≤ n, ∃ _ : len = n', ∃ _ : ∀ k, k < len → g' k = g (k + off), K) False
    | _ => False) False
  | .val v, .row p off' n' => br (Nat.beq off' 0 && Nat.ble lent p) (∃ _ : v = .slice none 0 0, ∃ _ : B[p - lent]? = some none, ∃ _ : n' = 0, K) False
  | .val v, .fz sz n' g' => ∃ _ : v = .slice none 0 0, ∃ _ : n' = 0, K
  | .val v, .val v' => ∃ _ : v = v', K
  | .fz sz n g, .fz sz' n' g' => br (Nat.beq sz sz') (∃ _ : n = n', ∃ _ : ∀ k, k < n → g' k = g k, K) False
  | .ptr o j, .ptr o' j' => br (Nat.beq o o' && Nat.beq j j' && Nat.blt o lent) K False
  | _, _ => False
def fitCs (B : List Bind) (lent : Nat) (ob : List Ob) (K : Prop) : List V → List V → Prop
  | [], [] => K
  | c :: cs, r :: rs => fitC B lent ob c r (fitCs B lent ob K cs rs)
  | _, _ => False
def fitA (B : List Bind) (lent : Nat) (ob : List Ob) (K : Prop) (v r : V) : Prop := match v, r with
  | .agg cs, .agg rs => fitCs B lent ob K cs rs
  | c, r => fitC B lent ob c r K
def fitAs (B : List Bind) (lent : Nat) (ob : List Ob) (K : Prop) : List V → List V → Prop
  | [], [] => K
  | c :: cs, r :: rs => fitA B lent ob (fitAs B lent ob K cs rs) c r
  | _, _ => False
def fitV (B : List Bind) (lent : Nat) (ob : List Ob) (K : Prop) (v r : V) : Prop := match v, r with
  | .tup vs, .tup rs => fitAs B lent ob K vs rs
  | c, r => fitA B lent ob K c r
/-- The rows handed over. -/
def fitO (ob : List Ob) (K : Prop) : List Bind → List Ob → Prop
  | [], [] => K
  | some (o, off) :: B, .row ty sz n g :: r => match ob[o]? with
    | some (.row ty' sz' n' g') => br (Nat.beq ty ty' && Nat.beq sz sz') (∃ _ : off + n ≤ n', ∃ _ : ∀ k, k < n → g k = g' (k + off), fitO ob K B r) False
    | _ => False
  | none :: B, .row _ _ n _ :: r => ∃ _ : n = 0, fitO ob K B r
  | _, _ => False
/-- The boxes that were lent. -/
def fitL (K : Prop) : List Ob → List Ob → Prop
  | [], [] => K
  | .box ty cs :: a, .box ty' rs :: b => br (Nat.beq ty ty') (fitCs [] 0 [] (fitL K a b) cs rs) False
  | _, _ => False
/-- The end of a body: the answer rv, and the objects handed over: those lent, then the rows. -/
def endA (T : Tab) (rs : List ResultVar) (p : Nat) (rv : V) (outs : List Ob) (s : St) : Prop :=
  opt (resA T s rs) fun vs => br (nodup (bindNames (bindV (oneOf vs) rv)))
    (fitL (fitV (bindV (oneOf vs) rv) p s.ob (fitO s.ob True (bindV (oneOf vs) rv) (outs.drop p)) (oneOf vs) rv) (s.ob.take p) (outs.take p)) False
end Go.Sim
namespace Go.Sim
open Go Go.RowKit

theorem CR.one {w : World} {bad : Nat → Prop} {ob : List Ob} {m : Map} {c : V} {v : Value} (h : CR w bad ob m c v) (h1 : c.one = true) : v.oneCell' = true := by
  cases c with
  | agg _ => exact h.elim
  | tup _ => exact h.elim
  | any => simp [V.one] at h1
  | val u => obtain rfl : v = u := h; exact h1
  | fz sz n g => cases (show FR w bad (.fz sz n g) v from h); rfl
  | fptr cs => obtain ⟨b, off, u, rfl, _⟩ := h; rfl
  | row o off len =>
    simp only [CR] at h
    split at h
    · exact h.elim
    · obtain ⟨A, cap, rfl, _⟩ := h; rfl
    · exact h
  | ptr o j =>
    simp only [CR] at h
    split at h
    · exact h.elim
    · obtain ⟨b, base, _, rfl⟩ := h; rfl
    · exact h
  | eptr o i j =>
    simp only [CR] at h
    split at h
    · exact h.elim
    · obtain ⟨b, base, _, rfl⟩ := h; rfl
    · exact h

theorem all2_one {w : World} {bad : Nat → Prop} {ob : List Ob} {m : Map} : ∀ {cs : List V} {us : List Value}, All2 (CR w bad ob m) cs us → cs.all V.one = true → ∀ x ∈ us, x.oneCell' = true
  | [], [], _, _, x, hx => by cases hx
  | c :: cs, u :: us, h, h1, x, hx => by
    simp only [List.all_cons, Bool.and_eq_true] at h1
    rcases List.mem_cons.1 hx with rfl | hx
    · exact CR.one h.1 h1.1
    · exact all2_one h.2 h1.2 x hx
  | [], _ :: _, h, _, _, _ => h.elim
  | _ :: _, [], h, _, _, _ => h.elim

theorem cells_one {u : Value} (h : u.oneCell' = true) : u.cells = #[u] := by cases u <;> first | rfl | simp [Value.oneCell'] at h

/-- The cells of a slot that may be stored. -/
theorem VR.cells {w : World} {bad : Nat → Prop} {ob : List Ob} {m : Map} {v : V} {u : Value} (h : VR w bad ob m v u) (h1 : v.cells.all V.one = true) :
    ∃ us : List Value, u.cells = us.toArray ∧ All2 (CR w bad ob m) v.cells us ∧ ∀ x ∈ us, x.oneCell' = true := by
  have cell : ∀ c : V, c.cells = [c] → c.cells.all V.one = true → CR w bad ob m c u → ∃ us : List Value, u.cells = us.toArray ∧ All2 (CR w bad ob m) c.cells us ∧ ∀ x ∈ us, x.oneCell' = true := by
    intro c hc h1 hh
    rw [hc] at h1 ⊢
    have h2 : u.oneCell' = true := CR.one hh (by simpa using h1)
    exact ⟨[u], by rw [cells_one h2], ⟨hh, trivial⟩, by simpa using h2⟩
  cases v with
  | tup _ => simp [V.cells, V.one] at h1
  | agg cs =>
    obtain ⟨us, rfl, h⟩ := h
    exact ⟨us, rfl, h, all2_one h h1⟩
  | val x => exact cell (.val x) rfl h1 h
  | any => exact cell .any rfl h1 h
  | fz sz n g => exact cell (.fz sz n g) rfl h1 h
  | row o off len => exact cell (.row o off len) rfl h1 h
  | ptr o j => exact cell (.ptr o j) rfl h1 h
  | eptr o i j => exact cell (.eptr o i j) rfl h1 h
  | fptr cs => exact cell (.fptr cs) rfl h1 h

theorem Rel.ev {C : Ctx} {s : St} {m : Map} {a : Act} {w : World} (h : Rel C s m a w) {x : Operand} {v : V} (hv : s.ev x = some v) : VR w (badOf C.E s.ob m) s.ob m v (a.eval x) := by
  cases x with
  | tmp t =>
    obtain ⟨b, hb, hh⟩ := h.tm.get hv
    have : a.eval (.tmp t) = b := by
      simp only [Act.eval, Array.getD_eq_getD_getElem?]
      rw [← Array.getElem?_toList, hb]; rfl
    rw [this]; exact hh
  | const v' => simp only [St.ev, Option.some.injEq] at hv; subst hv; exact (rfl : v' = v')
  | func f => simp only [St.ev, Option.some.injEq] at hv; subst hv; exact (rfl : Value.func (.func f) #[] #[] = _)
  | global g => simp [St.ev] at hv

theorem VR.val {w : World} {bad : Nat → Prop} {ob : List Ob} {m : Map} {v u : Value} (h : VR w bad ob m (.val v) u) : u = v := by
  exact h

theorem Rel.put {C : Ctx} {s : St} {m : Map} {a : Act} {w : World} (h : Rel C s m a w) (d : Option Tmp) {v : V} {u : Value} (hv : VR w (badOf C.E s.ob m) s.ob m v u) : Rel C (s.put d v) m (a.put d u) w := by
  cases d with
  | none => exact h
  | some d =>
    refine ⟨h.df, ?_, h.mem⟩
    show TmR _ (s.tm.set d v) (a.tmps.setIfInBounds d u).toList
    rw [Array.toList_setIfInBounds]
    exact h.tm.set d hv

theorem CR.mono_VR {w : World} {bad : Nat → Prop} {ob : List Ob} {m : Map} {c : V} {v : Value} (h : CR w bad ob m c v) : VR w bad ob m c v := by
  cases c <;> first | exact h | exact h.elim

theorem OR.ext {w w' : World} {bad bad' : Nat → Prop} {ob ob' : List Ob} {m m' : Map} (e : Ext w w' bad bad' ob ob' m m') {o : Nat} {x : Ob} (h : OR w bad ob m o x) (hm : m' o = m o) (hb : x.live = true → ∀ b base, m o = some (b, base) → w'.heap[b]? = w.heap[b]?) : OR w' bad' ob' m' o x := by
  cases x with
  | dead => trivial
  | box ty cs =>
    obtain ⟨b, arr, h1, h2, h3⟩ := h
    exact ⟨b, arr, hm.trans h1, (hb rfl b 0 h1).trans h2, h3.mono fun _ _ => CR.ext e⟩
  | row ty sz n g =>
    simp only [OR] at h ⊢
    rw [hm]
    cases hmo : m o with
    | none => rw [hmo] at h; exact h
    | some p =>
      obtain ⟨b, base⟩ := p
      rw [hmo] at h
      obtain ⟨arr, h1, h2⟩ := h
      refine ⟨arr, (hb rfl b base hmo).trans h1, fun k hk => ⟨(h2 k hk).1, fun j c hj => ?_⟩⟩
      obtain ⟨u, hu, hf⟩ := (h2 k hk).2 j c hj
      exact ⟨u, hu, FR.mono e.cell e.size e.bads hf⟩

theorem Keep.alloc {C : Ctx} {w : World} (h : Keep C w) (o : Obj) : Keep C (w.alloc o) :=
  ⟨h.os, h.tape, h.output, by have := h.size; simp; omega, fun b hb hl => by rw [Below.heap_alloc _ _ _ (by have := h.size; omega)]; exact h.block b hb hl⟩
theorem Keep.drawn {C : Ctx} {w : World} (h : Keep C w) (k : Nat) : Keep C { w with drawn := k } := ⟨h.os, h.tape, h.output, h.size, h.block⟩

theorem bsize_alloc (w : World) (o : Obj) (b : Nat) : bsize w b ≤ bsize (w.alloc o) b := by
  unfold bsize
  rcases Nat.lt_or_ge b w.heap.size with h | h
  · rw [Below.heap_alloc _ _ _ h]; exact Nat.le_refl _
  · rw [Array.getElem?_eq_none h]; exact Nat.zero_le _

theorem badOf_lt {C : Ctx} {ob : List Ob} {m : Map} {w : World} (hm : Mem C ob m w) {o b base : Nat} {x : Ob} (h1 : ob[o]? = some x) (h2 : x.live = true) (h3 : m o = some (b, base)) : badOf C.E ob m b := .inr ⟨o, x, base, h1, h2, h3⟩

def Map.snoc (m : Map) (N : Nat) (p : Option (Nat × Nat)) : Map := fun o => if o = N then p else m o
theorem snoc_at (m : Map) (N : Nat) (p : Option (Nat × Nat)) : m.snoc N p N = p := if_pos rfl
theorem snoc_lt (m : Map) {N o : Nat} (p : Option (Nat × Nat)) (h : o < N) : m.snoc N p o = m o := if_neg (by omega)

theorem get_snoc {α : Type} {l : List α} {x y : α} {o : Nat} (h : (l ++ [x])[o]? = some y) : (o < l.length ∧ l[o]? = some y) ∨ (o = l.length ∧ y = x) := by
  rcases Nat.lt_or_ge o l.length with h1 | h1
  · exact .inl ⟨h1, by rwa [List.getElem?_append_left h1] at h⟩
  · rw [List.getElem?_append_right h1] at h
    have h2 := lt_of_get h
    have : o = l.length := by simp at h2; omega
    subst this
    simp at h
    exact .inr ⟨rfl, h.symm⟩

/-- What a new object's map entry does to the state. w' : the world with at most new blocks. -/
theorem Ext.snoc {C : Ctx} {ob : List Ob} {m : Map} {w w' : World} (hm : Mem C ob m w) (x : Ob) (p : Option (Nat × Nat)) (hp : ∀ b base, p = some (b, base) → w.heap.size ≤ b)
    (hw : ∀ b, b < w.heap.size → w'.heap[b]? = w.heap[b]?) (hs : w.heap.size ≤ w'.heap.size) :
    Ext w w' (badOf C.E ob m) (badOf C.E (ob ++ [x]) (m.snoc ob.length p)) ob (ob ++ [x]) m (m.snoc ob.length p) where
  cell b _ hb off v hv := by rw [← hv]; exact World.cell?_of_block (w := w) (hw b hb)
  size := hs
  bads b hb hn h := by
    rcases h with h | ⟨o, y, base, ho, hl, hmo⟩
    · exact hn (.inl h)
    · rcases get_snoc ho with ⟨h1, h2⟩ | ⟨rfl, rfl⟩
      · rw [snoc_lt m p h1] at hmo
        exact hn (.inr ⟨o, y, base, h2, hl, hmo⟩)
      · rw [snoc_at] at hmo
        have := hp _ _ hmo
        omega
  bsz b := by
    unfold bsize
    rcases Nat.lt_or_ge b w.heap.size with h | h
    · rw [hw b h]; exact Nat.le_refl _
    · rw [Array.getElem?_eq_none h]; exact Nat.zero_le _
  obs o y ho := ⟨y, by rw [List.getElem?_append_left (lt_of_get ho)]; exact ho, by cases y <;> simp [compat]⟩
  map o ho := snoc_lt m p ho

/-- A new object, in a new block or in none. -/
theorem Mem.snoc {C : Ctx} {ob : List Ob} {m : Map} {w w' : World} (hm : Mem C ob m w) (x : Ob) (p : Option (Nat × Nat)) (hp : ∀ b base, p = some (b, base) → w.heap.size ≤ b ∧ b < w'.heap.size)
    (hw : ∀ b, b < w.heap.size → w'.heap[b]? = w.heap[b]?) (hs : w.heap.size ≤ w'.heap.size) (hk : w'.os = w.os ∧ w'.tape = w.tape ∧ w'.output = w.output)
    (hx : OR w' (badOf C.E (ob ++ [x]) (m.snoc ob.length p)) (ob ++ [x]) (m.snoc ob.length p) ob.length x) : Mem C (ob ++ [x]) (m.snoc ob.length p) w' where
  ok o y ho := by
    rcases get_snoc ho with ⟨h1, h2⟩ | ⟨rfl, rfl⟩
    · refine OR.ext (Ext.snoc hm x p (fun b base h => (hp b base h).1) hw hs) (hm.ok o y h2) (snoc_lt m p h1) (fun hl b base hb => hw b (hm.blk o y b base h2 hl hb).2.2)
    · exact hx
  inj o o' y y' b base base' ho ho' hl hl' h1 h2 := by
    rcases get_snoc ho with ⟨a1, a2⟩ | ⟨rfl, rfl⟩ <;> rcases get_snoc ho' with ⟨b1, b2⟩ | ⟨rfl, rfl⟩
    · rw [snoc_lt m p a1] at h1; rw [snoc_lt m p b1] at h2
      exact hm.inj o o' y y' b base base' a2 b2 hl hl' h1 h2
    · rw [snoc_lt m p a1] at h1; rw [snoc_at] at h2
      have := (hm.blk o y b base a2 hl h1).2.2
      have := (hp _ _ h2).1
      omega
    · rw [snoc_lt m p b1] at h2; rw [snoc_at] at h1
      have := (hm.blk o' y' b base' b2 hl' h2).2.2
      have := (hp _ _ h1).1
      omega
    · rfl
  blk o y b base ho hl h1 := by
    rcases get_snoc ho with ⟨a1, a2⟩ | ⟨rfl, rfl⟩
    · rw [snoc_lt m p a1] at h1
      obtain ⟨h2, h3, h4⟩ := hm.blk o y b base a2 hl h1
      exact ⟨h2, h3, by omega⟩
    · rw [snoc_at] at h1
      obtain ⟨h2, h3⟩ := hp _ _ h1
      exact ⟨fun he => by have := hm.eb b he; have := hm.kp.size; omega, .inl (by have := hm.kp.size; omega), h3⟩
  kp := ⟨hk.1.trans hm.kp.os, hk.2.1.trans hm.kp.tape, hk.2.2.trans hm.kp.output, by have := hm.kp.size; omega, fun b hb hl => (hw b (by have := hm.kp.size; omega)).trans (hm.kp.block b hb hl)⟩
  eb := hm.eb
  pl := by have := hm.pl; simp; omega
  pm o ho := (snoc_lt m p (by have := hm.pl; omega)).trans (hm.pm o ho)
end Go.Sim
namespace Go.Sim
open Go Go.RowKit

theorem get_set {α : Type} {l : List α} {o q : Nat} {x y : α} (h : (l.set o x)[q]? = some y) : (q ≠ o ∧ l[q]? = some y) ∨ (q = o ∧ y = x ∧ o < l.length) := by
  by_cases hq : q = o
  · subst hq
    have hl := lt_of_get h
    rw [List.length_set] at hl
    rw [List.getElem?_set_self hl] at h
    exact .inr ⟨rfl, by injection h with h; exact h.symm, hl⟩
  · rw [List.getElem?_set_ne (Ne.symm hq)] at h
    exact .inl ⟨hq, h⟩

/-- An object is no longer looked at. -/
theorem Ext.kill {C : Ctx} {ob : List Ob} {m : Map} {w : World} (o : Nat) : Ext w w (badOf C.E ob m) (badOf C.E (ob.set o .dead) m) ob (ob.set o .dead) m m where
  cell _ _ _ _ _ h := h
  size := Nat.le_refl _
  bads b _ hn h := by
    rcases h with h | ⟨q, y, base, hq, hl, hmq⟩
    · exact hn (.inl h)
    · rcases get_set hq with ⟨_, h2⟩ | ⟨_, rfl, _⟩
      · exact hn (.inr ⟨q, y, base, h2, hl, hmq⟩)
      · simp [Ob.live] at hl
  bsz _ := Nat.le_refl _
  obs q y hq := by
    by_cases h : q = o
    · subst h
      exact ⟨.dead, by rw [List.getElem?_set_self (lt_of_get hq)], by cases y <;> simp [compat]⟩
    · exact ⟨y, by rw [List.getElem?_set_ne (Ne.symm h)]; exact hq, by cases y <;> simp [compat]⟩
  map _ _ := rfl

theorem Mem.kill {C : Ctx} {ob : List Ob} {m : Map} {w : World} (hm : Mem C ob m w) (o : Nat) : Mem C (ob.set o .dead) m w where
  ok q y hq := by
    rcases get_set hq with ⟨_, h2⟩ | ⟨_, rfl, _⟩
    · exact OR.ext (Ext.kill o) (hm.ok q y h2) rfl (fun _ _ _ _ => rfl)
    · trivial
  inj q q' y y' b base base' hq hq' hl hl' h1 h2 := by
    rcases get_set hq with ⟨_, a2⟩ | ⟨_, rfl, _⟩
    · rcases get_set hq' with ⟨_, b2⟩ | ⟨_, rfl, _⟩
      · exact hm.inj q q' y y' b base base' a2 b2 hl hl' h1 h2
      · simp [Ob.live] at hl'
    · simp [Ob.live] at hl
  blk q y b base hq hl h1 := by
    rcases get_set hq with ⟨_, a2⟩ | ⟨_, rfl, _⟩
    · exact hm.blk q y b base a2 hl h1
    · simp [Ob.live] at hl
  kp := hm.kp
  eb := hm.eb
  pl := by have := hm.pl; simp; omega
  pm := hm.pm

theorem Rel.kill {C : Ctx} {s : St} {m : Map} {a : Act} {w : World} (h : Rel C s m a w) (o : Nat) : Rel C { s with ob := s.ob.set o .dead } m a w :=
  ⟨h.df, h.tm.mono fun _ _ => VR.ext (Ext.kill o), h.mem.kill o⟩

/-- A store into an object's block: x' for x. -/
theorem Ext.write {C : Ctx} {ob : List Ob} {m : Map} {w w' : World} (hm : Mem C ob m w) {o b base : Nat} {x x' : Ob} (ho : ob[o]? = some x) (hl : x.live = true) (hmo : m o = some (b, base)) (hc : compat x x') (hl' : x'.live = true)
    (hw : ∀ q, q ≠ b → w'.heap[q]? = w.heap[q]?) (hs : w'.heap.size = w.heap.size) (hb : bsize w' b = bsize w b) : Ext w w' (badOf C.E ob m) (badOf C.E (ob.set o x') m) ob (ob.set o x') m m where
  cell q hq _ off v hv := by
    have : q ≠ b := fun e => hq (e ▸ badOf_lt hm ho hl hmo)
    rw [← hv]; exact World.cell?_of_block (w := w) (hw q this)
  size := by omega
  bads q _ hn h := by
    rcases h with h | ⟨p, y, base', hp, hly, hmp⟩
    · exact hn (.inl h)
    · rcases get_set hp with ⟨_, h2⟩ | ⟨rfl, rfl, _⟩
      · exact hn (.inr ⟨p, y, base', h2, hly, hmp⟩)
      · exact hn (.inr ⟨p, x, base', ho, hl, hmp⟩)
  bsz q := by
    by_cases h : q = b
    · subst h; omega
    · unfold bsize; rw [hw q h]; exact Nat.le_refl _
  obs q y hq := by
    by_cases h : q = o
    · subst h
      rw [ho] at hq; injection hq with hq; subst hq
      exact ⟨x', by rw [List.getElem?_set_self (lt_of_get ho)], hc⟩
    · exact ⟨y, by rw [List.getElem?_set_ne (Ne.symm h)]; exact hq, by cases y <;> simp [compat]⟩
  map _ _ := rfl

theorem Mem.write {C : Ctx} {ob : List Ob} {m : Map} {w w' : World} (hm : Mem C ob m w) {o b base : Nat} {x x' : Ob} (ho : ob[o]? = some x) (hl : x.live = true) (hmo : m o = some (b, base)) (hc : compat x x') (hl' : x'.live = true)
    (hw : ∀ q, q ≠ b → w'.heap[q]? = w.heap[q]?) (hs : w'.heap.size = w.heap.size) (hb : bsize w' b = bsize w b) (hk : w'.os = w.os ∧ w'.tape = w.tape ∧ w'.output = w.output)
    (hx : OR w' (badOf C.E (ob.set o x') m) (ob.set o x') m o x') : Mem C (ob.set o x') m w' where
  ok q y hq := by
    rcases get_set hq with ⟨h1, h2⟩ | ⟨rfl, rfl, _⟩
    · exact OR.ext (Ext.write hm ho hl hmo hc hl' hw hs hb) (hm.ok q y h2) rfl (fun hly b' base' hb' => hw b' (fun e => h1 (hm.inj q o y x b base' base h2 ho hly hl (e ▸ hb') hmo)))
    · exact hx
  inj q q' y y' b1 base1 base2 hq hq' hly hly' h1 h2 := by
    rcases get_set hq with ⟨_, a2⟩ | ⟨rfl, rfl, _⟩ <;> rcases get_set hq' with ⟨_, b2⟩ | ⟨rfl, rfl, _⟩
    · exact hm.inj q q' y y' b1 base1 base2 a2 b2 hly hly' h1 h2
    · exact hm.inj q q' y x b1 base1 base2 a2 ho hly hl h1 h2
    · exact hm.inj q q' x y' b1 base1 base2 ho b2 hl hly' h1 h2
    · rfl
  blk q y b1 base1 hq hly h1 := by
    rcases get_set hq with ⟨_, a2⟩ | ⟨rfl, rfl, _⟩
    · have := hm.blk q y b1 base1 a2 hly h1; exact ⟨this.1, this.2.1, by omega⟩
    · have := hm.blk q x b1 base1 ho hl h1; exact ⟨this.1, this.2.1, by omega⟩
  kp := ⟨hk.1.trans hm.kp.os, hk.2.1.trans hm.kp.tape, hk.2.2.trans hm.kp.output, by have := hm.kp.size; omega, fun q hq hlq => by
    have h1 := hm.blk o x b base ho hl hmo
    rw [hw q (fun e => by subst e; rcases h1.2.1 with h2 | h2 <;> first | omega | exact hlq h2)]
    exact hm.kp.block q hq hlq⟩
  eb := hm.eb
  pl := by have := hm.pl; simp; omega
  pm := hm.pm

theorem Rel.write {C : Ctx} {s : St} {m : Map} {a : Act} {w w' : World} (h : Rel C s m a w) {o b base : Nat} {x x' : Ob} (ho : s.ob[o]? = some x) (hl : x.live = true) (hmo : m o = some (b, base)) (hc : compat x x') (hl' : x'.live = true)
    (hw : ∀ q, q ≠ b → w'.heap[q]? = w.heap[q]?) (hs : w'.heap.size = w.heap.size) (hb : bsize w' b = bsize w b) (hk : w'.os = w.os ∧ w'.tape = w.tape ∧ w'.output = w.output)
    (hx : OR w' (badOf C.E (s.ob.set o x') m) (s.ob.set o x') m o x') : Rel C { s with ob := s.ob.set o x' } m a w' :=
  ⟨h.df, h.tm.mono fun _ _ => VR.ext (Ext.write h.mem ho hl hmo hc hl' hw hs hb), h.mem.write ho hl hmo hc hl' hw hs hb hk hx⟩

theorem Rel.snoc {C : Ctx} {s : St} {m : Map} {a : Act} {w w' : World} (h : Rel C s m a w) (x : Ob) (p : Option (Nat × Nat)) (hp : ∀ b base, p = some (b, base) → w.heap.size ≤ b ∧ b < w'.heap.size)
    (hw : ∀ b, b < w.heap.size → w'.heap[b]? = w.heap[b]?) (hs : w.heap.size ≤ w'.heap.size) (hk : w'.os = w.os ∧ w'.tape = w.tape ∧ w'.output = w.output)
    (hx : OR w' (badOf C.E (s.ob ++ [x]) (m.snoc s.ob.length p)) (s.ob ++ [x]) (m.snoc s.ob.length p) s.ob.length x) : Rel C { s with ob := s.ob ++ [x] } (m.snoc s.ob.length p) a w' :=
  ⟨h.df, h.tm.mono fun _ _ => VR.ext (Ext.snoc h.mem x p (fun b base e => (hp b base e).1) hw hs), h.mem.snoc x p hp hw hs hk hx⟩

/-- A new variable. -/
theorem Rel.box {C : Ctx} {s : St} {m : Map} {a : Act} {w : World} (h : Rel C s m a w) (ty : TypeId) {cs : List V} {us : List Value} (hc : All2 (CR w (badOf C.E s.ob m) s.ob m) cs us) :
    Rel C { s with ob := s.ob ++ [.box ty cs] } (m.snoc s.ob.length (some (w.heap.size, 0))) a (w.alloc (.cells us.toArray ty)) := by
  have hw : ∀ b, b < w.heap.size → (w.alloc (.cells us.toArray ty)).heap[b]? = w.heap[b]? := fun b hb => Below.heap_alloc _ _ _ hb
  refine h.snoc (.box ty cs) (some (w.heap.size, 0)) (fun b base e => by simp at e; simp; omega) hw (by simp) ⟨rfl, rfl, rfl⟩ ⟨w.heap.size, us.toArray, snoc_at _ _ _, heap_alloc_new w _, ?_⟩
  exact hc.mono fun _ _ => CR.ext (Ext.snoc h.mem _ _ (fun b base e => by simp at e; omega) hw (by simp))

/-- A new row in a new block. -/
theorem Rel.row {C : Ctx} {s : St} {m : Map} {a : Act} {w : World} (h : Rel C s m a w) (ty : TypeId) {sz n : Nat} {g : Nat → List V} {arr : Array Value}
    (hc : ∀ k, k < n → (g k).length = sz ∧ ∀ (j : Nat) (c : V), (g k)[j]? = some c → ∃ u, arr[k * sz + j]? = some u ∧ FR w (badOf C.E s.ob m) c u) :
    Rel C { s with ob := s.ob ++ [.row ty sz n g] } (m.snoc s.ob.length (some (w.heap.size, 0))) a (w.alloc (.cells arr ty)) := by
  have hw : ∀ b, b < w.heap.size → (w.alloc (.cells arr ty)).heap[b]? = w.heap[b]? := fun b hb => Below.heap_alloc _ _ _ hb
  have e := Ext.snoc h.mem (.row ty sz n g) (some (w.heap.size, 0)) (w' := w.alloc (.cells arr ty)) (fun b base e => by simp at e; omega) hw (by simp)
  refine h.snoc (.row ty sz n g) (some (w.heap.size, 0)) (fun b base e => by simp at e; simp; omega) hw (by simp) ⟨rfl, rfl, rfl⟩ ?_
  simp only [OR, snoc_at]
  refine ⟨arr, heap_alloc_new w _, fun k hk => ⟨(hc k hk).1, fun j c hj => ?_⟩⟩
  obtain ⟨u, hu, hf⟩ := (hc k hk).2 j c hj
  exact ⟨u, by rw [Nat.zero_add]; exact hu, FR.mono e.cell e.size e.bads hf⟩
theorem VR.new_row {C : Ctx} {s : St} {m : Map} {w : World} (ty : TypeId) {sz n cap : Nat} {g : Nat → List V} {arr : Array Value} (hn : n ≤ cap) (hs : cap * sz ≤ arr.size) :
    VR (w.alloc (.cells arr ty)) (badOf C.E (s.ob ++ [.row ty sz n g]) (m.snoc s.ob.length (some (w.heap.size, 0)))) (s.ob ++ [.row ty sz n g]) (m.snoc s.ob.length (some (w.heap.size, 0))) (.row s.ob.length 0 n) (.slice (some ⟨w.heap.size, 0, none⟩) n cap) := by
  apply CR.mono_VR
  simp only [CR, List.getElem?_concat_length]
  refine ⟨_, _, rfl, hn, fun _ => ⟨w.heap.size, 0, snoc_at _ _ _, by simp, ?_⟩⟩
  simp only [bsize, heap_alloc_new]; simp; exact hs
theorem VR.new_box {w : World} {bad : Nat → Prop} {ob : List Ob} {m : Map} {ty : TypeId} {cs : List V} {b : Nat} : VR w bad (ob ++ [.box ty cs]) (m.snoc ob.length (some (b, 0))) (.ptr ob.length 0) (.pointer (some ⟨b, 0, none⟩)) := by
  apply CR.mono_VR
  simp only [CR, List.getElem?_concat_length]
  exact ⟨b, 0, snoc_at _ _ _, rfl⟩
end Go.Sim
namespace Go.Sim
open Go Go.RowKit

def intsV (l : List Int) : List Value := l.map fun x => .int .i64 x
/-- Structs of n whole numbers of this type are compared number by number. -/
def EqT (P : Program) (t : TypeId) (n q : Nat) : Prop := ∀ (d : Nat) (w : World) (la lb : List Int), q ≤ d → la.length = n → lb.length = n → (Op.equalIn d t (.agg (intsV la).toArray) (.agg (intsV lb).toArray)).run P w = .ok (la == lb) w
structure EqTop (P : Program) (t : TypeId) (n : Nat) : Prop where
  eq : EqT P t n 10
  guard : P.eqGuardType P.depth t = false

/-- Fields from cell 'off' on, up to cell 'n'. -/
def EqFs (P : Program) (q : Nat) : List Field → Nat → Nat → Prop
  | [], off, n => off = n
  | f :: fs, off, n => (f.name == "_") = false ∧ f.offset = off ∧ ∃ m, (∀ (d : Nat) (w : World) (la lb : List Int), q ≤ d → off + m ≤ la.length → off + m ≤ lb.length →
      ∃ a b, (part f.type (intsV la).toArray off).run P w = .ok a w ∧ (part f.type (intsV lb).toArray off).run P w = .ok b w ∧ (Op.equalIn d f.type a b).run P w = .ok ((la.drop off).take m == (lb.drop off).take m) w) ∧ EqFs P q fs (off + m) n

theorem take_drop_beq {la lb : List Int} {m : Nat} (h1 : m ≤ la.length) (h2 : m ≤ lb.length) : (la == lb) = ((la.take m == lb.take m) && (la.drop m == lb.drop m)) := by
  rw [Bool.eq_iff_iff]
  simp only [beq_iff_eq, Bool.and_eq_true]
  constructor
  · rintro rfl; exact ⟨rfl, rfl⟩
  · rintro ⟨h3, h4⟩
    rw [← List.take_append_drop m la, ← List.take_append_drop m lb, h3, h4]

theorem eqFs_run {P : Program} {q d : Nat} (hd : q ≤ d) {w : World} {la lb : List Int} : ∀ {fs : List Field} {off n : Nat}, EqFs P q fs off n → la.length = n → lb.length = n → off ≤ n →
    (Op.eqFields d (intsV la).toArray (intsV lb).toArray fs).run P w = .ok (la.drop off == lb.drop off) w
  | [], off, n, h, h1, h2, _ => by
    have h : off = n := h
    subst h
    rw [List.drop_eq_nil_of_le (by omega), List.drop_eq_nil_of_le (by omega)]
    simp [Op.eqFields]
  | f :: fs, off, n, h, h1, h2, hle => by
    obtain ⟨hn, ho, m, hp, hr⟩ := h
    have hn' : f.name ≠ "_" := by simpa using hn
    have hle2 : ∀ {fs : List Field} {o : Nat}, EqFs P q fs o n → o ≤ n := by
      intro fs
      induction fs with
      | nil => intro o h; exact Nat.le_of_eq h
      | cons g gs ih => intro o h; obtain ⟨_, _, m', _, h'⟩ := h; have := ih h'; omega
    have hm := hle2 hr
    obtain ⟨a, b, ha, hb, he⟩ := hp d w la lb hd (by omega) (by omega)
    have ih := eqFs_run hd (w := w) (la := la) (lb := lb) hr h1 h2 hm
    subst ho
    rw [Op.eqFields]
    simp only [if_pos hn', Sem.run_bind, ha, hb, he, Result.andThen_ok]
    rw [take_drop_beq (la := la.drop f.offset) (lb := lb.drop f.offset) (m := m) (by rw [List.length_drop]; omega) (by rw [List.length_drop]; omega)]
    rw [List.drop_drop, List.drop_drop]
    cases hc : ((la.drop f.offset).take m == (lb.drop f.offset).take m)
    · simp
    · simpa using ih

theorem EqT.of {P : Program} {t : TypeId} {n q : Nat} {fs : Array Field} (hu : P.underlying t = some (.struct fs)) (hp : P.stoodInHeld t = false) (h : EqFs P q fs.toList 0 n) : EqT P t n (q + 1) := by
  intro d w la lb hd h1 h2
  obtain ⟨d, rfl⟩ : ∃ e, d = e + 1 := ⟨d - 1, by omega⟩
  have hf : P.fieldsOf t = fs := by simp [Program.fieldsOf, hu]
  rw [run_equalIn_struct (P := P) w d t _ _ (by rw [hf]; exact hu) hp, hf, eqFs_run (by omega) h h1 h2 (Nat.zero_le _)]
  simp
theorem EqT.mono {P : Program} {t : TypeId} {n q q' : Nat} (h : EqT P t n q) (hq : q ≤ q') : EqT P t n q' := fun d w la lb hd => h d w la lb (Nat.le_trans hq hd)
theorem EqTop.of {P : Program} {t : TypeId} {n q : Nat} (h : EqT P t n q) (hq : q ≤ 10) (hg : P.eqGuardType P.depth t = false) : EqTop P t n := ⟨h.mono hq, hg⟩

theorem intsV_get {l : List Int} {i : Nat} {x : Int} (h : l[i]? = some x) : (intsV l).toArray[i]? = some (.int .i64 x) := by simp [intsV, h]
/-- A field that is a whole number. -/
theorem EqFs.int {P : Program} {q : Nat} {f : Field} {fs : List Field} {off n : Nat} (hn : (f.name == "_") = false) (ho : f.offset = off) (ht : P.underlying f.type = some (.int .i64)) (h : EqFs P (q + 1) fs (off + 1) n) : EqFs P (q + 1) (f :: fs) off n := by
  refine ⟨hn, ho, 1, fun d w la lb hd h1 h2 => ?_, h⟩
  obtain ⟨d, rfl⟩ : ∃ e, d = e + 1 := ⟨d - 1, by omega⟩
  have ga : la[off]? = some la[off] := List.getElem?_eq_getElem (by omega)
  have gb : lb[off]? = some lb[off] := List.getElem?_eq_getElem (by omega)
  have hagg : (isAgg f.type).run P w = .ok false w := by
    unfold isAgg
    rw [Sem.run_bind, run_underlying ht w]; rfl
  have pt : ∀ {l : List Int} {x : Int}, l[off]? = some x → (part f.type (intsV l).toArray off).run P w = .ok (.int .i64 x) w := by
    intro l x hx
    unfold part
    rw [Sem.run_bind, hagg]
    simp only [Result.andThen_ok, Bool.false_eq_true, if_false, intsV_get hx]
    rfl
  refine ⟨_, _, pt ga, pt gb, ?_⟩
  simp only [Op.equalIn, Sem.run_bind, run_underlying ht, Result.andThen_ok, if_true]
  have t1 : ∀ {l : List Int} (hl : off + 1 ≤ l.length), (l.drop off).take 1 = [l[off]] := by
    intro l hl
    rw [List.drop_eq_getElem_cons (by omega)]; rfl
  rw [t1 h1, t1 h2]
  simp
theorem size_run {P : Program} {t : TypeId} {m : Nat} (h : (P.info? t).map (·.size) = some m) : ∀ w, (sizeOf t).run P w = .ok m w := by
  intro w
  obtain ⟨inf, h1, h2⟩ := Option.map_eq_some_iff.1 h
  simp [sizeOf, typeInfo, h1, h2]
/-- A field that is itself such a struct. -/
theorem EqFs.st {P : Program} {q m : Nat} {f : Field} {fs : List Field} {off n : Nat} {gs : Array Field} (hn : (f.name == "_") = false) (ho : f.offset = off) (hu : P.underlying f.type = some (.struct gs)) (hs : ∀ w, (sizeOf f.type).run P w = .ok m w) (ht : EqT P f.type m q) (h : EqFs P q fs (off + m) n) : EqFs P q (f :: fs) off n := by
  refine ⟨hn, ho, m, fun d w la lb hd h1 h2 => ?_, h⟩
  have hagg : (isAgg f.type).run P w = .ok true w := by
    unfold isAgg
    rw [Sem.run_bind, run_underlying hu w]; rfl
  have pt : ∀ {l : List Int}, (part f.type (intsV l).toArray off).run P w = .ok (.agg (intsV ((l.drop off).take m)).toArray) w := by
    intro l
    unfold part
    rw [Sem.run_bind, hagg]
    simp only [Result.andThen_ok, if_true, Sem.run_bind, hs]
    show Result.ok _ w = _
    congr 2
    simp only [intsV, List.extract_toArray, List.extract_eq_take_drop, List.map_take, List.map_drop]
    rw [Nat.add_sub_cancel_left]
  exact ⟨_, _, pt, pt, ht d w _ _ hd (by rw [List.length_take, List.length_drop]; omega) (by rw [List.length_take, List.length_drop]; omega)⟩

theorem eqCells_ints : ∀ {as bs : List V} {d : Bool}, eqCells as bs = some d → ∃ la lb : List Int, as = la.map (fun x => .val (.int .i64 x)) ∧ bs = lb.map (fun x => .val (.int .i64 x)) ∧ la.length = lb.length ∧ d = (la == lb)
  | as, bs, d, h => by
    unfold eqCells at h
    split at h
    · rename_i a b
      injection h with h
      exact ⟨[a], [b], rfl, rfl, rfl, by rw [← h]; simp⟩
    · rename_i a as b bs _
      split at h
      · rename_i r hr
        injection h with h
        obtain ⟨la, lb, h1, h2, h3, h4⟩ := eqCells_ints hr
        refine ⟨a :: la, b :: lb, by rw [h1]; rfl, by rw [h2]; rfl, by simp [h3], ?_⟩
        rw [← h, h4]
        rfl
      · cases h
    · cases h
theorem neCells_ints : ∀ {as bs : List V} {d : Bool}, neCells as bs = some d → ∃ la lb : List Int, as = la.map (fun x => .val (.int .i64 x)) ∧ bs = lb.map (fun x => .val (.int .i64 x)) ∧ la.length = lb.length ∧ d = !(la == lb)
  | as, bs, d, h => by
    unfold neCells at h
    split at h
    · rename_i a b
      injection h with h
      exact ⟨[a], [b], rfl, rfl, rfl, by rw [← h]; simp⟩
    · rename_i a as b bs _
      split at h
      · rename_i r hr
        injection h with h
        obtain ⟨la, lb, h1, h2, h3, h4⟩ := neCells_ints hr
        refine ⟨a :: la, b :: lb, by rw [h1]; rfl, by rw [h2]; rfl, by simp [h3], ?_⟩
        rw [← h, h4]
        show (!(a == b) || !(la == lb)) = !((a == b) && (la == lb))
        cases (a == b) <;> rfl
      · cases h
    · cases h
theorem all_cells {as bs : List V} {e : Bool} {K : Bool → Prop} (he : eqCells as bs = some e) (h1 : e = true → K true) (h2 : e = false → K false) : ∀ d, eqCells as bs = some d → K d := by
  intro d hd
  rw [he] at hd; injection hd with hd; subst hd
  cases h : e
  · exact h2 h
  · exact h1 h
theorem all_cellsN {as bs : List V} {e : Bool} {K : Bool → Prop} (he : neCells as bs = some e) (h1 : e = true → K true) (h2 : e = false → K false) : ∀ d, neCells as bs = some d → K d := by
  intro d hd
  rw [he] at hd; injection hd with hd; subst hd
  cases h : e
  · exact h2 h
  · exact h1 h
end Go.Sim
namespace Go.Sim
open Go Go.RowKit

def TK.fits (k : TK) (d : TypeDesc) : Prop := match k with
  | .sl e => d = .slice e
  | .st fs => ∃ f : Array Field, d = .struct f ∧ f.toList.map (fun x => (x.offset, x.type)) = fs
  | .int k => d = .int k
  | .str => d = .string
  | .bool => d = .bool
  | .other => d.isRow = false

structure TabOK (P : Program) (T : Tab) : Prop where
  info : ∀ t i, T.at t = some i → ∃ inf z, P.info? t = some inf ∧ inf.size = i.size ∧ inf.bytes = i.bytes ∧ inf.zero = some z ∧ z.cells.toList = i.zero ∧ i.zero.length = i.size ∧ ∀ u ∈ i.zero, u.oneCell' = true
  desc : ∀ t i, T.at t = some i → ∃ d, P.underlying t = some d ∧ i.kind.fits d
  mix : P.follows .mixedOrders = true
  eqs : ∀ t i fs, T.at t = some i → i.kind = .st fs → flatK T 3 fs = true → EqTop P t i.size
  fld : ∀ t i fs, T.at t = some i → i.kind = .st fs → ∀ p ∈ fs, ∃ ti, T.at p.2 = some ti

def TK.agg : TK → Bool
  | .st _ => true
  | _ => false
theorem TK.row {k : TK} {d : TypeDesc} (h : k.fits d) : d.isRow = k.agg := by
  cases k <;> simp only [TK.fits] at h
  · subst h; rfl
  · obtain ⟨f, rfl, _⟩ := h; rfl
  · subst h; rfl
  · subst h; rfl
  · subst h; rfl
  · exact h

section
variable {P : Program} {o : Oper} {a : Act} {w w' : World} {next : Act → World → Prop} {Q : Exit → Act → World → Prop} {u : Value}
theorem fin (hrun : (execOp a.eval o).run P w = .ok (.value u) w') (hn : next (a.put o.dst u) w') : o.wp P a w next Q := by
  unfold Oper.wp; rw [hrun]; exact hn
theorem fin_skip (hrun : (execOp a.eval o).run P w = .ok .skip w') (hn : next (a.put o.dst undef) w') : o.wp P a w next Q := by
  unfold Oper.wp; rw [hrun]; exact hn
end

section
variable {P : Program} {T : Tab}
theorem TabOK.size (hT : TabOK P T) {t : Nat} {i : TI} (h : T.at t = some i) : (P.info? t).map (·.size) = some i.size := by
  obtain ⟨inf, z, h1, h2, _⟩ := hT.info t i h
  rw [h1, ← h2]; rfl
theorem run_sizeOf (hT : TabOK P T) {t : Nat} {i : TI} (h : T.at t = some i) (w : World) : (sizeOf t).run P w = .ok i.size w := by
  obtain ⟨inf, z, h1, h2, _⟩ := hT.info t i h
  simp [sizeOf, typeInfo, h1, h2]
theorem run_typeInfo (hT : TabOK P T) {t : Nat} {i : TI} (h : T.at t = some i) (w : World) : ∃ inf, (typeInfo t).run P w = .ok inf w ∧ inf.bytes = i.bytes ∧ inf.size = i.size := by
  obtain ⟨inf, z, h1, h2, h3, _⟩ := hT.info t i h
  exact ⟨inf, by simp [typeInfo, h1], h3, h2⟩
theorem run_zero (hT : TabOK P T) {t : Nat} {i : TI} (h : T.at t = some i) (w : World) : ∃ z, (zeroValue t).run P w = .ok z w ∧ z.cells = i.zero.toArray := by
  obtain ⟨inf, z, h1, h2, h3, h4, h5, _⟩ := hT.info t i h
  exact ⟨z, by simp [zeroValue, typeInfo, h1, h4], by rw [← h5]⟩
theorem run_isAgg (hT : TabOK P T) {t : Nat} {i : TI} (h : T.at t = some i) (w : World) : (isAgg t).run P w = .ok i.kind.agg w := by
  obtain ⟨d, h1, h2⟩ := hT.desc t i h
  have h3 := TK.row h2
  rw [← h3]
  unfold isAgg
  rw [Sem.run_bind, run_underlying h1 w]
  cases d <;> rfl
theorem zero_all {w : World} {bad : Nat → Prop} {ob : List Ob} {m : Map} : ∀ (l : List Value), All2 (CR w bad ob m) (l.map .val) l
  | [] => trivial
  | x :: l => ⟨(rfl : x = x), zero_all l⟩

/-- A variable's cells are read. -/
theorem run_load_agg (hT : TabOK P T) {t : Nat} {i : TI} (h : T.at t = some i) {fs : List (Nat × TypeId)} (hk : i.kind = .st fs) {w : World} {b off : Nat} {us : List Value} (hl : us.length = i.size)
    (hc : ∀ j u, us[j]? = some u → w.cell? ⟨b, off + j, none⟩ = some u) : (loadVar t ⟨b, off, none⟩).run P w = .ok (.agg us.toArray) w := by
  obtain ⟨d, h1, h2⟩ := hT.desc t i h
  have h3 := TK.row h2
  rw [hk] at h3
  exact run_loadVar_mid w b off t us d hc h1 h3 (by rw [hT.size h, hl])
theorem run_load_one (hT : TabOK P T) {t : Nat} {i : TI} (h : T.at t = some i) (hk : ∀ fs, i.kind ≠ .st fs) {w : World} {ad : Addr} {u : Value} (hc : w.cell? ad = some u) : (loadVar t ad).run P w = .ok u w := by
  have h1 := run_isAgg hT h w
  have h2 : i.kind.agg = false := by
    cases hh : i.kind <;> first | rfl | exact absurd hh (hk _)
  rw [h2] at h1
  unfold loadVar
  rw [Sem.run_bind, h1]
  simp [load, Sem.run, hc]
end

section
variable {C : Ctx} {T : Tab} {o : Oper} {s : St} {m : Map} {a : Act} {w : World} {K : V → St → Prop} {next : Act → World → Prop} {Q : Exit → Act → World → Prop}

/-- What is to be shown of each operation. -/
abbrev Goes (C : Ctx) (o : Oper) (a : Act) (next : Act → World → Prop) (K : V → St → Prop) : Prop :=
  ∀ v s' m' u w', K v s' → VR w' (badOf C.E s'.ob m') s'.ob m' v u → Rel C s' m' a w' → next (a.put o.dst u) w'

theorem opt_some {α : Type} {x : Option α} {f : α → Prop} (h : opt x f) : ∃ y, x = some y ∧ f y := by
  cases x with
  | none => exact h.elim
  | some y => exact ⟨y, rfl, h⟩
theorem br_cases {b : Bool} {A B : Prop} (h : br b A B) : (b = true ∧ A) ∨ (b = false ∧ B) := by
  cases b
  · exact .inr ⟨rfl, h⟩
  · exact .inl ⟨rfl, h⟩
theorem br_true {b : Bool} {A : Prop} (h : br b A False) : b = true ∧ A := (br_cases h).elim id (fun h => h.2.elim)

theorem VR.self {w : World} {bad : Nat → Prop} {ob : List Ob} {m : Map} {u : Value} : VR w bad ob m (.val u) u := (rfl : u = u)
theorem s_move {x : Operand} (ho : o.op = .move x ∨ o.op = .assign x) (hr : Rel C s m a w) (h : opt (s.ev x) fun v => K v s) (hk : Goes C o a next K) : o.wp C.P a w next Q := by
  obtain ⟨v, hv, h⟩ := opt_some h
  refine fin (u := a.eval x) (w' := w) ?_ (hk v s m _ w h (hr.ev hv) hr)
  rcases ho with ho | ho <;> simp [execOp, ho]

theorem s_pick {c x y : Operand} (ho : o.op = .pick c x y) (hr : Rel C s m a w) (h : opA T (callA C.P) (.pick c x y) s K) (hk : Goes C o a next K) : o.wp C.P a w next Q := by
  simp only [opA] at h
  split at h
  · rename_i t hc
    have hb := VR.val (hr.ev hc)
    rcases br_cases h with ⟨rfl, h⟩ | ⟨rfl, h⟩
    · obtain ⟨v, hv, h⟩ := opt_some h
      exact fin (u := a.eval x) (w' := w) (by simp [execOp, ho, hb, asBool]) (hk v s m _ w h (hr.ev hv) hr)
    · obtain ⟨v, hv, h⟩ := opt_some h
      exact fin (u := a.eval y) (w' := w) (by simp [execOp, ho, hb, asBool]) (hk v s m _ w h (hr.ev hv) hr)
  · exact h.elim

theorem s_alloc (hT : TabOK C.P T) {t : TypeId} (ho : o.op = .alloc t) (hr : Rel C s m a w) (h : opA T (callA C.P) (.alloc t) s K) (hk : Goes C o a next K) : o.wp C.P a w next Q := by
  obtain ⟨i, hi, h⟩ := opt_some h
  obtain ⟨z, hz, hzc⟩ := run_zero hT hi w
  refine fin (u := .pointer (some ⟨w.heap.size, 0, none⟩)) (w' := w.alloc (.cells i.zero.toArray t)) ?_ (hk _ _ _ _ _ h VR.new_box (hr.box t (zero_all _)))
  simp [execOp, ho, Instr.alloc, hz, newVar, newRow, hzc]

theorem s_box {t : TypeId} {x : Operand} (ho : o.op = .box t x) (hr : Rel C s m a w) (h : opA T (callA C.P) (.box t x) s K) (hk : Goes C o a next K) : o.wp C.P a w next Q := by
  obtain ⟨v, hv, h⟩ := opt_some h
  obtain ⟨h1, h⟩ := br_true h
  obtain ⟨us, hu, hc, _⟩ := (hr.ev hv).cells h1
  refine fin (u := .pointer (some ⟨w.heap.size, 0, none⟩)) (w' := w.alloc (.cells us.toArray t)) ?_ (hk _ _ _ _ _ h VR.new_box (hr.box t hc))
  simp [execOp, ho, Instr.box, newVar, newRow, hu]

theorem s_extract {x : Operand} {i : Nat} (ho : o.op = .extract x i) (hr : Rel C s m a w) (h : opA T (callA C.P) (.extract x i) s K) (hk : Goes C o a next K) : o.wp C.P a w next Q := by
  simp only [opA] at h
  split at h
  · rename_i vs hx
    obtain ⟨v, hv, h⟩ := opt_some h
    obtain ⟨us, hu, hc⟩ : ∃ us : List Value, a.eval x = .tuple us.toArray ∧ All2 (VA w (badOf C.E s.ob m) s.ob m) vs us := hr.ev hx
    obtain ⟨y, hy, hv'⟩ := hc.get hv
    refine fin (u := y) (w' := w) ?_ (hk v s m _ w h ?_ hr)
    · simp [execOp, ho, Instr.extract, hu, hy]
    · cases v <;> first | exact hv' | exact hv'.elim
  · exact h.elim

theorem s_unOp {op : UnOp} {t : TypeId} {x : Operand} (ho : o.op = .unOp op t x) (hr : Rel C s m a w) (h : opA T (callA C.P) (.unOp op t x) s K) (hk : Goes C o a next K) : o.wp C.P a w next Q := by
  simp only [opA] at h
  split at h
  · rename_i b hx
    have hb := VR.val (hr.ev hx)
    exact fin (u := .bool !b) (w' := w) (by simp [execOp, ho, hb, Op.unary]) (hk _ _ m _ _ (caseB_out (K := fun d => K (.val (.bool d)) s) h) VR.self hr)
  · rename_i k n hx
    have hb := VR.val (hr.ev hx)
    exact fin (u := .int k (k.wrap (0 - n))) (w' := w) (by simp [execOp, ho, hb, Op.unary, Op.intArith]) (hk _ _ m _ _ (h _ rfl) VR.self hr)
  · exact h.elim

theorem s_convert (hT : TabOK C.P T) {src dst : TypeId} {x : Operand} (ho : o.op = .convert src dst x) (hr : Rel C s m a w) (h : opA T (callA C.P) (.convert src dst x) s K) (hk : Goes C o a next K) : o.wp C.P a w next Q := by
  simp only [opA] at h
  split at h
  · rename_i i1 sz by_ z k kx n hs hd hx
    have hb := VR.val (hr.ev hx)
    obtain ⟨d1, h1, _⟩ := hT.desc _ _ hs
    obtain ⟨d2, h2, h3⟩ := hT.desc _ _ hd
    obtain rfl : d2 = .int k := h3
    refine fin (u := .int k (k.wrap n)) (w' := w) ?_ (hk _ _ m _ _ (h _ rfl) VR.self hr)
    simp [execOp, ho, hb, convert, run_underlying h1, run_underlying h2, Conv.intToInt]
  · exact h.elim

theorem s_nilCheck {x : Operand} (ho : o.op = .nilCheck x) (hr : Rel C s m a w) (h : opA T (callA C.P) (.nilCheck x) s K) (hk : Goes C o a next K) : o.wp C.P a w next Q := by
  simp only [opA] at h
  split at h
  · rename_i q j hx
    have hv := hr.ev hx
    split at h
    · rename_i ty cs hq
      have hv' := hv
      replace hv' : CR w (badOf C.E s.ob m) s.ob m (.ptr q j) (a.eval x) := hv'
      simp only [CR, hq] at hv'
      obtain ⟨b, base, _, hv'⟩ := hv'
      exact fin (u := a.eval x) (w' := w) (by simp [execOp, ho, hv']) (hk _ _ m _ _ h hv hr)
    · exact h.elim
  · rename_i q k j hx
    have hv := hr.ev hx
    split at h
    · rename_i ty sz n g hq
      have hv' := hv
      replace hv' : CR w (badOf C.E s.ob m) s.ob m (.eptr q k j) (a.eval x) := hv'
      simp only [CR, hq] at hv'
      obtain ⟨b, base, _, hv'⟩ := hv'
      exact fin (u := a.eval x) (w' := w) (by simp [execOp, ho, hv']) (hk _ _ m _ _ h hv hr)
    · exact h.elim
  · rename_i cs hx
    have hv := hr.ev hx
    have hv2 : CR w (badOf C.E s.ob m) s.ob m (.fptr cs) (a.eval x) := hv
    obtain ⟨b, off, u, hv', _⟩ := hv2
    exact fin (u := a.eval x) (w' := w) (by simp [execOp, ho, hv']) (hk _ _ m _ _ h hv hr)
  · exact h.elim
end
end Go.Sim
namespace Go.Sim
open Go Go.RowKit

theorem cell_of {w : World} {b : Nat} {arr : Array Value} {ty : TypeId} {f : Nat × Nat} (h : w.heap[b]? = some (.cells arr ty f)) (off : Nat) : w.cell? ⟨b, off, none⟩ = arr[off]? := by simp [World.cell?, h]

theorem all2_of {R : V → Value → Prop} : ∀ (cs : List V) (f : Nat → Option Value), (∀ i c, cs[i]? = some c → ∃ u, f i = some u ∧ R c u) → ∃ us : List Value, All2 R cs us ∧ us.length = cs.length ∧ ∀ i u, us[i]? = some u → f i = some u
  | [], _, _ => ⟨[], trivial, rfl, fun i u h => by simp at h⟩
  | c :: cs, f, h => by
    obtain ⟨u, h1, h2⟩ := h 0 c rfl
    obtain ⟨us, h3, h4, h5⟩ := all2_of cs (fun i => f (i + 1)) (fun i c hc => h (i + 1) c (by simpa using hc))
    refine ⟨u :: us, ⟨h2, h3⟩, by simp [h4], fun i v hv => ?_⟩
    cases i with
    | zero => simp at hv; subst hv; exact h1
    | succ i => exact h5 i v (by simpa using hv)

theorem CR_of_FR {w : World} {bad : Nat → Prop} {ob : List Ob} {m : Map} {c : V} {v : Value} (h : FR w bad c v) : CR w bad ob m c v := by
  cases h with
  | val _ => exact (rfl : v = v)
  | fz u h1 h2 h3 h4 => exact FR.fz u h1 h2 h3 h4

theorem get_drop_take {α : Type} {l : List α} {j n i : Nat} {c : α} (h : ((l.drop j).take n)[i]? = some c) : l[j + i]? = some c ∧ i < n := by
  rw [List.getElem?_take] at h
  split at h
  · rw [List.getElem?_drop] at h; exact ⟨h, by assumption⟩
  · cases h

section
variable {C : Ctx} {T : Tab} {o : Oper} {s : St} {m : Map} {a : Act} {w : World} {K : V → St → Prop} {next : Act → World → Prop} {Q : Exit → Act → World → Prop}

/-- Where a box lies. -/
theorem Rel.box_at (hr : Rel C s m a w) {q j : Nat} {ty : TypeId} {cs : List V} (hq : s.ob[q]? = some (.box ty cs)) {u : Value} (hv : VR w (badOf C.E s.ob m) s.ob m (.ptr q j) u) :
    ∃ b arr, m q = some (b, 0) ∧ u = .pointer (some ⟨b, j, none⟩) ∧ w.heap[b]? = some (.cells arr ty (0, 0)) ∧ All2 (CR w (badOf C.E s.ob m) s.ob m) cs arr.toList := by
  have hv' : CR w (badOf C.E s.ob m) s.ob m (.ptr q j) u := hv
  simp only [CR, hq] at hv'
  obtain ⟨b, base, h1, rfl⟩ := hv'
  obtain ⟨b', arr, h2, h3, h4⟩ := hr.mem.ok q _ hq
  rw [h1] at h2
  injection h2 with h2
  injection h2 with h2 h5
  subst h2; subst h5
  exact ⟨b, arr, h1, by rw [Nat.zero_add], h3, h4⟩

/-- Where an element of a row lies. -/
theorem Rel.row_at (hr : Rel C s m a w) {q k j : Nat} {ty : TypeId} {sz n : Nat} {g : Nat → List V} (hq : s.ob[q]? = some (.row ty sz n g)) {u : Value} (hv : VR w (badOf C.E s.ob m) s.ob m (.eptr q k j) u) :
    ∃ b base arr, m q = some (b, base) ∧ u = .pointer (some ⟨b, base + k * sz + j, none⟩) ∧ w.heap[b]? = some (.cells arr ty (0, 0)) ∧
      ∀ k, k < n → (g k).length = sz ∧ ∀ (j : Nat) (c : V), (g k)[j]? = some c → ∃ u, arr[base + k * sz + j]? = some u ∧ FR w (badOf C.E s.ob m) c u := by
  have hv' : CR w (badOf C.E s.ob m) s.ob m (.eptr q k j) u := hv
  simp only [CR, hq] at hv'
  obtain ⟨b, base, h1, rfl⟩ := hv'
  have h2 := hr.mem.ok q _ hq
  simp only [OR, h1] at h2
  obtain ⟨arr, h3, h4⟩ := h2
  exact ⟨b, base, arr, h1, rfl, h3, h4⟩

theorem s_load (hT : TabOK C.P T) {t : TypeId} {p : Operand} (ho : o.op = .load t p) (hr : Rel C s m a w) (h : opA T (callA C.P) (.load t p) s K) (hk : Goes C o a next K) : o.wp C.P a w next Q := by
  obtain ⟨i, hi, h⟩ := opt_some h
  have done : ∀ (ad : Addr) (u : Value) (v : V), a.eval p = .pointer (some ad) → (loadVar t ad).run C.P w = .ok u w → K v s → VR w (badOf C.E s.ob m) s.ob m v u → o.wp C.P a w next Q := by
    intro ad u v h1 h2 h3 h4
    refine fin (u := u) (w' := w) ?_ (hk v s m u w h3 h4 hr)
    simp [execOp, ho, h1, Instr.loadAt, Instr.sureAddr, h2]
  split at h
  · rename_i q j hp
    split at h
    · rename_i ty cs hq
      obtain ⟨b, arr, h1, h2, h3, h4⟩ := hr.box_at hq (hr.ev hp)
      split at h
      · rename_i fs hkd
        obtain ⟨h5, h⟩ := br_true h
        have h5 := Nat.le_of_ble_eq_true h5
        have hlen := h4.length
        refine done _ _ _ h2 (run_load_agg hT hi hkd (us := (arr.toList.drop j).take i.size) (by simp only [List.length_take, List.length_drop]; omega) (fun x u hu => ?_)) h ⟨_, rfl, (h4.drop j).take _⟩
        obtain ⟨h6, _⟩ := get_drop_take hu
        rw [cell_of h3, ← Array.getElem?_toList]; exact h6
      · rename_i hkd
        obtain ⟨c, hc, h⟩ := opt_some h
        obtain ⟨u, hu, hcr⟩ := h4.get hc
        exact done _ u c h2 (run_load_one hT hi hkd (by rw [cell_of h3, ← Array.getElem?_toList]; exact hu)) h hcr.mono_VR
    · exact h.elim
  · rename_i q k j hp
    split at h
    · rename_i ty sz n g hq
      obtain ⟨hkn, h⟩ := h
      replace h := h _ rfl
      obtain ⟨b, base, arr, h1, h2, h3, h4⟩ := hr.row_at hq (hr.ev hp)
      obtain ⟨h5, h6⟩ := h4 k hkn
      split at h
      · rename_i fs hkd
        obtain ⟨h7, h⟩ := br_true h
        have h7 := Nat.le_of_ble_eq_true h7
        obtain ⟨us, g1, g2, g3⟩ := all2_of (R := CR w (badOf C.E s.ob m) s.ob m) (((g k).drop j).take i.size) (fun x => arr[base + k * sz + (j + x)]?) (fun x c hc => by
          obtain ⟨u, hu, hf⟩ := h6 _ c (get_drop_take hc).1
          exact ⟨u, hu, CR_of_FR hf⟩)
        refine done _ _ _ h2 (run_load_agg hT hi hkd (us := us) (by rw [g2]; simp only [List.length_take, List.length_drop]; omega) (fun x u hu => ?_)) h ⟨_, rfl, g1⟩
        rw [cell_of h3, Nat.add_assoc (base + k * sz)]; exact g3 x u hu
      · rename_i hkd
        obtain ⟨c, hc, h⟩ := opt_some h
        obtain ⟨u, hu, hf⟩ := h6 _ c hc
        exact done _ u c h2 (run_load_one hT hi hkd (by rw [cell_of h3]; exact hu)) h (CR_of_FR hf).mono_VR
    · exact h.elim
  · rename_i cs hp
    have hv := hr.ev hp
    have hv2 : CR w (badOf C.E s.ob m) s.ob m (.fptr cs) (a.eval p) := hv
    obtain ⟨b, off, u, h1, h2, h3, h4⟩ := hv2
    split at h
    · rename_i fs hkd
      obtain ⟨h7, h⟩ := br_true h
      have h7 := Nat.le_of_ble_eq_true h7
      obtain ⟨us, g1, g2, g3⟩ := all2_of (R := CR w (badOf C.E s.ob m) s.ob m) (cs.take i.size) (fun x => w.cell? ⟨b, off + x, none⟩) (fun x c hc => by
        rw [List.getElem?_take] at hc
        split at hc
        · obtain ⟨hc1, hc2⟩ := h4 x c hc
          exact ⟨_, hc1, CR_of_FR hc2⟩
        · cases hc)
      exact done _ _ _ h1 (run_load_agg hT hi hkd (us := us) (by rw [g2]; simp only [List.length_take]; omega) (fun x u hu => g3 x u hu)) h ⟨_, rfl, g1⟩
    · rename_i hkd
      obtain ⟨c, hc, h⟩ := opt_some h
      obtain ⟨hc1, hc2⟩ := h4 0 c hc
      exact done _ _ c h1 (run_load_one hT hi hkd hc1) h (CR_of_FR hc2).mono_VR
  · exact h.elim

theorem run_fieldPlace (hT : TabOK C.P T) {t : Nat} {f : Field} {i : TI} (h : T.at f.type = some i) (h1 : 1 ≤ i.size) (ad : Addr) (w : World) : (fieldPlace ad f).run C.P w = .ok (ad.add f.offset) w := by
  unfold fieldPlace
  rw [Sem.run_bind, run_sizeOf hT h]
  have : ¬ i.size = 0 := by omega
  simp [this]

theorem add_plain' (b off n : Nat) : (⟨b, off, none⟩ : Addr).add n = ⟨b, off + n, none⟩ := by unfold Addr.add; split <;> simp_all

theorem field_of {fs : List (Nat × TypeId)} {fl : Array Field} (hf : fl.toList.map (fun x => (x.offset, x.type)) = fs) {f : Nat} {p : Nat × TypeId} (hp : fs[f]? = some p) : ∃ fd, fl[f]? = some fd ∧ fd.offset = p.1 ∧ fd.type = p.2 := by
  subst hf
  rw [List.getElem?_map] at hp
  obtain ⟨fd, h1, h2⟩ := Option.map_eq_some_iff.1 hp
  exact ⟨fd, by rwa [Array.getElem?_toList] at h1, by rw [← h2], by rw [← h2]⟩

theorem s_fieldAddr (hT : TabOK C.P T) {t : TypeId} {x : Operand} {f : Nat} (ho : o.op = .fieldAddr t x f) (hr : Rel C s m a w) (h : opA T (callA C.P) (.fieldAddr t x f) s K) (hk : Goes C o a next K) : o.wp C.P a w next Q := by
  simp only [opA] at h
  split at h
  · rename_i z1 z2 z3 fs ht
    obtain ⟨p, hp, h⟩ := opt_some h
    obtain ⟨i, hi, h⟩ := opt_some h
    obtain ⟨h1, h⟩ := br_true h
    have h1 := Nat.le_of_ble_eq_true h1
    obtain ⟨d, hd, fl, hd2, hfl⟩ := hT.desc _ _ ht
    subst hd2
    obtain ⟨fd, g1, g2, g3⟩ := field_of hfl hp
    have done : ∀ (b off : Nat) (v : V), a.eval x = .pointer (some ⟨b, off, none⟩) → K v s → VR w (badOf C.E s.ob m) s.ob m v (.pointer (some ⟨b, off + p.1, none⟩)) → o.wp C.P a w next Q := by
      intro b off v e1 e2 e3
      refine fin (u := .pointer (some ⟨b, off + p.1, none⟩)) (w' := w) ?_ (hk v s m _ w e2 e3 hr)
      have := run_fieldPlace (t := t) hT (f := fd) (by rw [g3]; exact hi) h1 ⟨b, off, none⟩ w
      simp [execOp, ho, e1, Instr.fieldAt, Instr.sureAddr, run_underlying hd, g1, this, add_plain', g2]
    split at h
    · rename_i q j hx
      split at h
      · rename_i ty cs hq
        obtain ⟨b, arr, e1, e2, _⟩ := hr.box_at hq (hr.ev hx)
        refine done _ _ _ e2 h (CR.mono_VR ?_)
        simp only [CR, hq]
        exact ⟨b, 0, e1, by simp⟩
      · exact h.elim
    · rename_i q k j hx
      split at h
      · rename_i ty sz n g hq
        obtain ⟨b, base, arr, e1, e2, _⟩ := hr.row_at hq (hr.ev hx)
        refine done _ _ _ e2 h (CR.mono_VR ?_)
        simp only [CR, hq]
        exact ⟨b, base, e1, by rw [Nat.add_assoc (base + k * sz)]⟩
      · exact h.elim
    · rename_i cs hx
      have hv2 : CR w (badOf C.E s.ob m) s.ob m (.fptr cs) (a.eval x) := hr.ev hx
      obtain ⟨b, off, u, e1, e2, e3, e4⟩ := hv2
      refine done _ _ _ e1 h (CR.mono_VR ⟨b, off + p.1, fun j => u (p.1 + j), rfl, e2, e3, fun j y hy => ?_⟩)
      rw [List.getElem?_drop] at hy
      rw [Nat.add_assoc]
      exact e4 _ y hy
    · exact h.elim
  · exact h.elim
end
end Go.Sim
namespace Go.Sim
open Go Go.RowKit

theorem compat.refl (x : Ob) : compat x x := by cases x <;> simp [compat]
theorem compat.trans {x y z : Ob} (h : compat x y) (k : compat y z) : compat x z := by
  cases x <;> cases y <;> cases z <;> simp_all [compat]
theorem Ext.refl (w : World) (bad : Nat → Prop) (ob : List Ob) (m : Map) : Ext w w bad bad ob ob m m where
  cell _ _ _ _ _ h := h
  size := Nat.le_refl _
  bads _ _ h := h
  bsz _ := Nat.le_refl _
  obs o x h := ⟨x, h, compat.refl x⟩
  map _ _ := rfl
theorem Ext.trans {w w1 w2 : World} {bad bad1 bad2 : Nat → Prop} {ob ob1 ob2 : List Ob} {m m1 m2 : Map} (h : Ext w w1 bad bad1 ob ob1 m m1) (k : Ext w1 w2 bad1 bad2 ob1 ob2 m1 m2) : Ext w w2 bad bad2 ob ob2 m m2 where
  cell b hb hl off v hv := k.cell b (h.bads b hl hb) (Nat.lt_of_lt_of_le hl h.size) off v (h.cell b hb hl off v hv)
  size := Nat.le_trans h.size k.size
  bads b hl hb := k.bads b (Nat.lt_of_lt_of_le hl h.size) (h.bads b hl hb)
  bsz b := Nat.le_trans (h.bsz b) (k.bsz b)
  obs o x hx := by
    obtain ⟨y, h1, h2⟩ := h.obs o x hx
    obtain ⟨z, h3, h4⟩ := k.obs o y h1
    exact ⟨z, h3, h2.trans h4⟩
  map o ho := by
    obtain ⟨y, h1, _⟩ := h.obs o _ (List.getElem?_eq_getElem ho)
    exact (k.map o (lt_of_get h1)).trans (h.map o ho)

/-- A row of the call's own, seen as memory that is only read: it is no longer looked at as its own. -/
theorem freeze_row {C : Ctx} {ob : List Ob} {m : Map} {w : World} (hm : Mem C ob m w) {o off len : Nat} {ty : TypeId} {sz n : Nat} {g : Nat → List V} (ho : ob[o]? = some (.row ty sz n g)) (hn : off + len ≤ n) {u : Value}
    (h : CR w (badOf C.E ob m) ob m (.row o off len) u) {bad' : Nat → Prop} (hb : ∀ b, b < w.heap.size → ¬ badOf C.E ob m b → ¬ bad' b) (hb' : ∀ b base, m o = some (b, base) → ¬ bad' b) : FR w bad' (.fz sz len (fun k => g (k + off))) u := by
  simp only [CR, ho] at h
  obtain ⟨A, cap, rfl, h1, h2⟩ := h
  have hO := hm.ok o _ ho
  have hfr : ∀ {c : V} {v : Value}, FR w (badOf C.E ob m) c v → FR w bad' c v := fun hf => FR.mono (fun _ _ _ _ _ h => h) (Nat.le_refl _) hb hf
  rcases Nat.eq_zero_or_pos len with h0 | h0
  · subst h0
    exact FR.fz (fun _ _ => undef) h1 (fun h => absurd h (Nat.lt_irrefl 0)) (fun k hk => absurd hk (by omega)) (fun k j c hk => absurd hk (by omega))
  · obtain ⟨b, base, h3, rfl, h4⟩ := h2 (by omega)
    simp only [OR, h3] at hO
    obtain ⟨arr, h5, h6⟩ := hO
    have hlt := (hm.blk o _ b base ho rfl h3).2.2
    have hs : ∀ k, k < len → ∀ j, j < sz → ∃ v, arr[base + (k + off) * sz + j]? = some v := by
      intro k hk j hj
      have hl := (h6 (k + off) (by omega)).1
      obtain ⟨c, hc⟩ : ∃ c, (g (k + off))[j]? = some c := ⟨_, List.getElem?_eq_getElem (by omega)⟩
      obtain ⟨v, hv, _⟩ := (h6 (k + off) (by omega)).2 j c hc
      exact ⟨v, hv⟩
    refine FR.fz (fun k j => (arr[base + (k + off) * sz + j]?).getD undef) h1 (fun _ => ⟨b, base + off * sz, rfl, hb' b base h3, hlt, fun k j hk hj => ?_⟩) (fun k hk => (h6 _ (by omega)).1) (fun k j c hk hj => ?_)
    · rw [cell_of h5]
      obtain ⟨v, hv⟩ := hs k hk j hj
      have e : base + off * sz + k * sz + j = base + (k + off) * sz + j := by rw [Nat.add_mul]; omega
      rw [e, hv]; rfl
    · obtain ⟨v, hv, hf⟩ := (h6 (k + off) (by omega)).2 j c hj
      rw [hv]; exact hfr hf

theorem FR.cong {w : World} {bad : Nat → Prop} {sz n : Nat} {g g' : Nat → List V} {u : Value} (hg : ∀ k, k < n → g' k = g k) (h : FR w bad (.fz sz n g) u) : FR w bad (.fz sz n g') u := by
  cases h with
  | fz v hn hA hl hc => exact .fz v hn hA (fun k hk => by rw [hg k hk]; exact hl k hk) (fun k j c hk hj => hc k j c hk (by rw [← hg k hk]; exact hj))
theorem kill_bad {C : Ctx} {ob : List Ob} {m : Map} {w : World} (hm : Mem C ob m w) {o b base : Nat} {x : Ob} (ho : ob[o]? = some x) (hl : x.live = true) (h : m o = some (b, base)) : ¬ badOf C.E (ob.set o .dead) m b := by
  rintro (h1 | ⟨q, y, base', h1, h2, h3⟩)
  · exact (hm.blk o x b base ho hl h).1 h1
  · rcases get_set h1 with ⟨h4, h5⟩ | ⟨_, rfl, _⟩
    · exact h4 (hm.inj q o y x b base' base h5 ho h2 hl h3 h)
    · simp [Ob.live] at h2

theorem frz_ok {C : Ctx} {m : Map} {w : World} {K : List V → List Ob → Prop} : ∀ {cs acc : List V} {ob : List Ob} {us vs : List Value}, frz K cs acc ob → Mem C ob m w → All2 (CR w (badOf C.E ob m) ob m) cs us → All2 (FR w (badOf C.E ob m)) acc vs →
    ∃ acc' ob', K acc' ob' ∧ Mem C ob' m w ∧ Ext w w (badOf C.E ob m) (badOf C.E ob' m) ob ob' m m ∧ All2 (FR w (badOf C.E ob' m)) acc' (vs ++ us) ∧ ∀ x ∈ us, x.oneCell' = true
  | [], acc, ob, [], vs, h, hm, _, ha => ⟨acc, ob, h, hm, Ext.refl _ _ _ _, by simpa using ha, by simp⟩
  | c :: cs, acc, ob, u :: us, vs, h, hm, hc, ha => by
    have step : ∀ {c' : V} {ob1 : List Ob}, frz K cs (acc ++ [c']) ob1 → Mem C ob1 m w → Ext w w (badOf C.E ob m) (badOf C.E ob1 m) ob ob1 m m → FR w (badOf C.E ob1 m) c' u → u.oneCell' = true →
        ∃ acc' ob', K acc' ob' ∧ Mem C ob' m w ∧ Ext w w (badOf C.E ob m) (badOf C.E ob' m) ob ob' m m ∧ All2 (FR w (badOf C.E ob' m)) acc' (vs ++ u :: us) ∧ ∀ x ∈ u :: us, x.oneCell' = true := by
      intro c' ob1 h1 h2 h3 h4 h5
      obtain ⟨acc', ob', g1, g2, g3, g4, g5⟩ := frz_ok h1 h2 (hc.2.mono fun _ _ => CR.ext h3) (vs := vs ++ [u]) ((ha.mono fun _ _ hf => FR.mono h3.cell h3.size h3.bads hf).append ⟨h4, trivial⟩)
      exact ⟨acc', ob', g1, g2, h3.trans g3, by simpa using g4, by simpa using ⟨h5, g5⟩⟩
    unfold frz at h
    split at h
    · obtain ⟨h1, h⟩ := br_true h
      obtain rfl := VR.val hc.1.mono_VR
      exact step h hm (Ext.refl _ _ _ _) (.val h1) h1
    · exact step h hm (Ext.refl _ _ _ _) hc.1 (CR.one hc.1 rfl)
    · rename_i o off len
      split at h
      · rename_i ty sz n g ho
        obtain ⟨hn, g', hg', h⟩ := h
        have hone := CR.one hc.1 rfl
        exact step h (hm.kill o) (Ext.kill o) (FR.cong hg' <| freeze_row hm ho hn hc.1 (Ext.kill (C := C) (w := w) (m := m) o).bads (fun b base hb => kill_bad hm ho rfl hb)) hone
      · exact h.elim
    · exact h.elim
  | [], _, _, _ :: _, _, _, _, hc, _ => hc.elim
  | _ :: _, _, _, [], _, _, _, hc, _ => hc.elim

section
variable {C : Ctx} {T : Tab} {o : Oper} {s : St} {m : Map} {a : Act} {w : World} {K : V → St → Prop} {next : Act → World → Prop} {Q : Exit → Act → World → Prop}

theorem Rel.obs (hr : Rel C s m a w) {ob' : List Ob} (hm : Mem C ob' m w) (e : Ext w w (badOf C.E s.ob m) (badOf C.E ob' m) s.ob ob' m m) : Rel C { s with ob := ob' } m a w := ⟨hr.df, hr.tm.mono fun _ _ => VR.ext e, hm⟩

theorem bsize_of {w : World} {b : Nat} {arr : Array Value} {ty : TypeId} {f : Nat × Nat} (h : w.heap[b]? = some (.cells arr ty f)) : bsize w b = arr.size := by simp [bsize, h]

theorem run_store (hT : TabOK C.P T) {t : TypeId} {i : TI} (hi : T.at t = some i) {p x : Operand} (ho : o.op = .store t p x) {b off : Nat} (hp : a.eval p = .pointer (some ⟨b, off, none⟩)) {us : List Value} (hx : (a.eval x).cells = us.toArray) (hl : us.length = i.size)
    (h1 : ∀ x ∈ us, x.oneCell' = true) {arr : Array Value} {ty : TypeId} (hb : w.heap[b]? = some (.cells arr ty (0, 0))) (hs : off + us.length ≤ arr.size) :
    (execOp a.eval o).run C.P w = .ok .skip (w.setRow b (arr.toList.take off ++ us ++ arr.toList.drop (off + us.length)).toArray) := by
  have h2 := run_storeCells_at C.P b off ty us 0 arr w hb (by omega) h1
  simp only [Nat.add_zero] at h2
  have h3 : us.toArray.size = i.size := by simpa using hl
  simp [execOp, ho, hp, Instr.storeAt, Instr.sureAddr, storeVar, run_sizeOf hT hi, hx, hl, h2]

theorem s_store (hT : TabOK C.P T) {t : TypeId} {p x : Operand} (ho : o.op = .store t p x) (hr : Rel C s m a w) (h : opA T (callA C.P) (.store t p x) s K) (hk : Goes C o a next K) : o.wp C.P a w next Q := by
  obtain ⟨i, hi, h⟩ := opt_some h
  obtain ⟨v, hv, h⟩ := opt_some h
  obtain ⟨h0, h⟩ := br_true h
  rw [Bool.and_eq_true] at h0
  obtain ⟨hsz, hone⟩ := h0
  have hsz := Nat.eq_of_beq_eq_true hsz
  obtain ⟨us, hu, hc, h1⟩ := (hr.ev hv).cells hone
  have hlen := hc.length
  split at h
  · rename_i q j hp
    split at h
    · rename_i ty cs hq
      obtain ⟨h2, h⟩ := br_true h
      have h2 := Nat.le_of_ble_eq_true h2
      obtain ⟨b, arr, g1, g2, g3, g4⟩ := hr.box_at hq (hr.ev hp)
      have g5 := g4.length
      have hsz2 : (arr.toList.take j ++ us ++ arr.toList.drop (j + us.length)).toArray.size = arr.size := by
        simp only [Array.length_toList] at g5
        simp only [List.size_toArray, List.length_append, List.length_take, List.length_drop, Array.length_toList]; omega
      refine fin_skip (run_store hT hi ho g2 hu (by omega) h1 g3 (by simp only [Array.length_toList] at g5; omega)) (hk _ _ m _ _ h .self ?_)
      have hw : ∀ q, q ≠ b → (w.setRow b (arr.toList.take j ++ us ++ arr.toList.drop (j + us.length)).toArray).heap[q]? = w.heap[q]? := fun q hq => setRow_other w b q _ hq
      have hh := setRow_heap w b arr (arr.toList.take j ++ us ++ arr.toList.drop (j + us.length)).toArray ty (0, 0) g3
      refine hr.write hq rfl g1 (x' := .box ty (cs.take j ++ v.cells ++ cs.drop (j + i.size))) trivial rfl hw (by simp) (by rw [bsize_of hh, bsize_of g3, hsz2]) ⟨rfl, rfl, rfl⟩ ⟨b, _, g1, hh, ?_⟩
      have e := Ext.write hr.mem hq rfl g1 (x' := .box ty (cs.take j ++ v.cells ++ cs.drop (j + i.size))) trivial rfl hw (by simp) (by rw [bsize_of hh, bsize_of g3, hsz2])
      have g6 := ((g4.take j).append hc).append (g4.drop (j + i.size))
      rw [← hsz, hlen] at g6
      exact (by rw [← hsz, hlen]; exact g6 : All2 _ (cs.take j ++ v.cells ++ cs.drop (j + i.size)) _).mono fun _ _ => CR.ext e
    · exact h.elim
  · rename_i q k j hp
    obtain ⟨cells, ob', h, hm', hE, hF, _⟩ := frz_ok h hr.mem hc (vs := []) trivial
    rw [List.nil_append] at hF
    have hr' := hr.obs hm' hE
    split at h
    · rename_i ty sz n g hq
      obtain ⟨h2, hkn, g', hg', h⟩ := br_true h
      rw [Bool.and_eq_true] at h2
      obtain ⟨h2, hpos⟩ := h2
      have h2 := Nat.le_of_ble_eq_true h2
      have hpos := Nat.le_of_ble_eq_true hpos
      obtain ⟨b, base, arr, g1, g2, g3, g4⟩ := hr'.row_at (s := { s with ob := ob' }) hq ((hr.ev hp).ext hE)
      have hflen := hF.length
      obtain ⟨hl, hcell⟩ := g4 k hkn
      have hinb : base + k * sz + j + us.length ≤ arr.size := by
        obtain ⟨c, hc'⟩ : ∃ c, (g k)[j + us.length - 1]? = some c := ⟨_, List.getElem?_eq_getElem (by omega)⟩
        obtain ⟨y, hy, _⟩ := hcell _ _ hc'
        have := (Array.getElem?_eq_some_iff.1 hy).1
        omega
      refine fin_skip (run_store hT hi ho g2 hu (by omega) h1 g3 hinb) (hk _ _ m _ _ h .self ?_)
      generalize hoff : base + k * sz + j = off at hinb ⊢
      have hsz2 : (arr.toList.take off ++ us ++ arr.toList.drop (off + us.length)).toArray.size = arr.size := by
        simp only [List.size_toArray, List.length_append, List.length_take, List.length_drop, Array.length_toList]; omega
      have hw : ∀ q, q ≠ b → (w.setRow b (arr.toList.take off ++ us ++ arr.toList.drop (off + us.length)).toArray).heap[q]? = w.heap[q]? := fun q hq => setRow_other w b q _ hq
      have hh := setRow_heap w b arr (arr.toList.take off ++ us ++ arr.toList.drop (off + us.length)).toArray ty (0, 0) g3
      have hbs := (bsize_of hh).trans (hsz2.trans (bsize_of g3).symm)
      have e := Ext.write hm' hq rfl g1 (x' := .row ty sz n g') rfl rfl hw (by simp) hbs
      refine hr'.write (s := { s with ob := ob' }) hq rfl g1 (x' := .row ty sz n g') rfl rfl hw (by simp) hbs ⟨rfl, rfl, rfl⟩ ?_
      simp only [OR, g1]
      refine ⟨_, hh, fun k' hk' => ?_⟩
      obtain ⟨hl', hcell'⟩ := g4 k' hk'
      rw [hg' k' hk']
      by_cases hkk : k' = k
      · subst hkk
        rw [if_pos rfl]
        refine ⟨by simp only [List.length_append, List.length_take, List.length_drop]; omega, fun x c hx => ?_⟩
        rw [List.getElem?_append] at hx
        split at hx
        · rename_i hx1
          rw [List.getElem?_append] at hx
          split at hx
          · rename_i hx2
            rw [List.length_take] at hx2
            rw [List.getElem?_take_of_lt (by omega)] at hx
            obtain ⟨y, hy, hf⟩ := hcell _ _ hx
            refine ⟨y, ?_, FR.mono e.cell e.size e.bads hf⟩
            rw [List.getElem?_toArray, List.getElem?_append_left (by simp only [List.length_append, List.length_take, Array.length_toList]; omega), List.getElem?_append_left (by simp only [List.length_take, Array.length_toList]; omega), List.getElem?_take_of_lt (by omega), Array.getElem?_toList]
            exact hy
          · rename_i hx2
            rw [List.length_take] at hx2 hx
            rw [List.length_append, List.length_take] at hx1
            obtain ⟨y, hy, hf⟩ := hF.get hx
            refine ⟨y, ?_, FR.mono e.cell e.size e.bads hf⟩
            rw [List.getElem?_toArray, List.getElem?_append_left (by simp only [List.length_append, List.length_take, Array.length_toList]; omega), List.getElem?_append_right (by simp only [List.length_take, Array.length_toList]; omega)]
            rw [← hy]; congr 1; simp only [List.length_take, Array.length_toList]; omega
        · rename_i hx1
          rw [List.length_append, List.length_take] at hx1 hx
          rw [List.getElem?_drop] at hx
          obtain ⟨y, hy, hf⟩ := hcell _ _ hx
          refine ⟨y, ?_, FR.mono e.cell e.size e.bads hf⟩
          rw [List.getElem?_toArray, List.getElem?_append_right (by simp only [List.length_append, List.length_take, Array.length_toList]; omega), List.getElem?_drop, Array.getElem?_toList]
          rw [← hy]; congr 1; simp only [List.length_append, List.length_take, Array.length_toList]; omega
      · rw [if_neg hkk]
        refine ⟨hl', fun x c hx => ?_⟩
        have hxl := lt_of_get hx
        obtain ⟨y, hy, hf⟩ := hcell' _ _ hx
        refine ⟨y, ?_, FR.mono e.cell e.size e.bads hf⟩
        rcases Nat.lt_or_ge k' k with hlt | hge
        · have h3 : k' * sz + sz ≤ k * sz := by rw [← Nat.succ_mul]; exact Nat.mul_le_mul_right _ hlt
          rw [List.getElem?_toArray, List.getElem?_append_left (by simp only [List.length_append, List.length_take, Array.length_toList]; omega), List.getElem?_append_left (by simp only [List.length_take, Array.length_toList]; omega), List.getElem?_take_of_lt (by omega), Array.getElem?_toList]
          exact hy
        · have h3 : k * sz + sz ≤ k' * sz := by rw [← Nat.succ_mul]; exact Nat.mul_le_mul_right _ (by omega)
          rw [List.getElem?_toArray, List.getElem?_append_right (by simp only [List.length_append, List.length_take, Array.length_toList]; omega), List.getElem?_drop, Array.getElem?_toList]
          rw [← hy]; congr 1; simp only [List.length_append, List.length_take, Array.length_toList]; omega
    · exact h.elim
  · exact h.elim
end
end Go.Sim
namespace Go.Sim
open Go Go.RowKit

section
variable {C : Ctx} {T : Tab} {o : Oper} {s : St} {m : Map} {a : Act} {w : World} {K : V → St → Prop} {next : Act → World → Prop} {Q : Exit → Act → World → Prop}

theorem TabOK.sl {P : Program} (hT : TabOK P T) {t sz by_ : Nat} {z : List Value} {e : TypeId} (h : T.at t = some { size := sz, bytes := by_, zero := z, kind := .sl e }) : P.underlying t = some (.slice e) := by
  obtain ⟨d, h1, h2⟩ := hT.desc _ _ h
  rw [h1, show d = .slice e from h2]
theorem TabOK.str {P : Program} (hT : TabOK P T) {t sz by_ : Nat} {z : List Value} (h : T.at t = some { size := sz, bytes := by_, zero := z, kind := .str }) : P.underlying t = some .string := by
  obtain ⟨d, h1, h2⟩ := hT.desc _ _ h
  rw [h1, show d = .string from h2]

theorem s_indexAddr (hT : TabOK C.P T) {t : TypeId} {x ix : Operand} (ho : o.op = .indexAddr t x ix) (hr : Rel C s m a w) (h : opA T (callA C.P) (.indexAddr t x ix) s K) (hk : Goes C o a next K) : o.wp C.P a w next Q := by
  simp only [opA] at h
  split at h
  · rename_i z1 z2 z3 e kd q ht hix
    have hu := hT.sl ht
    have hq := VR.val (hr.ev hix)
    obtain ⟨i, hi, h⟩ := opt_some h
    have run : ∀ (A : Addr) (len cap : Nat), a.eval x = .slice (some A) len cap → 0 ≤ q → q < (len : Int) → (execOp a.eval o).run C.P w = .ok (.value (.pointer (some (A.add (q.toNat * i.size))))) w := by
      intro A len cap hx h0 h1
      simp [execOp, ho, hx, hq, Instr.indexAt, run_underlying hu, asIntOf, h0, h1, run_sizeOf hT hi]
    split at h
    · rename_i r off len hx
      split at h
      · rename_i ty sz n g hrow
        obtain ⟨h1, h2, h3, hK⟩ := br_true h
        clear h
        have h1 := Nat.eq_of_beq_eq_true h1
        subst h1
        have hv : CR w (badOf C.E s.ob m) s.ob m (.row r off len) (a.eval x) := hr.ev hx
        simp only [CR, hrow] at hv
        obtain ⟨A, cap, hA, hc1, hc2⟩ := hv
        obtain ⟨b, base, g1, rfl, g3⟩ := hc2 (by omega)
        refine fin (run _ _ _ hA h2 h3) (hk _ _ m _ _ (hK _ rfl) (CR.mono_VR ?_) hr)
        simp only [CR, hrow, add_plain']
        exact ⟨b, base, g1, by congr 3; rw [Nat.add_mul]; omega⟩
      · exact h.elim
    · rename_i sz n g hx
      obtain ⟨h1, h2, h3, hK⟩ := br_true h
      clear h
      have h1 := Nat.eq_of_beq_eq_true h1
      subst h1
      have hv : FR w (badOf C.E s.ob m) (.fz i.size n g) (a.eval x) := hr.ev hx
      generalize he : a.eval x = vx at hv
      cases hv with
      | fz u hn hA hl hc =>
        obtain ⟨b, off, rfl, g1, g2, g3⟩ := hA (by omega)
        refine fin (run _ _ _ he h2 h3) (hk _ _ m _ _ (hK _ rfl) (CR.mono_VR ?_) hr)
        rw [add_plain']
        refine ⟨b, off + q.toNat * i.size, u q.toNat, rfl, g1, g2, fun j c hj => ⟨g3 _ _ (by omega) ?_, hc _ _ _ (by omega) hj⟩⟩
        have := lt_of_get hj
        rw [hl _ (by omega)] at this
        exact this
    · exact h.elim
  · exact h.elim

theorem run_part (hT : TabOK C.P T) {t : Nat} {i : TI} (hi : T.at t = some i) {us : List Value} {off : Nat} : (∀ fs, i.kind = .st fs → (part t us.toArray off).run C.P w = .ok (.agg ((us.drop off).take i.size).toArray) w) ∧ (∀ u, (∀ fs, i.kind ≠ .st fs) → us[off]? = some u → (part t us.toArray off).run C.P w = .ok u w) := by
  refine ⟨fun fs hk => ?_, fun u hk hu => ?_⟩
  · have h1 := run_isAgg hT hi w
    rw [hk] at h1
    unfold part
    rw [Sem.run_bind, h1]
    simp [TK.agg, run_sizeOf hT hi, List.extract_toArray, List.extract_eq_take_drop]
  · have h1 := run_isAgg hT hi w
    have h2 : i.kind.agg = false := by
      cases hh : i.kind <;> first | rfl | exact absurd hh (hk _)
    rw [h2] at h1
    unfold part
    rw [Sem.run_bind, h1]
    simp [hu]

theorem s_field (hT : TabOK C.P T) {t : TypeId} {x : Operand} {f : Nat} (ho : o.op = .field t x f) (hr : Rel C s m a w) (h : opA T (callA C.P) (.field t x f) s K) (hk : Goes C o a next K) : o.wp C.P a w next Q := by
  simp only [opA] at h
  split at h
  · rename_i z1 z2 z3 fs ht
    obtain ⟨p, hp, h⟩ := opt_some h
    obtain ⟨i, hi, h⟩ := opt_some h
    obtain ⟨d, hd, fl, hd2, hfl⟩ := hT.desc _ _ ht
    subst hd2
    obtain ⟨fd, g1, g2, g3⟩ := field_of hfl hp
    split at h
    · rename_i cs hx
      obtain ⟨us, hu, hc⟩ : ∃ us : List Value, a.eval x = .agg us.toArray ∧ All2 (CR w (badOf C.E s.ob m) s.ob m) cs us := hr.ev hx
      have hlen := hc.length
      have run : ∀ v, (part p.2 us.toArray p.1).run C.P w = .ok v w → (execOp a.eval o).run C.P w = .ok (.value v) w := by
        intro v hv
        simp [execOp, ho, hu, Instr.field, run_underlying hd, g1, asAgg, g2, g3, hv]
      split at h
      · rename_i fs' hkd
        obtain ⟨h1, h⟩ := br_true h
        exact fin (run _ ((run_part hT hi).1 _ hkd)) (hk _ _ m _ _ h ⟨_, rfl, (hc.drop _).take _⟩ hr)
      · rename_i hkd
        obtain ⟨c, hc1, h⟩ := opt_some h
        obtain ⟨u, hu1, hc2⟩ := hc.get hc1
        exact fin (run _ ((run_part hT hi).2 u hkd hu1)) (hk _ _ m _ _ h hc2.mono_VR hr)
    · exact h.elim
  · exact h.elim

theorem s_index (hT : TabOK C.P T) {t : TypeId} {x ix : Operand} (ho : o.op = .index t x ix) (hr : Rel C s m a w) (h : opA T (callA C.P) (.index t x ix) s K) (hk : Goes C o a next K) : o.wp C.P a w next Q := by
  simp only [opA] at h
  split at h
  · rename_i z1 z2 z3 z kd q ht hx hix
    obtain ⟨h0, h1, h⟩ := h
    have hu := hT.str ht
    have hq := VR.val (hr.ev hix)
    have hz := VR.val (hr.ev hx)
    have hlt : q.toNat < z.size := by omega
    refine fin (u := .int .u8 ((z.data.getD q.toNat 0).toNat : Int)) (w' := w) ?_ (hk _ _ m _ _ (h _ rfl) .self hr)
    have hb : z[q.toNat]? = some (z.data.getD q.toNat 0) := by
      rw [getElem?_pos z q.toNat hlt]
      congr 1
      show z.data[q.toNat] = _
      have : q.toNat < z.data.size := hlt
      simp only [Array.getD]; rw [dif_pos this]; rfl
    simp only [execOp, ho, hq, hz]
    simp only [Instr.index, asIntOf, Sem.run_bind, Sem.run_pure, Result.andThen_ok, run_underlying hu, h0, if_true, hb]
  · exact h.elim

theorem run_bound (l : Int) (k : IntKind) (y : Nat) (cd : BoundsCode) (h0 : 0 ≤ l) (h1 : l ≤ (y : Int)) : (Instr.sliceBound (.int k l) y cd).run C.P w = .ok l.toNat w := by
  simp [Instr.sliceBound, asIntOf, h0, h1]

theorem evo {x : Option Operand} {d v : V} {dv : Value} (hr : Rel C s m a w) (h : (x.map s.ev).getD (some d) = some v) (hd : VR w (badOf C.E s.ob m) s.ob m d dv) : (x = none ∧ v = d) ∨ (∃ q, x = some q ∧ VR w (badOf C.E s.ob m) s.ob m v (a.eval q)) := by
  cases x with
  | none => simp at h; exact .inl ⟨rfl, h.symm⟩
  | some q => exact .inr ⟨q, rfl, hr.ev (by simpa using h)⟩

theorem hiA_ok {hi : Option Operand} {len : Nat} {K : Int → Prop} (hr : Rel C s m a w) (h : hiA s hi len K) : ∃ kd hh, ((hi = none ∧ hh = (len : Int)) ∨ ∃ q, hi = some q ∧ a.eval q = .int kd hh) ∧ K hh := by
  unfold hiA at h
  split at h
  · exact ⟨.i64, _, .inl ⟨rfl, rfl⟩, h _ rfl⟩
  · rename_i x
    split at h
    · rename_i kd hh hx
      exact ⟨kd, hh, .inr ⟨x, rfl, VR.val (hr.ev hx)⟩, h⟩
    · exact h.elim

theorem run_bounds {lo hi : Option Operand} {l h : Int} {isS : Bool} {len cap : Nat} {k1 k2 : IntKind} (h0 : 0 ≤ l) (h1 : l ≤ h) (h2 : h ≤ (cap : Int)) (h3 : len ≤ cap)
    (hlo : (lo = none ∧ l = 0) ∨ ∃ q, lo = some q ∧ a.eval q = .int k1 l) (hhi : (hi = none ∧ h = len) ∨ ∃ q, hi = some q ∧ a.eval q = .int k2 h) :
    (Instr.sliceBounds isS len cap (lo.map a.eval) (hi.map a.eval) none).run C.P w = .ok (l.toNat, h.toNat, cap) w := by
  have b1 : ∀ (kk : IntKind) (cd : BoundsCode), (Instr.sliceBound (.int kk l) h.toNat cd).run C.P w = .ok l.toNat w := fun kk cd => run_bound l kk h.toNat cd h0 (by omega)
  rcases hlo with ⟨rfl, rfl⟩ | ⟨q, rfl, hq⟩ <;> rcases hhi with ⟨rfl, rfl⟩ | ⟨q', rfl, hq'⟩
  · simp [Instr.sliceBounds]
  · simp [Instr.sliceBounds, hq', run_bound h k2 cap _ (by omega) h2]
  · simp only [Int.toNat_natCast] at b1
    simp [Instr.sliceBounds, hq, b1]
  · simp [Instr.sliceBounds, hq, hq', run_bound h k2 cap _ (by omega) h2, b1]

theorem s_slice (hT : TabOK C.P T) {t : TypeId} {x : Operand} {lo hi mx : Option Operand} (ho : o.op = .slice t x lo hi mx) (hr : Rel C s m a w) (h : opA T (callA C.P) (.slice t x lo hi mx) s K) (hk : Goes C o a next K) : o.wp C.P a w next Q := by
  simp only [opA] at h
  split at h
  · rename_i z1 z2 z3 kd l ht hlo
    have hu := hT.str ht
    have hl' : (lo = none ∧ l = 0) ∨ ∃ q, lo = some q ∧ a.eval q = .int kd l := by
      rcases evo hr hlo (.self) with ⟨h1, h2⟩ | ⟨q, h1, h2⟩
      · exact .inl ⟨h1, by injection h2 with h2; injection h2⟩
      · exact .inr ⟨q, h1, VR.val h2⟩
    split at h
    · rename_i z hx
      have hz := VR.val (hr.ev hx)
      obtain ⟨kd2, hh, hh', h⟩ := hiA_ok hr h
      obtain ⟨h0, h1, h2, h⟩ := h
      replace h := h _ rfl
      refine fin (u := .string (z.extract l.toNat hh.toNat)) (w' := w) ?_ (hk _ _ m _ _ h .self hr)
      have := run_bounds (C := C) (w := w) (a := a) (isS := false) (len := z.size) (cap := z.size) h0 h1 h2 (Nat.le_refl _) hl' hh'
      simp [execOp, ho, hz, Instr.sliceAt, Instr.slice, run_underlying hu, this]
    · exact h.elim
  · rename_i z1 z2 z3 e kd l ht hlo
    have hu := hT.sl ht
    have hl' : (lo = none ∧ l = 0) ∨ ∃ q, lo = some q ∧ a.eval q = .int kd l := by
      rcases evo hr hlo (.self) with ⟨h1, h2⟩ | ⟨q, h1, h2⟩
      · exact .inl ⟨h1, by injection h2 with h2; injection h2⟩
      · exact .inr ⟨q, h1, VR.val h2⟩
    obtain ⟨i, hi', h⟩ := opt_some h
    have run : ∀ (A : Option Addr) (len cap : Nat) (hh : Int) (kd2 : IntKind), a.eval x = .slice A len cap → len ≤ cap → 0 ≤ l → l ≤ hh → hh ≤ (len : Int) → ((hi = none ∧ hh = (len : Int)) ∨ ∃ q, hi = some q ∧ a.eval q = .int kd2 hh) →
        (execOp a.eval o).run C.P w = .ok (.value (.slice (if cap = l.toNat then A else A.map (·.add (l.toNat * i.size))) (hh.toNat - l.toNat) (cap - l.toNat))) w := by
      intro A len cap hh kd2 hx hc h0 h1 h2 hh'
      have := run_bounds (C := C) (w := w) (a := a) (isS := true) (len := len) (cap := cap) h0 h1 (by omega) hc hl' hh'
      simp [execOp, ho, hx, Instr.sliceAt, Instr.slice, run_underlying hu, this, run_sizeOf hT hi']
    split at h
    · rename_i r off len hx
      split at h
      · rename_i ty sz n g hrow
        obtain ⟨hsz, h⟩ := br_true h
        obtain ⟨kd2, hh, hh', h0, h1, h2, hK⟩ := hiA_ok hr h
        replace hK := hK _ _ rfl rfl
        clear h
        have hsz := Nat.eq_of_beq_eq_true hsz
        subst hsz
        have hv : CR w (badOf C.E s.ob m) s.ob m (.row r off len) (a.eval x) := hr.ev hx
        simp only [CR, hrow] at hv
        obtain ⟨A, cap, hA, hc1, hc2⟩ := hv
        refine fin (run A len cap hh kd2 hA hc1 h0 h1 h2 hh') (hk _ _ m _ _ hK (CR.mono_VR ?_) hr)
        simp only [CR, hrow]
        refine ⟨_, _, rfl, by omega, fun hpos => ?_⟩
        obtain ⟨b, base, g1, rfl, g3⟩ := hc2 (by omega)
        clear hc2 hl' hh' run hlo
        rw [if_neg (by omega)]
        refine ⟨b, base, g1, ?_, ?_⟩
        · simp only [Option.map_some, add_plain']; congr 2; rw [Nat.add_mul]; omega
        · have : (l.toNat + off + (cap - l.toNat)) = off + cap := by omega
          rw [this]; exact g3
      · exact h.elim
    · rename_i sz n g hx
      obtain ⟨hsz, h⟩ := br_true h
      obtain ⟨kd2, hh, hh', h0, h1, h2, hK⟩ := hiA_ok hr h
      obtain ⟨g', hg', hK⟩ := hK _ rfl
      clear h
      have hsz := Nat.eq_of_beq_eq_true hsz
      subst hsz
      have hv : FR w (badOf C.E s.ob m) (.fz i.size n g) (a.eval x) := hr.ev hx
      generalize he : a.eval x = vx at hv
      cases hv with
      | @fz _ _ cap _ A u hn hA hl hc =>
        refine fin (run A n cap hh kd2 he hn h0 h1 h2 hh') (hk _ _ m _ _ hK (CR.mono_VR (FR.cong hg' ?_)) hr)
        clear hl' hh' run hlo
        refine FR.fz (fun k j => u (k + l.toNat) j) (by omega) (fun hpos => ?_) (fun k hk => hl _ (by omega)) (fun k j c hk hj => hc _ _ _ (by omega) hj)
        obtain ⟨b, off, rfl, g1, g2, g3⟩ := hA (by omega)
        clear hA
        rw [if_neg (by omega)]
        refine ⟨b, off + l.toNat * i.size, by simp [add_plain'], g1, g2, fun k j hk hj => ?_⟩
        have := g3 (k + l.toNat) j (by omega) hj
        rw [← this]; congr 2; rw [Nat.add_mul]; omega
    · exact h.elim
  · exact h.elim
end
end Go.Sim
namespace Go.Sim
open Go Go.RowKit

section
variable {C : Ctx} {T : Tab} {o : Oper} {s : St} {m : Map} {a : Act} {w : World} {K : V → St → Prop} {next : Act → World → Prop} {Q : Exit → Act → World → Prop}

theorem TabOK.bool {P : Program} (hT : TabOK P T) {t sz by_ : Nat} {z : List Value} (h : T.at t = some { size := sz, bytes := by_, zero := z, kind := .bool }) : P.underlying t = some .bool := by
  obtain ⟨d, h1, h2⟩ := hT.desc _ _ h
  rw [h1, show d = .bool from h2]

theorem run_eqBool {t : TypeId} (h : C.P.underlying t = some .bool) (x y : Bool) : (Op.equal t (.bool x) (.bool y)).run C.P w = .ok (x == y) w := by
  exact run_equal_bool w t x y h

theorem same_ok {k k' : IntKind} {K : Prop} (h : same k k' K) : k = k' ∧ K := by
  obtain ⟨h1, h2⟩ := br_true h
  exact ⟨of_decide_eq_true h1, h2⟩
theorem binA_ok {op : BinOp} {t : TypeId} {x y : Operand} {vx vy : Value} {K : Value → Prop} (h : binA op vx vy K) : ∃ v, K v ∧ (do eqGuard op t x y vx vy; binOp op t vx vy : Sem Value).run C.P w = .ok v w := by
  have guard : ∀ {vx vy : Value}, (match vx with | .nilIface | .agg _ => False | _ => True) → (eqGuard op t x y vx vy).run C.P w = .ok () w := by
    intro vx vy hv
    unfold eqGuard
    cases vx <;> first | exact hv.elim | (cases vy <;> cases op <;> rfl)
  have gg : ∀ {vx vy v : Value}, (match vx with | .nilIface | .agg _ => False | _ => True) → (binOp op t vx vy).run C.P w = .ok v w → (do eqGuard op t x y vx vy; binOp op t vx vy : Sem Value).run C.P w = .ok v w := by
    intro vx vy v hv hr
    rw [Sem.run_bind, guard hv]; exact hr
  unfold binA at h
  split at h
  · rename_i k a k' b
    split at h
    · obtain ⟨hkk, h'⟩ := same_ok h; clear h; subst hkk; have h := h' _ rfl; exact ⟨_, h, gg trivial (by simp [binOp, Op.intArith])⟩
    · obtain ⟨hkk, h'⟩ := same_ok h; clear h; subst hkk; have h := h' _ rfl; exact ⟨_, h, gg trivial (by simp [binOp, Op.intArith])⟩
    · obtain ⟨hkk, h'⟩ := same_ok h; clear h; subst hkk; have h := h' _ rfl; exact ⟨_, h, gg trivial (by simp [binOp, Op.intArith])⟩
    · obtain ⟨hkk, hb, h'⟩ := same_ok h; clear h; subst hkk; have h := h' _ rfl; exact ⟨_, h, gg trivial (by simp [binOp, Op.intDiv, hb])⟩
    · obtain ⟨hkk, hb, h'⟩ := same_ok h; clear h; subst hkk; have h := h' _ rfl; exact ⟨_, h, gg trivial (by simp [binOp, Op.intDiv, hb])⟩
    · obtain ⟨hkk, h'⟩ := same_ok h; clear h; subst hkk; have h := h' _ rfl; exact ⟨_, h, gg trivial (by simp [binOp, Op.intCmp])⟩
    · obtain ⟨hkk, h'⟩ := same_ok h; clear h; subst hkk; have h := h' _ rfl; exact ⟨_, h, gg trivial (by simp [binOp, Op.intCmp])⟩
    · obtain ⟨hkk, h'⟩ := same_ok h; clear h; subst hkk; have h := h' _ rfl; exact ⟨_, h, gg trivial (by simp [binOp, Op.intCmp])⟩
    · obtain ⟨hkk, h'⟩ := same_ok h; clear h; subst hkk; have h := h' _ rfl; exact ⟨_, h, gg trivial (by simp [binOp, Op.intCmp])⟩
    · obtain ⟨hkk, h'⟩ := same_ok h; clear h; subst hkk; have h := h' _ rfl; exact ⟨_, h, gg trivial (by simp [binOp, Op.intCmp])⟩
    · obtain ⟨hkk, h'⟩ := same_ok h; clear h; subst hkk; have h := h' _ rfl; exact ⟨_, h, gg trivial (by simp [binOp, Op.intCmp])⟩
    · obtain ⟨hkk, h'⟩ := same_ok h; clear h; subst hkk; have h := h' _ rfl; exact ⟨_, h, gg trivial (by simp [binOp, Op.intBits])⟩
    · obtain ⟨hkk, h'⟩ := same_ok h; clear h; subst hkk; have h := h' _ rfl; exact ⟨_, h, gg trivial (by simp [binOp, Op.intBits])⟩
    · obtain ⟨hb, h⟩ := h
      replace h := h _ rfl
      have : ¬ b < 0 := by omega
      exact ⟨_, h, gg trivial (by simp [binOp, Op.shift, this])⟩
    · obtain ⟨hb, h⟩ := h
      replace h := h _ rfl
      have : ¬ b < 0 := by omega
      exact ⟨_, h, gg trivial (by simp [binOp, Op.shift, this])⟩
    · exact h.elim
  · rename_i a b
    split at h
    · obtain ⟨hl, h⟩ := h
      replace h := h _ rfl
      exact ⟨_, h, gg trivial (by show (Op.stringOp .add a b).run C.P w = _; exact run_string_add_sum w a b hl)⟩
    · replace h := h _ rfl; exact ⟨_, h, gg trivial (by simp [binOp, Op.stringOp])⟩
    · replace h := h _ rfl; exact ⟨_, h, gg trivial (by simp [binOp, Op.stringOp])⟩
    · exact h.elim
  · exact h.elim

theorem ints_of {w : World} {bad : Nat → Prop} {ob : List Ob} {m : Map} : ∀ {la : List Int} {us : List Value}, All2 (CR w bad ob m) (la.map fun x => .val (.int .i64 x)) us → us = intsV la
  | [], [], _ => rfl
  | a :: la, u :: us, h => by
    have h1 : u = .int .i64 a := h.1
    have h2 := ints_of h.2
    subst h1 h2
    rfl
  | [], _ :: _, h => h.elim
  | _ :: _, [], h => h.elim
theorem agg_ints {C : Ctx} {s : St} {m : Map} {a : Act} {w : World} (hr : Rel C s m a w) {x : Operand} {as : List V} {la : List Int} (hx : s.ev x = some (.agg as)) (ha : as = la.map fun x => .val (.int .i64 x)) : a.eval x = .agg (intsV la).toArray := by
  obtain ⟨us, h1, h2⟩ := hr.ev hx
  rw [ha] at h2
  rw [h1, ints_of h2]

theorem s_binOp (hT : TabOK C.P T) {op : BinOp} {t : TypeId} {x y : Operand} {yt : TypeId} (ho : o.op = .binOp op t x y yt) (hr : Rel C s m a w) (h : opA T (callA C.P) (.binOp op t x y yt) s K) (hk : Goes C o a next K) : o.wp C.P a w next Q := by
  simp only [opA] at h
  split at h
  · rename_i p q hx hy
    have hx' := VR.val (hr.ev hx)
    have hy' := VR.val (hr.ev hy)
    split at h
    · rename_i z1 z2 z3 ht
      replace h := caseB_out (K := fun d => K (.val (.bool d)) s) h
      refine fin (u := .bool (p == q)) (w' := w) ?_ (hk _ _ m _ _ h .self hr)
      have := run_eqBool (C := C) (w := w) (hT.bool ht) p q
      simp [execOp, ho, hx', hy', eqGuard, binOp, this]
    · rename_i z1 z2 z3 ht
      replace h := caseB_out (K := fun d => K (.val (.bool d)) s) h
      refine fin (u := .bool (!(p == q))) (w' := w) ?_ (hk _ _ m _ _ h .self hr)
      have := run_eqBool (C := C) (w := w) (hT.bool ht) p q
      simp [execOp, ho, hx', hy', eqGuard, binOp, this]
    · exact h.elim
  · rename_i vx vy hx hy
    have hx' := VR.val (hr.ev hx)
    have hy' := VR.val (hr.ev hy)
    obtain ⟨v, hv, hrun⟩ := binA_ok (C := C) (w := w) (t := t) (x := x) (y := y) h
    refine fin (u := v) (w' := w) ?_ (hk _ _ m _ _ hv .self hr)
    simp only [execOp, ho, hx', hy']
    rw [Sem.run_bind, hrun]
    rfl
  · rename_i as bs hx hy
    split at h
    · rename_i n z1 z2 fs ht
      obtain ⟨hb, h⟩ := br_true h
      simp only [Bool.and_eq_true] at hb
      obtain ⟨d, hd⟩ := Option.isSome_iff_exists.1 hb.2
      obtain ⟨la, lb, ha, hb', hl, he⟩ := eqCells_ints hd
      have hn := Nat.eq_of_beq_eq_true hb.1.1.2
      have hn' := Nat.eq_of_beq_eq_true hb.1.2
      rw [ha, List.length_map] at hn
      rw [hb', List.length_map] at hn'
      have hE := hT.eqs _ _ fs ht rfl hb.1.1.1
      refine fin (u := .bool d) (w' := w) ?_ (hk _ _ m _ _ (h d hd) .self hr)
      have hrun : (do eqGuard .eql t x y (.agg (intsV la).toArray) (.agg (intsV lb).toArray); binOp .eql t (.agg (intsV la).toArray) (.agg (intsV lb).toArray) : Sem Value).run C.P w = .ok (.bool d) w := by
        rw [Sem.run_bind, run_eqGuard_agg w _ t x y _ _ hE.guard]
        simp only [Result.andThen_ok]
        rw [run_eql_struct, hE.eq 10000 w la lb (by omega) hn hn']
        simp [he]
      simp only [execOp, ho, agg_ints hr hx ha, agg_ints hr hy hb']
      rw [Sem.run_bind, hrun]
      rfl
    · rename_i n z1 z2 fs ht
      obtain ⟨hb, h⟩ := br_true h
      simp only [Bool.and_eq_true] at hb
      obtain ⟨d, hd⟩ := Option.isSome_iff_exists.1 hb.2
      obtain ⟨la, lb, ha, hb', hl, he⟩ := neCells_ints hd
      have hn := Nat.eq_of_beq_eq_true hb.1.1.2
      have hn' := Nat.eq_of_beq_eq_true hb.1.2
      rw [ha, List.length_map] at hn
      rw [hb', List.length_map] at hn'
      have hE := hT.eqs _ _ fs ht rfl hb.1.1.1
      refine fin (u := .bool d) (w' := w) ?_ (hk _ _ m _ _ (h d hd) .self hr)
      have hrun : (do eqGuard .neq t x y (.agg (intsV la).toArray) (.agg (intsV lb).toArray); binOp .neq t (.agg (intsV la).toArray) (.agg (intsV lb).toArray) : Sem Value).run C.P w = .ok (.bool d) w := by
        rw [Sem.run_bind, run_eqGuard_agg w _ t x y _ _ hE.guard]
        simp only [Result.andThen_ok]
        rw [run_neq_struct, hE.eq 10000 w la lb (by omega) hn hn']
        simp [he]
      simp only [execOp, ho, agg_ints hr hx ha, agg_ints hr hy hb']
      rw [Sem.run_bind, hrun]
      rfl
    · exact h.elim
  · exact h.elim

theorem arr1 {α : Type} {as : Array α} {x : α} (h : as.toList = [x]) : as = #[x] := by
  cases as; simp at h; subst h; rfl
theorem arr2 {α : Type} {as : Array α} {x y : α} (h : as.toList = [x, y]) : as = #[x, y] := by
  cases as; simp at h; subst h; rfl

theorem s_len (hT : TabOK C.P T) {as : Array Operand} {ts : Array TypeId} (ho : o.op = .call { callee := .builtin .len, args := as, argTypes := ts }) (hr : Rel C s m a w)
    (h : opA T (callA C.P) (.call { callee := .builtin .len, args := as, argTypes := ts }) s K) (hk : Goes C o a next K) : o.wp C.P a w next Q := by
  simp only [opA] at h
  split at h
  · rename_i x z1 z2 z3 e has ht
    obtain rfl := arr1 has
    obtain ⟨t, ht1, ht2⟩ : ∃ t, ts.toList.head? = some t ∧ T.at t = some { size := z1, bytes := z2, zero := z3, kind := .sl e } := by
      cases hh : ts.toList.head? with
      | none => rw [hh] at ht; cases ht
      | some t => rw [hh] at ht; exact ⟨t, rfl, ht⟩
    have hts : ts[0]? = some t := by rw [← Array.getElem?_toList, ← List.head?_eq_getElem?]; exact ht1
    have hu := hT.sl ht2
    have run : ∀ A n c, a.eval x = .slice A n c → (execOp a.eval o).run C.P w = .ok (.value (.int .i64 (n : Int))) w := by
      intro A n c hx
      simp [execOp, ho, resolve, invoke, builtin, Builtin.len_, hts, hx, run_underlying hu, goInt]
    split at h
    · rename_i r off len hx
      split at h
      · rename_i ty sz n g hrow
        have hv : CR w (badOf C.E s.ob m) s.ob m (.row r off len) (a.eval x) := hr.ev hx
        simp only [CR, hrow] at hv
        obtain ⟨A, cap, hA, _⟩ := hv
        exact fin (run _ _ _ hA) (hk _ _ m _ _ (h _ rfl) .self hr)
      · exact h.elim
    · rename_i sz n g hx
      have hv : FR w (badOf C.E s.ob m) (.fz sz n g) (a.eval x) := hr.ev hx
      generalize he : a.eval x = vx at hv
      cases hv with
      | fz u hn hA hl hc => exact fin (run _ _ _ he) (hk _ _ m _ _ (h _ rfl) .self hr)
    · rename_i hx
      exact fin (run _ _ _ (VR.val (hr.ev hx))) (hk _ _ m _ _ h .self hr)
    · exact h.elim
  · rename_i x z1 z2 z3 has ht
    obtain rfl := arr1 has
    obtain ⟨t, ht1, ht2⟩ : ∃ t, ts.toList.head? = some t ∧ T.at t = some { size := z1, bytes := z2, zero := z3, kind := .str } := by
      cases hh : ts.toList.head? with
      | none => rw [hh] at ht; cases ht
      | some t => rw [hh] at ht; exact ⟨t, rfl, ht⟩
    have hts : ts[0]? = some t := by rw [← Array.getElem?_toList, ← List.head?_eq_getElem?]; exact ht1
    have hu := hT.str ht2
    split at h
    · rename_i z hx
      refine fin (u := .int .i64 (z.size : Int)) (w' := w) ?_ (hk _ _ m _ _ (h _ rfl) .self hr)
      simp [execOp, ho, resolve, invoke, builtin, Builtin.len_, hts, VR.val (hr.ev hx), run_underlying hu, goInt]
    · exact h.elim
  · exact h.elim

theorem s_max {as : Array Operand} {ts : Array TypeId} (ho : o.op = .call { callee := .builtin .max, args := as, argTypes := ts }) (hr : Rel C s m a w)
    (h : opA T (callA C.P) (.call { callee := .builtin .max, args := as, argTypes := ts }) s K) (hk : Goes C o a next K) : o.wp C.P a w next Q := by
  simp only [opA] at h
  split at h
  · rename_i x y has
    obtain rfl := arr2 has
    split at h
    · rename_i k p k' q hx hy
      obtain ⟨hkk, h'⟩ := same_ok h
      clear h
      subst hkk
      have h := h' _ rfl
      refine fin (u := .int k (if p < q then q else p)) (w' := w) ?_ (hk _ _ m _ _ h .self hr)
      simp [execOp, ho, resolve, invoke, builtin, Builtin.max_, VR.val (hr.ev hx), VR.val (hr.ev hy), Builtin.max2]
    · exact h.elim
  · exact h.elim
theorem s_min {as : Array Operand} {ts : Array TypeId} (ho : o.op = .call { callee := .builtin .min, args := as, argTypes := ts }) (hr : Rel C s m a w)
    (h : opA T (callA C.P) (.call { callee := .builtin .min, args := as, argTypes := ts }) s K) (hk : Goes C o a next K) : o.wp C.P a w next Q := by
  simp only [opA] at h
  split at h
  · rename_i x y has
    obtain rfl := arr2 has
    split at h
    · rename_i k p k' q hx hy
      obtain ⟨hkk, h'⟩ := same_ok h
      clear h
      subst hkk
      have h := h' _ rfl
      refine fin (u := .int k (if q < p then q else p)) (w' := w) ?_ (hk _ _ m _ _ h .self hr)
      simp [execOp, ho, resolve, invoke, builtin, Builtin.min_, VR.val (hr.ev hx), VR.val (hr.ev hy), Builtin.min2]
    · exact h.elim
  · exact h.elim
end
end Go.Sim
namespace Go.Sim
open Go Go.RowKit

theorem Mem.drawn {C : Ctx} {ob : List Ob} {m : Map} {w : World} (h : Mem C ob m w) (k : Nat) : Mem C ob m { w with drawn := k } where
  ok o x ho := OR.ext (w := w) (w' := { w with drawn := k }) ⟨fun _ _ _ _ _ h => h, Nat.le_refl _, fun _ _ h => h, fun _ => Nat.le_refl _, fun o x h => ⟨x, h, compat.refl x⟩, fun _ _ => rfl⟩ (h.ok o x ho) rfl (fun _ _ _ _ => rfl)
  inj := h.inj
  blk := h.blk
  kp := h.kp.drawn k
  eb := h.eb
  pl := h.pl
  pm := h.pm
theorem Rel.drawn {C : Ctx} {s : St} {m : Map} {a : Act} {w : World} (h : Rel C s m a w) (k : Nat) : Rel C s m a { w with drawn := k } :=
  ⟨h.df, h.tm.mono fun _ _ => VR.ext (w := w) (w' := { w with drawn := k }) ⟨fun _ _ _ _ _ h => h, Nat.le_refl _, fun _ _ h => h, fun _ => Nat.le_refl _, fun o x h => ⟨x, h, compat.refl x⟩, fun _ _ => rfl⟩, h.mem.drawn k⟩

section
variable {C : Ctx} {ob : List Ob} {m : Map} {w : World}
/-- A row under a new name: from element 'off' on. -/
theorem Ext.move (hm : Mem C ob m w) {o b base : Nat} {x y : Ob} (ho : ob[o]? = some x) (hl : x.live = true) (hmo : m o = some (b, base)) (base' : Nat) :
    Ext w w (badOf C.E ob m) (badOf C.E (ob.set o .dead ++ [y]) (m.snoc ob.length (some (b, base')))) ob (ob.set o .dead ++ [y]) m (m.snoc ob.length (some (b, base'))) where
  cell _ _ _ _ _ h := h
  size := Nat.le_refl _
  bads q _ hn h := by
    rcases h with h | ⟨p, z, bs, hp, hlz, hmp⟩
    · exact hn (.inl h)
    · rcases get_snoc hp with ⟨h1, h2⟩ | ⟨h1, rfl⟩
      · rw [List.length_set] at h1
        rw [snoc_lt m _ h1] at hmp
        rcases get_set h2 with ⟨_, h3⟩ | ⟨_, rfl, _⟩
        · exact hn (.inr ⟨p, z, bs, h3, hlz, hmp⟩)
        · simp [Ob.live] at hlz
      · rw [List.length_set] at h1
        subst h1
        rw [snoc_at] at hmp
        injection hmp with hmp
        injection hmp with hmp
        subst hmp
        exact hn (.inr ⟨o, x, base, ho, hl, hmo⟩)
  bsz _ := Nat.le_refl _
  obs q z hq := by
    have hql := lt_of_get hq
    rw [List.getElem?_append_left (by rw [List.length_set]; exact hql)]
    by_cases h : q = o
    · subst h; exact ⟨.dead, by rw [List.getElem?_set_self hql], by cases z <;> simp [compat]⟩
    · exact ⟨z, by rw [List.getElem?_set_ne (Ne.symm h)]; exact hq, compat.refl z⟩
  map q hq := snoc_lt m _ hq
theorem Mem.move (hm : Mem C ob m w) {o b base : Nat} {x y : Ob} (ho : ob[o]? = some x) (hl : x.live = true) (hmo : m o = some (b, base)) (base' : Nat)
    (hy : OR w (badOf C.E (ob.set o .dead ++ [y]) (m.snoc ob.length (some (b, base')))) (ob.set o .dead ++ [y]) (m.snoc ob.length (some (b, base'))) ob.length y) : Mem C (ob.set o .dead ++ [y]) (m.snoc ob.length (some (b, base'))) w where
  ok q z hq := by
    rcases get_snoc hq with ⟨h1, h2⟩ | ⟨h1, rfl⟩
    · rw [List.length_set] at h1
      rcases get_set h2 with ⟨_, h3⟩ | ⟨_, rfl, _⟩
      · exact OR.ext (Ext.move hm ho hl hmo base') (hm.ok q z h3) (snoc_lt m _ h1) (fun _ _ _ _ => rfl)
      · trivial
    · rw [List.length_set] at h1; subst h1; exact hy
  inj q q' z z' b1 b2 b3 hq hq' hlz hlz' h1 h2 := by
    rcases get_snoc hq with ⟨a1, a2⟩ | ⟨a1, rfl⟩ <;> rcases get_snoc hq' with ⟨c1, c2⟩ | ⟨c1, rfl⟩ <;> rw [List.length_set] at a1 c1
    · rw [snoc_lt m _ a1] at h1; rw [snoc_lt m _ c1] at h2
      rcases get_set a2 with ⟨_, a3⟩ | ⟨_, rfl, _⟩
      · rcases get_set c2 with ⟨_, c3⟩ | ⟨_, rfl, _⟩
        · exact hm.inj q q' z z' b1 b2 b3 a3 c3 hlz hlz' h1 h2
        · simp [Ob.live] at hlz'
      · simp [Ob.live] at hlz
    · subst c1
      rw [snoc_lt m _ a1] at h1; rw [snoc_at] at h2
      injection h2 with h2; injection h2 with h2; subst h2
      rcases get_set a2 with ⟨a4, a3⟩ | ⟨_, rfl, _⟩
      · exact absurd (hm.inj q o z x b b2 base a3 ho hlz hl h1 hmo) a4
      · simp [Ob.live] at hlz
    · subst a1
      rw [snoc_lt m _ c1] at h2; rw [snoc_at] at h1
      injection h1 with h1; injection h1 with h1; subst h1
      rcases get_set c2 with ⟨a4, a3⟩ | ⟨_, rfl, _⟩
      · exact absurd (hm.inj q' o z' x b b3 base a3 ho hlz' hl h2 hmo) a4
      · simp [Ob.live] at hlz'
    · rw [a1, c1]
  blk q z b1 b2 hq hlz h1 := by
    rcases get_snoc hq with ⟨a1, a2⟩ | ⟨a1, rfl⟩ <;> rw [List.length_set] at a1
    · rw [snoc_lt m _ a1] at h1
      rcases get_set a2 with ⟨_, a3⟩ | ⟨_, rfl, _⟩
      · exact hm.blk q z b1 b2 a3 hlz h1
      · simp [Ob.live] at hlz
    · subst a1
      rw [snoc_at] at h1
      injection h1 with h1; injection h1 with h1; subst h1
      exact hm.blk o x b base ho hl hmo
  kp := hm.kp
  eb := hm.eb
  pl := by have := hm.pl; simp; omega
  pm q hq := (snoc_lt m _ (by have := hm.pl; omega)).trans (hm.pm q hq)
end

section
variable {C : Ctx} {T : Tab} {o : Oper} {s : St} {m : Map} {a : Act} {w : World} {K : V → St → Prop} {next : Act → World → Prop} {Q : Exit → Act → World → Prop}

theorem run_first {sz n : Nat} {A : Option Addr} {len cap : Nat} {cs : List Value} (hl : cs.length = n * sz) (h : 0 < n * sz → ∃ ad, A = some ad ∧ ∀ j v, cs[j]? = some v → w.cell? (ad.add j) = some v) : (Builtin.firstCells sz n (.slice A len cap)).run C.P w = .ok cs.toArray w := by
  cases A with
  | none =>
    have : n * sz = 0 := by
      rcases Nat.eq_zero_or_pos (n * sz) with h0 | h0
      · exact h0
      · obtain ⟨ad, h1, _⟩ := h h0; cases h1
    have : cs = [] := List.eq_nil_of_length_eq_zero (by omega)
    subst this
    simp [Builtin.firstCells]
  | some ad =>
    refine run_firstCells_some (P := C.P) w sz n ad len cap cs hl (fun j v hj => ?_)
    have := lt_of_get hj
    obtain ⟨ad', h1, h2⟩ := h (by omega)
    injection h1 with h1; subst h1
    exact h2 j v hj

/-- An append: in place, or in a new block. -/
theorem run_append (hT : TabOK C.P T) {t e : TypeId} {ty : TypeId} (hu : C.P.underlying t = some (.slice e)) {i : TI} (hi : T.at e = some i) {A : Option Addr} {len cap : Nat} {Ax : Option Addr} {n cx : Nat} {olds news : List Value}
    (hol : olds.length = len * i.size) (hnl : news.length = n * i.size) (ho : 0 < len * i.size → ∃ ad, A = some ad ∧ ∀ j v, olds[j]? = some v → w.cell? (ad.add j) = some v)
    (hn : 0 < n * i.size → ∃ ad, Ax = some ad ∧ ∀ j v, news[j]? = some v → w.cell? (ad.add j) = some v) (h63 : len + n ≤ 9223372036854775807) (hb : (len + n) * i.bytes ≤ 140737488355328) :
    (len + n ≤ cap → ∀ b off arr ty', (0 < n * i.size → A = some ⟨b, off, none⟩) → w.heap[b]? = some (.cells arr ty' (0, 0)) → off + (len + n) * i.size ≤ arr.size → (∀ v ∈ news, v.oneCell' = true) →
      (Builtin.append_ #[t, t] ty #[.slice A len cap, .slice Ax n cx]).run C.P w = .ok (.slice A (len + n) cap) (w.setRow b (arr.toList.take (off + len * i.size) ++ news ++ arr.toList.drop (off + len * i.size + news.length)).toArray)) ∧
    (cap < len + n → ∃ (cap' : Nat) (arr : Array Value), len + n ≤ cap' ∧ arr.size = cap' * i.size ∧ arr.toList.take ((len + n) * i.size) = olds ++ news ∧
      (Builtin.append_ #[t, t] ty #[.slice A len cap, .slice Ax n cx]).run C.P w = .ok (.slice (some ⟨w.heap.size, 0, none⟩) (len + n) cap') (w.drew.alloc (.cells arr e))) := by
  obtain ⟨inf, z, h1, h2, h3, h4, h5, h6, h7⟩ := hT.info e i hi
  have hz : z.cells.size = i.size := by rw [← Array.length_toList, h5, h6]
  have hfw : (Builtin.firstCells i.size n (.slice Ax n cx)).run C.P w = .ok news.toArray w := run_first hnl hn
  have e1 : (Builtin.firstCells i.size n (.slice Ax n cx)).run C.P w.drew = .ok news.toArray w.drew := run_first hnl hn
  have e2 : (Builtin.firstCells i.size len (.slice A len cap)).run C.P w.drew = .ok olds.toArray w.drew := run_first hol ho
  refine ⟨fun hr b off arr ty' hA hb' hfit h1c => ?_, fun hr => ?_⟩
  · rcases Nat.eq_zero_or_pos (n * i.size) with h0 | h0
    · have hnil : news = [] := List.eq_nil_of_length_eq_zero (by omega)
      subst hnil
      have e1 : (arr.toList.take (off + len * i.size) ++ [] ++ arr.toList.drop (off + len * i.size + ([] : List Value).length)).toArray = arr := by simp
      rw [e1, setRow_self w b arr ty' (0, 0) hb']
      cases A with
      | none => simp [Builtin.append_, run_underlying hu, sizeOf, typeInfo, h1, h2, Builtin.lenOf, hr, hfw]
      | some ad => simp [Builtin.append_, run_underlying hu, sizeOf, typeInfo, h1, h2, Builtin.lenOf, hr, hfw, storeCells]
    · have hst := run_storeCells_at C.P b (off + len * i.size) ty' news 0 arr w hb' (by rw [hnl, Nat.add_zero]; rw [Nat.add_mul] at hfit; omega) h1c
      simp only [Nat.add_zero] at hst
      have hA' := hA h0
      subst hA'
      simp [Builtin.append_, run_underlying hu, sizeOf, typeInfo, h1, h2, Builtin.lenOf, hr, hfw, add_plain', hst]
  · have hge := grownCap_ge w (len + n) cap e
    have hn' : ¬ (len + n ≤ cap) := by omega
    have h63' : ¬ (9223372036854775807 < ((len : Int) + (n : Int))) := by omega
    have hfit := growslice_fits (old := cap) (need := len + n) (by omega) hb
    have h48' : ¬ (281474976710656 < Builtin.nextslicecap (len + n) cap * i.bytes) := by omega
    refine ⟨grownCap w (len + n) cap e, (olds.toArray ++ news.toArray ++ Builtin.zeroCells z.cells (grownCap w (len + n) cap e - (len + n))), hge, ?_, ?_, ?_⟩
    · simp only [Array.size_append, List.size_toArray, size_zeroCells, hz, hol, hnl, ← Nat.add_mul]
      congr 1; omega
    · simp only [Array.toList_append, List.append_assoc]
      rw [← List.append_assoc, Nat.add_mul, ← hol, ← hnl, ← List.length_append]
      exact List.take_left
    · simp [Builtin.append_, run_underlying hu, sizeOf, typeInfo, zeroValue, h1, h2, h3, h4, Builtin.lenOf, hn', h63', h48', Question.forced, newRow, grownCap, e1, e2]
      rw [← Array.append_assoc]; simp

/-- What an append takes: where its cells lie, in a row. -/
theorem src_ok (hr : Rel C s m a w) {y : V} {u : Value} (hv : VR w (badOf C.E s.ob m) s.ob m y u) {K' : Nat → Nat → (Nat → List V) → Prop} (h : srcA s.ob y K') :
    ∃ (sz n : Nat) (g : Nat → List V) (Ax : Option Addr) (cx : Nat) (news : List Value), K' sz n g ∧ u = .slice Ax n cx ∧ news.length = n * sz ∧ (0 < n * sz → ∃ ad, Ax = some ad ∧ ∀ j v, news[j]? = some v → w.cell? (ad.add j) = some v) ∧
      (∀ v ∈ news, v.oneCell' = true) ∧ ∀ k, k < n → (g k).length = sz ∧ ∀ (j : Nat) (c : V), (g k)[j]? = some c → ∃ v, news[k * sz + j]? = some v ∧ FR w (badOf C.E s.ob m) c v := by
  have fz : ∀ {sz n : Nat} {g : Nat → List V}, FR w (badOf C.E s.ob m) (.fz sz n g) u → ∃ (Ax : Option Addr) (cx : Nat) (news : List Value), u = .slice Ax n cx ∧ news.length = n * sz ∧ (0 < n * sz → ∃ ad, Ax = some ad ∧ ∀ j v, news[j]? = some v → w.cell? (ad.add j) = some v) ∧
      (∀ v ∈ news, v.oneCell' = true) ∧ ∀ k, k < n → (g k).length = sz ∧ ∀ (j : Nat) (c : V), (g k)[j]? = some c → ∃ v, news[k * sz + j]? = some v ∧ FR w (badOf C.E s.ob m) c v := by
    intro sz n g hf
    generalize he : u = vx at hf
    cases hf with
    | @fz _ _ cap _ A f hn hA hl hc =>
      have idx : ∀ k j, j < sz → (k * sz + j) / sz = k ∧ (k * sz + j) % sz = j := by
        intro k j hj
        refine ⟨?_, ?_⟩
        · rw [Nat.mul_comm, Nat.mul_add_div (by omega), Nat.div_eq_of_lt hj, Nat.add_zero]
        · rw [Nat.mul_comm, Nat.mul_add_mod, Nat.mod_eq_of_lt hj]
      refine ⟨A, cap, (List.range (n * sz)).map (fun q => f (q / sz) (q % sz)), rfl, by simp, fun h0 => ?_, ?_, fun k hk => ⟨hl k hk, fun j c hj => ?_⟩⟩
      · obtain ⟨b, off, rfl, g1, g2, g3⟩ := hA (Nat.pos_of_mul_pos_right h0)
        refine ⟨_, rfl, fun q v hq => ?_⟩
        rw [List.getElem?_map] at hq
        obtain ⟨q', h1, h2⟩ := Option.map_eq_some_iff.1 hq
        obtain ⟨h3, h4⟩ := List.getElem?_eq_some_iff.1 h1
        rw [List.getElem_range] at h4
        rw [List.length_range] at h3
        subst h4
        have hsz : 0 < sz := Nat.pos_of_mul_pos_left h0
        have := g3 (q / sz) (q % sz) (Nat.div_lt_of_lt_mul (by rw [Nat.mul_comm]; exact h3)) (Nat.mod_lt _ hsz)
        rw [add_plain', ← h2, ← this]
        congr 2
        have := Nat.div_add_mod q sz
        rw [Nat.mul_comm sz] at this
        omega
      · intro v hv
        obtain ⟨q, hq, rfl⟩ := List.mem_map.1 hv
        rw [List.mem_range] at hq
        have hsz : 0 < sz := Nat.pos_of_mul_pos_left (Nat.lt_of_le_of_lt (Nat.zero_le _) hq)
        have hk : q / sz < n := Nat.div_lt_of_lt_mul (by rw [Nat.mul_comm]; exact hq)
        have hj := Nat.mod_lt q hsz
        exact FR.one (hc (q / sz) (q % sz) _ hk (List.getElem?_eq_getElem (by rw [hl _ hk]; exact hj)))
      · have hj' := lt_of_get hj
        rw [hl k hk] at hj'
        refine ⟨f k j, ?_, hc k j c hk hj⟩
        rw [List.getElem?_map, List.getElem?_eq_getElem (by rw [List.length_range]; have : k * sz + sz ≤ n * sz := (by rw [← Nat.succ_mul]; exact Nat.mul_le_mul_right _ hk); omega), List.getElem_range]
        simp only [Option.map_some, (idx k j hj').1, (idx k j hj').2]
  unfold srcA at h
  split at h
  · rename_i o off len
    split at h
    · rename_i ty sz n g ho
      obtain ⟨hn, h⟩ := h
      -- the row is read where it lies
      have hv' : CR w (badOf C.E s.ob m) s.ob m (.row o off len) u := hv
      simp only [CR, ho] at hv'
      obtain ⟨A, cap, rfl, h1, h2⟩ := hv'
      have hO := hr.mem.ok o _ ho
      refine ⟨sz, len, (fun k => g (k + off)), A, cap, ?_⟩
      rcases Nat.eq_zero_or_pos (len * sz) with h0 | h0
      · refine ⟨[], h, rfl, by simp [h0], fun h3 => by omega, by simp, fun k hk => ?_⟩
        have hsz : sz = 0 := by
          rcases Nat.mul_eq_zero.1 h0 with h3 | h3
          · omega
          · exact h3
        cases hmo : m o with
        | none =>
          simp only [OR, hmo] at hO
          omega
        | some p =>
          obtain ⟨b, base⟩ := p
          simp only [OR, hmo] at hO
          obtain ⟨arr, h5, h6⟩ := hO
          have := (h6 (k + off) (by omega)).1
          refine ⟨this, fun j c hj => ?_⟩
          have hq : j < (g (k + off)).length := lt_of_get hj
          omega
      · obtain ⟨b, base, h3, rfl, h4⟩ := h2 (by have := Nat.pos_of_mul_pos_right h0; omega)
        simp only [OR, h3] at hO
        obtain ⟨arr, h5, h6⟩ := hO
        rw [bsize_of h5] at h4
        have hle : (off + len) * sz ≤ (off + cap) * sz := Nat.mul_le_mul_right _ (by omega)
        rw [Nat.add_mul] at hle
        have hget : ∀ q, q < len * sz → (((arr.toList.drop (base + off * sz)).take (len * sz))[q]?) = arr[base + off * sz + q]? := by
          intro q hq
          rw [List.getElem?_take_of_lt hq, List.getElem?_drop, Array.getElem?_toList]
        have hcell : ∀ k, k < len → ∀ (j : Nat) (c : V), (g (k + off))[j]? = some c → ∃ v, ((arr.toList.drop (base + off * sz)).take (len * sz))[k * sz + j]? = some v ∧ FR w (badOf C.E s.ob m) c v := by
          intro k hk j c hj
          obtain ⟨hl, hcc⟩ := h6 (k + off) (by omega)
          obtain ⟨v, hv1, hv2⟩ := hcc j c hj
          have hj' := lt_of_get hj
          rw [hl] at hj'
          have : k * sz + sz ≤ len * sz := by rw [← Nat.succ_mul]; exact Nat.mul_le_mul_right _ hk
          refine ⟨v, ?_, hv2⟩
          rw [hget _ (by omega), ← hv1]
          congr 1; rw [Nat.add_mul]; omega
        refine ⟨(arr.toList.drop (base + off * sz)).take (len * sz), h, rfl, ?_, fun _ => ⟨_, rfl, fun q v hq => ?_⟩, fun v hv => ?_, fun k hk => ⟨(h6 _ (by omega)).1, hcell k hk⟩⟩
        · simp only [List.length_take, List.length_drop, Array.length_toList]; omega
        · rw [add_plain', cell_of h5]
          have hq' := lt_of_get hq
          rw [List.length_take] at hq'
          rw [← hq, hget _ (by omega)]
        · obtain ⟨q, hq⟩ := List.mem_iff_getElem?.1 hv
          have hq' := lt_of_get hq
          rw [List.length_take] at hq'
          have hql : q < len * sz := by omega
          have hsz : 0 < sz := Nat.pos_of_mul_pos_left h0
          have hk : q / sz < len := Nat.div_lt_of_lt_mul (by rw [Nat.mul_comm]; exact hql)
          have hj := Nat.mod_lt q hsz
          have hl := (h6 (q / sz + off) (by omega)).1
          obtain ⟨v', h7, h8⟩ := hcell (q / sz) hk (q % sz) _ (List.getElem?_eq_getElem (by rw [hl]; exact hj))
          have e : q / sz * sz + q % sz = q := by
            have := Nat.div_add_mod q sz
            rw [Nat.mul_comm sz] at this; omega
          rw [e, hq] at h7
          injection h7 with h7
          subst h7
          exact FR.one h8
    · exact h.elim
  · rename_i sz n g
    obtain ⟨Ax, cx, news, h1, h2⟩ := fz hv
    exact ⟨sz, n, g, Ax, cx, news, h, h1, h2⟩
  · exact h.elim
end
end Go.Sim
namespace Go.Sim
open Go Go.RowKit
section
variable {C : Ctx} {T : Tab} {o : Oper} {s : St} {m : Map} {a : Act} {w : World} {K : V → St → Prop} {next : Act → World → Prop} {Q : Exit → Act → World → Prop}

theorem Rel.drew (h : Rel C s m a w) : Rel C s m a w.drew := h.drawn (w.drawn + 1)

theorem exec_append {x y : Operand} {t : TypeId} (ho : o.op = .call { callee := .builtin .append, args := #[x, y], argTypes := #[t, t] }) {vx vy u : Value} {w' : World} (hx : a.eval x = vx) (hy : a.eval y = vy)
    (h : (Builtin.append_ #[t, t] o.type #[vx, vy]).run C.P w = .ok u w') : (execOp a.eval o).run C.P w = .ok (.value u) w' := by
  simp [execOp, ho, resolve, invoke, builtin, hx, hy, h]

theorem void_ok (hr : Rel C s m a w) (ty : TypeId) (sz : Nat) (g : Nat → List V) (A : Option Addr) :
    Rel C { s with ob := s.ob ++ [.row ty sz 0 g] } (m.snoc s.ob.length none) a w ∧ VR w (badOf C.E (s.ob ++ [.row ty sz 0 g]) (m.snoc s.ob.length none)) (s.ob ++ [.row ty sz 0 g]) (m.snoc s.ob.length none) (.row s.ob.length 0 0) (.slice A 0 0) := by
  refine ⟨hr.snoc _ none (fun _ _ h => by cases h) (fun _ _ => rfl) (Nat.le_refl _) ⟨rfl, rfl, rfl⟩ ?_, CR.mono_VR ?_⟩
  · simp only [OR, snoc_at]
  · simp only [CR, List.getElem?_concat_length]
    exact ⟨A, 0, rfl, Nat.le_refl _, fun h => absurd h (Nat.lt_irrefl 0)⟩

/-- The cells of an append in one row. -/
theorem app_cells {olds news : List Value} {sz len n : Nat} {g gx g' : Nat → List V} {R : V → Value → Prop} (hol : olds.length = len * sz)
    (ho : ∀ k, k < len → (g k).length = sz ∧ ∀ (j : Nat) (c : V), (g k)[j]? = some c → ∃ v, olds[k * sz + j]? = some v ∧ R c v)
    (hn : ∀ k, k < n → (gx k).length = sz ∧ ∀ (j : Nat) (c : V), (gx k)[j]? = some c → ∃ v, news[k * sz + j]? = some v ∧ R c v)
    (hg : ∀ k, k < len + n → g' k = if k < len then g k else gx (k - len)) :
    ∀ k, k < len + n → (g' k).length = sz ∧ ∀ (j : Nat) (c : V), (g' k)[j]? = some c → ∃ v, (olds ++ news)[k * sz + j]? = some v ∧ R c v := by
  intro k hk
  rw [hg k hk]
  by_cases h : k < len
  · rw [if_pos h]
    refine ⟨(ho k h).1, fun j c hj => ?_⟩
    obtain ⟨v, hv, hf⟩ := (ho k h).2 j c hj
    exact ⟨v, by rw [List.getElem?_append_left (lt_of_get hv)]; exact hv, hf⟩
  · rw [if_neg h]
    refine ⟨(hn (k - len) (by omega)).1, fun j c hj => ?_⟩
    obtain ⟨v, hv, hf⟩ := (hn (k - len) (by omega)).2 j c hj
    have h1 : len * sz ≤ k * sz := Nat.mul_le_mul_right _ (by omega)
    have h2 : (k - len) * sz = k * sz - len * sz := Nat.sub_mul _ _ _
    refine ⟨v, ?_, hf⟩
    rw [List.getElem?_append_right (by omega), ← hv]
    congr 1; omega

theorem s_append (hT : TabOK C.P T) {as : Array Operand} {ts : Array TypeId} (ho : o.op = .call { callee := .builtin .append, args := as, argTypes := ts }) (hr : Rel C s m a w)
    (h : opA T (callA C.P) (.call { callee := .builtin .append, args := as, argTypes := ts }) s K) (hk : Goes C o a next K) : o.wp C.P a w next Q := by
  simp only [opA] at h
  split at h
  · rename_i x y t u has hts
    obtain rfl := arr2 has
    obtain rfl := arr2 hts
    obtain ⟨htu, h9⟩ := br_true h
    clear h
    obtain rfl := Nat.eq_of_beq_eq_true htu
    have h := h9
    clear h9
    split at h
    · rename_i z1 z2 z3 e ht
      have hu := hT.sl ht
      obtain ⟨i, hi, h⟩ := opt_some h
      obtain ⟨vy, hvy, h⟩ := opt_some h
      obtain ⟨sz, n, gx, Ax, cx, news, h, hye, hnl, hnc, hn1, hng⟩ := src_ok hr (hr.ev hvy) h
      obtain ⟨hsz, h9⟩ := br_true h
      clear h
      rw [Bool.and_eq_true] at hsz
      obtain ⟨hsz, hpos⟩ := hsz
      have hpos := Nat.le_of_ble_eq_true hpos
      have hsz := Nat.eq_of_beq_eq_true hsz
      subst hsz
      have h := h9
      clear h9
      split at h
      · rename_i r off len hx
        split at h
        · rename_i ty sz n0 g hrow
          obtain ⟨hsz, hoff, hb, h63, hK0⟩ := br_true h
          clear h
          obtain ⟨g', hg', hK⟩ := hK0 _ rfl
          clear hK0
          rw [Bool.and_eq_true] at hsz
          obtain ⟨hsz, hty⟩ := hsz
          have hsz := Nat.eq_of_beq_eq_true hsz
          have hty := Nat.eq_of_beq_eq_true hty
          subst hsz; subst hty
          have hv : CR w (badOf C.E s.ob m) s.ob m (.row r off len) (a.eval x) := hr.ev hx
          simp only [CR, hrow] at hv
          obtain ⟨A, cap, hA, hc1, hc2⟩ := hv
          rcases Nat.eq_zero_or_pos cap with hc0 | hcp
          · -- no block
            subst hc0
            obtain rfl : len = 0 := by omega
            obtain ⟨_, hgrow⟩ := run_append (ty := o.type) (w := w) hT hu hi (A := A) (len := 0) (cap := 0) (Ax := Ax) (n := n) (cx := cx) (olds := []) (news := news) (by simp) hnl (fun h => by simp at h) hnc (by omega) hb
            rcases Nat.eq_zero_or_pos n with hn0 | hnp
            · subst hn0
              have hnil : news = [] := List.eq_nil_of_length_eq_zero (by omega)
              subst hnil
              obtain ⟨inf, z, q1, q2, q3, q4, q5, q6, q7⟩ := hT.info _ i hi
              have hrun : (Builtin.append_ #[t, t] o.type #[.slice A 0 0, .slice Ax 0 cx]).run C.P w = .ok (.slice A 0 0) w := by
                have hf := run_first (C := C) (w := w) (sz := i.size) (n := 0) (A := Ax) (len := 0) (cap := cx) (cs := []) (by simp) (fun h => by simp at h)
                cases A <;> simp [Builtin.append_, run_underlying hu, sizeOf, typeInfo, q1, q2, Builtin.lenOf, hf, storeCells]
              obtain ⟨j1, j2⟩ := void_ok (hr.kill r) ty i.size g' A
              simp only [List.length_set] at j1 j2
              exact fin (exec_append ho hA hye hrun) (hk _ _ _ _ _ hK j2 j1)
            · obtain ⟨cap', arr, k1, k2, k3, hrun⟩ := hgrow (by omega)
              simp only [Nat.zero_add] at k1 k3 hrun hg' hK
              have hr2 := (hr.kill r).drew
              have hrow2 := hr2.row ty (sz := i.size) (n := n) (g := g') (arr := arr) (fun k hkn => by
                rw [hg' k hkn, if_neg (by omega), Nat.sub_zero]
                refine ⟨(hng k hkn).1, fun j c hj => ?_⟩
                obtain ⟨v, hv, hf⟩ := (hng k hkn).2 j c hj
                refine ⟨v, ?_, FR.mono (w := w) (w' := w.drew) (fun _ _ _ _ _ h => h) (Nat.le_refl _) (Ext.kill (C := C) (w := w) (m := m) (ob := s.ob) r).bads hf⟩
                have hvl := lt_of_get hv
                rw [List.nil_append] at k3
                rw [← k3, List.getElem?_take_of_lt (by omega), Array.getElem?_toList] at hv
                exact hv)
              simp only [List.length_set] at hrow2
              refine fin (exec_append ho hA hye hrun) (hk _ _ _ _ _ hK ?_ hrow2)
              have := VR.new_row (C := C) (s := { s with ob := s.ob.set r .dead }) (m := m) (w := w.drew) ty (sz := i.size) (n := n) (cap := cap') (g := g') (arr := arr) k1 (by omega)
              simp only [List.length_set] at this
              exact this
          · obtain ⟨b, base, hmo, rfl, hfit⟩ := hc2 hcp
            have hO := hr.mem.ok r _ hrow
            simp only [OR, hmo] at hO
            obtain ⟨arr, hheap, hcells⟩ := hO
            rw [bsize_of hheap] at hfit
            have hf1 : (off + cap) * i.size = off * i.size + cap * i.size := Nat.add_mul _ _ _
            have hf2 : len * i.size ≤ cap * i.size := Nat.mul_le_mul_right _ hc1
            have holen : ((arr.toList.drop (base + off * i.size)).take (len * i.size)).length = len * i.size := by
              simp only [List.length_take, List.length_drop, Array.length_toList]; omega
            have hoget : ∀ q, q < len * i.size → ((arr.toList.drop (base + off * i.size)).take (len * i.size))[q]? = arr[base + off * i.size + q]? := by
              intro q hq; rw [List.getElem?_take_of_lt hq, List.getElem?_drop, Array.getElem?_toList]
            obtain ⟨hroom, hgrow⟩ := run_append (ty := o.type) (w := w) hT hu hi (A := some ⟨b, base + off * i.size, none⟩) (len := len) (cap := cap) (Ax := Ax) (n := n) (cx := cx) (olds := (arr.toList.drop (base + off * i.size)).take (len * i.size)) (news := news) holen hnl
              (fun _ => ⟨_, rfl, fun q v hq => by
                have hq' := lt_of_get hq
                rw [add_plain', cell_of hheap, ← hq, hoget q (by omega)]⟩) hnc (by omega) hb
            have hold : ∀ k, k < len → (g (k + off)).length = i.size ∧ ∀ (j : Nat) (c : V), (g (k + off))[j]? = some c → ∃ v, ((arr.toList.drop (base + off * i.size)).take (len * i.size))[k * i.size + j]? = some v ∧ FR w (badOf C.E s.ob m) c v := by
              intro k hkl
              obtain ⟨h1, h2⟩ := hcells (k + off) (by omega)
              refine ⟨h1, fun j c hj => ?_⟩
              obtain ⟨v, hv, hf⟩ := h2 j c hj
              have hj' := lt_of_get hj
              rw [h1] at hj'
              have h3 : k * i.size + i.size ≤ len * i.size := by rw [← Nat.succ_mul]; exact Nat.mul_le_mul_right _ hkl
              refine ⟨v, ?_, hf⟩
              rw [hoget _ (by omega), ← hv]
              congr 1; rw [Nat.add_mul]; omega
            have hall := app_cells (R := FR w (badOf C.E s.ob m)) (g := fun k => g (k + off)) (g' := g') holen hold hng hg'
            by_cases hlc : len + n ≤ cap
            · -- in place
              have hf3 : (len + n) * i.size ≤ cap * i.size := Nat.mul_le_mul_right _ hlc
              have hf4 : (len + n) * i.size = len * i.size + n * i.size := Nat.add_mul _ _ _
              have hrun := hroom hlc b (base + off * i.size) arr ty (fun _ => rfl) hheap (by omega) hn1
              generalize hnew : (arr.toList.take (base + off * i.size + len * i.size) ++ news ++ arr.toList.drop (base + off * i.size + len * i.size + news.length)).toArray = arr' at hrun
              have hsz' : arr'.size = arr.size := by
                rw [← hnew]; simp only [List.size_toArray, List.length_append, List.length_take, List.length_drop, Array.length_toList]; omega
              have hget' : ∀ q, q < (len + n) * i.size → arr'[base + off * i.size + q]? = ((arr.toList.drop (base + off * i.size)).take (len * i.size) ++ news)[q]? := by
                intro q hq
                rw [← hnew, List.getElem?_toArray]
                rcases Nat.lt_or_ge q (len * i.size) with h1 | h1
                · rw [List.getElem?_append_left (l₁ := (arr.toList.drop (base + off * i.size)).take (len * i.size)) (by omega), hoget q h1, List.getElem?_append_left (by simp only [List.length_append, List.length_take, Array.length_toList]; omega), List.getElem?_append_left (by simp only [List.length_take, Array.length_toList]; omega), List.getElem?_take_of_lt (by omega), Array.getElem?_toList]
                · rw [List.getElem?_append_right (l₁ := (arr.toList.drop (base + off * i.size)).take (len * i.size)) (by omega), List.getElem?_append_left (by simp only [List.length_append, List.length_take, Array.length_toList]; omega), List.getElem?_append_right (by simp only [List.length_take, Array.length_toList]; omega)]
                  congr 1; simp only [List.length_take, List.length_drop, Array.length_toList]; omega
              have hw : ∀ q, q ≠ b → (w.setRow b arr').heap[q]? = w.heap[q]? := fun q hq => setRow_other w b q _ hq
              have hh := setRow_heap w b arr arr' ty (0, 0) hheap
              have hbs : bsize (w.setRow b arr') b = bsize w b := by rw [bsize_of hh, bsize_of hheap, hsz']
              -- the row itself, written: none of its elements told
              have e := Ext.write hr.mem hrow rfl hmo (x' := .row ty i.size 0 g) rfl rfl hw (by simp) hbs
              have hr1 : Rel C { s with ob := s.ob.set r (.row ty i.size 0 g) } m a (w.setRow b arr') := hr.write hrow rfl hmo rfl rfl hw (by simp) hbs ⟨rfl, rfl, rfl⟩ (by
                simp only [OR, hmo]; exact ⟨arr', hh, fun k hk => absurd hk (by omega)⟩)
              have hrl := lt_of_get hrow
              have hrow1 : (s.ob.set r (.row ty i.size 0 g))[r]? = some (.row ty i.size 0 g) := List.getElem?_set_self hrl
              have e2 := Ext.move hr1.mem hrow1 rfl hmo (y := .row ty i.size (len + n) g') (base + off * i.size)
              have hOr : OR (w.setRow b arr') (badOf C.E ((s.ob.set r (.row ty i.size 0 g)).set r .dead ++ [.row ty i.size (len + n) g']) (m.snoc (s.ob.set r (.row ty i.size 0 g)).length (some (b, base + off * i.size)))) ((s.ob.set r (.row ty i.size 0 g)).set r .dead ++ [.row ty i.size (len + n) g']) (m.snoc (s.ob.set r (.row ty i.size 0 g)).length (some (b, base + off * i.size))) (s.ob.set r (.row ty i.size 0 g)).length (.row ty i.size (len + n) g') := by
                simp only [OR, snoc_at]
                refine ⟨arr', hh, fun k hk => ⟨(hall k hk).1, fun j c hj => ?_⟩⟩
                obtain ⟨v, hv, hf⟩ := (hall k hk).2 j c hj
                have hj' := lt_of_get hj
                rw [(hall k hk).1] at hj'
                have h3 : k * i.size + i.size ≤ (len + n) * i.size := by rw [← Nat.succ_mul]; exact Nat.mul_le_mul_right _ hk
                refine ⟨v, ?_, FR.mono (e.trans e2).cell (e.trans e2).size (e.trans e2).bads hf⟩
                rw [← hv, ← hget' _ (by omega)]
                congr 1; omega
              have hm2 := hr1.mem.move hrow1 rfl hmo (y := .row ty i.size (len + n) g') (base + off * i.size) hOr
              have hset : (s.ob.set r (.row ty i.size 0 g)).set r .dead = s.ob.set r .dead := by simp
              rw [hset] at hm2 e2
              simp only [List.length_set] at hm2 e2
              refine fin (exec_append ho hA hye hrun) (hk _ _ _ _ _ hK (CR.mono_VR ?_) ⟨hr.df, hr1.tm.mono fun _ _ => VR.ext e2, hm2⟩)
              have hlast : (s.ob.set r .dead ++ [.row ty i.size (len + n) g'])[s.ob.length]? = some (.row ty i.size (len + n) g') := by
                rw [List.getElem?_append_right (by simp)]; simp
              simp only [CR, hlast]
              refine ⟨_, _, rfl, hlc, fun _ => ⟨b, base + off * i.size, snoc_at _ _ _, by simp, ?_⟩⟩
              rw [hbs, bsize_of hheap, Nat.zero_add]; omega
            · -- a new block
              obtain ⟨cap', arr', k1, k2, k3, hrun⟩ := hgrow (by omega)
              have hr2 := (hr.kill r).drew
              have hrow2 := hr2.row ty (sz := i.size) (n := len + n) (g := g') (arr := arr') (fun k hkn => by
                refine ⟨(hall k hkn).1, fun j c hj => ?_⟩
                obtain ⟨v, hv, hf⟩ := (hall k hkn).2 j c hj
                have hj' := lt_of_get hj
                rw [(hall k hkn).1] at hj'
                have h3 : k * i.size + i.size ≤ (len + n) * i.size := by rw [← Nat.succ_mul]; exact Nat.mul_le_mul_right _ hkn
                refine ⟨v, ?_, FR.mono (w := w) (w' := w.drew) (fun _ _ _ _ _ h => h) (Nat.le_refl _) (Ext.kill (C := C) (w := w) (m := m) (ob := s.ob) r).bads hf⟩
                rw [← k3, List.getElem?_take_of_lt (by omega), Array.getElem?_toList] at hv
                exact hv)
              simp only [List.length_set] at hrow2
              refine fin (exec_append ho hA hye hrun) (hk _ _ _ _ _ hK ?_ hrow2)
              have := VR.new_row (C := C) (s := { s with ob := s.ob.set r .dead }) (m := m) (w := w.drew) ty (sz := i.size) (n := len + n) (cap := cap') (g := g') (arr := arr') k1 (by omega)
              simp only [List.length_set] at this
              exact this
        · exact h.elim
      · rename_i hx
        obtain ⟨hb, h63, g', hg', hK⟩ := h
        have hA := VR.val (hr.ev hx)
        obtain ⟨_, hgrow⟩ := run_append (ty := o.type) (w := w) hT hu hi (A := none) (len := 0) (cap := 0) (Ax := Ax) (n := n) (cx := cx) (olds := []) (news := news) (by simp) hnl (fun h => by simp at h) hnc (by omega) (by rw [Nat.zero_add]; exact hb)
        rcases Nat.eq_zero_or_pos n with hn0 | hnp
        · subst hn0
          have hnil : news = [] := List.eq_nil_of_length_eq_zero (by omega)
          subst hnil
          obtain ⟨inf, z, q1, q2, q3, q4, q5, q6, q7⟩ := hT.info _ i hi
          have hrun : (Builtin.append_ #[t, t] o.type #[.slice none 0 0, .slice Ax 0 cx]).run C.P w = .ok (.slice none 0 0) w := by
            have hf := run_first (C := C) (w := w) (sz := i.size) (n := 0) (A := Ax) (len := 0) (cap := cx) (cs := []) (by simp) (fun h => by simp at h)
            simp [Builtin.append_, run_underlying hu, sizeOf, typeInfo, q1, q2, Builtin.lenOf, hf]
          obtain ⟨j1, j2⟩ := void_ok hr e i.size g' none
          exact fin (exec_append ho hA hye hrun) (hk _ _ _ _ _ hK j2 j1)
        · obtain ⟨cap', arr, k1, k2, k3, hrun⟩ := hgrow (by omega)
          simp only [Nat.zero_add] at k1 k3 hrun
          have hrow2 := hr.drew.row e (sz := i.size) (n := n) (g := g') (arr := arr) (fun k hkn => by
            rw [hg' k hkn]
            refine ⟨(hng k hkn).1, fun j c hj => ?_⟩
            obtain ⟨v, hv, hf⟩ := (hng k hkn).2 j c hj
            refine ⟨v, ?_, FR.mono (w := w) (w' := w.drew) (fun _ _ _ _ _ h => h) (Nat.le_refl _) (fun _ _ h => h) hf⟩
            have hvl := lt_of_get hv
            rw [List.nil_append] at k3
            rw [← k3, List.getElem?_take_of_lt (by omega), Array.getElem?_toList] at hv
            exact hv)
          refine fin (exec_append ho hA hye hrun) (hk _ _ _ _ _ hK ?_ hrow2)
          exact VR.new_row (C := C) (s := s) (m := m) (w := w.drew) e (sz := i.size) (n := n) (cap := cap') (g := g') (arr := arr) k1 (by omega)
      · exact h.elim
    · exact h.elim
  · exact h.elim
end
end Go.Sim
namespace Go.Sim
open Go Go.RowKit

theorem fold_splice : ∀ (l : List Value) (off k : Nat) (cells : Array Value), off + k + l.length ≤ cells.size →
    ((l.zipIdx k).foldl (fun cs (p : Value × Nat) => cs.setIfInBounds (off + p.2) p.1) cells).toList = cells.toList.take (off + k) ++ l ++ cells.toList.drop (off + k + l.length)
  | [], off, k, cells, _ => by simp
  | v :: l, off, k, cells, h => by
    simp only [List.length_cons] at h
    simp only [List.zipIdx_cons, List.foldl_cons]
    rw [fold_splice l off (k + 1) (cells.setIfInBounds (off + k) v) (by simp; omega)]
    apply List.ext_getElem?
    intro q
    have hs : (cells.setIfInBounds (off + k) v).toList = cells.toList.set (off + k) v := Array.toList_setIfInBounds
    rw [hs]
    have hl : cells.toList.length = cells.size := Array.length_toList
    rcases Nat.lt_trichotomy q (off + k) with h1 | h1 | h1
    · rw [List.append_assoc, List.getElem?_append_left (by simp only [List.length_take, List.length_set]; omega), List.append_assoc, List.getElem?_append_left (by simp only [List.length_take]; omega),
        List.getElem?_take_of_lt (by omega), List.getElem?_take_of_lt (by omega), List.getElem?_set_ne (by omega)]
    · subst h1
      rw [List.append_assoc, List.getElem?_append_left (by simp only [List.length_take, List.length_set]; omega), List.getElem?_take_of_lt (by omega), List.getElem?_set_self (by omega)]
      rw [List.append_assoc, List.getElem?_append_right (by simp only [List.length_take]; omega)]
      simp only [List.length_take]
      rw [show off + k - min (off + k) cells.toList.length = 0 by omega]
      rfl
    · rcases Nat.lt_or_ge q (off + k + 1 + l.length) with h2 | h2
      · rw [List.append_assoc, List.getElem?_append_right (by simp only [List.length_take, List.length_set]; omega), List.getElem?_append_left (by simp only [List.length_take, List.length_set]; omega)]
        rw [List.append_assoc, List.getElem?_append_right (by simp only [List.length_take]; omega), List.getElem?_append_left (by simp only [List.length_take, List.length_cons]; omega)]
        simp only [List.length_take, List.length_set]
        rw [show q - min (off + k) cells.toList.length = (q - min (off + (k + 1)) cells.toList.length) + 1 by omega]
        rfl
      · rw [List.getElem?_append_right (by simp only [List.length_append, List.length_take, List.length_set]; omega), List.getElem?_append_right (by simp only [List.length_append, List.length_take, List.length_cons]; omega)]
        simp only [List.length_append, List.length_take, List.length_set, List.length_cons, List.getElem?_drop]
        rw [List.getElem?_set_ne (by omega)]
        congr 1; omega

theorem splice_at {cells : Array Value} {v : Value} {off : Nat} (h : off + v.cells.size ≤ cells.size) :
    v.cells.zipIdx.foldl (fun cs (c, j) => cs.setIfInBounds (off + j) c) cells = (cells.toList.take off ++ v.cells.toList ++ cells.toList.drop (off + v.cells.size)).toArray := by
  have := fold_splice v.cells.toList off 0 cells (by simp; exact h)
  simp only [Nat.add_zero, Array.length_toList] at this
  rw [← Array.foldl_toList, Array.toList_zipIdx, ← this]

section
variable {C : Ctx} {T : Tab} {o : Oper} {s : St} {m : Map} {a : Act} {w : World} {K : V → St → Prop} {next : Act → World → Prop} {Q : Exit → Act → World → Prop}

theorem s_makeSlice (hT : TabOK C.P T) {t : TypeId} {l c : Operand} (ho : o.op = .makeSlice t l c) (hr : Rel C s m a w) (h : opA T (callA C.P) (.makeSlice t l c) s K) (hk : Goes C o a next K) : o.wp C.P a w next Q := by
  simp only [opA] at h
  split at h
  · rename_i z1 z2 z3 e k1 p k2 q ht hl hc
    have hu := hT.sl ht
    obtain ⟨i, hi, h⟩ := opt_some h
    obtain ⟨h0, h1, h2, h3, hh⟩ := h
    obtain ⟨g', hg', h⟩ := hh _ rfl
    clear hh
    obtain ⟨inf, z, q1, q2, q3, q4, q5, q6, q7⟩ := hT.info _ i hi
    have hrun := run_make (P := C.P) w t e inf z hu q1 q4 k1 k2 p q h0 h1 (by rw [q3]; exact h2) h3
    rw [q2] at hrun
    have hzs : z.cells.size = i.size := by rw [← Array.length_toList, q5, q6]
    refine fin (u := .slice (some ⟨w.heap.size, 0, none⟩) p.toNat q.toNat) ?_ (hk _ _ _ _ _ h (VR.new_row (arr := madeCells z.cells (q.toNat * i.size)) e (by omega) (by rw [size_madeCells]; exact Nat.le_refl _)) (hr.row e (fun k hkp => ⟨by rw [hg' k hkp]; simp [q6], fun j c hj => ?_⟩)))
    · simp [execOp, ho, VR.val (hr.ev hl), VR.val (hr.ev hc), hrun]
    · rw [hg' k hkp, List.getElem?_map] at hj
      obtain ⟨v, hv, rfl⟩ := Option.map_eq_some_iff.1 hj
      have hj' := lt_of_get hv
      rw [q6] at hj'
      have h4 : k * i.size + i.size ≤ q.toNat * i.size := by rw [← Nat.succ_mul]; exact Nat.mul_le_mul_right _ (by omega)
      refine ⟨v, ?_, .val (q7 v (List.mem_of_getElem? hv))⟩
      have h5 : (k * i.size + j) % z.cells.size = j := by rw [hzs, Nat.mul_comm, Nat.mul_add_mod, Nat.mod_eq_of_lt hj']
      have h6 : z.cells[j]? = some v := by rw [← Array.getElem?_toList, q5]; exact hv
      have h7 := (Array.getElem?_eq_some_iff.1 h6)
      simp only [madeCells]
      rw [Array.getElem?_map, Array.getElem?_range]
      rw [if_pos (by omega)]
      simp only [Option.map_some, h5]
      rw [getElem!_pos z.cells j h7.1, h7.2]
  · exact h.elim

theorem evAll_ok (hr : Rel C s m a w) : ∀ {l : List (Nat × Operand)} {vs : List (Nat × V)}, evAll s l = some vs → All2 (fun (v : Nat × V) (p : Nat × Value) => v.1 = p.1 ∧ VR w (badOf C.E s.ob m) s.ob m v.2 p.2) vs (l.map fun p => (p.1, a.eval p.2))
  | [], vs, h => by simp [evAll] at h; subst h; trivial
  | (i, x) :: l, vs, h => by
    simp only [evAll] at h
    split at h
    · rename_i v r hv hl
      injection h with h
      subst h
      exact ⟨⟨rfl, hr.ev hv⟩, evAll_ok hr hl⟩
    · cases h

theorem fillA_ok (hT : TabOK C.P T) {fs : List (Nat × TypeId)} {places : Nat → Option (Nat × Nat)} (hp : ∀ i off t ti, fs[i]? = some (off, t) → T.at t = some ti → places i = some (off, ti.size)) :
    ∀ {vs : List (Nat × V)} {us : List (Nat × Value)} {cs cs' : List V} {cells : Array Value}, All2 (fun (v : Nat × V) (p : Nat × Value) => v.1 = p.1 ∧ VR w (badOf C.E s.ob m) s.ob m v.2 p.2) vs us → (vs.all fun p => p.2.cells.all V.one) = true →
      All2 (CR w (badOf C.E s.ob m) s.ob m) cs cells.toList → fillA T fs vs cs = some cs' → ∃ cells' : Array Value, Instr.fill places cells us = some cells' ∧ All2 (CR w (badOf C.E s.ob m) s.ob m) cs' cells'.toList
  | [], [], cs, cs', cells, _, _, hc, h => by simp [fillA] at h; subst h; exact ⟨cells, rfl, hc⟩
  | (i, v) :: vs, (i', u) :: us, cs, cs', cells, hv, h1, hc, h => by
    obtain ⟨⟨hi, hvr⟩, hv⟩ := hv
    obtain rfl : i = i' := hi
    simp only [List.all_cons, Bool.and_eq_true] at h1
    obtain ⟨h1, h1'⟩ := h1
    obtain ⟨xs, hx, hxc, _⟩ := VR.cells hvr h1
    simp only [fillA] at h
    split at h
    · cases h
    · rename_i off t hf
      split at h
      · cases h
      · rename_i ti hti
        split at h
        · rename_i e1 e2
          have e1 := Nat.eq_of_beq_eq_true e1
          have e2 := Nat.le_of_ble_eq_true e2
          have hlen := hc.length
          have hxl := hxc.length
          simp only [Array.length_toList] at hlen
          have e3 : v.cells.length = ti.size := e1
          have e4 : v.cells.length = xs.length := hxl
          have hsz : u.cells.size = ti.size := by rw [hx]; simp; omega
          obtain ⟨cells', g1, g2⟩ := fillA_ok hT hp (cells := (cells.toList.take off ++ u.cells.toList ++ cells.toList.drop (off + u.cells.size)).toArray) hv h1' (by
            rw [hsz, hx]
            exact ((hc.take off).append hxc).append (hc.drop (off + ti.size))) h
          refine ⟨cells', ?_, g2⟩
          simp only [Instr.fill, hp i off t ti hf hti]
          rw [if_neg (by rw [hsz]; simp; omega), splice_at (by omega)]
          exact g1
        · cases h
  | [], _ :: _, _, _, _, hv, _, _, _ => hv.elim
  | _ :: _, [], _, _, _, hv, _, _, _ => hv.elim

theorem places_ok (hT : TabOK C.P T) : ∀ (fl : List Field), (∀ p ∈ fl.map (fun x => (x.offset, x.type)), ∃ ti, T.at p.2 = some ti) → ∃ places : List (Nat × Nat), fl.mapM (fun f => (C.P.info? f.type).map fun i => (f.offset, i.size)) = some places ∧
    ∀ (i off : Nat) (t : TypeId) (ti : TI), (fl.map (fun x => (x.offset, x.type)))[i]? = some (off, t) → T.at t = some ti → places[i]? = some (off, ti.size)
  | [], _ => ⟨[], rfl, fun i off t ti h => by simp at h⟩
  | f :: fl, h => by
    obtain ⟨ti, hti⟩ := h _ (List.mem_cons_self ..)
    obtain ⟨places, h1, h2⟩ := places_ok hT fl (fun p hp => h p (List.mem_cons_of_mem _ hp))
    have hs := hT.size hti
    obtain ⟨inf, hinf, hs'⟩ := Option.map_eq_some_iff.1 hs
    have hinf' : C.P.info? f.type = some inf := hinf
    refine ⟨(f.offset, inf.size) :: places, by simp [List.mapM_cons, hinf', h1], fun i off t ti' hi hti' => ?_⟩
    cases i with
    | zero =>
      simp at hi
      obtain ⟨rfl, rfl⟩ := hi
      rw [hti] at hti'
      injection hti' with hti'
      subst hti'
      simp [hs']
    | succ i => simpa using h2 i off t ti' (by simpa using hi) hti'

theorem s_build (hT : TabOK C.P T) {t : TypeId} {parts : Array (Nat × Operand)} (ho : o.op = .build t parts) (hr : Rel C s m a w) (h : opA T (callA C.P) (.build t parts) s K) (hk : Goes C o a next K) : o.wp C.P a w next Q := by
  simp only [opA] at h
  split at h
  · rename_i z1 z2 z3 fs ht
    obtain ⟨vs, hvs, h⟩ := opt_some h
    obtain ⟨h1, h⟩ := br_true h
    obtain ⟨cs, hcs, h⟩ := opt_some h
    obtain ⟨inf, z, q1, q2, q3, q4, q5, q6, q7⟩ := hT.info _ _ ht
    obtain ⟨d, hd, fl, hd2, hfl⟩ := hT.desc _ _ ht
    subst hd2
    obtain ⟨places, p1, p2⟩ := places_ok hT fl.toList (fun p hp => hT.fld _ _ _ ht rfl p (by rw [← hfl]; exact hp))
    rw [hfl] at p2
    obtain ⟨cells, g1, g2⟩ := fillA_ok (cells := z.cells) hT p2 (evAll_ok hr hvs) h1 (by rw [q5]; exact zero_all _) hcs
    have hb : C.P.built t (parts.map fun (i, x) => (i, a.eval x)).toList = some cells := by
      unfold Program.built
      simp only [q1, hd, q4, p1]
      rw [← g1]
      simp
    refine fin (u := .agg cells) (w' := w) ?_ (hk _ _ m _ _ h ⟨cells.toList, rfl, g2⟩ hr)
    simp only [execOp, ho, Sem.run_bind, run_build w t _ cells hb, Result.andThen_ok]
    rfl
  · exact h.elim

/-- Parts one behind the other fill a row. -/
theorem fill_seq {sz : Nat} : ∀ (us : List Value) (k : Nat) (cells : Array Value), (∀ u ∈ us, u.cells.size = sz) → (k + us.length) * sz ≤ cells.size →
    ∃ cells', Instr.fill (fun i => some (i * sz, sz)) cells ((us.zipIdx k).map fun p => (p.2, p.1)) = some cells' ∧ cells'.toList = cells.toList.take (k * sz) ++ us.flatMap (fun u => u.cells.toList) ++ cells.toList.drop ((k + us.length) * sz)
  | [], k, cells, _, _ => ⟨cells, rfl, by simp⟩
  | u :: us, k, cells, h, hs => by
    have hu := h u (List.mem_cons_self ..)
    simp only [List.length_cons] at hs
    have e1 : (k + (us.length + 1)) * sz = k * sz + sz + us.length * sz := by rw [← Nat.succ_mul, ← Nat.add_mul]; congr 1; omega
    have e2 : (k + 1 + us.length) * sz = k * sz + sz + us.length * sz := by rw [← Nat.succ_mul, ← Nat.add_mul]
    have e3 : (k + 1) * sz = k * sz + sz := Nat.succ_mul _ _
    generalize hc2 : (cells.toList.take (k * sz) ++ u.cells.toList ++ cells.toList.drop (k * sz + u.cells.size)).toArray = cells2
    have hsz2 : cells2.size = cells.size := by
      rw [← hc2]; simp only [List.size_toArray, List.length_append, List.length_take, List.length_drop, Array.length_toList]; omega
    obtain ⟨cells', g1, g2⟩ := fill_seq us (k + 1) cells2 (fun x hx => h x (List.mem_cons_of_mem _ hx)) (by rw [hsz2]; omega)
    refine ⟨cells', ?_, ?_⟩
    · simp only [List.zipIdx_cons, List.map_cons, Instr.fill]
      rw [if_neg (by rw [hu]; simp; omega), splice_at (by rw [hu]; omega), hc2]
      exact g1
    · rw [g2, List.length_cons, e1, e2, e3, ← hc2, List.flatMap_cons]
      simp only []
      have hcl : u.cells.toList.length = sz := by rw [Array.length_toList]; exact hu
      rw [hu]
      have t1 : (cells.toList.take (k * sz) ++ u.cells.toList ++ cells.toList.drop (k * sz + sz)).take (k * sz + sz) = cells.toList.take (k * sz) ++ u.cells.toList := by
        apply List.take_left'
        simp only [List.length_append, List.length_take, Array.length_toList]; omega
      have t2 : (cells.toList.take (k * sz) ++ u.cells.toList ++ cells.toList.drop (k * sz + sz)).drop (k * sz + sz + us.length * sz) = cells.toList.drop (k * sz + sz + us.length * sz) := by
        rw [List.drop_append]
        have : (cells.toList.take (k * sz) ++ u.cells.toList).length = k * sz + sz := by
          simp only [List.length_append, List.length_take, Array.length_toList]; omega
        rw [List.drop_eq_nil_of_le (by omega), this, List.nil_append, List.drop_drop]
        congr 1; omega
      rw [t1, t2]
      simp

theorem frzs_ok {m : Map} {K : List (List V) → List Ob → Prop} {R : Prop} : ∀ {es acc : List (List V)} {ob : List Ob} {us vs : List (List Value)}, frzs K es acc ob → Mem C ob m w → All2 (All2 (CR w (badOf C.E ob m) ob m)) es us → All2 (All2 (FR w (badOf C.E ob m))) acc vs →
    ∃ acc' ob', K acc' ob' ∧ Mem C ob' m w ∧ Ext w w (badOf C.E ob m) (badOf C.E ob' m) ob ob' m m ∧ All2 (All2 (FR w (badOf C.E ob' m))) acc' (vs ++ us)
  | [], acc, ob, [], vs, h, hm, _, ha => ⟨acc, ob, h, hm, Ext.refl _ _ _ _, by simpa using ha⟩
  | e :: es, acc, ob, u :: us, vs, h, hm, hc, ha => by
    simp only [frzs] at h
    obtain ⟨e', ob1, h1, h2, h3, h4, _⟩ := frz_ok h hm hc.1 (vs := []) trivial
    rw [List.nil_append] at h4
    obtain ⟨acc', ob', g1, g2, g3, g4⟩ := frzs_ok (R := R) h1 h2 (hc.2.mono fun _ _ hh => hh.mono fun _ _ => CR.ext h3) (vs := vs ++ [u]) ((ha.mono fun _ _ hh => hh.mono fun _ _ hf => FR.mono h3.cell h3.size h3.bads hf).append ⟨h4, trivial⟩)
    exact ⟨acc', ob', g1, g2, h3.trans g3, by simpa using g4⟩
  | [], _, _, _ :: _, _, _, _, hc, _ => hc.elim
  | _ :: _, _, _, [], _, _, _, hc, _ => hc.elim

theorem flat_at {R : V → Value → Prop} {sz : Nat} : ∀ {es : List (List V)} {us : List (List Value)}, All2 (All2 R) es us → (∀ u ∈ us, u.length = sz) → ∀ k, k < es.length → ((es.getD k []).length = sz ∧ ∀ (j : Nat) (c : V), (es.getD k [])[j]? = some c → ∃ v, (us.flatMap id)[k * sz + j]? = some v ∧ R c v)
  | e :: es, u :: us, h, hl, 0, _ => by
    have h1 := hl u (List.mem_cons_self ..)
    refine ⟨by simp; rw [h.1.length, h1], fun j c hj => ?_⟩
    simp at hj
    obtain ⟨v, hv, hr⟩ := h.1.get hj
    refine ⟨v, ?_, hr⟩
    simp only [Nat.zero_mul, Nat.zero_add, List.flatMap_cons, id]
    rw [List.getElem?_append_left (lt_of_get hv)]; exact hv
  | e :: es, u :: us, h, hl, k + 1, hk => by
    have h1 := hl u (List.mem_cons_self ..)
    obtain ⟨h2, h3⟩ := flat_at h.2 (fun x hx => hl x (List.mem_cons_of_mem _ hx)) k (by simpa using hk)
    refine ⟨by simpa using h2, fun j c hj => ?_⟩
    obtain ⟨v, hv, hr⟩ := h3 j c (by simpa using hj)
    refine ⟨v, ?_, hr⟩
    simp only [List.flatMap_cons, id]
    rw [List.getElem?_append_right (by rw [Nat.succ_mul]; omega), ← hv]
    congr 1; rw [Nat.succ_mul]; omega
  | [], [], _, _, _, hk => by simp at hk
  | [], _ :: _, h, _, _, _ => h.elim
  | _ :: _, [], h, _, _, _ => h.elim

theorem s_buildSlice (hT : TabOK C.P T) {t : TypeId} {len : Nat} {parts : Array (Nat × Operand)} (ho : o.op = .buildSlice t len parts) (hr : Rel C s m a w) (h : opA T (callA C.P) (.buildSlice t len parts) s K) (hk : Goes C o a next K) : o.wp C.P a w next Q := by
  simp only [opA] at h
  split at h
  · rename_i z1 z2 z3 e ht
    have hu := hT.sl ht
    obtain ⟨i, hi, h⟩ := opt_some h
    obtain ⟨vs, hvs, h⟩ := opt_some h
    obtain ⟨h1, h⟩ := br_true h
    simp only [Bool.and_eq_true] at h1
    obtain ⟨⟨⟨⟨hcap, hpos⟩, hvl⟩, hall⟩, hone⟩ := h1
    have hcap := Nat.le_of_ble_eq_true hcap
    have hpos := Nat.le_of_ble_eq_true hpos
    have hvl := Nat.eq_of_beq_eq_true hvl
    obtain ⟨inf, z, q1, q2, q3, q4, q5, q6, q7⟩ := hT.info _ _ hi
    have hev := evAll_ok hr hvs
    generalize hps : (parts.toList.map fun p => (p.1, a.eval p.2)) = ps at hev
    have hpl := hev.length
    have hidx : ∀ (k : Nat) (p : Nat × Value), ps[k]? = some p → p.1 = k ∧ ∃ v, vs[k]? = some v ∧ VR w (badOf C.E s.ob m) s.ob m v.2 p.2 ∧ v.2.cells.length = i.size ∧ v.2.cells.all V.one = true := by
      intro k p hp
      have hk := lt_of_get hp
      obtain ⟨v, hv⟩ : ∃ v, vs[k]? = some v := ⟨_, List.getElem?_eq_getElem (by omega)⟩
      obtain ⟨p', hp', hvp⟩ := hev.get hv
      rw [hp] at hp'
      injection hp' with hp'
      subst hp'
      have hz : vs.zipIdx[k]? = some (v, k) := by rw [List.getElem?_zipIdx, hv]; simp
      have := List.all_eq_true.1 hall _ (List.mem_of_getElem? hz)
      simp only [Bool.and_eq_true] at this
      exact ⟨by rw [← hvp.1]; exact Nat.eq_of_beq_eq_true this.1, v, hv, hvp.2, Nat.eq_of_beq_eq_true this.2, List.all_eq_true.1 hone _ (List.mem_of_getElem? hv)⟩
    have hps2 : ps = ((ps.map (·.2)).zipIdx 0).map fun p => (p.2, p.1) := by
      apply List.ext_getElem?
      intro k
      rw [List.getElem?_map, List.getElem?_zipIdx, List.getElem?_map]
      cases hk : ps[k]? with
      | none => rfl
      | some p => simp only [Option.map_some, Nat.zero_add]; rw [← (hidx k p hk).1]
    have hcells : All2 (All2 (CR w (badOf C.E s.ob m) s.ob m)) (vs.map fun p => p.2.cells) (ps.map fun p => p.2.cells.toList) := by
      refine All2.of_get (by simp [hpl]) (fun k x y hx hy => ?_)
      rw [List.getElem?_map] at hx hy
      obtain ⟨v, hv, rfl⟩ := Option.map_eq_some_iff.1 hx
      obtain ⟨p, hp, rfl⟩ := Option.map_eq_some_iff.1 hy
      obtain ⟨_, v', hv', h2, h3, h4⟩ := hidx k p hp
      rw [hv] at hv'
      injection hv' with hv'
      subst hv'
      obtain ⟨us, g1, g2, _⟩ := VR.cells h2 h4
      rw [g1]; exact g2
    have hsizes : ∀ u ∈ ps.map (·.2), u.cells.size = i.size := by
      intro u hu
      obtain ⟨p, hp, rfl⟩ := List.mem_map.1 hu
      obtain ⟨k, hk⟩ := List.mem_iff_getElem?.1 hp
      obtain ⟨_, v, hv, h2, h3, h4⟩ := hidx k p hk
      obtain ⟨us, g1, g2, _⟩ := VR.cells h2 h4
      have := g2.length
      rw [g1]; simp; omega
    obtain ⟨es, ob', hK, hm', hE, hF⟩ := frzs_ok (R := True) h hr.mem hcells (vs := []) trivial
    rw [List.nil_append] at hF
    have hlen0 : ps.length = len := by omega
    have hzl : 0 < len → z.cells.size = i.size := fun _ => by rw [← Array.length_toList, q5, q6]
    obtain ⟨cells', g1, g2⟩ := fill_seq (sz := i.size) (ps.map (·.2)) 0 ((Array.range (len * i.size)).map (z.cells[· % z.cells.size]!)) hsizes (by simp [hlen0])
    rw [Nat.zero_mul, List.take_zero, List.nil_append, List.drop_eq_nil_of_le (by simp [hlen0]), List.append_nil] at g2
    have hflat : (ps.map (·.2)).flatMap (fun u => u.cells.toList) = (ps.map fun p => p.2.cells.toList).flatMap id := by
      simp [List.flatMap_map]
    have g2' : cells'.toList = (ps.map fun p => p.2.cells.toList).flatMap id := by rw [← hflat]; exact g2
    have hr' := hr.obs hm' hE
    have heslen : es.length = len := by have := hF.length; simp at this; omega
    obtain ⟨g0, hg0, hK⟩ := hK
    have hrow := hr'.row e (sz := i.size) (n := len) (g := g0) (arr := cells') (fun k hkl => by
      rw [hg0 k hkl]
      have hfa := flat_at (sz := i.size) hF (fun u hu => by
        obtain ⟨p, hp, rfl⟩ := List.mem_map.1 hu
        rw [Array.length_toList]
        exact hsizes _ (List.mem_map_of_mem hp)) k (by omega)
      refine ⟨hfa.1, fun j c hj => ?_⟩
      obtain ⟨v, hv, hf⟩ := hfa.2 j c hj
      exact ⟨v, by rw [← Array.getElem?_toList, g2']; exact hv, hf⟩)
    have hasz : cells'.size = len * i.size := by
      rw [← Array.length_toList, g2]
      have : ∀ l : List Value, (∀ u ∈ l, u.cells.size = i.size) → (l.flatMap fun u => u.cells.toList).length = l.length * i.size := by
        intro l
        induction l with
        | nil => intro _; simp
        | cons x l ih =>
          intro hx
          simp only [List.flatMap_cons, List.length_append, List.length_cons, Array.length_toList]
          rw [ih (fun u hu => hx u (List.mem_cons_of_mem _ hu)), hx x (List.mem_cons_self ..), Nat.succ_mul]; omega
      rw [this _ hsizes]; simp [hlen0]
    refine fin (u := .slice (some ⟨w.heap.size, 0, none⟩) len len) ?_ (hk _ _ _ _ _ hK (VR.new_row (s := { s with ob := ob' }) (n := len) (cap := len) (sz := i.size) (arr := cells') e (Nat.le_refl _) (by rw [hasz]; exact Nat.le_refl _)) hrow)
    have hp3 : (parts.map fun (x : Nat × Operand) => (x.1, a.eval x.2)).toList = ps := by rw [Array.toList_map]; exact hps
    rw [← hps2] at g1
    have hcap' : ¬ (16777216 < len * i.size) := by omega
    have hrun : (Instr.buildSlice t len (parts.map fun (x : Nat × Operand) => (x.1, a.eval x.2))).run C.P w = .ok (.slice (some ⟨w.heap.size, 0, none⟩) len len) (w.alloc (.cells cells' e)) := by
      by_cases h0 : len * i.size = 0
      · rw [h0] at g1
        simp only [Array.range_zero', Array.map_empty] at g1
        simp [Instr.buildSlice, run_underlying hu, sizeOf, typeInfo, q1, q2, h0, hps, g1, newRow, Array.range_zero']
      · simp [Instr.buildSlice, run_underlying hu, sizeOf, typeInfo, zeroValue, q1, q2, q4, hcap', h0, hps, g1, newRow]
    simp only [execOp, ho, Sem.run_bind]
    rw [hrun]
    rfl
  · exact h.elim
end
end Go.Sim
namespace Go.Sim
open Go Go.RowKit

theorem pos_some : ∀ {o : Nat} {l : List Nat} {p : Nat}, pos o l = some p → l[p]? = some o
  | o, x :: xs, p, h => by
    simp only [pos] at h
    split at h
    · rename_i e
      have := Nat.eq_of_beq_eq_true e
      subst this
      injection h with h; subst h; rfl
    · obtain ⟨q, h1, rfl⟩ := Option.map_eq_some_iff.1 h
      simpa using pos_some h1
theorem pos_none : ∀ {o : Nat} {l : List Nat}, pos o l = none → o ∉ l
  | o, [], _ => by simp
  | o, x :: xs, h => by
    simp only [pos] at h
    split at h
    · cases h
    · rename_i e
      have hne : o ≠ x := fun he => by subst he; simp at e
      have := pos_none (Option.map_eq_none_iff.1 h)
      simp [hne, this]
theorem pos_of : ∀ {l : List Nat} {p o : Nat}, nodup l = true → l[p]? = some o → pos o l = some p
  | x :: xs, 0, o, _, h => by simp at h; subst h; simp [pos]
  | x :: xs, p + 1, o, hn, h => by
    simp only [nodup, Bool.and_eq_true] at hn
    simp at h
    have h1 : o ≠ x := fun he => by
      subst he
      have h2 := pos_none (Option.isNone_iff_eq_none.1 hn.1)
      exact h2 (List.mem_of_getElem? h)
    have h3 : Nat.beq o x = false := by
      cases hb : Nat.beq o x with
      | false => rfl
      | true => exact absurd (Nat.eq_of_beq_eq_true hb) h1
    simp only [pos, h3, pos_of hn.2 h]
    rfl
theorem nodup_inj {l : List Nat} {p q o : Nat} (hn : nodup l = true) (hp : l[p]? = some o) (hq : l[q]? = some o) : p = q := by
  have h1 := pos_of hn hp
  rw [pos_of hn hq] at h1
  injection h1 with h1; exact h1.symm

theorem setAll_len : ∀ (os : List Nat) (xs ob : List Ob), (setAll ob os xs).length = ob.length
  | [], xs, ob => by cases xs <;> rfl
  | o :: os, [], ob => rfl
  | o :: os, x :: xs, ob => by simp only [setAll]; rw [setAll_len os xs]; simp
theorem setAll_other : ∀ (os : List Nat) (xs ob : List Ob) (q : Nat), q ∉ os → (setAll ob os xs)[q]? = ob[q]?
  | [], xs, ob, q, _ => by cases xs <;> rfl
  | o :: os, [], ob, q, _ => rfl
  | o :: os, x :: xs, ob, q, h => by
    simp only [List.mem_cons, not_or] at h
    simp only [setAll]
    rw [setAll_other os xs _ q h.2, List.getElem?_set_ne (Ne.symm h.1)]
theorem setAll_at : ∀ (os : List Nat) (xs ob : List Ob) (i o : Nat) (x : Ob), nodup os = true → os[i]? = some o → xs[i]? = some x → o < ob.length → (setAll ob os xs)[o]? = some x
  | o' :: os, x' :: xs, ob, 0, o, x, hn, h1, h2, hl => by
    simp at h1 h2; subst h1; subst h2
    simp only [nodup, Bool.and_eq_true] at hn
    simp only [setAll]
    rw [setAll_other os xs _ o' (pos_none (Option.isNone_iff_eq_none.1 hn.1)), List.getElem?_set_self hl]
  | o' :: os, x' :: xs, ob, i + 1, o, x, hn, h1, h2, hl => by
    simp only [nodup, Bool.and_eq_true] at hn
    simp only [setAll]
    exact setAll_at os xs _ i o x hn.2 (by simpa using h1) (by simpa using h2) (by simpa using hl)
  | [], _, _, _, _, _, _, h1, _, _ => by simp at h1
  | _ :: _, [], _, _, _, _, _, _, h2, _ => by simp at h2
theorem killAll_len : ∀ (os : List Nat) (ob : List Ob), (killAll ob os).length = ob.length
  | [], ob => rfl
  | o :: os, ob => by simp only [killAll]; rw [killAll_len os]; simp
theorem killAll_other : ∀ (os : List Nat) (ob : List Ob) (q : Nat), q ∉ os → (killAll ob os)[q]? = ob[q]?
  | [], ob, q, _ => rfl
  | o :: os, ob, q, h => by
    simp only [List.mem_cons, not_or] at h
    simp only [killAll]
    rw [killAll_other os _ q h.2, List.getElem?_set_ne (Ne.symm h.1)]
theorem killAll_mem : ∀ (os : List Nat) (ob : List Ob) (q : Nat) (x : Ob), q ∈ os → (killAll ob os)[q]? = some x → x = .dead
  | o :: os, ob, q, x, h, hx => by
    simp only [killAll] at hx
    by_cases hq : q ∈ os
    · exact killAll_mem os _ q x hq hx
    · rw [killAll_other os _ q hq] at hx
      rcases List.mem_cons.1 h with rfl | h
      · rcases get_set hx with ⟨h1, _⟩ | ⟨_, h2, _⟩
        · exact absurd rfl h1
        · exact h2
      · exact absurd h hq
theorem killAll_ok {C : Ctx} {m : Map} {w : World} : ∀ (os : List Nat) (ob : List Ob), Mem C ob m w → Mem C (killAll ob os) m w ∧ Ext w w (badOf C.E ob m) (badOf C.E (killAll ob os) m) ob (killAll ob os) m m
  | [], ob, h => ⟨h, Ext.refl _ _ _ _⟩
  | o :: os, ob, h => by
    obtain ⟨h1, h2⟩ := killAll_ok os _ (h.kill o)
    exact ⟨h1, (Ext.kill o).trans h2⟩

theorem renCs_get : ∀ {ids : List Nat} {cs cs' : List V}, renCs ids cs = some cs' → cs'.length = cs.length ∧ ∀ (i : Nat) (c : V), cs[i]? = some c → ∃ c', renC ids c = some c' ∧ cs'[i]? = some c'
  | ids, [], cs', h => by simp [renCs] at h; subst h; simp
  | ids, c :: cs, cs', h => by
    simp only [renCs] at h
    split at h
    · rename_i c1 cs1 h1 h2
      injection h with h; subst h
      obtain ⟨g1, g2⟩ := renCs_get h2
      refine ⟨by simp [g1], fun i x hx => ?_⟩
      cases i with
      | zero => simp at hx; subst hx; exact ⟨c1, h1, rfl⟩
      | succ i => simpa using g2 i x (by simpa using hx)
    · cases h
theorem renC_flat {ids : List Nat} {c c' : V} (h : renC ids c = some c') (hf : flatC c' = true) : c = c' := by
  cases c <;> simp only [renC] at h
  all_goals first
    | (obtain ⟨p, _, rfl⟩ := Option.map_eq_some_iff.1 h; simp [flatC] at hf; done)
    | (cases h; done)
    | (cases h; rfl)
theorem renO_flat {ids : List Nat} {x x' : Ob} (h : renO ids x = some x') (hf : flatO x' = true) : x = x' ∧ ∃ ty cs, x = .box ty cs ∧ cs.all flatC = true := by
  cases x with
  | dead => simp [renO] at h; subst h; simp [flatO] at hf
  | row => simp [renO] at h; subst h; simp [flatO] at hf
  | box ty cs =>
    simp only [renO] at h
    obtain ⟨cs', h1, rfl⟩ := Option.map_eq_some_iff.1 h
    simp only [flatO] at hf
    obtain ⟨g1, g2⟩ := renCs_get h1
    have : cs = cs' := by
      apply List.ext_getElem?
      intro i
      cases hc : cs[i]? with
      | none =>
        rw [List.getElem?_eq_none_iff] at hc
        rw [List.getElem?_eq_none (by omega)]
      | some c =>
        obtain ⟨c', h2, h3⟩ := g2 i c hc
        rw [h3, renC_flat h2 (List.all_eq_true.1 hf _ (List.mem_of_getElem? h3))]
    subst this
    exact ⟨rfl, ty, cs, rfl, hf⟩
theorem renOs_get : ∀ {ids : List Nat} {ob : List Ob} {os : List Nat} {l : List Ob}, renOs ids ob os = some l → l.length = os.length ∧ ∀ (i o : Nat), os[i]? = some o → ∃ x x', ob[o]? = some x ∧ renO ids x = some x' ∧ l[i]? = some x'
  | ids, ob, [], l, h => by simp [renOs] at h; subst h; simp
  | ids, ob, o :: os, l, h => by
    simp only [renOs] at h
    split at h
    · rename_i x r h1 h2
      obtain ⟨x', h3, rfl⟩ := Option.map_eq_some_iff.1 h
      obtain ⟨g1, g2⟩ := renOs_get h2
      refine ⟨by simp [g1], fun i q hq => ?_⟩
      cases i with
      | zero => simp at hq; subst hq; exact ⟨x, x', h1, h3, rfl⟩
      | succ i => simpa using g2 i q (by simpa using hq)
    · cases h
end Go.Sim
namespace Go.Sim
open Go Go.RowKit

def outE (C : Ctx) (ob : List Ob) (m : Map) (lend rs : List Nat) (b : Nat) : Prop := badOf C.E ob m b ∧ (∀ o ∈ lend, ∀ base, m o ≠ some (b, base)) ∧ (∀ o ∈ rs, ∀ base, m o ≠ some (b, base))
def inMap (m : Map) (lend : List Nat) : Map := fun o => match lend[o]? with
  | some q => m q
  | none => none

section
variable {C : Ctx} {ob ins : List Ob} {m : Map} {w : World} {lend rs : List Nat}

theorem ins_at (hins : renOs lend ob lend = some ins) (hflat : ins.all flatO = true) : ins.length = lend.length ∧ ∀ (i q : Nat), lend[i]? = some q → ∃ ty cs, ob[q]? = some (.box ty cs) ∧ cs.all flatC = true ∧ ins[i]? = some (.box ty cs) := by
  obtain ⟨g1, g2⟩ := renOs_get hins
  refine ⟨g1, fun i q hq => ?_⟩
  obtain ⟨x, x', h1, h2, h3⟩ := g2 i q hq
  obtain ⟨rfl, ty, cs, rfl, h4⟩ := renO_flat h2 (List.all_eq_true.1 hflat _ (List.mem_of_getElem? h3))
  exact ⟨ty, cs, h1, h4, h3⟩

theorem inMap_at {i b base : Nat} (h : inMap m lend i = some (b, base)) : ∃ q, lend[i]? = some q ∧ m q = some (b, base) := by
  simp only [inMap] at h
  split at h
  · rename_i q hq; exact ⟨q, hq, h⟩
  · cases h

theorem in_bad (hm : Mem C ob m w) (hins : renOs lend ob lend = some ins) (hflat : ins.all flatO = true) {b : Nat} (h : badOf (outE C ob m lend rs) ins (inMap m lend) b) : badOf C.E ob m b := by
  rcases h with h | ⟨i, x, base, h1, h2, h3⟩
  · exact h.1
  · obtain ⟨q, hq, hmq⟩ := inMap_at h3
    obtain ⟨ty, cs, g1, _, _⟩ := (ins_at hins hflat).2 i q hq
    exact .inr ⟨q, _, base, g1, rfl, hmq⟩

theorem flat_CR {bad bad' : Nat → Prop} {ob' : List Ob} {m' : Map} {w' : World} (hF : ∀ c v, FR w bad c v → FR w' bad' c v) : ∀ {cs : List V} {us : List Value}, cs.all flatC = true → All2 (CR w bad ob m) cs us → All2 (CR w' bad' ob' m') cs us
  | [], [], _, _ => trivial
  | c :: cs, u :: us, h1, h2 => by
    simp only [List.all_cons, Bool.and_eq_true] at h1
    refine ⟨?_, flat_CR hF h1.2 h2.2⟩
    cases c with
    | val v => exact h2.1
    | fz sz n g => exact hF _ _ h2.1
    | _ => simp [flatC] at h1
  | [], _ :: _, _, h => h.elim
  | _ :: _, [], _, h => h.elim

theorem in_mem (hm : Mem C ob m w) (hn : nodup lend = true) (hins : renOs lend ob lend = some ins) (hflat : ins.all flatO = true) : Mem ⟨C.P, w, outE C ob m lend rs, lentBy ins.length (inMap m lend), ins.length, inMap m lend⟩ ins (inMap m lend) w where
  ok i x hx := by
    obtain ⟨hl, hi⟩ := ins_at hins hflat
    have hil := lt_of_get hx
    obtain ⟨q, hq⟩ : ∃ q, lend[i]? = some q := ⟨_, List.getElem?_eq_getElem (by omega)⟩
    obtain ⟨ty, cs, g1, g2, g3⟩ := hi i q hq
    rw [hx] at g3; injection g3 with g3; subst g3
    obtain ⟨b, arr, h1, h2, h3⟩ := hm.ok q _ g1
    refine ⟨b, arr, by simp only [inMap, hq]; exact h1, h2, flat_CR (fun c v hf => FR.mono (fun _ _ _ _ _ h => h) (Nat.le_refl _) (fun b _ hb hb' => hb (in_bad hm hins hflat hb')) hf) g2 h3⟩
  inj i i' x x' b base base' hx hx' _ _ h1 h2 := by
    obtain ⟨hl, hi⟩ := ins_at hins hflat
    obtain ⟨q, hq, hmq⟩ := inMap_at h1
    obtain ⟨q', hq', hmq'⟩ := inMap_at h2
    obtain ⟨ty, cs, g1, _, _⟩ := hi i q hq
    obtain ⟨ty', cs', g1', _, _⟩ := hi i' q' hq'
    have := hm.inj q q' _ _ b base base' g1 g1' rfl rfl hmq hmq'
    subst this
    exact nodup_inj hn hq hq'
  blk i x b base hx _ h1 := by
    obtain ⟨hl, hi⟩ := ins_at hins hflat
    obtain ⟨q, hq, hmq⟩ := inMap_at h1
    obtain ⟨ty, cs, g1, _, _⟩ := hi i q hq
    exact ⟨fun he => he.2.1 q (List.mem_of_getElem? hq) base hmq, .inr ⟨i, base, lt_of_get hx, h1⟩, (hm.blk q _ b base g1 rfl hmq).2.2⟩
  kp := ⟨rfl, rfl, rfl, Nat.le_refl _, fun _ _ _ => rfl⟩
  eb b hb := by
    rcases hb.1 with h | ⟨o, x, base, h1, h2, h3⟩
    · exact Nat.lt_of_lt_of_le (hm.eb b h) hm.kp.size
    · exact (hm.blk o x b base h1 h2 h3).2.2
  pl := Nat.le_refl _
  pm _ _ := rfl

theorem expC_ok (hm : Mem C ob m w) (hn : nodup lend = true) (hins : renOs lend ob lend = some ins) (hflat : ins.all flatO = true) {c : V} {u : Value} {K : V → Prop} (h : expC lend ob c K) (hv : CR w (badOf C.E ob m) ob m c u) (hrs : ∀ o ∈ rowsC c, o ∈ rs) :
    (∃ c', K c' ∧ CR w (badOf (outE C ob m lend rs) ins (inMap m lend)) ins (inMap m lend) c' u) ∧ ∀ o ∈ rowsC c, ∃ ty sz n g, ob[o]? = some (.row ty sz n g) := by
  obtain ⟨hl, hi⟩ := ins_at hins hflat
  unfold expC at h
  split at h
  · exact ⟨⟨_, h, hv⟩, by simp [rowsC]⟩
  · exact ⟨⟨_, h, FR.mono (fun _ _ _ _ _ h => h) (Nat.le_refl _) (fun b _ hb hb' => hb (in_bad hm hins hflat hb')) hv⟩, by simp [rowsC]⟩
  · rename_i o off len
    split at h
    · rename_i ty sz n g ho
      obtain ⟨hle, g', hg', h⟩ := h
      refine ⟨⟨_, h, FR.cong hg' <| freeze_row hm ho hle hv (fun b _ hb hb' => hb (in_bad hm hins hflat hb')) (fun b base hmo hb' => ?_)⟩, by simp only [rowsC, List.mem_singleton]; rintro q rfl; exact ⟨_, _, _, _, ho⟩⟩
      rcases hb' with hb' | ⟨i, x, base', h1, h2, h3⟩
      · exact hb'.2.2 o (hrs o (by simp [rowsC])) base hmo
      · obtain ⟨q, hq, hmq⟩ := inMap_at h3
        obtain ⟨ty', cs', g1, _, _⟩ := hi i q hq
        have := hm.inj q o _ _ b base' base g1 ho rfl rfl hmq hmo
        subst this
        rw [ho] at g1; cases g1
    · exact h.elim
  · rename_i o j
    split at h
    · rename_i p hp
      have hq := pos_some hp
      obtain ⟨ty, cs, g1, _, g3⟩ := hi p o hq
      refine ⟨⟨_, h, ?_⟩, by simp [rowsC]⟩
      simp only [CR, g1] at hv
      obtain ⟨b, base, h1, h2⟩ := hv
      simp only [CR, g3]
      exact ⟨b, base, by simp only [inMap, hq]; exact h1, h2⟩
    · exact h.elim
  · exact h.elim

theorem expCs_ok (hm : Mem C ob m w) (hn : nodup lend = true) (hins : renOs lend ob lend = some ins) (hflat : ins.all flatO = true) {K : List V → Prop} : ∀ {cs acc : List V} {us vs : List Value}, expCs lend ob K cs acc → All2 (CR w (badOf C.E ob m) ob m) cs us → (∀ o ∈ cs.flatMap rowsC, o ∈ rs) →
    All2 (CR w (badOf (outE C ob m lend rs) ins (inMap m lend)) ins (inMap m lend)) acc vs →
    (∃ cs', K cs' ∧ All2 (CR w (badOf (outE C ob m lend rs) ins (inMap m lend)) ins (inMap m lend)) cs' (vs ++ us)) ∧ ∀ o ∈ cs.flatMap rowsC, ∃ ty sz n g, ob[o]? = some (.row ty sz n g)
  | [], acc, [], vs, h, _, _, ha => ⟨⟨acc, h, by simpa using ha⟩, by simp⟩
  | c :: cs, acc, u :: us, vs, h, hc, hrs, ha => by
    simp only [expCs] at h
    obtain ⟨⟨c', h1, h2⟩, h3⟩ := expC_ok hm hn hins hflat h hc.1 (fun o ho => hrs o (by simp [ho]))
    obtain ⟨⟨cs', g1, g2⟩, g3⟩ := expCs_ok hm hn hins hflat h1 hc.2 (fun o ho => hrs o (by rw [List.flatMap_cons]; exact List.mem_append_right _ ho)) (vs := vs ++ [u]) (ha.append ⟨h2, trivial⟩)
    refine ⟨⟨cs', g1, by simpa using g2⟩, fun o ho => ?_⟩
    rw [List.flatMap_cons] at ho
    rcases List.mem_append.1 ho with ho | ho
    · exact h3 o ho
    · exact g3 o ho
  | [], _, _ :: _, _, _, h, _, _ => h.elim
  | _ :: _, _, [], _, _, h, _, _ => h.elim

theorem expA_ok (hm : Mem C ob m w) (hn : nodup lend = true) (hins : renOs lend ob lend = some ins) (hflat : ins.all flatO = true) {c : V} {u : Value} {K : V → Prop} (h : expA lend ob c K) (hv : VR w (badOf C.E ob m) ob m c u) (hrs : ∀ o ∈ rowsA c, o ∈ rs) :
    (∃ c', K c' ∧ VA w (badOf (outE C ob m lend rs) ins (inMap m lend)) ins (inMap m lend) c' u) ∧ ∀ o ∈ rowsA c, ∃ ty sz n g, ob[o]? = some (.row ty sz n g) := by
  have cell : ∀ c : V, (∀ cs, c ≠ .agg cs) → (∀ cs, c ≠ .tup cs) → expC lend ob c K → CR w (badOf C.E ob m) ob m c u → (∀ o ∈ rowsC c, o ∈ rs) → (∃ c', K c' ∧ VA w (badOf (outE C ob m lend rs) ins (inMap m lend)) ins (inMap m lend) c' u) ∧ ∀ o ∈ rowsC c, ∃ ty sz n g, ob[o]? = some (.row ty sz n g) := by
    intro c _ _ h1 h2 h3
    obtain ⟨⟨c', g1, g2⟩, g3⟩ := expC_ok hm hn hins hflat h1 h2 h3
    refine ⟨⟨c', g1, ?_⟩, g3⟩
    cases c' <;> first | exact g2 | exact g2.elim
  cases c with
  | agg cs =>
    obtain ⟨us, rfl, hc⟩ := hv
    obtain ⟨⟨cs', g1, g2⟩, g3⟩ := expCs_ok hm hn hins hflat (K := fun cs' => K (.agg cs')) h hc hrs (vs := []) trivial
    exact ⟨⟨.agg cs', g1, us, rfl, by simpa using g2⟩, g3⟩
  | tup cs => exact (show False from h).elim
  | val x => exact cell (.val x) (by simp) (by simp) h hv hrs
  | any => exact (show False from h).elim
  | fz sz n g => exact cell (.fz sz n g) (by simp) (by simp) h hv hrs
  | row o off len => exact cell (.row o off len) (by simp) (by simp) h hv hrs
  | ptr o j => exact cell (.ptr o j) (by simp) (by simp) h hv hrs
  | eptr o i j => exact (show False from h).elim
  | fptr cs => exact (show False from h).elim

theorem expAs_ok (hm : Mem C ob m w) (hn : nodup lend = true) (hins : renOs lend ob lend = some ins) (hflat : ins.all flatO = true) {K : List V → Prop} : ∀ {cs acc : List V} {us vs : List Value}, expAs lend ob K cs acc → All2 (VR w (badOf C.E ob m) ob m) cs us → (∀ o ∈ cs.flatMap rowsA, o ∈ rs) →
    All2 (VA w (badOf (outE C ob m lend rs) ins (inMap m lend)) ins (inMap m lend)) acc vs →
    (∃ cs', K cs' ∧ All2 (VA w (badOf (outE C ob m lend rs) ins (inMap m lend)) ins (inMap m lend)) cs' (vs ++ us)) ∧ ∀ o ∈ cs.flatMap rowsA, ∃ ty sz n g, ob[o]? = some (.row ty sz n g)
  | [], acc, [], vs, h, _, _, ha => ⟨⟨acc, h, by simpa using ha⟩, by simp⟩
  | c :: cs, acc, u :: us, vs, h, hc, hrs, ha => by
    simp only [expAs] at h
    obtain ⟨⟨c', h1, h2⟩, h3⟩ := expA_ok hm hn hins hflat h hc.1 (fun o ho => hrs o (by simp [ho]))
    obtain ⟨⟨cs', g1, g2⟩, g3⟩ := expAs_ok hm hn hins hflat h1 hc.2 (fun o ho => hrs o (by rw [List.flatMap_cons]; exact List.mem_append_right _ ho)) (vs := vs ++ [u]) (ha.append ⟨h2, trivial⟩)
    refine ⟨⟨cs', g1, by simpa using g2⟩, fun o ho => ?_⟩
    rw [List.flatMap_cons] at ho
    rcases List.mem_append.1 ho with ho | ho
    · exact h3 o ho
    · exact g3 o ho
  | [], _, _ :: _, _, _, h, _, _ => h.elim
  | _ :: _, _, [], _, _, h, _, _ => h.elim
end
end Go.Sim
namespace Go.Sim
open Go Go.RowKit

def joinOb (ob0 : List Ob) (lend : List Nat) (outs : List Ob) : List Ob := setAll ob0 lend (outs.take lend.length) ++ outs.drop lend.length
def joinMap (m m' : Map) (N p : Nat) : Map := fun o => if o < N then m o else m' (o - N + p)

theorem sameLens_at : ∀ {xs ys : List Ob} {i : Nat} {ty : TypeId} {cs : List V} , sameLens xs ys = true → xs[i]? = some (.box ty cs) → ∃ ty' cs', ys[i]? = some (.box ty' cs') ∧ cs'.length = cs.length
  | .box _ cs :: xs, .box _ cs' :: ys, 0, ty, _, h, hx => by
    simp only [sameLens, Bool.and_eq_true] at h
    simp at hx
    obtain ⟨rfl, rfl⟩ := hx
    exact ⟨_, cs', rfl, (Nat.eq_of_beq_eq_true h.1).symm⟩
  | .box _ _ :: xs, .box _ _ :: ys, i + 1, _, _, h, hx => by
    simp only [sameLens, Bool.and_eq_true] at h
    simpa using sameLens_at h.2 (by simpa using hx)
  | [], _, _, _, _, _, hx => by simp at hx
  | .dead :: _, _, _, _, _, h, _ => by simp [sameLens] at h
  | .row .. :: _, _, _, _, _, h, _ => by simp [sameLens] at h
  | .box .. :: _, [], _, _, _, h, _ => by simp [sameLens] at h
  | .box .. :: _, .dead :: _, _, _, _, h, _ => by simp [sameLens] at h
  | .box .. :: _, .row .. :: _, _, _, _, h, _ => by simp [sameLens] at h

section
variable {C : Ctx} {ob0 outs : List Ob} {m m' : Map} {w w1 : World} {lend : List Nat} {E' : Nat → Prop} {okc : V → Prop}

theorem join_get (hn : nodup lend = true) (hp : lend.length ≤ outs.length) (hl : ∀ q ∈ lend, q < ob0.length) {o : Nat} {x : Ob} (h : (joinOb ob0 lend outs)[o]? = some x) :
    (o < ob0.length ∧ o ∉ lend ∧ ob0[o]? = some x) ∨ (∃ i, i < lend.length ∧ lend[i]? = some o ∧ outs[i]? = some x ∧ o < ob0.length) ∨ (∃ i, lend.length ≤ i ∧ o = i - lend.length + ob0.length ∧ outs[i]? = some x) := by
  unfold joinOb at h
  rcases Nat.lt_or_ge o ob0.length with h1 | h1
  · rw [List.getElem?_append_left (by rw [setAll_len]; exact h1)] at h
    cases hpo : pos o lend with
    | none =>
      have := pos_none hpo
      rw [setAll_other _ _ _ _ this] at h
      exact .inl ⟨h1, this, h⟩
    | some i =>
      have hi := pos_some hpo
      have hil := lt_of_get hi
      obtain ⟨y, hy⟩ : ∃ y, outs[i]? = some y := ⟨_, List.getElem?_eq_getElem (by omega)⟩
      rw [setAll_at _ _ _ i o y hn hi (by rw [List.getElem?_take_of_lt hil]; exact hy) h1] at h
      injection h with h; subst h
      exact .inr (.inl ⟨i, hil, hi, hy, h1⟩)
  · rw [List.getElem?_append_right (by rw [setAll_len]; exact h1), setAll_len, List.getElem?_drop] at h
    exact .inr (.inr ⟨lend.length + (o - ob0.length), by omega, by omega, h⟩)

theorem join_old (hn : nodup lend = true) {o : Nat} {x : Ob} (h1 : ob0[o]? = some x) (h2 : o ∉ lend) : (joinOb ob0 lend outs)[o]? = some x := by
  unfold joinOb
  rw [List.getElem?_append_left (by rw [setAll_len]; exact lt_of_get h1), setAll_other _ _ _ _ h2]; exact h1
theorem join_lent (hn : nodup lend = true) {i o : Nat} {x : Ob} (h1 : lend[i]? = some o) (h2 : outs[i]? = some x) (h3 : o < ob0.length) : (joinOb ob0 lend outs)[o]? = some x := by
  unfold joinOb
  rw [List.getElem?_append_left (by rw [setAll_len]; exact h3)]
  exact setAll_at _ _ _ i o x hn h1 (by rw [List.getElem?_take_of_lt (lt_of_get h1)]; exact h2) h3
theorem join_new {i : Nat} {x : Ob} (h1 : lend.length ≤ i) (h2 : outs[i]? = some x) : (joinOb ob0 lend outs)[i - lend.length + ob0.length]? = some x := by
  unfold joinOb
  rw [List.getElem?_append_right (by rw [setAll_len]; omega), setAll_len, List.getElem?_drop]
  rw [show lend.length + (i - lend.length + ob0.length - ob0.length) = i by omega]; exact h2

theorem cell_FR (hF : ∀ c v, okc c → FR w (badOf C.E ob0 m) c v → FR w1 E' c v) {ob' : List Ob} {m2 : Map} : ∀ {cs : List V} {us : List Value}, cs.all flatC = true → (∀ c ∈ cs, okc c) → All2 (CR w (badOf C.E ob0 m) ob0 m) cs us → All2 (CR w1 E' ob' m2) cs us
  | [], [], _, _, _ => trivial
  | c :: cs, u :: us, h1, hk, h2 => by
    simp only [List.all_cons, Bool.and_eq_true] at h1
    refine ⟨?_, cell_FR hF h1.2 (fun c hc => hk c (List.mem_cons_of_mem _ hc)) h2.2⟩
    cases c with
    | val v => exact h2.1
    | fz sz n g => exact hF _ _ (hk _ (List.mem_cons_self ..)) h2.1
    | _ => simp [flatC] at h1
  | [], _ :: _, _, _, h => h.elim
  | _ :: _, [], _, _, h => h.elim

structure Joins (C : Ctx) (ob0 outs : List Ob) (m m' : Map) (w w1 : World) (lend : List Nat) (E' : Nat → Prop) : Prop where
  mem : Mem C ob0 m w
  nd : nodup lend = true
  box : ∀ (i q : Nat), lend[i]? = some q → ∃ ty cs, ob0[q]? = some (.box ty cs) ∧ ∃ ty' cs', outs[i]? = some (.box ty' cs') ∧ cs'.length = cs.length ∧ cs'.all flatC = true
  le : lend.length ≤ outs.length
  row : ∀ (i : Nat) (x : Ob), lend.length ≤ i → outs[i]? = some x → ∃ ty sz n g, x = .row ty sz n g
  out : Mem ⟨C.P, w, E', lentBy lend.length (inMap m lend), lend.length, inMap m lend⟩ outs m' w1
  map : ∀ o, o < lend.length → m' o = inMap m lend o

theorem Joins.lt (h : Joins C ob0 outs m m' w w1 lend E') : ∀ q ∈ lend, q < ob0.length := by
  intro q hq
  obtain ⟨i, hi⟩ := List.mem_iff_getElem?.1 hq
  obtain ⟨_, _, h1, _⟩ := h.box i q hi
  exact lt_of_get h1

/-- A lent object's block. -/
theorem Joins.at (h : Joins C ob0 outs m m' w w1 lend E') {i q : Nat} (hi : lend[i]? = some q) : m' i = m q := by
  rw [h.map i (lt_of_get hi)]; simp only [inMap, hi]

theorem Joins.heap (h : Joins C ob0 outs m m' w w1 lend E') {b : Nat} (hb : b < w.heap.size) (hl : ∀ (i q base : Nat), lend[i]? = some q → m q ≠ some (b, base)) : w1.heap[b]? = w.heap[b]? :=
  h.out.kp.block b hb (fun ⟨o, base, ho, hmo⟩ => by
    obtain ⟨q, hq, hmq⟩ := inMap_at hmo
    exact hl o q base hq hmq)

/-- A new object's block is new. -/
theorem Joins.fresh (h : Joins C ob0 outs m m' w w1 lend E') {i b base : Nat} {x : Ob} (hi : lend.length ≤ i) (hx : outs[i]? = some x) (hm : m' i = some (b, base)) : w.heap.size ≤ b ∧ b < w1.heap.size := by
  obtain ⟨ty, sz, n, g, rfl⟩ := h.row i x hi hx
  obtain ⟨_, h2, h3⟩ := h.out.blk i _ b base hx rfl hm
  refine ⟨?_, h3⟩
  rcases h2 with h2 | ⟨o, base', ho, hmo⟩
  · exact h2
  · obtain ⟨q, hq, hmq⟩ := inMap_at hmo
    obtain ⟨_, _, _, ty', cs', g1, _, _⟩ := h.box o q hq
    have := h.out.inj i o _ _ b base base' hx g1 rfl rfl hm ((h.map o ho).trans hmo)
    omega

theorem Joins.ext (h : Joins C ob0 outs m m' w w1 lend E') : Ext w w1 (badOf C.E ob0 m) (badOf C.E (joinOb ob0 lend outs) (joinMap m m' ob0.length lend.length)) ob0 (joinOb ob0 lend outs) m (joinMap m m' ob0.length lend.length) where
  cell b hb hlt off v hv := by
    rw [← hv]
    refine World.cell?_of_block (w := w) (h.heap hlt (fun i q base hi hm => hb ?_))
    obtain ⟨ty, cs, g1, _⟩ := h.box i q hi
    exact .inr ⟨q, _, base, g1, rfl, hm⟩
  size := h.out.kp.size
  bads b hlt hn hb := by
    rcases hb with hb | ⟨o, x, base, h1, h2, h3⟩
    · exact hn (.inl hb)
    · rcases join_get h.nd h.le h.lt h1 with ⟨g1, g2, g3⟩ | ⟨i, g1, g2, g3, g4⟩ | ⟨i, g1, rfl, g3⟩
      · rw [joinMap, if_pos g1] at h3
        exact hn (.inr ⟨o, x, base, g3, h2, h3⟩)
      · rw [joinMap, if_pos g4] at h3
        obtain ⟨ty, cs, k1, _⟩ := h.box i o g2
        exact hn (.inr ⟨o, _, base, k1, rfl, h3⟩)
      · rw [joinMap, if_neg (by omega)] at h3
        rw [show i - lend.length + ob0.length - ob0.length + lend.length = i by omega] at h3
        have := (h.fresh g1 g3 h3).1
        omega
  bsz b := by
    by_cases hl : ∃ (i q base : Nat), lend[i]? = some q ∧ m q = some (b, base)
    · obtain ⟨i, q, base, hi, hm⟩ := hl
      obtain ⟨ty, cs, g1, ty', cs', g2, g3, _⟩ := h.box i q hi
      obtain ⟨b1, arr, k1, k2, k3⟩ := h.mem.ok q _ g1
      obtain ⟨b2, arr', j1, j2, j3⟩ := h.out.ok i _ g2
      rw [h.at hi, k1] at j1
      injection j1 with j1; injection j1 with j1
      rw [k1] at hm
      injection hm with hm; injection hm with hm
      subst j1; subst hm
      have e1 := k3.length
      have e2 := j3.length
      simp only [Array.length_toList] at e1 e2
      rw [bsize_of k2, bsize_of j2]; omega
    · rcases Nat.lt_or_ge b w.heap.size with hb | hb
      · unfold bsize
        rw [h.heap hb (fun i q base hi hm => hl ⟨i, q, base, hi, hm⟩)]
        exact Nat.le_refl _
      · unfold bsize
        rw [Array.getElem?_eq_none hb]
        exact Nat.zero_le _
  obs o x hx := by
    by_cases hl : o ∈ lend
    · obtain ⟨i, hi⟩ := List.mem_iff_getElem?.1 hl
      obtain ⟨ty, cs, g1, ty', cs', g2, _⟩ := h.box i o hi
      rw [hx] at g1; injection g1 with g1; subst g1
      exact ⟨_, join_lent h.nd hi g2 (lt_of_get hx), trivial⟩
    · exact ⟨x, join_old h.nd hx hl, compat.refl x⟩
  map o ho := if_pos ho

theorem Joins.join (h : Joins C ob0 outs m m' w w1 lend E') (hF : ∀ c v, okc c → FR w1 (badOf E' outs m') c v → FR w1 (badOf C.E (joinOb ob0 lend outs) (joinMap m m' ob0.length lend.length)) c v)
    (hk1 : ∀ (i : Nat) (ty : TypeId) (cs : List V), outs[i]? = some (.box ty cs) → ∀ c ∈ cs, okc c) (hk2 : ∀ (i : Nat) (ty : TypeId) (sz n : Nat) (g : Nat → List V), outs[i]? = some (.row ty sz n g) → ∀ k, k < n → ∀ c ∈ g k, okc c) :
    Mem C (joinOb ob0 lend outs) (joinMap m m' ob0.length lend.length) w1 where
  ok o x hx := by
    rcases join_get h.nd h.le h.lt hx with ⟨g1, g2, g3⟩ | ⟨i, g1, g2, g3, g4⟩ | ⟨i, g1, rfl, g3⟩
    · refine OR.ext h.ext (h.mem.ok o x g3) (if_pos g1) (fun hl b base hb => h.heap (h.mem.blk o x b base g3 hl hb).2.2 (fun i q base' hi hm => g2 ?_))
      obtain ⟨ty, cs, k1, _⟩ := h.box i q hi
      rw [h.mem.inj o q x _ b base base' g3 k1 hl rfl hb hm]
      exact List.mem_of_getElem? hi
    · obtain ⟨ty, cs, k1, ty', cs', k2, k3, k4⟩ := h.box i o g2
      rw [g3] at k2; injection k2 with k2; subst k2
      obtain ⟨b, arr, j1, j2, j3⟩ := h.out.ok i _ g3
      refine ⟨b, arr, by rw [joinMap, if_pos g4, ← h.at g2]; exact j1, j2, ?_⟩
      exact cell_FR (C := ⟨C.P, w, E', lentBy lend.length (inMap m lend), lend.length, inMap m lend⟩) hF k4 (hk1 i _ _ g3) j3
    · obtain ⟨ty, sz, n, g, rfl⟩ := h.row i x g1 g3
      have hO := h.out.ok i _ g3
      have hmm : joinMap m m' ob0.length lend.length (i - lend.length + ob0.length) = m' i := by
        rw [joinMap, if_neg (by omega), show i - lend.length + ob0.length - ob0.length + lend.length = i by omega]
      simp only [OR] at hO ⊢
      rw [hmm]
      cases hmi : m' i with
      | none => rw [hmi] at hO; exact hO
      | some p =>
        obtain ⟨b, base⟩ := p
        rw [hmi] at hO
        obtain ⟨arr, j1, j2⟩ := hO
        refine ⟨arr, j1, fun k hk => ⟨(j2 k hk).1, fun j c hj => ?_⟩⟩
        obtain ⟨v, hv, hf⟩ := (j2 k hk).2 j c hj
        exact ⟨v, hv, hF c v (hk2 i _ _ _ _ g3 k hk c (List.mem_of_getElem? hj)) hf⟩
  inj o o' x x' b base base' hx hx' hl hl' h1 h2 := by
    have hold : ∀ {o : Nat} {x : Ob}, (joinOb ob0 lend outs)[o]? = some x → x.live = true → o < ob0.length → ∃ y, ob0[o]? = some y ∧ y.live = true := by
      intro o x hx hl ho
      rcases join_get h.nd h.le h.lt hx with ⟨g1, g2, g3⟩ | ⟨i, g1, g2, g3, g4⟩ | ⟨i, g1, rfl, g3⟩
      · exact ⟨x, g3, hl⟩
      · obtain ⟨ty, cs, k1, _⟩ := h.box i o g2
        exact ⟨_, k1, rfl⟩
      · omega
    have hnew : ∀ {o : Nat} {x : Ob}, (joinOb ob0 lend outs)[o]? = some x → ob0.length ≤ o → ∃ i, lend.length ≤ i ∧ o = i - lend.length + ob0.length ∧ outs[i]? = some x := by
      intro o x hx ho
      rcases join_get h.nd h.le h.lt hx with ⟨g1, g2, g3⟩ | ⟨i, g1, g2, g3, g4⟩ | h
      · omega
      · omega
      · exact h
    rcases Nat.lt_or_ge o ob0.length with ho | ho <;> rcases Nat.lt_or_ge o' ob0.length with ho' | ho'
    · rw [joinMap, if_pos ho] at h1; rw [joinMap, if_pos ho'] at h2
      obtain ⟨y, hy, hyl⟩ := hold hx hl ho
      obtain ⟨y', hy', hyl'⟩ := hold hx' hl' ho'
      exact h.mem.inj o o' y y' b base base' hy hy' hyl hyl' h1 h2
    · rw [joinMap, if_pos ho] at h1
      obtain ⟨y, hy, hyl⟩ := hold hx hl ho
      obtain ⟨i, g1, rfl, g3⟩ := hnew hx' ho'
      rw [joinMap, if_neg (by omega), show i - lend.length + ob0.length - ob0.length + lend.length = i by omega] at h2
      have := (h.fresh g1 g3 h2).1
      have := (h.mem.blk o y b base hy hyl h1).2.2
      omega
    · rw [joinMap, if_pos ho'] at h2
      obtain ⟨y, hy, hyl⟩ := hold hx' hl' ho'
      obtain ⟨i, g1, rfl, g3⟩ := hnew hx ho
      rw [joinMap, if_neg (by omega), show i - lend.length + ob0.length - ob0.length + lend.length = i by omega] at h1
      have := (h.fresh g1 g3 h1).1
      have := (h.mem.blk o' y b base' hy hyl h2).2.2
      omega
    · obtain ⟨i, g1, rfl, g3⟩ := hnew hx ho
      obtain ⟨i', g1', rfl, g3'⟩ := hnew hx' ho'
      rw [joinMap, if_neg (by omega), show i - lend.length + ob0.length - ob0.length + lend.length = i by omega] at h1
      rw [joinMap, if_neg (by omega), show i' - lend.length + ob0.length - ob0.length + lend.length = i' by omega] at h2
      rw [h.out.inj i i' x x' b base base' g3 g3' hl hl' h1 h2]
  blk o x b base hx hl h1 := by
    have hsz := h.out.kp.size
    have hsz' : w.heap.size ≤ w1.heap.size := hsz
    rcases join_get h.nd h.le h.lt hx with ⟨g1, g2, g3⟩ | ⟨i, g1, g2, g3, g4⟩ | ⟨i, g1, rfl, g3⟩
    · rw [joinMap, if_pos g1] at h1
      have := h.mem.blk o x b base g3 hl h1
      exact ⟨this.1, this.2.1, by omega⟩
    · rw [joinMap, if_pos g4] at h1
      obtain ⟨ty, cs, k1, _⟩ := h.box i o g2
      have := h.mem.blk o _ b base k1 rfl h1
      exact ⟨this.1, this.2.1, by omega⟩
    · rw [joinMap, if_neg (by omega), show i - lend.length + ob0.length - ob0.length + lend.length = i by omega] at h1
      have := h.fresh g1 g3 h1
      have hk := h.mem.kp.size
      exact ⟨fun he => by have := h.mem.eb b he; omega, .inl (by omega), this.2⟩
  kp := by
    have hk := h.out.kp
    have hm := h.mem.kp
    have hsz' : w.heap.size ≤ w1.heap.size := hk.size
    refine ⟨hk.os.trans hm.os, hk.tape.trans hm.tape, hk.output.trans hm.output, by have := hm.size; omega, fun b hb hl => ?_⟩
    rw [h.heap (by have := hm.size; omega) (fun i q base hi hmq => ?_)]
    · exact hm.block b hb hl
    · obtain ⟨ty, cs, k1, _⟩ := h.box i q hi
      rcases (h.mem.blk q _ b base k1 rfl hmq).2.1 with h2 | h2
      · omega
      · exact hl h2
  eb := h.mem.eb
  pl := by have := h.mem.pl; simp only [joinOb, List.length_append, setAll_len]; omega
  pm o ho := (if_pos (by have := h.mem.pl; omega)).trans (h.mem.pm o ho)
end
end Go.Sim
namespace Go.Sim
open Go Go.RowKit

theorem cleanO_at : ∀ {outs : List Ob}, cleanO outs → (∀ (i : Nat) (ty : TypeId) (cs : List V), outs[i]? = some (.box ty cs) → ∀ c ∈ cs, cleanC c = true) ∧ (∀ (i : Nat) (ty : TypeId) (sz n : Nat) (g : Nat → List V), outs[i]? = some (.row ty sz n g) → ∀ k, k < n → ∀ c ∈ g k, cleanC c = true)
  | [], _ => ⟨fun i ty cs h => by simp at h, fun i ty sz n g h => by simp at h⟩
  | x :: outs, h => by
    have hr : cleanO outs := by
      cases x with
      | dead => exact h
      | box ty cs => exact (br_true h).2
      | row => exact h.2
    obtain ⟨g1, g2⟩ := cleanO_at hr
    refine ⟨fun i ty cs hx => ?_, fun i ty sz n g hx => ?_⟩
    · cases i with
      | zero =>
        simp at hx; subst hx
        exact List.all_eq_true.1 (br_true h).1
      | succ i => exact g1 i ty cs (by simpa using hx)
    · cases i with
      | zero =>
        simp at hx; subst hx
        exact fun k hk => List.all_eq_true.1 (h.1 k hk)
      | succ i => exact g2 i ty sz n g (by simpa using hx)

theorem clean_FR {w : World} {bad bad' : Nat → Prop} {c : V} {v : Value} (hc : cleanC c = true) (h : FR w bad c v) : FR w bad' c v := by
  cases h with
  | val h => exact .val h
  | fz => simp [cleanC] at hc

section
variable {C : Ctx} {ob0 outs : List Ob} {m m' : Map} {w w1 : World} {lend : List Nat} {E' : Nat → Prop} {okc : V → Prop}

theorem inC_ok (h : Joins C ob0 outs m m' w w1 lend E') (hF : ∀ c v, okc c → FR w1 (badOf E' outs m') c v → FR w1 (badOf C.E (joinOb ob0 lend outs) (joinMap m m' ob0.length lend.length)) c v)
    {c : V} {v : Value} (hk : okc c) (ha : ansC lend.length outs.length c = true) (hv : CR w1 (badOf E' outs m') outs m' c v) :
    CR w1 (badOf C.E (joinOb ob0 lend outs) (joinMap m m' ob0.length lend.length)) (joinOb ob0 lend outs) (joinMap m m' ob0.length lend.length) (inC lend ob0.length c) v := by
  cases c with
  | val x => exact hv
  | fz sz n g => exact hF _ _ hk hv
  | row o off len =>
    simp only [ansC, Bool.and_eq_true] at ha
    have h1 := Nat.le_of_ble_eq_true ha.1
    simp only [CR] at hv
    cases ho : outs[o]? with
    | none => rw [ho] at hv; exact hv.elim
    | some x =>
      obtain ⟨ty, sz, n, g, rfl⟩ := h.row o x h1 ho
      rw [ho] at hv
      obtain ⟨A, cap, rfl, h2, h3⟩ := hv
      show CR _ _ _ _ (.row (o - lend.length + ob0.length) off len) _
      simp only [CR, join_new h1 ho]
      refine ⟨A, cap, rfl, h2, fun h0 => ?_⟩
      obtain ⟨b, base, h4, h5⟩ := h3 h0
      exact ⟨b, base, by rw [joinMap, if_neg (by omega), show o - lend.length + ob0.length - ob0.length + lend.length = o by omega]; exact h4, h5⟩
  | ptr o j =>
    simp only [ansC] at ha
    have h1 : o < lend.length := by simpa using ha
    obtain ⟨q, hq⟩ : ∃ q, lend[o]? = some q := ⟨_, List.getElem?_eq_getElem h1⟩
    obtain ⟨ty, cs, g1, ty', cs', g2, _⟩ := h.box o q hq
    simp only [CR, g2] at hv
    obtain ⟨b, base, h2, rfl⟩ := hv
    show CR _ _ _ _ (.ptr (lend.getD o 0) j) _
    rw [List.getD_eq_getElem?_getD, hq]
    simp only [Option.getD_some, CR, join_lent h.nd hq g2 (lt_of_get g1)]
    refine ⟨b, base, ?_, rfl⟩
    rw [joinMap, if_pos (lt_of_get g1), ← h.at hq]; exact h2
  | _ => simp [ansC] at ha

theorem inCs_ok (h : Joins C ob0 outs m m' w w1 lend E') (hF : ∀ c v, okc c → FR w1 (badOf E' outs m') c v → FR w1 (badOf C.E (joinOb ob0 lend outs) (joinMap m m' ob0.length lend.length)) c v) :
    ∀ {cs : List V} {vs : List Value}, (∀ c ∈ cs, okc c) → cs.all (ansC lend.length outs.length) = true → All2 (CR w1 (badOf E' outs m') outs m') cs vs →
    All2 (CR w1 (badOf C.E (joinOb ob0 lend outs) (joinMap m m' ob0.length lend.length)) (joinOb ob0 lend outs) (joinMap m m' ob0.length lend.length)) (cs.map (inC lend ob0.length)) vs
  | [], [], _, _, _ => trivial
  | c :: cs, v :: vs, hk, ha, hv => by
    simp only [List.all_cons, Bool.and_eq_true] at ha
    exact ⟨inC_ok h hF (hk c (List.mem_cons_self ..)) ha.1 hv.1, inCs_ok h hF (fun x hx => hk x (List.mem_cons_of_mem _ hx)) ha.2 hv.2⟩
  | [], _ :: _, _, _, hv => hv.elim
  | _ :: _, [], _, _, hv => hv.elim

def cellsA : V → List V
  | .agg cs => cs
  | c => [c]
def cellsV : V → List V
  | .tup vs => vs.flatMap cellsA
  | c => cellsA c

theorem inA_ok (h : Joins C ob0 outs m m' w w1 lend E') (hF : ∀ c v, okc c → FR w1 (badOf E' outs m') c v → FR w1 (badOf C.E (joinOb ob0 lend outs) (joinMap m m' ob0.length lend.length)) c v)
    {c : V} {v : Value} (hk : ∀ x ∈ cellsA c, okc x) (ha : ansA lend.length outs.length c = true) (hv : VA w1 (badOf E' outs m') outs m' c v) :
    VA w1 (badOf C.E (joinOb ob0 lend outs) (joinMap m m' ob0.length lend.length)) (joinOb ob0 lend outs) (joinMap m m' ob0.length lend.length) (inA lend ob0.length c) v := by
  have cell : ∀ c : V, (cellsA c = [c]) → (∀ cs, inC lend ob0.length c ≠ .agg cs) → (∀ x ∈ cellsA c, okc x) → ansC lend.length outs.length c = true → CR w1 (badOf E' outs m') outs m' c v →
      VA w1 (badOf C.E (joinOb ob0 lend outs) (joinMap m m' ob0.length lend.length)) (joinOb ob0 lend outs) (joinMap m m' ob0.length lend.length) (inC lend ob0.length c) v := by
    intro c h1 h2 h3 h4 h5
    have := inC_ok h hF (h3 c (by rw [h1]; simp)) h4 h5
    generalize inC lend ob0.length c = c' at this h2
    cases c' <;> first | exact this | exact absurd rfl (h2 _)
  cases c with
  | agg cs =>
    obtain ⟨us, rfl, hc⟩ := hv
    exact ⟨us, rfl, inCs_ok h hF hk ha hc⟩
  | val x => exact cell (.val x) rfl (by simp [inC]) hk ha hv
  | fz sz n g => exact cell (.fz sz n g) rfl (by simp [inC]) hk ha hv
  | row o off len => exact cell (.row o off len) rfl (by simp [inC]) hk ha hv
  | ptr o j => exact cell (.ptr o j) rfl (by simp [inC]) hk ha hv
  | _ => simp [ansA, ansC] at ha

theorem inV_ok (h : Joins C ob0 outs m m' w w1 lend E') (hF : ∀ c v, okc c → FR w1 (badOf E' outs m') c v → FR w1 (badOf C.E (joinOb ob0 lend outs) (joinMap m m' ob0.length lend.length)) c v)
    {c : V} {v : Value} (hk : ∀ x ∈ cellsV c, okc x) (ha : ansV lend.length outs.length c = true) (hv : VR w1 (badOf E' outs m') outs m' c v) :
    VR w1 (badOf C.E (joinOb ob0 lend outs) (joinMap m m' ob0.length lend.length)) (joinOb ob0 lend outs) (joinMap m m' ob0.length lend.length) (inV lend ob0.length c) v := by
  have cell : ∀ c : V, cellsV c = cellsA c → inV lend ob0.length c = inA lend ob0.length c → ansV lend.length outs.length c = ansA lend.length outs.length c → (∀ x ∈ cellsV c, okc x) → ansV lend.length outs.length c = true → VA w1 (badOf E' outs m') outs m' c v →
      VR w1 (badOf C.E (joinOb ob0 lend outs) (joinMap m m' ob0.length lend.length)) (joinOb ob0 lend outs) (joinMap m m' ob0.length lend.length) (inV lend ob0.length c) v := by
    intro c h1 h2 h3 h4 h5 h6
    rw [h1] at h4; rw [h3] at h5; rw [h2]
    have := inA_ok h hF h4 h5 h6
    generalize inA lend ob0.length c = c' at this
    cases c' <;> first | exact this | exact this.elim
  cases c with
  | tup vs =>
    obtain ⟨us, rfl, hc⟩ := hv
    refine ⟨us, rfl, ?_⟩
    have go : ∀ {vs : List V} {us : List Value}, (∀ x ∈ vs.flatMap cellsA, okc x) → vs.all (ansA lend.length outs.length) = true → All2 (VA w1 (badOf E' outs m') outs m') vs us →
        All2 (VA w1 (badOf C.E (joinOb ob0 lend outs) (joinMap m m' ob0.length lend.length)) (joinOb ob0 lend outs) (joinMap m m' ob0.length lend.length)) (vs.map (inA lend ob0.length)) us := by
      intro vs
      induction vs with
      | nil => intro us _ _ hh; cases us <;> first | trivial | exact hh.elim
      | cons x vs ih =>
        intro us h1 h2 hh
        cases us with
        | nil => exact hh.elim
        | cons y us =>
          simp only [List.all_cons, Bool.and_eq_true] at h2
          rw [List.flatMap_cons] at h1
          exact ⟨inA_ok h hF (fun z hz => h1 z (List.mem_append_left _ hz)) h2.1 hh.1, ih (fun z hz => h1 z (List.mem_append_right _ hz)) h2.2 hh.2⟩
    exact go hk ha hc
  | agg cs => exact cell (.agg cs) rfl rfl rfl hk ha hv
  | val x => exact cell (.val x) rfl rfl rfl hk ha hv
  | any => exact cell .any rfl rfl rfl hk ha hv
  | fz sz n g => exact cell (.fz sz n g) rfl rfl rfl hk ha hv
  | row o off len => exact cell (.row o off len) rfl rfl rfl hk ha hv
  | ptr o j => exact cell (.ptr o j) rfl rfl rfl hk ha hv
  | eptr o i j => exact cell (.eptr o i j) rfl rfl rfl hk ha hv
  | fptr cs => exact cell (.fptr cs) rfl rfl rfl hk ha hv

theorem cleanV_cells {c : V} (h : cleanV c = true) : ∀ x ∈ cellsV c, cleanC x = true := by
  have ha : ∀ {c : V}, cleanA c = true → ∀ x ∈ cellsA c, cleanC x = true := by
    intro c h x hx
    cases c with
    | agg cs => exact List.all_eq_true.1 h x hx
    | _ => simp only [cellsA, List.mem_singleton] at hx; subst hx; exact h
  cases c with
  | tup vs =>
    intro x hx
    obtain ⟨y, hy, hxy⟩ := List.mem_flatMap.1 hx
    exact ha (List.all_eq_true.1 h y hy) x hxy
  | agg cs => exact ha (c := .agg cs) h
  | val x => exact ha (c := .val x) h
  | any => exact ha (c := .any) h
  | fz sz n g => exact ha (c := .fz sz n g) h
  | row o off len => exact ha (c := .row o off len) h
  | ptr o j => exact ha (c := .ptr o j) h
  | eptr o i j => exact ha (c := .eptr o i j) h
  | fptr cs => exact ha (c := .fptr cs) h
end
end Go.Sim
namespace Go.Sim
open Go Go.RowKit

theorem ansO_at : ∀ {l : List Ob} {i : Nat} {x : Ob}, ansO l = true → l[i]? = some x → ∃ ty sz n g, x = .row ty sz n g
  | .row ty sz n g :: l, 0, x, _, hx => by simp at hx; subst hx; exact ⟨_, _, _, _, rfl⟩
  | .row ty sz n g :: l, i + 1, x, h, hx => ansO_at (l := l) h (by simpa using hx)
  | [], _, _, _, hx => by simp at hx
  | .dead :: _, _, _, h, _ => by simp [ansO] at h
  | .box .. :: _, _, _, h, _ => by simp [ansO] at h

section
variable {C : Ctx} {T : Tab} {o : Oper} {s : St} {m : Map} {a : Act} {w : World} {K : V → St → Prop} {next : Act → World → Prop} {Q : Exit → Act → World → Prop}

theorem evs_ok (hr : Rel C s m a w) : ∀ {l : List Operand} {vs : List V}, evs s l = some vs → All2 (VR w (badOf C.E s.ob m) s.ob m) vs (l.map a.eval)
  | [], vs, h => by simp [evs] at h; subst h; trivial
  | x :: l, vs, h => by
    simp only [evs] at h
    split at h
    · rename_i v r hv hl
      injection h with h; subst h
      exact ⟨hr.ev hv, evs_ok hr hl⟩
    · cases h

theorem join_sub {ob0 outs : List Ob} {m' : Map} {w1 : World} {lend rs : List Nat} (hm : Mem C s.ob m w) (hJ : Joins C ob0 outs m m' w w1 lend (outE C s.ob m lend rs)) (hrow : ∀ o ∈ rs, ∃ ty sz n g, s.ob[o]? = some (.row ty sz n g))
    (hl : ∀ (i q : Nat), lend[i]? = some q → ∃ ty cs, s.ob[q]? = some (.box ty cs)) (h0 : ∀ (o : Nat) (x : Ob), ob0[o]? = some x → x.live = true → s.ob[o]? = some x ∧ o ∉ rs) :
    ∀ b, badOf C.E (joinOb ob0 lend outs) (joinMap m m' ob0.length lend.length) b → badOf (outE C s.ob m lend rs) outs m' b := by
  intro b hb
  rcases hb with hb | ⟨o, x, base, h1, h2, h3⟩
  · refine .inl ⟨.inl hb, fun q hq base hmq => ?_, fun q hq base hmq => ?_⟩
    · obtain ⟨i, hi⟩ := List.mem_iff_getElem?.1 hq
      obtain ⟨ty, cs, g1⟩ := hl i q hi
      exact (hm.blk q _ b base g1 rfl hmq).1 hb
    · obtain ⟨ty, sz, n, g, g1⟩ := hrow q hq
      exact (hm.blk q _ b base g1 rfl hmq).1 hb
  · rcases join_get hJ.nd hJ.le hJ.lt h1 with ⟨g1, g2, g3⟩ | ⟨i, g1, g2, g3, g4⟩ | ⟨i, g1, rfl, g3⟩
    · rw [joinMap, if_pos g1] at h3
      obtain ⟨k1, k2⟩ := h0 o x g3 h2
      refine .inl ⟨.inr ⟨o, x, base, k1, h2, h3⟩, fun q hq base' hmq => ?_, fun q hq base' hmq => ?_⟩
      · obtain ⟨i, hi⟩ := List.mem_iff_getElem?.1 hq
        obtain ⟨ty, cs, j1⟩ := hl i q hi
        rw [hm.inj o q x _ b base base' k1 j1 h2 rfl h3 hmq] at g2
        exact g2 hq
      · obtain ⟨ty, sz, n, g, j1⟩ := hrow q hq
        rw [hm.inj o q x _ b base base' k1 j1 h2 rfl h3 hmq] at k2
        exact k2 hq
    · rw [joinMap, if_pos g4] at h3
      exact .inr ⟨i, x, base, g3, h2, (hJ.at g2).trans h3⟩
    · rw [joinMap, if_neg (by omega), show i - lend.length + ob0.length - ob0.length + lend.length = i by omega] at h3
      exact .inr ⟨i, x, base, g3, h2, h3⟩

theorem run_enter {f : Operand} {as : Array Operand} {ts : Array TypeId} {n : FuncId} (ho : o.op = .call { callee := .value f, args := as, argTypes := ts }) (hf : a.eval f = .func (.func n) #[] #[]) (he : Enters C.P n) :
    (execOp a.eval o).run C.P w = .ok (.enter n (as.map a.eval)) w := by
  obtain ⟨fn, h1, h2, h3⟩ := he
  have h2' : ¬ fn.name = "runtime.NumGoroutine" := by simpa using h2
  have h3' : ¬ fn.body = none := by intro hb; simp [hb] at h3
  simp [execOp, ho, resolve, hf, Deferred.ofValue, invoke, callFunc, program, h1, h2', h3', Sem.run]

theorem VA_of_FR {bad : Nat → Prop} {ob : List Ob} {c : V} {v : Value} (h : FR w bad c v) : VA w bad ob m c v := by
  have h' : CR w bad ob m c v := CR_of_FR h
  cases c <;> first | exact h' | exact h'.elim
theorem frzA_ok {K : V → List Ob → Prop} {ob : List Ob} {v : V} {u : Value} (h : frzA K v ob) (hm : Mem C ob m w) (hv : VA w (badOf C.E ob m) ob m v u) :
    ∃ v' ob', K v' ob' ∧ Mem C ob' m w ∧ Ext w w (badOf C.E ob m) (badOf C.E ob' m) ob ob' m m ∧ VA w (badOf C.E ob' m) ob' m v' u := by
  have cells : ∀ {cs acc' : List V} {ob' : List Ob} {us : List Value}, All2 (FR w (badOf C.E ob' m)) acc' ([] ++ us) → All2 (CR w (badOf C.E ob' m) ob' m) acc' us := fun h => h.mono fun _ _ => CR_of_FR
  have one : ∀ {c : V}, CR w (badOf C.E ob m) ob m c u → frz (one1 K) [c] [] ob → ∃ v' ob', K v' ob' ∧ Mem C ob' m w ∧ Ext w w (badOf C.E ob m) (badOf C.E ob' m) ob ob' m m ∧ VA w (badOf C.E ob' m) ob' m v' u := by
    intro c hc h
    obtain ⟨acc', ob', h1, h2, h3, h4, _⟩ := frz_ok (us := [u]) (vs := []) h hm ⟨hc, trivial⟩ trivial
    match acc', h1, h4 with
    | [c'], h1, h4 => exact ⟨c', ob', h1, h2, h3, VA_of_FR h4.1⟩
    | [], h1, _ => exact h1.elim
    | _ :: _ :: _, h1, _ => exact h1.elim
  cases v with
  | agg cs =>
    obtain ⟨us, rfl, hv⟩ := hv
    obtain ⟨acc', ob', h1, h2, h3, h4, _⟩ := frz_ok (us := us) (vs := []) h hm hv trivial
    exact ⟨_, ob', h1, h2, h3, us, rfl, h4.mono fun _ _ => CR_of_FR⟩
  | tup _ => exact hv.elim
  | val x => exact one (c := .val x) hv h
  | any => exact one (c := .any) hv h
  | fz sz n g => exact one (c := .fz sz n g) hv h
  | row o off len => exact one (c := .row o off len) hv h
  | ptr o j => exact one (c := .ptr o j) hv h
  | eptr o i j => exact one (c := .eptr o i j) hv h
  | fptr cs => exact one (c := .fptr cs) hv h
theorem frzAs_ok {K : List V → List Ob → Prop} : ∀ {vs acc : List V} {ob : List Ob} {us accs : List Value}, frzAs K vs acc ob → Mem C ob m w → All2 (VA w (badOf C.E ob m) ob m) vs us → All2 (VA w (badOf C.E ob m) ob m) acc accs →
    ∃ vs' ob', K vs' ob' ∧ Mem C ob' m w ∧ Ext w w (badOf C.E ob m) (badOf C.E ob' m) ob ob' m m ∧ All2 (VA w (badOf C.E ob' m) ob' m) vs' (accs ++ us)
  | [], acc, ob, [], accs, h, hm, _, ha => ⟨acc, ob, h, hm, Ext.refl _ _ _ _, by simpa using ha⟩
  | v :: vs, acc, ob, u :: us, accs, h, hm, hv, ha => by
    obtain ⟨v', ob1, h1, h2, h3, h4⟩ := frzA_ok h hm hv.1
    obtain ⟨vs', ob', g1, g2, g3, g4⟩ := frzAs_ok (accs := accs ++ [u]) h1 h2 (hv.2.mono fun _ _ => VA.ext h3) ((ha.mono fun _ _ => VA.ext h3).append ⟨h4, trivial⟩)
    exact ⟨vs', ob', g1, g2, h3.trans g3, by simpa using g4⟩
  | [], _, _, _ :: _, _, _, _, hc, _ => hc.elim
  | _ :: _, _, _, [], _, _, _, hc, _ => hc.elim
theorem frzV_ok {K : V → List Ob → Prop} {ob : List Ob} {v : V} {u : Value} (h : frzV K v ob) (hm : Mem C ob m w) (hv : VR w (badOf C.E ob m) ob m v u) :
    ∃ v' ob', K v' ob' ∧ Mem C ob' m w ∧ Ext w w (badOf C.E ob m) (badOf C.E ob' m) ob ob' m m ∧ VR w (badOf C.E ob' m) ob' m v' u := by
  have va : ∀ {c : V} {ob : List Ob} {u : Value}, VA w (badOf C.E ob m) ob m c u → VR w (badOf C.E ob m) ob m c u := by
    intro c ob u h
    cases c <;> first | exact h | exact h.elim
  have one : VA w (badOf C.E ob m) ob m v u → frzA K v ob → ∃ v' ob', K v' ob' ∧ Mem C ob' m w ∧ Ext w w (badOf C.E ob m) (badOf C.E ob' m) ob ob' m m ∧ VR w (badOf C.E ob' m) ob' m v' u := by
    intro hv h
    obtain ⟨v', ob', h1, h2, h3, h4⟩ := frzA_ok h hm hv
    exact ⟨v', ob', h1, h2, h3, va h4⟩
  cases v with
  | tup vs =>
    obtain ⟨us, rfl, hv⟩ := hv
    obtain ⟨vs', ob', g1, g2, g3, g4⟩ := frzAs_ok (accs := []) h hm hv trivial
    exact ⟨_, ob', g1, g2, g3, us, rfl, g4⟩
  | agg cs => exact one hv h
  | val x => exact one hv h
  | any => exact one hv h
  | fz sz n g => exact one hv h
  | row o off len => exact one hv h
  | ptr o j => exact one hv h
  | eptr o i j => exact one hv h
  | fptr cs => exact one hv h
theorem goes_frz (hk : Goes C o a next K) : Goes C o a next fun v s' => ∃ f : Frz, match f with
      | .own => K v s'
      | .frozen => frzV (fun v' ob' => K v' { s' with ob := ob' }) v s'.ob := by
  rintro v s' m' u w' ⟨f, hK⟩ hv hr'
  cases f with
  | own => exact hk v s' m' u w' hK hv hr'
  | frozen =>
    obtain ⟨v', ob', h1, h2, h3, h4⟩ := frzV_ok hK hr'.mem hv
    exact hk v' { s' with ob := ob' } m' u w' h1 h4 (hr'.obs h2 h3)

theorem s_call {f : Operand} {as : Array Operand} {ts : Array TypeId} (ho : o.op = .call { callee := .value f, args := as, argTypes := ts }) (hr : Rel C s m a w)
    (h : opA T (callA C.P) (.call { callee := .value f, args := as, argTypes := ts }) s K) (hk : Goes C o a next K) : o.wp C.P a w next Q := by
  replace hk := goes_frz hk
  simp only [opA] at h
  generalize (fun v s' => ∃ f : Frz, match f with
      | .own => K v s'
      | .frozen => frzV (fun v' ob' => K v' { s' with ob := ob' }) v s'.ob) = K at h hk
  split at h
  · rename_i n fs cs hf
    obtain ⟨he, h1⟩ := br_true h
    clear h
    obtain ⟨vs, hvs, h2⟩ := opt_some h1
    clear h1
    have hfv := VR.val (hr.ev hf)
    simp only [Bool.and_eq_true, Array.isEmpty_iff] at he
    obtain ⟨rfl, rfl⟩ := he
    obtain ⟨lend, h⟩ := h2
    obtain ⟨hn, h⟩ := br_true h
    obtain ⟨ins, hins, h⟩ := opt_some h
    obtain ⟨hflat, h⟩ := br_true h
    have hm := hr.mem
    obtain ⟨⟨args, ⟨rv, outs, ⟨hent, hcall⟩, h⟩, hargs⟩, hrows⟩ := expAs_ok hm hn hins hflat h (evs_ok hr hvs) (fun o ho => ho) (vs := []) trivial
    rw [List.nil_append] at hargs
    obtain ⟨hil, hia⟩ := ins_at hins hflat
    have hc := hcall w _ _ _ (in_mem hm hn hins hflat) hargs
    rw [hil] at hc
    obtain ⟨hcond, h⟩ := br_true h
    simp only [Bool.and_eq_true] at hcond
    obtain ⟨⟨⟨⟨hc1, hc2⟩, hc3⟩, hc4⟩, hc5⟩ := hcond
    have hc1 := Nat.le_of_ble_eq_true hc1
    -- the joining, for whatever is told of the rows that were shown
    have joins : ∀ (ob0 : List Ob) (m' : Map) (w1 : World), Mem C ob0 m w → (∀ (i q : Nat), lend[i]? = some q → ob0[q]? = s.ob[q]?) →
        Mem ⟨C.P, w, outE C s.ob m lend (vs.flatMap rowsA), lentBy lend.length (inMap m lend), lend.length, inMap m lend⟩ outs m' w1 → (∀ o, o < lend.length → m' o = inMap m lend o) →
        Joins C ob0 outs m m' w w1 lend (outE C s.ob m lend (vs.flatMap rowsA)) := by
      intro ob0 m' w1 h1 h2 h3 h4
      refine ⟨h1, hn, fun i q hq => ?_, hc1, fun i x hi hx => ?_, h3, h4⟩
      · obtain ⟨ty, cs, g1, g2, g3⟩ := hia i q hq
        obtain ⟨ty', cs', k1, k2⟩ := sameLens_at hc2 g3
        have hil' := lt_of_get hq
        have k3 := List.all_eq_true.1 hc3 _ (List.mem_of_getElem? k1)
        rw [List.getElem?_take_of_lt hil'] at k1
        exact ⟨ty, cs, (h2 i q hq).trans g1, ty', cs', k1, k2, k3⟩
      · exact ansO_at hc4 (i := i - lend.length) (by rw [List.getElem?_drop, show lend.length + (i - lend.length) = i by omega]; exact hx)
    have hboxes : ∀ (i q : Nat), lend[i]? = some q → ∃ ty cs, s.ob[q]? = some (.box ty cs) := fun i q hq => by
      obtain ⟨ty, cs, g1, _⟩ := hia i q hq; exact ⟨ty, cs, g1⟩
    -- the answer
    have done : ∀ (ob0 : List Ob), Mem C ob0 m w → ob0.length = s.ob.length → Ext w w (badOf C.E s.ob m) (badOf C.E ob0 m) s.ob ob0 m m → (∀ (i q : Nat), lend[i]? = some q → ob0[q]? = s.ob[q]?) →
        (∀ (m' : Map) (w1 : World), Joins C ob0 outs m m' w w1 lend (outE C s.ob m lend (vs.flatMap rowsA)) → ∃ okc : V → Prop, (∀ c v, okc c → FR w1 (badOf (outE C s.ob m lend (vs.flatMap rowsA)) outs m') c v → FR w1 (badOf C.E (joinOb ob0 lend outs) (joinMap m m' ob0.length lend.length)) c v) ∧
          (∀ (i : Nat) (ty : TypeId) (cs : List V), outs[i]? = some (.box ty cs) → ∀ c ∈ cs, okc c) ∧ (∀ (i : Nat) (ty : TypeId) (sz n : Nat) (g : Nat → List V), outs[i]? = some (.row ty sz n g) → ∀ k, k < n → ∀ c ∈ g k, okc c) ∧ ∀ x ∈ cellsV rv, okc x) →
        K (inV lend s.ob.length rv) { s with ob := joinOb ob0 lend outs } → o.wp C.P a w next Q := by
      intro ob0 h1 hlen h2 h3 h4 h5
      unfold Oper.wp
      rw [run_enter ho hfv hent]
      show Calls C.P n (as.map a.eval) w _
      have hus : as.map a.eval = (as.toList.map a.eval).toArray := by rw [← Array.toList_map, Array.toArray_toList]
      rw [hus]
      refine hc.mono ?_
      rintro e w1 ⟨v, m', rfl, hv, hmo, hmap⟩
      have hJ := joins ob0 m' w1 h1 h3 hmo hmap
      obtain ⟨okc, k1, k2, k3, k4⟩ := h4 m' w1 hJ
      have hres := inV_ok hJ k1 k4 hc5 hv
      have hmem := hJ.join k1 k2 k3
      rw [hlen] at hres hmem
      refine hk _ _ (joinMap m m' s.ob.length lend.length) v w1 h5 hres ⟨hr.df, ?_, hmem⟩
      refine (hr.tm.mono fun _ _ => VR.ext h2).mono fun _ _ hh => ?_
      have := VR.ext hJ.ext hh
      rw [hlen] at this
      exact this
    split at h
    · rename_i hrs
      refine done s.ob hm rfl (Ext.refl _ _ _ _) (fun _ _ _ => rfl) (fun m' w1 hJ => ⟨fun _ => True, fun c v _ hf => ?_, fun _ _ _ _ _ _ => trivial, fun _ _ _ _ _ _ _ _ _ _ => trivial, fun _ _ => trivial⟩) h
      exact FR.mono (fun _ _ _ _ _ h => h) (Nat.le_refl _) (fun b _ hb hb' => hb (join_sub hm hJ hrows hboxes (fun o x hx _ => ⟨hx, by rw [hrs]; simp⟩) b hb')) hf
    · rename_i rs hrs
      obtain ⟨kill, h⟩ := h
      cases kill with
      | dead =>
        obtain ⟨km, ke⟩ := killAll_ok (C := C) (m := m) (w := w) (vs.flatMap rowsA) s.ob hm
        refine done (killAll s.ob (vs.flatMap rowsA)) km (killAll_len _ _) ke (fun i q hq => killAll_other _ _ _ (fun hmem => ?_)) (fun m' w1 hJ => ⟨fun _ => True, fun c v _ hf => ?_, fun _ _ _ _ _ _ => trivial, fun _ _ _ _ _ _ _ _ _ _ => trivial, fun _ _ => trivial⟩) h
        · obtain ⟨ty, cs, g1⟩ := hboxes i q hq
          obtain ⟨ty', sz, n', g, g2⟩ := hrows q hmem
          rw [g1] at g2; cases g2
        · refine FR.mono (fun _ _ _ _ _ h => h) (Nat.le_refl _) (fun b _ hb hb' => hb (join_sub hm hJ hrows hboxes (fun o x hx hl => ?_) b hb')) hf
          by_cases hmem : o ∈ vs.flatMap rowsA
          · rw [killAll_mem _ _ o x hmem hx] at hl
            simp [Ob.live] at hl
          · rw [killAll_other _ _ _ hmem] at hx
            exact ⟨hx, hmem⟩
      | kept =>
        obtain ⟨hcv, hco, h⟩ := h
        obtain ⟨g1, g2⟩ := cleanO_at hco
        exact done s.ob hm rfl (Ext.refl _ _ _ _) (fun _ _ _ => rfl) (fun m' w1 hJ => ⟨fun c => cleanC c = true, fun c v hc hf => clean_FR hc hf, g1, g2, cleanV_cells hcv⟩) h
  · exact h.elim
end
end Go.Sim
