/- A value semantics of the machine code, proved sound. -/
import Derived.Test.YthhoobpmjgpkkaaQA
set_option linter.unusedVariables false
set_option linter.unusedSimpArgs false
namespace Go.Sim
open Go Go.RowKit

/-- An operation that leaves the world as it is. -/
def stillW (P : Program) (o : Oper) (a : Act) (w : World) (next : Act → World → Prop) : Prop := ∃ u, (execOp a.eval o).run P w = .ok (.value u) w ∧ next (a.put o.dst u) w
namespace Still
section
variable {C : Ctx} {T : Tab} {o : Oper} {s : St} {m : Map} {a : Act} {w : World} {K : V → St → Prop} {next : Act → World → Prop}
theorem fin {u : Value} {w' : World} (h : (execOp a.eval o).run C.P w = .ok (.value u) w') (hn : next (a.put o.dst u) w') (hw : w' = w := by rfl) : stillW C.P o a w next := by
  subst hw; exact ⟨u, h, hn⟩
theorem s_move {x : Operand} (ho : o.op = .move x ∨ o.op = .assign x) (hr : Rel C s m a w) (h : opt (s.ev x) fun v => K v s) (hk : Goes C o a next K) : stillW C.P o a w next := by
  obtain ⟨v, hv, h⟩ := opt_some h
  refine fin (u := a.eval x) (w' := w) ?_ (hk v s m _ w h (hr.ev hv) hr)
  rcases ho with ho | ho <;> simp [execOp, ho]
theorem s_pick {c x y : Operand} (ho : o.op = .pick c x y) (hr : Rel C s m a w) (h : opA T (callA C.P) (.pick c x y) s K) (hk : Goes C o a next K) : stillW C.P o a w next := by
  simp only [opA] at h
  split at h
  · rename_i t hc
    have hb := VR.val (hr.ev hc)
    rcases br_cases h with ⟨rfl, h⟩ | ⟨rfl, h⟩
    · obtain ⟨v, hv, h⟩ := opt_some h
      exact fin (u := a.eval x) (w' := w) (by simp [execOp, ho, hb, asBool]) (hk v s m _ w h (hr.ev hv) hr)
    · obtain ⟨v, hv, h⟩ := opt_some h
      exact fin (u := a.eval y) (w' := w) (by simp [execOp, ho, hb, asBool]) (hk v s m _ w h (hr.ev hv) hr)
  · exact h.elim
theorem s_extract {x : Operand} {i : Nat} (ho : o.op = .extract x i) (hr : Rel C s m a w) (h : opA T (callA C.P) (.extract x i) s K) (hk : Goes C o a next K) : stillW C.P o a w next := by
  simp only [opA] at h
  split at h
  · rename_i vs hx
    obtain ⟨v, hv, h⟩ := opt_some h
    obtain ⟨us, hu, hc⟩ : ∃ us : List Value, a.eval x = .tuple us.toArray ∧ All2 (VA w (badOf C.E s.ob m) s.ob m) vs us := hr.ev hx
    obtain ⟨y, hy, hv'⟩ := hc.get hv
    refine fin (u := y) (w' := w) ?_ (hk v s m _ w h ?_ hr)
    · simp [execOp, ho, Instr.extract, hu, hy]
    · cases v <;> first | exact hv' | exact hv'.elim
  · exact h.elim
theorem s_unOp {op : UnOp} {t : TypeId} {x : Operand} (ho : o.op = .unOp op t x) (hr : Rel C s m a w) (h : opA T (callA C.P) (.unOp op t x) s K) (hk : Goes C o a next K) : stillW C.P o a w next := by
  simp only [opA] at h
  split at h
  · rename_i b hx
    have hb := VR.val (hr.ev hx)
    exact fin (u := .bool !b) (w' := w) (by simp [execOp, ho, hb, Op.unary]) (hk _ _ m _ _ (caseB_out (K := fun d => K (.val (.bool d)) s) h) VR.self hr)
  · rename_i k n hx
    have hb := VR.val (hr.ev hx)
    exact fin (u := .int k (k.wrap (0 - n))) (w' := w) (by simp [execOp, ho, hb, Op.unary, Op.intArith]) (hk _ _ m _ _ (h _ rfl) VR.self hr)
  · exact h.elim
theorem s_convert (hT : TabOK C.P T) {src dst : TypeId} {x : Operand} (ho : o.op = .convert src dst x) (hr : Rel C s m a w) (h : opA T (callA C.P) (.convert src dst x) s K) (hk : Goes C o a next K) : stillW C.P o a w next := by
  simp only [opA] at h
  split at h
  · rename_i i1 sz by_ z k kx n hs hd hx
    have hb := VR.val (hr.ev hx)
    obtain ⟨d1, h1, _⟩ := hT.desc _ _ hs
    obtain ⟨d2, h2, h3⟩ := hT.desc _ _ hd
    obtain rfl : d2 = .int k := h3
    refine fin (u := .int k (k.wrap n)) (w' := w) ?_ (hk _ _ m _ _ (h _ rfl) VR.self hr)
    simp [execOp, ho, hb, convert, run_underlying h1, run_underlying h2, Conv.intToInt]
  · exact h.elim
theorem s_nilCheck {x : Operand} (ho : o.op = .nilCheck x) (hr : Rel C s m a w) (h : opA T (callA C.P) (.nilCheck x) s K) (hk : Goes C o a next K) : stillW C.P o a w next := by
  simp only [opA] at h
  split at h
  · rename_i q j hx
    have hv := hr.ev hx
    split at h
    · rename_i ty cs hq
      have hv' := hv
      replace hv' : CR w (badOf C.E s.ob m) s.ob m (.ptr q j) (a.eval x) := hv'
      simp only [CR, hq] at hv'
      obtain ⟨b, base, _, hv'⟩ := hv'
      exact fin (u := a.eval x) (w' := w) (by simp [execOp, ho, hv']) (hk _ _ m _ _ h hv hr)
    · exact h.elim
  · rename_i q k j hx
    have hv := hr.ev hx
    split at h
    · rename_i ty sz n g hq
      have hv' := hv
      replace hv' : CR w (badOf C.E s.ob m) s.ob m (.eptr q k j) (a.eval x) := hv'
      simp only [CR, hq] at hv'
      obtain ⟨b, base, _, hv'⟩ := hv'
      exact fin (u := a.eval x) (w' := w) (by simp [execOp, ho, hv']) (hk _ _ m _ _ h hv hr)
    · exact h.elim
  · rename_i cs hx
    have hv := hr.ev hx
    have hv2 : CR w (badOf C.E s.ob m) s.ob m (.fptr cs) (a.eval x) := hv
    obtain ⟨b, off, u, hv', _⟩ := hv2
    exact fin (u := a.eval x) (w' := w) (by simp [execOp, ho, hv']) (hk _ _ m _ _ h hv hr)
  · exact h.elim
theorem s_load (hT : TabOK C.P T) {t : TypeId} {p : Operand} (ho : o.op = .load t p) (hr : Rel C s m a w) (h : opA T (callA C.P) (.load t p) s K) (hk : Goes C o a next K) : stillW C.P o a w next := by
  obtain ⟨i, hi, h⟩ := opt_some h
  have done : ∀ (ad : Addr) (u : Value) (v : V), a.eval p = .pointer (some ad) → (loadVar t ad).run C.P w = .ok u w → K v s → VR w (badOf C.E s.ob m) s.ob m v u → stillW C.P o a w next := by
    intro ad u v h1 h2 h3 h4
    refine fin (u := u) (w' := w) ?_ (hk v s m u w h3 h4 hr)
    simp [execOp, ho, h1, Instr.loadAt, Instr.sureAddr, h2]
  split at h
  · rename_i q j hp
    split at h
    · rename_i ty cs hq
      obtain ⟨b, arr, h1, h2, h3, h4⟩ := hr.box_at hq (hr.ev hp)
      split at h
      · rename_i fs hkd
        obtain ⟨h5, h⟩ := br_true h
        have h5 := Nat.le_of_ble_eq_true h5
        have hlen := h4.length
        refine done _ _ _ h2 (run_load_agg hT hi hkd (us := (arr.toList.drop j).take i.size) (by simp only [List.length_take, List.length_drop]; omega) (fun x u hu => ?_)) h ⟨_, rfl, (h4.drop j).take _⟩
        obtain ⟨h6, _⟩ := get_drop_take hu
        rw [cell_of h3, ← Array.getElem?_toList]; exact h6
      · rename_i hkd
        obtain ⟨c, hc, h⟩ := opt_some h
        obtain ⟨u, hu, hcr⟩ := h4.get hc
        exact done _ u c h2 (run_load_one hT hi hkd (by rw [cell_of h3, ← Array.getElem?_toList]; exact hu)) h hcr.mono_VR
    · exact h.elim
  · rename_i q k j hp
    split at h
    · rename_i ty sz n g hq
      obtain ⟨hkn, h⟩ := h
      replace h := h _ rfl
      obtain ⟨b, base, arr, h1, h2, h3, h4⟩ := hr.row_at hq (hr.ev hp)
      obtain ⟨h5, h6⟩ := h4 k hkn
      split at h
      · rename_i fs hkd
        obtain ⟨h7, h⟩ := br_true h
        have h7 := Nat.le_of_ble_eq_true h7
        obtain ⟨us, g1, g2, g3⟩ := all2_of (R := CR w (badOf C.E s.ob m) s.ob m) (((g k).drop j).take i.size) (fun x => arr[base + k * sz + (j + x)]?) (fun x c hc => by
          obtain ⟨u, hu, hf⟩ := h6 _ c (get_drop_take hc).1
          exact ⟨u, hu, CR_of_FR hf⟩)
        refine done _ _ _ h2 (run_load_agg hT hi hkd (us := us) (by rw [g2]; simp only [List.length_take, List.length_drop]; omega) (fun x u hu => ?_)) h ⟨_, rfl, g1⟩
        rw [cell_of h3, Nat.add_assoc (base + k * sz)]; exact g3 x u hu
      · rename_i hkd
        obtain ⟨c, hc, h⟩ := opt_some h
        obtain ⟨u, hu, hf⟩ := h6 _ c hc
        exact done _ u c h2 (run_load_one hT hi hkd (by rw [cell_of h3]; exact hu)) h (CR_of_FR hf).mono_VR
    · exact h.elim
  · rename_i cs hp
    have hv := hr.ev hp
    have hv2 : CR w (badOf C.E s.ob m) s.ob m (.fptr cs) (a.eval p) := hv
    obtain ⟨b, off, u, h1, h2, h3, h4⟩ := hv2
    split at h
    · rename_i fs hkd
      obtain ⟨h7, h⟩ := br_true h
      have h7 := Nat.le_of_ble_eq_true h7
      obtain ⟨us, g1, g2, g3⟩ := all2_of (R := CR w (badOf C.E s.ob m) s.ob m) (cs.take i.size) (fun x => w.cell? ⟨b, off + x, none⟩) (fun x c hc => by
        rw [List.getElem?_take] at hc
        split at hc
        · obtain ⟨hc1, hc2⟩ := h4 x c hc
          exact ⟨_, hc1, CR_of_FR hc2⟩
        · cases hc)
      exact done _ _ _ h1 (run_load_agg hT hi hkd (us := us) (by rw [g2]; simp only [List.length_take]; omega) (fun x u hu => g3 x u hu)) h ⟨_, rfl, g1⟩
    · rename_i hkd
      obtain ⟨c, hc, h⟩ := opt_some h
      obtain ⟨hc1, hc2⟩ := h4 0 c hc
      exact done _ _ c h1 (run_load_one hT hi hkd hc1) h (CR_of_FR hc2).mono_VR
  · exact h.elim
theorem s_fieldAddr (hT : TabOK C.P T) {t : TypeId} {x : Operand} {f : Nat} (ho : o.op = .fieldAddr t x f) (hr : Rel C s m a w) (h : opA T (callA C.P) (.fieldAddr t x f) s K) (hk : Goes C o a next K) : stillW C.P o a w next := by
  simp only [opA] at h
  split at h
  · rename_i z1 z2 z3 fs ht
    obtain ⟨p, hp, h⟩ := opt_some h
    obtain ⟨i, hi, h⟩ := opt_some h
    obtain ⟨h1, h⟩ := br_true h
    have h1 := Nat.le_of_ble_eq_true h1
    obtain ⟨d, hd, fl, hd2, hfl⟩ := hT.desc _ _ ht
    subst hd2
    obtain ⟨fd, g1, g2, g3⟩ := field_of hfl hp
    have done : ∀ (b off : Nat) (v : V), a.eval x = .pointer (some ⟨b, off, none⟩) → K v s → VR w (badOf C.E s.ob m) s.ob m v (.pointer (some ⟨b, off + p.1, none⟩)) → stillW C.P o a w next := by
      intro b off v e1 e2 e3
      refine fin (u := .pointer (some ⟨b, off + p.1, none⟩)) (w' := w) ?_ (hk v s m _ w e2 e3 hr)
      have := run_fieldPlace (t := t) hT (f := fd) (by rw [g3]; exact hi) h1 ⟨b, off, none⟩ w
      simp [execOp, ho, e1, Instr.fieldAt, Instr.sureAddr, run_underlying hd, g1, this, add_plain', g2]
    split at h
    · rename_i q j hx
      split at h
      · rename_i ty cs hq
        obtain ⟨b, arr, e1, e2, _⟩ := hr.box_at hq (hr.ev hx)
        refine done _ _ _ e2 h (CR.mono_VR ?_)
        simp only [CR, hq]
        exact ⟨b, 0, e1, by simp⟩
      · exact h.elim
    · rename_i q k j hx
      split at h
      · rename_i ty sz n g hq
        obtain ⟨b, base, arr, e1, e2, _⟩ := hr.row_at hq (hr.ev hx)
        refine done _ _ _ e2 h (CR.mono_VR ?_)
        simp only [CR, hq]
        exact ⟨b, base, e1, by rw [Nat.add_assoc (base + k * sz)]⟩
      · exact h.elim
    · rename_i cs hx
      have hv2 : CR w (badOf C.E s.ob m) s.ob m (.fptr cs) (a.eval x) := hr.ev hx
      obtain ⟨b, off, u, e1, e2, e3, e4⟩ := hv2
      refine done _ _ _ e1 h (CR.mono_VR ⟨b, off + p.1, fun j => u (p.1 + j), rfl, e2, e3, fun j y hy => ?_⟩)
      rw [List.getElem?_drop] at hy
      rw [Nat.add_assoc]
      exact e4 _ y hy
    · exact h.elim
  · exact h.elim
theorem s_indexAddr (hT : TabOK C.P T) {t : TypeId} {x ix : Operand} (ho : o.op = .indexAddr t x ix) (hr : Rel C s m a w) (h : opA T (callA C.P) (.indexAddr t x ix) s K) (hk : Goes C o a next K) : stillW C.P o a w next := by
  simp only [opA] at h
  split at h
  · rename_i z1 z2 z3 e kd q ht hix
    have hu := hT.sl ht
    have hq := VR.val (hr.ev hix)
    obtain ⟨i, hi, h⟩ := opt_some h
    have run : ∀ (A : Addr) (len cap : Nat), a.eval x = .slice (some A) len cap → 0 ≤ q → q < (len : Int) → (execOp a.eval o).run C.P w = .ok (.value (.pointer (some (A.add (q.toNat * i.size))))) w := by
      intro A len cap hx h0 h1
      simp [execOp, ho, hx, hq, Instr.indexAt, run_underlying hu, asIntOf, h0, h1, run_sizeOf hT hi]
    split at h
    · rename_i r off len hx
      split at h
      · rename_i ty sz n g hrow
        obtain ⟨h1, h2, h3, hK⟩ := br_true h
        clear h
        have h1 := Nat.eq_of_beq_eq_true h1
        subst h1
        have hv : CR w (badOf C.E s.ob m) s.ob m (.row r off len) (a.eval x) := hr.ev hx
        simp only [CR, hrow] at hv
        obtain ⟨A, cap, hA, hc1, hc2⟩ := hv
        obtain ⟨b, base, g1, rfl, g3⟩ := hc2 (by omega)
        refine fin (run _ _ _ hA h2 h3) (hk _ _ m _ _ (hK _ rfl) (CR.mono_VR ?_) hr)
        simp only [CR, hrow, add_plain']
        exact ⟨b, base, g1, by congr 3; rw [Nat.add_mul]; omega⟩
      · exact h.elim
    · rename_i sz n g hx
      obtain ⟨h1, h2, h3, hK⟩ := br_true h
      clear h
      have h1 := Nat.eq_of_beq_eq_true h1
      subst h1
      have hv : FR w (badOf C.E s.ob m) (.fz i.size n g) (a.eval x) := hr.ev hx
      generalize he : a.eval x = vx at hv
      cases hv with
      | fz u hn hA hl hc =>
        obtain ⟨b, off, rfl, g1, g2, g3⟩ := hA (by omega)
        refine fin (run _ _ _ he h2 h3) (hk _ _ m _ _ (hK _ rfl) (CR.mono_VR ?_) hr)
        rw [add_plain']
        refine ⟨b, off + q.toNat * i.size, u q.toNat, rfl, g1, g2, fun j c hj => ⟨g3 _ _ (by omega) ?_, hc _ _ _ (by omega) hj⟩⟩
        have := lt_of_get hj
        rw [hl _ (by omega)] at this
        exact this
    · exact h.elim
  · exact h.elim
theorem s_field (hT : TabOK C.P T) {t : TypeId} {x : Operand} {f : Nat} (ho : o.op = .field t x f) (hr : Rel C s m a w) (h : opA T (callA C.P) (.field t x f) s K) (hk : Goes C o a next K) : stillW C.P o a w next := by
  simp only [opA] at h
  split at h
  · rename_i z1 z2 z3 fs ht
    obtain ⟨p, hp, h⟩ := opt_some h
    obtain ⟨i, hi, h⟩ := opt_some h
    obtain ⟨d, hd, fl, hd2, hfl⟩ := hT.desc _ _ ht
    subst hd2
    obtain ⟨fd, g1, g2, g3⟩ := field_of hfl hp
    split at h
    · rename_i cs hx
      obtain ⟨us, hu, hc⟩ : ∃ us : List Value, a.eval x = .agg us.toArray ∧ All2 (CR w (badOf C.E s.ob m) s.ob m) cs us := hr.ev hx
      have hlen := hc.length
      have run : ∀ v, (part p.2 us.toArray p.1).run C.P w = .ok v w → (execOp a.eval o).run C.P w = .ok (.value v) w := by
        intro v hv
        simp [execOp, ho, hu, Instr.field, run_underlying hd, g1, asAgg, g2, g3, hv]
      split at h
      · rename_i fs' hkd
        obtain ⟨h1, h⟩ := br_true h
        exact fin (run _ ((run_part hT hi).1 _ hkd)) (hk _ _ m _ _ h ⟨_, rfl, (hc.drop _).take _⟩ hr)
      · rename_i hkd
        obtain ⟨c, hc1, h⟩ := opt_some h
        obtain ⟨u, hu1, hc2⟩ := hc.get hc1
        exact fin (run _ ((run_part hT hi).2 u hkd hu1)) (hk _ _ m _ _ h hc2.mono_VR hr)
    · exact h.elim
  · exact h.elim
theorem s_index (hT : TabOK C.P T) {t : TypeId} {x ix : Operand} (ho : o.op = .index t x ix) (hr : Rel C s m a w) (h : opA T (callA C.P) (.index t x ix) s K) (hk : Goes C o a next K) : stillW C.P o a w next := by
  simp only [opA] at h
  split at h
  · rename_i z1 z2 z3 z kd q ht hx hix
    obtain ⟨h0, h1, h⟩ := h
    have hu := hT.str ht
    have hq := VR.val (hr.ev hix)
    have hz := VR.val (hr.ev hx)
    have hlt : q.toNat < z.size := by omega
    refine fin (u := .int .u8 ((z.data.getD q.toNat 0).toNat : Int)) (w' := w) ?_ (hk _ _ m _ _ (h _ rfl) .self hr)
    have hb : z[q.toNat]? = some (z.data.getD q.toNat 0) := by
      rw [getElem?_pos z q.toNat hlt]
      congr 1
      show z.data[q.toNat] = _
      have : q.toNat < z.data.size := hlt
      simp only [Array.getD]; rw [dif_pos this]; rfl
    simp only [execOp, ho, hq, hz]
    simp only [Instr.index, asIntOf, Sem.run_bind, Sem.run_pure, Result.andThen_ok, run_underlying hu, h0, if_true, hb]
  · exact h.elim
theorem s_slice (hT : TabOK C.P T) {t : TypeId} {x : Operand} {lo hi mx : Option Operand} (ho : o.op = .slice t x lo hi mx) (hr : Rel C s m a w) (h : opA T (callA C.P) (.slice t x lo hi mx) s K) (hk : Goes C o a next K) : stillW C.P o a w next := by
  simp only [opA] at h
  split at h
  · rename_i z1 z2 z3 kd l ht hlo
    have hu := hT.str ht
    have hl' : (lo = none ∧ l = 0) ∨ ∃ q, lo = some q ∧ a.eval q = .int kd l := by
      rcases evo hr hlo (.self) with ⟨h1, h2⟩ | ⟨q, h1, h2⟩
      · exact .inl ⟨h1, by injection h2 with h2; injection h2⟩
      · exact .inr ⟨q, h1, VR.val h2⟩
    split at h
    · rename_i z hx
      have hz := VR.val (hr.ev hx)
      obtain ⟨kd2, hh, hh', h⟩ := hiA_ok hr h
      obtain ⟨h0, h1, h2, h⟩ := h
      replace h := h _ rfl
      refine fin (u := .string (z.extract l.toNat hh.toNat)) (w' := w) ?_ (hk _ _ m _ _ h .self hr)
      have := run_bounds (C := C) (w := w) (a := a) (isS := false) (len := z.size) (cap := z.size) h0 h1 h2 (Nat.le_refl _) hl' hh'
      simp [execOp, ho, hz, Instr.sliceAt, Instr.slice, run_underlying hu, this]
    · exact h.elim
  · rename_i z1 z2 z3 e kd l ht hlo
    have hu := hT.sl ht
    have hl' : (lo = none ∧ l = 0) ∨ ∃ q, lo = some q ∧ a.eval q = .int kd l := by
      rcases evo hr hlo (.self) with ⟨h1, h2⟩ | ⟨q, h1, h2⟩
      · exact .inl ⟨h1, by injection h2 with h2; injection h2⟩
      · exact .inr ⟨q, h1, VR.val h2⟩
    obtain ⟨i, hi', h⟩ := opt_some h
    have run : ∀ (A : Option Addr) (len cap : Nat) (hh : Int) (kd2 : IntKind), a.eval x = .slice A len cap → len ≤ cap → 0 ≤ l → l ≤ hh → hh ≤ (len : Int) → ((hi = none ∧ hh = (len : Int)) ∨ ∃ q, hi = some q ∧ a.eval q = .int kd2 hh) →
        (execOp a.eval o).run C.P w = .ok (.value (.slice (if cap = l.toNat then A else A.map (·.add (l.toNat * i.size))) (hh.toNat - l.toNat) (cap - l.toNat))) w := by
      intro A len cap hh kd2 hx hc h0 h1 h2 hh'
      have := run_bounds (C := C) (w := w) (a := a) (isS := true) (len := len) (cap := cap) h0 h1 (by omega) hc hl' hh'
      simp [execOp, ho, hx, Instr.sliceAt, Instr.slice, run_underlying hu, this, run_sizeOf hT hi']
    split at h
    · rename_i r off len hx
      split at h
      · rename_i ty sz n g hrow
        obtain ⟨hsz, h⟩ := br_true h
        obtain ⟨kd2, hh, hh', h0, h1, h2, hK⟩ := hiA_ok hr h
        replace hK := hK _ _ rfl rfl
        clear h
        have hsz := Nat.eq_of_beq_eq_true hsz
        subst hsz
        have hv : CR w (badOf C.E s.ob m) s.ob m (.row r off len) (a.eval x) := hr.ev hx
        simp only [CR, hrow] at hv
        obtain ⟨A, cap, hA, hc1, hc2⟩ := hv
        refine fin (run A len cap hh kd2 hA hc1 h0 h1 h2 hh') (hk _ _ m _ _ hK (CR.mono_VR ?_) hr)
        simp only [CR, hrow]
        refine ⟨_, _, rfl, by omega, fun hpos => ?_⟩
        obtain ⟨b, base, g1, rfl, g3⟩ := hc2 (by omega)
        clear hc2 hl' hh' run hlo
        rw [if_neg (by omega)]
        refine ⟨b, base, g1, ?_, ?_⟩
        · simp only [Option.map_some, add_plain']; congr 2; rw [Nat.add_mul]; omega
        · have : (l.toNat + off + (cap - l.toNat)) = off + cap := by omega
          rw [this]; exact g3
      · exact h.elim
    · rename_i sz n g hx
      obtain ⟨hsz, h⟩ := br_true h
      obtain ⟨kd2, hh, hh', h0, h1, h2, hK⟩ := hiA_ok hr h
      obtain ⟨g', hg', hK⟩ := hK _ rfl
      clear h
      have hsz := Nat.eq_of_beq_eq_true hsz
      subst hsz
      have hv : FR w (badOf C.E s.ob m) (.fz i.size n g) (a.eval x) := hr.ev hx
      generalize he : a.eval x = vx at hv
      cases hv with
      | @fz _ _ cap _ A u hn hA hl hc =>
        refine fin (run A n cap hh kd2 he hn h0 h1 h2 hh') (hk _ _ m _ _ hK (CR.mono_VR (FR.cong hg' ?_)) hr)
        clear hl' hh' run hlo
        refine FR.fz (fun k j => u (k + l.toNat) j) (by omega) (fun hpos => ?_) (fun k hk => hl _ (by omega)) (fun k j c hk hj => hc _ _ _ (by omega) hj)
        obtain ⟨b, off, rfl, g1, g2, g3⟩ := hA (by omega)
        clear hA
        rw [if_neg (by omega)]
        refine ⟨b, off + l.toNat * i.size, by simp [add_plain'], g1, g2, fun k j hk hj => ?_⟩
        have := g3 (k + l.toNat) j (by omega) hj
        rw [← this]; congr 2; rw [Nat.add_mul]; omega
    · exact h.elim
  · exact h.elim
theorem s_binOp (hT : TabOK C.P T) {op : BinOp} {t : TypeId} {x y : Operand} {yt : TypeId} (ho : o.op = .binOp op t x y yt) (hr : Rel C s m a w) (h : opA T (callA C.P) (.binOp op t x y yt) s K) (hk : Goes C o a next K) : stillW C.P o a w next := by
  simp only [opA] at h
  split at h
  · rename_i p q hx hy
    have hx' := VR.val (hr.ev hx)
    have hy' := VR.val (hr.ev hy)
    split at h
    · rename_i z1 z2 z3 ht
      replace h := caseB_out (K := fun d => K (.val (.bool d)) s) h
      refine fin (u := .bool (p == q)) (w' := w) ?_ (hk _ _ m _ _ h .self hr)
      have := run_eqBool (C := C) (w := w) (hT.bool ht) p q
      simp [execOp, ho, hx', hy', eqGuard, binOp, this]
    · rename_i z1 z2 z3 ht
      replace h := caseB_out (K := fun d => K (.val (.bool d)) s) h
      refine fin (u := .bool (!(p == q))) (w' := w) ?_ (hk _ _ m _ _ h .self hr)
      have := run_eqBool (C := C) (w := w) (hT.bool ht) p q
      simp [execOp, ho, hx', hy', eqGuard, binOp, this]
    · exact h.elim
  · rename_i vx vy hx hy
    have hx' := VR.val (hr.ev hx)
    have hy' := VR.val (hr.ev hy)
    obtain ⟨v, hv, hrun⟩ := binA_ok (C := C) (w := w) (t := t) (x := x) (y := y) h
    refine fin (u := v) (w' := w) ?_ (hk _ _ m _ _ hv .self hr)
    simp only [execOp, ho, hx', hy']
    rw [Sem.run_bind, hrun]
    rfl
  · rename_i as bs hx hy
    split at h
    · rename_i n z1 z2 fs ht
      obtain ⟨hb, h⟩ := br_true h
      simp only [Bool.and_eq_true] at hb
      obtain ⟨d, hd⟩ := Option.isSome_iff_exists.1 hb.2
      obtain ⟨la, lb, ha, hb', hl, he⟩ := eqCells_ints hd
      have hn := Nat.eq_of_beq_eq_true hb.1.1.2
      have hn' := Nat.eq_of_beq_eq_true hb.1.2
      rw [ha, List.length_map] at hn
      rw [hb', List.length_map] at hn'
      have hE := hT.eqs _ _ fs ht rfl hb.1.1.1
      refine fin (u := .bool d) (w' := w) ?_ (hk _ _ m _ _ (h d hd) .self hr)
      have hrun : (do eqGuard .eql t x y (.agg (intsV la).toArray) (.agg (intsV lb).toArray); binOp .eql t (.agg (intsV la).toArray) (.agg (intsV lb).toArray) : Sem Value).run C.P w = .ok (.bool d) w := by
        rw [Sem.run_bind, run_eqGuard_agg w _ t x y _ _ hE.guard]
        simp only [Result.andThen_ok]
        rw [run_eql_struct, hE.eq 10000 w la lb (by omega) hn hn']
        simp [he]
      simp only [execOp, ho, agg_ints hr hx ha, agg_ints hr hy hb']
      rw [Sem.run_bind, hrun]
      rfl
    · rename_i n z1 z2 fs ht
      obtain ⟨hb, h⟩ := br_true h
      simp only [Bool.and_eq_true] at hb
      obtain ⟨d, hd⟩ := Option.isSome_iff_exists.1 hb.2
      obtain ⟨la, lb, ha, hb', hl, he⟩ := neCells_ints hd
      have hn := Nat.eq_of_beq_eq_true hb.1.1.2
      have hn' := Nat.eq_of_beq_eq_true hb.1.2
      rw [ha, List.length_map] at hn
      rw [hb', List.length_map] at hn'
      have hE := hT.eqs _ _ fs ht rfl hb.1.1.1
      refine fin (u := .bool d) (w' := w) ?_ (hk _ _ m _ _ (h d hd) .self hr)
      have hrun : (do eqGuard .neq t x y (.agg (intsV la).toArray) (.agg (intsV lb).toArray); binOp .neq t (.agg (intsV la).toArray) (.agg (intsV lb).toArray) : Sem Value).run C.P w = .ok (.bool d) w := by
        rw [Sem.run_bind, run_eqGuard_agg w _ t x y _ _ hE.guard]
        simp only [Result.andThen_ok]
        rw [run_neq_struct, hE.eq 10000 w la lb (by omega) hn hn']
        simp [he]
      simp only [execOp, ho, agg_ints hr hx ha, agg_ints hr hy hb']
      rw [Sem.run_bind, hrun]
      rfl
    · exact h.elim
  · exact h.elim
theorem s_len (hT : TabOK C.P T) {as : Array Operand} {ts : Array TypeId} (ho : o.op = .call { callee := .builtin .len, args := as, argTypes := ts }) (hr : Rel C s m a w)
    (h : opA T (callA C.P) (.call { callee := .builtin .len, args := as, argTypes := ts }) s K) (hk : Goes C o a next K) : stillW C.P o a w next := by
  simp only [opA] at h
  split at h
  · rename_i x z1 z2 z3 e has ht
    obtain rfl := arr1 has
    obtain ⟨t, ht1, ht2⟩ : ∃ t, ts.toList.head? = some t ∧ T.at t = some { size := z1, bytes := z2, zero := z3, kind := .sl e } := by
      cases hh : ts.toList.head? with
      | none => rw [hh] at ht; cases ht
      | some t => rw [hh] at ht; exact ⟨t, rfl, ht⟩
    have hts : ts[0]? = some t := by rw [← Array.getElem?_toList, ← List.head?_eq_getElem?]; exact ht1
    have hu := hT.sl ht2
    have run : ∀ A n c, a.eval x = .slice A n c → (execOp a.eval o).run C.P w = .ok (.value (.int .i64 (n : Int))) w := by
      intro A n c hx
      simp [execOp, ho, resolve, invoke, builtin, Builtin.len_, hts, hx, run_underlying hu, goInt]
    split at h
    · rename_i r off len hx
      split at h
      · rename_i ty sz n g hrow
        have hv : CR w (badOf C.E s.ob m) s.ob m (.row r off len) (a.eval x) := hr.ev hx
        simp only [CR, hrow] at hv
        obtain ⟨A, cap, hA, _⟩ := hv
        exact fin (run _ _ _ hA) (hk _ _ m _ _ (h _ rfl) .self hr)
      · exact h.elim
    · rename_i sz n g hx
      have hv : FR w (badOf C.E s.ob m) (.fz sz n g) (a.eval x) := hr.ev hx
      generalize he : a.eval x = vx at hv
      cases hv with
      | fz u hn hA hl hc => exact fin (run _ _ _ he) (hk _ _ m _ _ (h _ rfl) .self hr)
    · rename_i hx
      exact fin (run _ _ _ (VR.val (hr.ev hx))) (hk _ _ m _ _ h .self hr)
    · exact h.elim
  · rename_i x z1 z2 z3 has ht
    obtain rfl := arr1 has
    obtain ⟨t, ht1, ht2⟩ : ∃ t, ts.toList.head? = some t ∧ T.at t = some { size := z1, bytes := z2, zero := z3, kind := .str } := by
      cases hh : ts.toList.head? with
      | none => rw [hh] at ht; cases ht
      | some t => rw [hh] at ht; exact ⟨t, rfl, ht⟩
    have hts : ts[0]? = some t := by rw [← Array.getElem?_toList, ← List.head?_eq_getElem?]; exact ht1
    have hu := hT.str ht2
    split at h
    · rename_i z hx
      refine fin (u := .int .i64 (z.size : Int)) (w' := w) ?_ (hk _ _ m _ _ (h _ rfl) .self hr)
      simp [execOp, ho, resolve, invoke, builtin, Builtin.len_, hts, VR.val (hr.ev hx), run_underlying hu, goInt]
    · exact h.elim
  · exact h.elim
theorem s_max {as : Array Operand} {ts : Array TypeId} (ho : o.op = .call { callee := .builtin .max, args := as, argTypes := ts }) (hr : Rel C s m a w)
    (h : opA T (callA C.P) (.call { callee := .builtin .max, args := as, argTypes := ts }) s K) (hk : Goes C o a next K) : stillW C.P o a w next := by
  simp only [opA] at h
  split at h
  · rename_i x y has
    obtain rfl := arr2 has
    split at h
    · rename_i k p k' q hx hy
      obtain ⟨hkk, h'⟩ := same_ok h
      clear h
      subst hkk
      have h := h' _ rfl
      refine fin (u := .int k (if p < q then q else p)) (w' := w) ?_ (hk _ _ m _ _ h .self hr)
      simp [execOp, ho, resolve, invoke, builtin, Builtin.max_, VR.val (hr.ev hx), VR.val (hr.ev hy), Builtin.max2]
    · exact h.elim
  · exact h.elim
theorem s_min {as : Array Operand} {ts : Array TypeId} (ho : o.op = .call { callee := .builtin .min, args := as, argTypes := ts }) (hr : Rel C s m a w)
    (h : opA T (callA C.P) (.call { callee := .builtin .min, args := as, argTypes := ts }) s K) (hk : Goes C o a next K) : stillW C.P o a w next := by
  simp only [opA] at h
  split at h
  · rename_i x y has
    obtain rfl := arr2 has
    split at h
    · rename_i k p k' q hx hy
      obtain ⟨hkk, h'⟩ := same_ok h
      clear h
      subst hkk
      have h := h' _ rfl
      refine fin (u := .int k (if q < p then q else p)) (w' := w) ?_ (hk _ _ m _ _ h .self hr)
      simp [execOp, ho, resolve, invoke, builtin, Builtin.min_, VR.val (hr.ev hx), VR.val (hr.ev hy), Builtin.min2]
    · exact h.elim
  · exact h.elim

theorem op_still (hT : TabOK C.P T) (hr : Rel C s m a w) (hp : pureOp o.op = true) (h : opA T (callA C.P) o.op s K) (hk : Goes C o a next K) : stillW C.P o a w next := by
  cases hop : o.op with
  | move x => rw [hop] at h; exact s_move (.inl hop) hr h hk
  | assign x => rw [hop] at h; exact s_move (.inr hop) hr h hk
  | pick c x y => rw [hop] at h; exact s_pick hop hr h hk
  | load t x => rw [hop] at h; exact s_load hT hop hr h hk
  | indexAddr t x i => rw [hop] at h; exact s_indexAddr hT hop hr h hk
  | fieldAddr t x f => rw [hop] at h; exact s_fieldAddr hT hop hr h hk
  | field t x f => rw [hop] at h; exact s_field hT hop hr h hk
  | index t x i => rw [hop] at h; exact s_index hT hop hr h hk
  | slice t x l hh mx => rw [hop] at h; exact s_slice hT hop hr h hk
  | extract x i => rw [hop] at h; exact s_extract hop hr h hk
  | binOp op t x y yt => rw [hop] at h; exact s_binOp hT hop hr h hk
  | unOp op t x => rw [hop] at h; exact s_unOp hop hr h hk
  | convert src dst x => rw [hop] at h; exact s_convert hT hop hr h hk
  | nilCheck x => rw [hop] at h; exact s_nilCheck hop hr h hk
  | call c =>
    rw [hop] at h hp
    obtain ⟨f, as, ts⟩ := c
    cases f with
    | value f => simp [pureOp] at hp
    | invoke r n => simp [pureOp] at hp
    | builtin b =>
      cases b with
      | len => exact s_len hT hop hr h hk
      | max => exact s_max hop hr h hk
      | min => exact s_min hop hr h hk
      | _ => simp [pureOp] at hp
  | _ => rw [hop] at hp; simp [pureOp] at hp
end
end Still
end Go.Sim
namespace Go.Sim
open Go Go.RowKit

section
variable {C : Ctx} {T : Tab} {s : St} {m : Map} {a : Act} {w : World} {Q : Exit → Act → World → Prop}

theorem op_sound (hT : TabOK C.P T) {o : Oper} {K : V → St → Prop} {next : Act → World → Prop} (hr : Rel C s m a w) (h : opA T (callA C.P) o.op s K) (hk : Goes C o a next K) : o.wp C.P a w next Q := by
  cases hop : o.op with
  | move x => rw [hop] at h; exact s_move (.inl hop) hr h hk
  | assign x => rw [hop] at h; exact s_move (.inr hop) hr h hk
  | pick c x y => rw [hop] at h; exact s_pick hop hr h hk
  | alloc t => rw [hop] at h; exact s_alloc hT hop hr h hk
  | box t x => rw [hop] at h; exact s_box hop hr h hk
  | build t ps => rw [hop] at h; exact s_build hT hop hr h hk
  | buildSlice t n ps => rw [hop] at h; exact s_buildSlice hT hop hr h hk
  | load t x => rw [hop] at h; exact s_load hT hop hr h hk
  | store t x y => rw [hop] at h; exact s_store hT hop hr h hk
  | indexAddr t x i => rw [hop] at h; exact s_indexAddr hT hop hr h hk
  | fieldAddr t x f => rw [hop] at h; exact s_fieldAddr hT hop hr h hk
  | field t x f => rw [hop] at h; exact s_field hT hop hr h hk
  | index t x i => rw [hop] at h; exact s_index hT hop hr h hk
  | slice t x l hh mx => rw [hop] at h; exact s_slice hT hop hr h hk
  | extract x i => rw [hop] at h; exact s_extract hop hr h hk
  | makeSlice t l c => rw [hop] at h; exact s_makeSlice hT hop hr h hk
  | binOp op t x y yt => rw [hop] at h; exact s_binOp hT hop hr h hk
  | unOp op t x => rw [hop] at h; exact s_unOp hop hr h hk
  | convert src dst x => rw [hop] at h; exact s_convert hT hop hr h hk
  | nilCheck x => rw [hop] at h; exact s_nilCheck hop hr h hk
  | call c =>
    rw [hop] at h
    obtain ⟨f, as, ts⟩ := c
    cases f with
    | value f => exact s_call hop hr h hk
    | invoke r n => exact h.elim
    | builtin b =>
      cases b with
      | len => exact s_len hT hop hr h hk
      | max => exact s_max hop hr h hk
      | min => exact s_min hop hr h hk
      | append => exact s_append hT hop hr h hk
      | _ => exact h.elim
  | _ => rw [hop] at h; exact h.elim

theorem nil_ok {t : TypeId} {v : V} {u : Value} {K : V → St → Prop} (h : nilA T t v s K) (hv : VR w (badOf C.E s.ob m) s.ob m v u) (hr : Rel C s m a w) : ∃ v' s' m', K v' s' ∧ VR w (badOf C.E s'.ob m') s'.ob m' v' u ∧ Rel C s' m' a w := by
  unfold nilA at h
  split at h
  · split at h
    · rename_i e ht
      obtain ⟨i, hi, own, h⟩ := opt_some h
      cases own
      · exact ⟨_, _, _, h, hv, hr⟩
      · obtain rfl := VR.val hv
        have hr' := hr.snoc (.row e i.size 0 (fun _ => [])) none (w' := w) (fun b base e => by cases e) (fun _ _ => rfl) (Nat.le_refl _) ⟨rfl, rfl, rfl⟩ (by simp only [OR, snoc_at])
        refine ⟨_, _, _, h, ?_, hr'⟩
        apply CR.mono_VR
        simp only [CR, List.getElem?_concat_length]
        exact ⟨none, 0, rfl, Nat.le_refl _, fun h => absurd h (Nat.lt_irrefl 0)⟩
    · exact ⟨_, _, _, h, hv, hr⟩
  · exact ⟨_, _, _, h, hv, hr⟩

end
end Go.Sim
namespace Go.Sim
open Go Go.RowKit

/-! ### What an operation answers hangs on its operands and on what they name -/
section
variable {T : Tab} {CALL : FuncId → List V → St → (V → St → Prop) → Prop} {s : St}

theorem evAll_eq {s s2 : St} : ∀ {l : List (Nat × Operand)}, (∀ p ∈ l, s2.ev p.2 = s.ev p.2) → evAll s2 l = evAll s l
  | [], _ => rfl
  | (i, x) :: r, h => by
    simp only [evAll]
    rw [h (i, x) (List.mem_cons_self ..), evAll_eq (fun p hp => h p (List.mem_cons_of_mem _ hp))]
theorem evs_eq {s s2 : St} : ∀ {l : List Operand}, (∀ x ∈ l, s2.ev x = s.ev x) → evs s2 l = evs s l
  | [], _ => rfl
  | x :: r, h => by
    simp only [evs]
    rw [h x (List.mem_cons_self ..), evs_eq (fun p hp => h p (List.mem_cons_of_mem _ hp))]
theorem weak_box {a : Option Ob} {ty : TypeId} {cs : List V} (h : a.map weakOb = (some (Ob.box ty cs)).map weakOb) : ∃ cs', a = some (.box ty cs') := by
  cases a with
  | none => cases h
  | some x =>
    cases x with
    | dead => simp [weakOb] at h
    | box ty' cs' => simp [weakOb] at h; exact ⟨cs', by rw [h]⟩
    | row => simp [weakOb] at h
theorem weak_row {a : Option Ob} {ty : TypeId} {sz n : Nat} {g : Nat → List V} (h : a.map weakOb = (some (Ob.row ty sz n g)).map weakOb) : ∃ n' g', a = some (.row ty sz n' g') := by
  cases a with
  | none => cases h
  | some x =>
    cases x with
    | dead => simp [weakOb] at h
    | box => simp [weakOb] at h
    | row ty' sz' n' g' => simp [weakOb] at h; exact ⟨n', g', by rw [h.1, h.2]⟩
theorem br_intro_true {b : Bool} {A : Prop} (h : b = true) (h2 : A) : br b A False := by subst h; exact h2
theorem same_intro {k k' : IntKind} {K : Prop} (h : k = k') (h2 : K) : same k k' K := by subst h; unfold same; exact br_intro_true (by simp) h2
theorem binA_run {op : BinOp} {x y : Value} {K : Value → Prop} (h : binA op x y K) : ∃ v, K v ∧ ∀ K2 : Value → Prop, K2 v → binA op x y K2 := by
  unfold binA at h
  split at h
  · rename_i k a k' b
    cases op <;> simp only [] at h
    all_goals first
      | (obtain ⟨hk, h⟩ := same_ok h; exact ⟨_, h _ rfl, fun K2 h2 => by unfold binA; exact same_intro hk (fun _ e => by subst e; exact h2)⟩)
      | (obtain ⟨hk, hb, h⟩ := same_ok h; exact ⟨_, h _ rfl, fun K2 h2 => by unfold binA; exact same_intro hk ⟨hb, fun _ e => by subst e; exact h2⟩⟩)
      | (obtain ⟨hb, h⟩ := h; exact ⟨_, h _ rfl, fun K2 h2 => by unfold binA; exact ⟨hb, fun _ e => by subst e; exact h2⟩⟩)
      | exact h.elim
  · rename_i a b
    cases op <;> simp only [] at h
    all_goals first
      | exact h.elim
      | (obtain ⟨hb, h⟩ := h; exact ⟨_, h _ rfl, fun K2 h2 => by unfold binA; exact ⟨hb, fun _ e => by subst e; exact h2⟩⟩)
      | exact ⟨_, h _ rfl, fun K2 h2 => by unfold binA; exact (fun _ e => by subst e; exact h2)⟩
  · exact h.elim

/-- An operation that leaves memory alone. -/
theorem still_run {op : Op} {K : V → St → Prop} (hp : stillOp op = true) (h : opA T CALL op s K) :
    ∃ v, K v s ∧ ∀ s2 : St, (∀ x ∈ op.operands.toList, s2.ev x = s.ev x) → (∀ x ∈ namesOf s op, agr s2.ob s.ob x) → ∀ K2 : V → St → Prop, K2 v s2 → opA T CALL op s2 K2 := by
  cases op with
  | move x =>
    obtain ⟨v, hv, h⟩ := opt_some h
    exact ⟨v, h, fun s2 he ho K2 h2 => by simp only [opA, he x (by simp [Op.operands]), hv, opt]; exact h2⟩
  | assign x =>
    obtain ⟨v, hv, h⟩ := opt_some h
    exact ⟨v, h, fun s2 he ho K2 h2 => by simp only [opA, he x (by simp [Op.operands]), hv, opt]; exact h2⟩
  | pick c x y =>
    simp only [opA] at h
    split at h
    · rename_i t hc
      rcases br_cases h with ⟨rfl, h⟩ | ⟨rfl, h⟩
      · obtain ⟨v, hv, h⟩ := opt_some h
        exact ⟨v, h, fun s2 he ho K2 h2 => by simp only [opA, he c (by simp [Op.operands]), hc, he x (by simp [Op.operands]), hv, opt, br]; exact h2⟩
      · obtain ⟨v, hv, h⟩ := opt_some h
        exact ⟨v, h, fun s2 he ho K2 h2 => by simp only [opA, he c (by simp [Op.operands]), hc, he y (by simp [Op.operands]), hv, opt, br]; exact h2⟩
    · exact h.elim
  | build t ps =>
    simp only [opA] at h
    split at h
    · rename_i z1 z2 z3 fs ht
      obtain ⟨vs, hvs, h⟩ := opt_some h
      obtain ⟨hb, h⟩ := br_true h
      obtain ⟨cs, hcs, h⟩ := opt_some h
      refine ⟨_, h, fun s2 he ho K2 h2 => ?_⟩
      have e1 : evAll s2 ps.toList = evAll s ps.toList := evAll_eq (fun p hp => he p.2 (by simp only [Op.operands]; exact List.mem_map.2 ⟨p, hp, rfl⟩))
      simp only [opA, ht, e1, hvs, opt, hb, br, hcs]; exact h2
    · exact h.elim
  | load t p =>
    obtain ⟨i, hi, h⟩ := opt_some h
    have hm : p ∈ (Op.load t p).operands.toList := by simp [Op.operands]
    split at h
    · rename_i q j hp'
      split at h
      · rename_i ty cs hq
        have go : ∀ s2 : St, (∀ x ∈ (Op.load t p).operands.toList, s2.ev x = s.ev x) → (∀ x ∈ namesOf s (Op.load t p), agr s2.ob s.ob x) → s2.ev p = some (.ptr q j) ∧ s2.ob[q]? = some (.box ty cs) :=
          fun s2 he ho => ⟨(he p hm).trans hp', (show s2.ob[q]? = s.ob[q]? from ho (q, true) (by simp [namesOf, hp', namesV, namesC])).trans hq⟩
        split at h
        · rename_i fs hkd
          obtain ⟨hb, h⟩ := br_true h
          refine ⟨_, h, fun s2 he ho K2 h2 => ?_⟩
          obtain ⟨g1, g2⟩ := go s2 he ho
          simp only [opA, hi, opt, g1, g2, hkd, hb, br]; exact h2
        · rename_i hkd
          obtain ⟨c, hc, h⟩ := opt_some h
          refine ⟨_, h, fun s2 he ho K2 h2 => ?_⟩
          obtain ⟨g1, g2⟩ := go s2 he ho
          simp only [opA, hi, opt, g1, g2]
          cases hk2 : i.kind with
          | st fs => exact absurd hk2 (hkd fs)
          | _ => simp only [hc]; exact h2
      · exact h.elim
    · rename_i q k j hp'
      split at h
      · rename_i ty sz n g hq
        obtain ⟨hkn, h⟩ := h
        replace h := h _ rfl
        have go : ∀ s2 : St, (∀ x ∈ (Op.load t p).operands.toList, s2.ev x = s.ev x) → (∀ x ∈ namesOf s (Op.load t p), agr s2.ob s.ob x) → s2.ev p = some (.eptr q k j) ∧ s2.ob[q]? = some (.row ty sz n g) :=
          fun s2 he ho => ⟨(he p hm).trans hp', (show s2.ob[q]? = s.ob[q]? from ho (q, true) (by simp [namesOf, hp', namesV, namesC])).trans hq⟩
        split at h
        · rename_i fs hkd
          obtain ⟨hb, h⟩ := br_true h
          refine ⟨_, h, fun s2 he ho K2 h2 => ?_⟩
          obtain ⟨g1, g2⟩ := go s2 he ho
          simp only [opA, hi, opt, g1, g2, hkd]
          refine ⟨hkn, fun cs e => ?_⟩
          subst e
          simp only [hb, br]; exact h2
        · rename_i hkd
          obtain ⟨c, hc, h⟩ := opt_some h
          refine ⟨_, h, fun s2 he ho K2 h2 => ?_⟩
          obtain ⟨g1, g2⟩ := go s2 he ho
          simp only [opA, hi, opt, g1, g2]
          refine ⟨hkn, fun cs e => ?_⟩
          subst e
          cases hk2 : i.kind with
          | st fs => exact absurd hk2 (hkd fs)
          | _ => simp only [hc]; exact h2
      · exact h.elim
    · rename_i cs hp'
      split at h
      · rename_i fs hkd
        obtain ⟨hb, h⟩ := br_true h
        exact ⟨_, h, fun s2 he ho K2 h2 => by simp only [opA, hi, opt, (he p hm).trans hp', hkd, hb, br]; exact h2⟩
      · rename_i hkd
        obtain ⟨c, hc, h⟩ := opt_some h
        refine ⟨_, h, fun s2 he ho K2 h2 => ?_⟩
        simp only [opA, hi, opt, (he p hm).trans hp']
        cases hk2 : i.kind with
        | st fs => exact absurd hk2 (hkd fs)
        | _ => simp only [hc]; exact h2
    · exact h.elim
  | indexAddr t x ix =>
    have hm : x ∈ (Op.indexAddr t x ix).operands.toList := by simp [Op.operands]
    have hm2 : ix ∈ (Op.indexAddr t x ix).operands.toList := by simp [Op.operands]
    simp only [opA] at h
    split at h
    · rename_i z1 z2 z3 e kd q ht hix
      obtain ⟨i, hi, h⟩ := opt_some h
      split at h
      · rename_i r off len hx
        split at h
        · rename_i ty sz n g hrow
          obtain ⟨hb, h1, h2, h⟩ := br_true h
          refine ⟨_, h _ rfl, fun s2 he ho K2 h3 => ?_⟩
          obtain ⟨n', g', hrow'⟩ := weak_row ((show (s2.ob[r]?).map weakOb = (s.ob[r]?).map weakOb from ho (r, false) (by simp [namesOf, hx, namesV, namesC])).trans (congrArg (Option.map weakOb) hrow))
          simp only [opA, ht, (he ix hm2).trans hix, hi, opt, (he x hm).trans hx, hrow']
          exact br_intro_true hb ⟨h1, h2, fun k e => by subst e; exact h3⟩
        · exact h.elim
      · rename_i sz n g hx
        obtain ⟨hb, h1, h2, h⟩ := br_true h
        refine ⟨_, h _ rfl, fun s2 he ho K2 h3 => ?_⟩
        simp only [opA, ht, (he ix hm2).trans hix, hi, opt, (he x hm).trans hx]
        exact br_intro_true hb ⟨h1, h2, fun k e => by subst e; exact h3⟩
      · exact h.elim
    · exact h.elim
  | fieldAddr t x f =>
    have hm : x ∈ (Op.fieldAddr t x f).operands.toList := by simp [Op.operands]
    simp only [opA] at h
    split at h
    · rename_i z1 z2 z3 fs ht
      obtain ⟨p, hp', h⟩ := opt_some h
      obtain ⟨i, hi, h⟩ := opt_some h
      obtain ⟨hb, h⟩ := br_true h
      split at h
      · rename_i q j hx
        split at h
        · rename_i ty cs hq
          refine ⟨_, h, fun s2 he ho K2 h3 => ?_⟩
          have hw := (show (s2.ob[q]?).map weakOb = (s.ob[q]?).map weakOb from ho (q, false) (by simp [namesOf, hx, namesV, namesC])).trans (congrArg (Option.map weakOb) hq)
          first
            | (obtain ⟨cs', hq'⟩ := weak_box hw
               simp only [opA, ht, hp', opt, hi, (he x hm).trans hx, hq']
               exact br_intro_true hb h3)
            | (obtain ⟨n', g', hq'⟩ := weak_row hw
               simp only [opA, ht, hp', opt, hi, (he x hm).trans hx, hq']
               exact br_intro_true hb h3)
        · exact h.elim
      · rename_i q k j hx
        split at h
        · rename_i ty sz n g hq
          refine ⟨_, h, fun s2 he ho K2 h3 => ?_⟩
          have hw := (show (s2.ob[q]?).map weakOb = (s.ob[q]?).map weakOb from ho (q, false) (by simp [namesOf, hx, namesV, namesC])).trans (congrArg (Option.map weakOb) hq)
          first
            | (obtain ⟨cs', hq'⟩ := weak_box hw
               simp only [opA, ht, hp', opt, hi, (he x hm).trans hx, hq']
               exact br_intro_true hb h3)
            | (obtain ⟨n', g', hq'⟩ := weak_row hw
               simp only [opA, ht, hp', opt, hi, (he x hm).trans hx, hq']
               exact br_intro_true hb h3)
        · exact h.elim
      · rename_i cs hx
        refine ⟨_, h, fun s2 he ho K2 h3 => ?_⟩
        simp only [opA, ht, hp', opt, hi, (he x hm).trans hx]
        exact br_intro_true hb h3
      · exact h.elim
    · exact h.elim
  | field t x f =>
    have hm : x ∈ (Op.field t x f).operands.toList := by simp [Op.operands]
    simp only [opA] at h
    split at h
    · rename_i z1 z2 z3 fs ht
      obtain ⟨p, hp', h⟩ := opt_some h
      obtain ⟨i, hi, h⟩ := opt_some h
      split at h
      · rename_i cs hx
        split at h
        · rename_i fs' hkd
          obtain ⟨hb, h⟩ := br_true h
          exact ⟨_, h, fun s2 he ho K2 h2 => by simp only [opA, ht, hp', opt, hi, (he x hm).trans hx, hkd, hb, br]; exact h2⟩
        · rename_i hkd
          obtain ⟨c, hc, h⟩ := opt_some h
          refine ⟨_, h, fun s2 he ho K2 h2 => ?_⟩
          simp only [opA, ht, hp', opt, hi, (he x hm).trans hx]
          cases hk2 : i.kind with
          | st fs => exact absurd hk2 (hkd fs)
          | _ => simp only [hc]; exact h2
      · exact h.elim
    · exact h.elim
  | index t x ix =>
    have hm : x ∈ (Op.index t x ix).operands.toList := by simp [Op.operands]
    have hm2 : ix ∈ (Op.index t x ix).operands.toList := by simp [Op.operands]
    simp only [opA] at h
    split at h
    · rename_i z1 z2 z3 z kd q ht hx hix
      obtain ⟨h1, h2, h⟩ := h
      refine ⟨_, h _ rfl, fun s2 he ho K2 h3 => ?_⟩
      simp only [opA, ht, (he ix hm2).trans hix, (he x hm).trans hx]
      exact ⟨h1, h2, fun k e => by subst e; exact h3⟩
    · exact h.elim
  | slice t x lo hi mx =>
    have hm : x ∈ (Op.slice t x lo hi mx).operands.toList := by simp [Op.operands]
    have hlo : ∀ s2 : St, (∀ x1 ∈ (Op.slice t x lo hi mx).operands.toList, s2.ev x1 = s.ev x1) → lo.map s2.ev = lo.map s.ev := by
      intro s2 he
      cases lo with
      | none => rfl
      | some l => simp only [Option.map_some]; rw [he l (by simp [Op.operands])]
    have hhi : ∀ {len : Nat} {K : Int → Prop}, hiA s hi len K → ∃ hh, K hh ∧ ∀ s2 : St, (∀ x1 ∈ (Op.slice t x lo hi mx).operands.toList, s2.ev x1 = s.ev x1) → ∀ K2 : Int → Prop, K2 hh → hiA s2 hi len K2 := by
      intro len K h
      cases hi with
      | none => exact ⟨_, h _ rfl, fun s2 he K2 h2 => by intro y e; subst e; exact h2⟩
      | some y =>
        simp only [hiA] at h
        split at h
        · rename_i k hh hy
          exact ⟨_, h, fun s2 he K2 h2 => by simp only [hiA, (he y (by simp [Op.operands])).trans hy]; exact h2⟩
        · exact h.elim
    simp only [opA] at h
    split at h
    · rename_i z1 z2 z3 kd l ht hl
      split at h
      · rename_i z hx
        obtain ⟨hh, h, hr⟩ := hhi h
        obtain ⟨h0, h1, h2, h⟩ := h
        refine ⟨_, h _ rfl, fun s2 he ho K2 h3 => ?_⟩
        simp only [opA, ht, hlo s2 he, hl, (he x hm).trans hx]
        exact hr s2 he _ ⟨h0, h1, h2, fun k e => by subst e; exact h3⟩
      · exact h.elim
    · rename_i z1 z2 z3 e kd l ht hl
      obtain ⟨i, hi', h⟩ := opt_some h
      split at h
      · rename_i r off len hx
        split at h
        · rename_i ty sz n g hrow
          obtain ⟨hb, h⟩ := br_true h
          obtain ⟨hh, h, hr⟩ := hhi h
          obtain ⟨h0, h1, h2, h⟩ := h
          refine ⟨_, h _ _ rfl rfl, fun s2 he ho K2 h3 => ?_⟩
          obtain ⟨n', g', hrow'⟩ := weak_row ((show (s2.ob[r]?).map weakOb = (s.ob[r]?).map weakOb from ho (r, false) (by simp [namesOf, hx, namesV, namesC])).trans (congrArg (Option.map weakOb) hrow))
          simp only [opA, ht, hlo s2 he, hl, (he x hm).trans hx, hi', opt, hrow']
          exact br_intro_true hb (hr s2 he _ ⟨h0, h1, h2, fun k k' e e' => by subst e; subst e'; exact h3⟩)
        · exact h.elim
      · rename_i sz n g hx
        obtain ⟨hb, h⟩ := br_true h
        obtain ⟨hh, h, hr⟩ := hhi h
        obtain ⟨h0, h1, h2, h⟩ := h
        obtain ⟨g', hg, h⟩ := h _ rfl
        refine ⟨_, h, fun s2 he ho K2 h3 => ?_⟩
        simp only [opA, ht, hlo s2 he, hl, (he x hm).trans hx, hi', opt]
        exact br_intro_true hb (hr s2 he _ ⟨h0, h1, h2, fun k e => by subst e; exact ⟨g', hg, h3⟩⟩)
      · exact h.elim
    · exact h.elim
  | extract x i =>
    have hm : x ∈ (Op.extract x i).operands.toList := by simp [Op.operands]
    simp only [opA] at h
    split at h
    · rename_i vs hx
      obtain ⟨v, hv, h⟩ := opt_some h
      exact ⟨_, h, fun s2 he ho K2 h2 => by simp only [opA, (he x hm).trans hx, hv, opt]; exact h2⟩
    · exact h.elim
  | binOp op t x y yt =>
    have hm : x ∈ (Op.binOp op t x y yt).operands.toList := by simp [Op.operands]
    have hm2 : y ∈ (Op.binOp op t x y yt).operands.toList := by simp [Op.operands]
    simp only [opA] at h
    split at h
    · rename_i p q hx hy
      split at h
      · rename_i z1 z2 z3 ht
        exact ⟨_, caseB_out (K := fun d => K (.val (.bool d)) s) h, fun s2 he ho K2 h2 => by simp only [opA, (he x hm).trans hx, (he y hm2).trans hy, ht]; exact caseB_in (K := fun d => K2 (.val (.bool d)) s2) h2⟩
      · rename_i z1 z2 z3 ht
        exact ⟨_, caseB_out (K := fun d => K (.val (.bool d)) s) h, fun s2 he ho K2 h2 => by simp only [opA, (he x hm).trans hx, (he y hm2).trans hy, ht]; exact caseB_in (K := fun d => K2 (.val (.bool d)) s2) h2⟩
      · exact h.elim
    · rename_i vx vy hnb hx hy
      obtain ⟨v, hv, hr⟩ := binA_run h
      refine ⟨_, hv, fun s2 he ho K2 h2 => ?_⟩
      simp only [opA, (he x hm).trans hx, (he y hm2).trans hy]
      cases vx <;> cases vy <;> first | exact hr _ h2 | exact (hnb _ _ rfl rfl).elim
    · rename_i as bs hx hy
      split at h
      · rename_i n z1 z2 fs ht
        obtain ⟨hb, h⟩ := br_true h
        have hb0 := hb
        simp only [Bool.and_eq_true] at hb
        obtain ⟨d, hd⟩ := Option.isSome_iff_exists.1 hb.2
        exact ⟨_, h d hd, fun s2 he ho K2 h2 => by simp only [opA, (he x hm).trans hx, (he y hm2).trans hy, ht]; exact br_intro_true hb0 (fun d' hd' => by rw [hd] at hd'; injection hd' with hd'; subst hd'; exact h2)⟩
      · rename_i n z1 z2 fs ht
        obtain ⟨hb, h⟩ := br_true h
        have hb0 := hb
        simp only [Bool.and_eq_true] at hb
        obtain ⟨d, hd⟩ := Option.isSome_iff_exists.1 hb.2
        exact ⟨_, h d hd, fun s2 he ho K2 h2 => by simp only [opA, (he x hm).trans hx, (he y hm2).trans hy, ht]; exact br_intro_true hb0 (fun d' hd' => by rw [hd] at hd'; injection hd' with hd'; subst hd'; exact h2)⟩
      · exact h.elim
    · exact h.elim
  | unOp op t x =>
    have hm : x ∈ (Op.unOp op t x).operands.toList := by simp [Op.operands]
    simp only [opA] at h
    split at h
    · rename_i b hx
      exact ⟨_, caseB_out (K := fun d => K (.val (.bool d)) s) h, fun s2 he ho K2 h2 => by simp only [opA, (he x hm).trans hx]; exact caseB_in (K := fun d => K2 (.val (.bool d)) s2) h2⟩
    · rename_i k n hx
      exact ⟨_, h _ rfl, fun s2 he ho K2 h2 => by simp only [opA, (he x hm).trans hx]; exact (fun _ e => by subst e; exact h2)⟩
    · exact h.elim
  | convert src dst x =>
    have hm : x ∈ (Op.convert src dst x).operands.toList := by simp [Op.operands]
    simp only [opA] at h
    split at h
    · rename_i i1 sz by_ z k kx n hs hd hx
      exact ⟨_, h _ rfl, fun s2 he ho K2 h2 => by simp only [opA, (he x hm).trans hx, hs, hd]; exact (fun _ e => by subst e; exact h2)⟩
    · exact h.elim
  | nilCheck x =>
    have hm : x ∈ (Op.nilCheck x).operands.toList := by simp [Op.operands]
    simp only [opA] at h
    split at h
    · rename_i q j hx
      split at h
      · rename_i ty cs hq
        refine ⟨_, h, fun s2 he ho K2 h2 => ?_⟩
        have hw := (show (s2.ob[q]?).map weakOb = (s.ob[q]?).map weakOb from ho (q, false) (by simp [namesOf, hx, namesV, namesC])).trans (congrArg (Option.map weakOb) hq)
        first
          | (obtain ⟨cs', hq'⟩ := weak_box hw
             simp only [opA, (he x hm).trans hx, hq']; exact h2)
          | (obtain ⟨n', g', hq'⟩ := weak_row hw
             simp only [opA, (he x hm).trans hx, hq']; exact h2)
      · exact h.elim
    · rename_i q k j hx
      split at h
      · rename_i ty sz n g hq
        refine ⟨_, h, fun s2 he ho K2 h2 => ?_⟩
        have hw := (show (s2.ob[q]?).map weakOb = (s.ob[q]?).map weakOb from ho (q, false) (by simp [namesOf, hx, namesV, namesC])).trans (congrArg (Option.map weakOb) hq)
        first
          | (obtain ⟨cs', hq'⟩ := weak_box hw
             simp only [opA, (he x hm).trans hx, hq']; exact h2)
          | (obtain ⟨n', g', hq'⟩ := weak_row hw
             simp only [opA, (he x hm).trans hx, hq']; exact h2)
      · exact h.elim
    · rename_i cs hx
      exact ⟨_, h, fun s2 he ho K2 h2 => by simp only [opA, (he x hm).trans hx]; exact h2⟩
    · exact h.elim
  | call c =>
    obtain ⟨f, as, ts⟩ := c
    have hm : ∀ b, f = .builtin b → ∀ x ∈ as.toList, x ∈ (Op.call { callee := f, args := as, argTypes := ts }).operands.toList := by
      intro b hf x hx
      subst hf
      simp only [Op.operands, Call.operands]
      simpa using hx
    cases f with
    | value f => simp [stillOp, pureOp] at hp
    | invoke r n => simp [stillOp, pureOp] at hp
    | builtin b =>
      replace hm := hm b rfl
      cases b with
      | len =>
        simp only [opA] at h
        split at h
        · rename_i x z1 z2 z3 e has ht
          have hx0 := hm x (by rw [has]; simp)
          split at h
          · rename_i r off len hx
            split at h
            · rename_i ty sz n g hrow
              refine ⟨_, h _ rfl, fun s2 he ho K2 h2 => ?_⟩
              obtain ⟨n', g', hrow'⟩ := weak_row ((show (s2.ob[r]?).map weakOb = (s.ob[r]?).map weakOb from ho (r, false) (by simp [namesOf, has, hx, namesV, namesC])).trans (congrArg (Option.map weakOb) hrow))
              simp only [opA, has, ht, (he x hx0).trans hx, hrow']; exact (fun _ e => by subst e; exact h2)
            · exact h.elim
          · rename_i sz n g hx
            exact ⟨_, h _ rfl, fun s2 he ho K2 h2 => by simp only [opA, has, ht, (he x hx0).trans hx]; exact (fun _ e => by subst e; exact h2)⟩
          · rename_i hx
            exact ⟨_, h, fun s2 he ho K2 h2 => by simp only [opA, has, ht, (he x hx0).trans hx]; exact h2⟩
          · exact h.elim
        · rename_i x z1 z2 z3 has ht
          have hx0 := hm x (by rw [has]; simp)
          split at h
          · rename_i z hx
            exact ⟨_, h _ rfl, fun s2 he ho K2 h2 => by simp only [opA, has, ht, (he x hx0).trans hx]; exact (fun _ e => by subst e; exact h2)⟩
          · exact h.elim
        · exact h.elim
      | max =>
        simp only [opA] at h
        split at h
        · rename_i x y has
          have hx0 := hm x (by rw [has]; simp)
          have hy0 := hm y (by rw [has]; simp)
          split at h
          · rename_i k p k' q hx hy
            obtain ⟨hkk, h'⟩ := same_ok h
            exact ⟨_, h' _ rfl, fun s2 he ho K2 h2 => by simp only [opA, has, (he x hx0).trans hx, (he y hy0).trans hy]; exact same_intro hkk (fun _ e => by subst e; exact h2)⟩
          · exact h.elim
        · exact h.elim
      | min =>
        simp only [opA] at h
        split at h
        · rename_i x y has
          have hx0 := hm x (by rw [has]; simp)
          have hy0 := hm y (by rw [has]; simp)
          split at h
          · rename_i k p k' q hx hy
            obtain ⟨hkk, h'⟩ := same_ok h
            exact ⟨_, h' _ rfl, fun s2 he ho K2 h2 => by simp only [opA, has, (he x hx0).trans hx, (he y hy0).trans hy]; exact same_intro hkk (fun _ e => by subst e; exact h2)⟩
          · exact h.elim
        · exact h.elim
      | _ => simp [stillOp, pureOp] at hp
  | _ => simp [stillOp, pureOp] at hp
end
end Go.Sim
namespace Go.Sim
open Go Go.RowKit

section
variable {T : Tab} {CALL : FuncId → List V → St → (V → St → Prop) → Prop} {s : St}

theorem frz_run {K : List V → List Ob → Prop} : ∀ {cs acc : List V} {ob : List Ob}, frz K cs acc ob → ∃ cells ob', K cells ob' ∧ ∀ K2 : List V → List Ob → Prop, K2 cells ob' → frz K2 cs acc ob
  | [], acc, ob, h => ⟨_, _, h, fun K2 h2 => h2⟩
  | c :: cs, acc, ob, h => by
    unfold frz at h
    split at h
    · rename_i v
      obtain ⟨hb, h⟩ := br_true h
      obtain ⟨cells, ob', h1, h2⟩ := frz_run h
      exact ⟨_, _, h1, fun K2 h3 => by unfold frz; exact br_intro_true hb (h2 K2 h3)⟩
    · obtain ⟨cells, ob', h1, h2⟩ := frz_run h
      exact ⟨_, _, h1, fun K2 h3 => by unfold frz; exact h2 K2 h3⟩
    · rename_i o off len
      split at h
      · rename_i ty sz n g ho
        obtain ⟨hl, g', hg, h⟩ := h
        obtain ⟨cells, ob', h1, h2⟩ := frz_run h
        exact ⟨_, _, h1, fun K2 h3 => by unfold frz; simp only [ho]; exact ⟨hl, g', hg, h2 K2 h3⟩⟩
      · exact h.elim
    · exact h.elim
theorem frzs_run {K : List (List V) → List Ob → Prop} : ∀ {es acc : List (List V)} {ob : List Ob}, frzs K es acc ob → ∃ cells ob', K cells ob' ∧ ∀ K2 : List (List V) → List Ob → Prop, K2 cells ob' → frzs K2 es acc ob
  | [], acc, ob, h => ⟨_, _, h, fun K2 h2 => h2⟩
  | e :: es, acc, ob, h => by
    unfold frzs at h
    obtain ⟨c1, o1, h1, h2⟩ := frz_run h
    obtain ⟨cells, ob', h3, h4⟩ := frzs_run h1
    exact ⟨_, _, h3, fun K2 h5 => by unfold frzs; exact h2 _ (h4 K2 h5)⟩
theorem frzA_run {K : V → List Ob → Prop} {v : V} {ob : List Ob} (h : frzA K v ob) : ∃ v' ob', K v' ob' ∧ ∀ K2 : V → List Ob → Prop, K2 v' ob' → frzA K2 v ob := by
  have one : ∀ {c : V}, frz (one1 K) [c] [] ob → ∃ v' ob', K v' ob' ∧ ∀ K2 : V → List Ob → Prop, K2 v' ob' → frz (one1 K2) [c] [] ob := by
    intro c h
    obtain ⟨cells, ob', h1, h2⟩ := frz_run h
    match cells, h1, h2 with
    | [c'], h1, h2 => exact ⟨c', ob', h1, fun K2 h3 => h2 (one1 K2) h3⟩
    | [], h1, _ => exact h1.elim
    | _ :: _ :: _, h1, _ => exact h1.elim
  cases v with
  | agg cs =>
    obtain ⟨cells, ob', h1, h2⟩ := frz_run h
    exact ⟨_, _, h1, fun K2 h3 => h2 (fun cs' ob' => K2 (.agg cs') ob') h3⟩
  | tup l => exact one (c := .tup l) h
  | val x => exact one (c := .val x) h
  | any => exact one (c := .any) h
  | fz sz n g => exact one (c := .fz sz n g) h
  | row o off len => exact one (c := .row o off len) h
  | ptr o j => exact one (c := .ptr o j) h
  | eptr o i j => exact one (c := .eptr o i j) h
  | fptr cs => exact one (c := .fptr cs) h
theorem frzAs_run {K : List V → List Ob → Prop} : ∀ {vs acc : List V} {ob : List Ob}, frzAs K vs acc ob → ∃ vs' ob', K vs' ob' ∧ ∀ K2 : List V → List Ob → Prop, K2 vs' ob' → frzAs K2 vs acc ob
  | [], acc, ob, h => ⟨_, _, h, fun K2 h2 => h2⟩
  | v :: vs, acc, ob, h => by
    obtain ⟨v', o1, h1, h2⟩ := frzA_run h
    obtain ⟨vs', ob', h3, h4⟩ := frzAs_run h1
    exact ⟨_, _, h3, fun K2 h5 => h2 _ (h4 K2 h5)⟩
theorem frzV_run {K : V → List Ob → Prop} {v : V} {ob : List Ob} (h : frzV K v ob) : ∃ v' ob', K v' ob' ∧ ∀ K2 : V → List Ob → Prop, K2 v' ob' → frzV K2 v ob := by
  cases v with
  | tup vs =>
    obtain ⟨vs', ob', h1, h2⟩ := frzAs_run h
    exact ⟨_, _, h1, fun K2 h3 => h2 (fun vs' ob' => K2 (.tup vs') ob') h3⟩
  | agg cs => exact frzA_run (ob := ob) (v := .agg cs) h
  | val x => exact frzA_run (ob := ob) (v := .val x) h
  | any => exact frzA_run (ob := ob) (v := .any) h
  | fz sz n g => exact frzA_run (ob := ob) (v := .fz sz n g) h
  | row o off len => exact frzA_run (ob := ob) (v := .row o off len) h
  | ptr o j => exact frzA_run (ob := ob) (v := .ptr o j) h
  | eptr o i j => exact frzA_run (ob := ob) (v := .eptr o i j) h
  | fptr cs => exact frzA_run (ob := ob) (v := .fptr cs) h
theorem srcA_run {ob : List Ob} {v : V} {K : Nat → Nat → (Nat → List V) → Prop} (h : srcA ob v K) : ∃ sz m g, K sz m g ∧ ∀ K2 : Nat → Nat → (Nat → List V) → Prop, K2 sz m g → srcA ob v K2 := by
  unfold srcA at h
  split at h
  · split at h
    · rename_i ho
      obtain ⟨hl, h⟩ := h
      exact ⟨_, _, _, h, fun K2 h2 => by unfold srcA; simp only [ho]; exact ⟨hl, h2⟩⟩
    · exact h.elim
  · exact ⟨_, _, _, h, fun K2 h2 => by unfold srcA; exact h2⟩
  · exact h.elim

theorem expC_run {lend : List Nat} {ob : List Ob} {c : V} {K : V → Prop} (h : expC lend ob c K) : ∃ v, K v ∧ ∀ K2 : V → Prop, K2 v → expC lend ob c K2 := by
  unfold expC at h
  split at h
  · exact ⟨_, h, fun K2 h2 => by unfold expC; exact h2⟩
  · exact ⟨_, h, fun K2 h2 => by unfold expC; exact h2⟩
  · split at h
    · rename_i ho
      obtain ⟨hl, g', hg, h⟩ := h
      exact ⟨_, h, fun K2 h2 => by unfold expC; simp only [ho]; exact ⟨hl, g', hg, h2⟩⟩
    · exact h.elim
  · split at h
    · rename_i hp
      exact ⟨_, h, fun K2 h2 => by unfold expC; simp only [hp]; exact h2⟩
    · exact h.elim
  · exact h.elim
theorem expCs_run {lend : List Nat} {ob : List Ob} {K : List V → Prop} : ∀ {cs acc : List V}, expCs lend ob K cs acc → ∃ vs, K vs ∧ ∀ K2 : List V → Prop, K2 vs → expCs lend ob K2 cs acc
  | [], acc, h => ⟨_, h, fun K2 h2 => h2⟩
  | c :: cs, acc, h => by
    unfold expCs at h
    obtain ⟨v, h1, h2⟩ := expC_run h
    obtain ⟨vs, h3, h4⟩ := expCs_run h1
    exact ⟨_, h3, fun K2 h5 => by unfold expCs; exact h2 _ (h4 K2 h5)⟩
theorem expA_run {lend : List Nat} {ob : List Ob} {c : V} {K : V → Prop} (h : expA lend ob c K) : ∃ v, K v ∧ ∀ K2 : V → Prop, K2 v → expA lend ob c K2 := by
  cases c with
  | agg cs =>
    obtain ⟨vs, h1, h2⟩ := expCs_run (K := fun cs' => K (.agg cs')) h
    exact ⟨_, h1, fun K2 h3 => h2 (fun cs' => K2 (.agg cs')) h3⟩
  | val u => exact expC_run (lend := lend) (ob := ob) (c := .val u) h
  | any => exact expC_run (lend := lend) (ob := ob) (c := .any) h
  | tup vs => exact expC_run (lend := lend) (ob := ob) (c := .tup vs) h
  | fz sz n g => exact expC_run (lend := lend) (ob := ob) (c := .fz sz n g) h
  | row o off len => exact expC_run (lend := lend) (ob := ob) (c := .row o off len) h
  | ptr o j => exact expC_run (lend := lend) (ob := ob) (c := .ptr o j) h
  | eptr o i j => exact expC_run (lend := lend) (ob := ob) (c := .eptr o i j) h
  | fptr cs => exact expC_run (lend := lend) (ob := ob) (c := .fptr cs) h
theorem expAs_run {lend : List Nat} {ob : List Ob} {K : List V → Prop} : ∀ {cs acc : List V}, expAs lend ob K cs acc → ∃ vs, K vs ∧ ∀ K2 : List V → Prop, K2 vs → expAs lend ob K2 cs acc
  | [], acc, h => ⟨_, h, fun K2 h2 => h2⟩
  | c :: cs, acc, h => by
    unfold expAs at h
    obtain ⟨v, h1, h2⟩ := expA_run h
    obtain ⟨vs, h3, h4⟩ := expAs_run h1
    exact ⟨_, h3, fun K2 h5 => by unfold expAs; exact h2 _ (h4 K2 h5)⟩

def CallRun (CALL : FuncId → List V → St → (V → St → Prop) → Prop) : Prop := ∀ (f : FuncId) (vs : List V) (s : St) (K : V → St → Prop), CALL f vs s K →
  ∃ v ob', K v ⟨s.tm, ob'⟩ ∧ ∀ s2 : St, s2.ob = s.ob → ∀ K2 : V → St → Prop, K2 v ⟨s2.tm, ob'⟩ → CALL f vs s2 K2

theorem callA_run (P : Program) : CallRun (callA P) := by
  intro f vs s K h
  unfold callA at h
  obtain ⟨lend, h⟩ := h
  obtain ⟨hn, h⟩ := br_true h
  obtain ⟨ins, hins, h⟩ := opt_some h
  obtain ⟨hf, h⟩ := br_true h
  obtain ⟨args, h, hx⟩ := expAs_run h
  obtain ⟨rv, outs, hc, h⟩ := h
  obtain ⟨hb, h⟩ := br_true h
  have fin : ∀ (v : V) (ob' : List Ob), (∀ s2 : St, s2.ob = s.ob → ∀ K2 : V → St → Prop, K2 v ⟨s2.tm, ob'⟩ → (match vs.flatMap rowsA with
         | [] => K2 (inV lend s2.ob.length rv) { s2 with ob := setAll s2.ob lend (outs.take lend.length) ++ outs.drop lend.length }
         | rs => ∃ kill : Fate, match kill with
           | .dead => K2 (inV lend s2.ob.length rv) { s2 with ob := setAll (killAll s2.ob rs) lend (outs.take lend.length) ++ outs.drop lend.length }
           | .kept => ∃ _ : cleanV rv = true, ∃ _ : cleanO outs, K2 (inV lend s2.ob.length rv) { s2 with ob := setAll s2.ob lend (outs.take lend.length) ++ outs.drop lend.length })) →
      ∀ s2 : St, s2.ob = s.ob → ∀ K2 : V → St → Prop, K2 v ⟨s2.tm, ob'⟩ → callA P f vs s2 K2 := by
    intro v ob' hh s2 ho K2 h2
    unfold callA
    refine ⟨lend, br_intro_true hn ?_⟩
    rw [ho, hins]
    refine br_intro_true hf ?_
    refine hx _ ⟨rv, outs, hc, br_intro_true hb ?_⟩
    have := hh s2 ho K2 h2
    rw [ho] at this
    exact this
  split at h
  · rename_i e
    refine ⟨_, _, h, fin _ _ fun s2 ho K2 h2 => ?_⟩
    rw [e, ho]; exact h2
  · rename_i rs hne
    obtain ⟨kill, h⟩ := h
    cases kill with
    | dead =>
      refine ⟨_, _, h, fin _ _ fun s2 ho K2 h2 => ?_⟩
      split
      · rename_i e; exact (hne e).elim
      · exact ⟨.dead, by rw [ho]; exact h2⟩
    | kept =>
      obtain ⟨g1, g2, h⟩ := h
      refine ⟨_, _, h, fin _ _ fun s2 ho K2 h2 => ?_⟩
      split
      · rename_i e; exact (hne e).elim
      · exact ⟨.kept, g1, g2, by rw [ho]; exact h2⟩

theorem nil_run {t : TypeId} {v : V} {K : V → St → Prop} (h : nilA T t v s K) : ∃ v' ob', K v' ⟨s.tm, ob'⟩ ∧ ∀ s2 : St, s2.ob = s.ob → ∀ K2 : V → St → Prop, K2 v' ⟨s2.tm, ob'⟩ → nilA T t v s2 K2 := by
  have same : ∀ K2 : V → St → Prop, ∀ s2 : St, s2.ob = s.ob → K2 v ⟨s2.tm, s.ob⟩ → K2 v s2 := fun K2 s2 ho h2 => by rw [← ho] at h2; exact h2
  unfold nilA at h
  split at h
  · split at h
    · rename_i e ht
      obtain ⟨i, hi, own, h⟩ := opt_some h
      cases own
      · refine ⟨_, _, h, fun s2 ho K2 h2 => ?_⟩
        unfold nilA
        simp only [ht, hi, opt]
        exact ⟨.kept, same K2 s2 ho h2⟩
      · refine ⟨_, _, h, fun s2 ho K2 h2 => ?_⟩
        unfold nilA
        simp only [ht, hi, opt]
        exact ⟨.row, by simp only [ho]; exact h2⟩
    · rename_i hns
      refine ⟨_, _, h, fun s2 ho K2 h2 => ?_⟩
      unfold nilA
      split
      · split
        · exact (hns _ _ _ _ (by assumption)).elim
        · exact same K2 s2 ho h2
      · rename_i hne; exact (hne rfl).elim
  · rename_i hnv
    refine ⟨_, _, h, fun s2 ho K2 h2 => ?_⟩
    unfold nilA
    split
    · exact (hnv rfl).elim
    · exact same K2 s2 ho h2

/-- An operation on memory. -/
theorem eff_run (hC : CallRun CALL) {op : Op} {K : V → St → Prop} (hp : stillOp op = false) (h : opA T CALL op s K) :
    ∃ v ob', K v ⟨s.tm, ob'⟩ ∧ ∀ s2 : St, (∀ x ∈ op.operands.toList, s2.ev x = s.ev x) → s2.ob = s.ob → ∀ K2 : V → St → Prop, K2 v ⟨s2.tm, ob'⟩ → opA T CALL op s2 K2 := by
  cases op with
  | alloc t =>
    obtain ⟨i, hi, h⟩ := opt_some h
    exact ⟨_, _, h, fun s2 he ho K2 h2 => by simp only [opA, hi, opt, ho]; exact h2⟩
  | box t x =>
    obtain ⟨v, hv, h⟩ := opt_some h
    obtain ⟨hb, h⟩ := br_true h
    refine ⟨_, _, h, fun s2 he ho K2 h2 => ?_⟩
    simp only [opA, (he x (by simp [Op.operands])).trans hv, opt, ho]
    exact br_intro_true hb h2
  | buildSlice t n ps =>
    simp only [opA] at h
    split at h
    · rename_i z1 z2 z3 e ht
      obtain ⟨i, hi, h⟩ := opt_some h
      obtain ⟨vs, hvs, h⟩ := opt_some h
      obtain ⟨hb, h⟩ := br_true h
      obtain ⟨es, ob', h, hr⟩ := frzs_run h
      obtain ⟨g', hg, h⟩ := h
      refine ⟨_, _, h, fun s2 he ho K2 h2 => ?_⟩
      have e1 : evAll s2 ps.toList = evAll s ps.toList := evAll_eq (fun p hp => he p.2 (by simp only [Op.operands]; exact List.mem_map.2 ⟨p, hp, rfl⟩))
      simp only [opA, ht, hi, e1, hvs, opt, ho]
      exact br_intro_true hb (hr _ ⟨g', hg, h2⟩)
    · exact h.elim
  | store t p x =>
    have hmp : p ∈ (Op.store t p x).operands.toList := by simp [Op.operands]
    have hmx : x ∈ (Op.store t p x).operands.toList := by simp [Op.operands]
    obtain ⟨i, hi, h⟩ := opt_some h
    obtain ⟨v, hv, h⟩ := opt_some h
    obtain ⟨hb, h⟩ := br_true h
    split at h
    · rename_i o j hp'
      split at h
      · rename_i ty cs hq
        obtain ⟨hb2, h⟩ := br_true h
        refine ⟨_, _, h, fun s2 he ho K2 h2 => ?_⟩
        simp only [opA, hi, (he x hmx).trans hv, opt, (he p hmp).trans hp', ho, hq]
        exact br_intro_true hb (br_intro_true hb2 h2)
      · exact h.elim
    · rename_i o k j hp'
      obtain ⟨cells, ob', h, hr⟩ := frz_run h
      split at h
      · rename_i ty sz n g hq
        obtain ⟨hb2, h⟩ := br_true h
        obtain ⟨hk, g', hg, h⟩ := h
        refine ⟨_, _, h, fun s2 he ho K2 h2 => ?_⟩
        simp only [opA, hi, (he x hmx).trans hv, opt, (he p hmp).trans hp', ho]
        refine br_intro_true hb (hr _ ?_)
        simp only [hq]
        exact br_intro_true hb2 ⟨hk, g', hg, h2⟩
      · exact h.elim
    · exact h.elim
  | makeSlice t l c =>
    have hml : l ∈ (Op.makeSlice t l c).operands.toList := by simp [Op.operands]
    have hmc : c ∈ (Op.makeSlice t l c).operands.toList := by simp [Op.operands]
    simp only [opA] at h
    split at h
    · rename_i z1 z2 z3 e k1 a k2 b ht hl hc
      obtain ⟨i, hi, h0, h1, h2, h3, h⟩ := opt_some h
      obtain ⟨g', hg, h⟩ := h _ rfl
      refine ⟨_, _, h, fun s2 he ho K2 h4 => ?_⟩
      simp only [opA, ht, (he l hml).trans hl, (he c hmc).trans hc, hi, opt, ho]
      exact ⟨h0, h1, h2, h3, fun n e => by subst e; exact ⟨g', hg, h4⟩⟩
    · exact h.elim
  | call c =>
    obtain ⟨f, as, ts⟩ := c
    have hm : ∀ b, f = .builtin b → ∀ x ∈ as.toList, x ∈ (Op.call { callee := f, args := as, argTypes := ts }).operands.toList := by
      intro b hf x hx
      subst hf
      simp only [Op.operands, Call.operands]
      simpa using hx
    cases f with
    | value f =>
      simp only [opA] at h
      have hmf : f ∈ (Op.call { callee := .value f, args := as, argTypes := ts }).operands.toList := by simp [Op.operands, Call.operands]
      have hma : ∀ x ∈ as.toList, x ∈ (Op.call { callee := .value f, args := as, argTypes := ts }).operands.toList := by
        intro x hx; simp only [Op.operands, Call.operands]; simp; exact .inr (by simpa using hx)
      split at h
      · rename_i n fs cs hf
        obtain ⟨hb, h⟩ := br_true h
        obtain ⟨vs, hvs, h⟩ := opt_some h
        obtain ⟨v, ob', ⟨fr, h⟩, hr⟩ := hC _ _ _ _ h
        cases fr with
        | own =>
          refine ⟨v, ob', h, fun s2 he ho K2 h2 => ?_⟩
          simp only [opA, (he f hmf).trans hf, evs_eq (fun x hx => he x (hma x hx)), hvs, opt]
          exact br_intro_true hb (hr s2 ho _ ⟨.own, h2⟩)
        | frozen =>
          obtain ⟨v', ob2, h, hr2⟩ := frzV_run h
          refine ⟨v', ob2, h, fun s2 he ho K2 h2 => ?_⟩
          simp only [opA, (he f hmf).trans hf, evs_eq (fun x hx => he x (hma x hx)), hvs, opt]
          exact br_intro_true hb (hr s2 ho _ ⟨.frozen, hr2 _ h2⟩)
      · exact h.elim
    | invoke r n => exact h.elim
    | builtin b =>
      replace hm := hm b rfl
      cases b with
      | append =>
        simp only [opA] at h
        split at h
        · rename_i x y t u has hts
          have hx0 := hm x (by rw [has]; simp)
          have hy0 := hm y (by rw [has]; simp)
          obtain ⟨hb, h⟩ := br_true h
          split at h
          · rename_i z1 z2 z3 e ht
            obtain ⟨i, hi, h⟩ := opt_some h
            obtain ⟨vy, hvy, h⟩ := opt_some h
            obtain ⟨sz, m, gx, h, hr⟩ := srcA_run h
            obtain ⟨hb2, h⟩ := br_true h
            split at h
            · rename_i o off len hx
              split at h
              · rename_i ty sz' n g hq
                obtain ⟨hb3, h0, h1, h2, h⟩ := br_true h
                obtain ⟨g', hg, h⟩ := h _ rfl
                refine ⟨_, _, h, fun s2 he ho K2 h4 => ?_⟩
                simp only [opA, has, hts, ht, hi, (he y hy0).trans hvy, opt, (he x hx0).trans hx, ho]
                refine br_intro_true hb (hr _ (br_intro_true hb2 ?_))
                simp only [hq]
                exact br_intro_true hb3 ⟨h0, h1, h2, fun n e => by subst e; exact ⟨g', hg, h4⟩⟩
              · exact h.elim
            · rename_i hx
              obtain ⟨h0, h1, g', hg, h⟩ := h
              refine ⟨_, _, h, fun s2 he ho K2 h4 => ?_⟩
              simp only [opA, has, hts, ht, hi, (he y hy0).trans hvy, opt, (he x hx0).trans hx, ho]
              exact br_intro_true hb (hr _ (br_intro_true hb2 ⟨h0, h1, g', hg, h4⟩))
            · exact h.elim
          · exact h.elim
        · exact h.elim
      | len => simp [stillOp, pureOp] at hp
      | max => simp [stillOp, pureOp] at hp
      | min => simp [stillOp, pureOp] at hp
      | _ => exact h.elim
  | build t ps => simp [stillOp] at hp
  | move x => simp [stillOp, pureOp] at hp
  | assign x => simp [stillOp, pureOp] at hp
  | pick c x y => simp [stillOp, pureOp] at hp
  | load t x => simp [stillOp, pureOp] at hp
  | indexAddr t x i => simp [stillOp, pureOp] at hp
  | fieldAddr t x f => simp [stillOp, pureOp] at hp
  | field t x f => simp [stillOp, pureOp] at hp
  | index t x i => simp [stillOp, pureOp] at hp
  | slice t x l hh mx => simp [stillOp, pureOp] at hp
  | extract x i => simp [stillOp, pureOp] at hp
  | binOp op t x y yt => simp [stillOp, pureOp] at hp
  | unOp op t x => simp [stillOp, pureOp] at hp
  | convert src dst x => simp [stillOp, pureOp] at hp
  | nilCheck x => simp [stillOp, pureOp] at hp
  | _ => exact h.elim

/-- A step of a region: what it answers, in every state that agrees on what it looks at. -/
theorem step_run (hC : CallRun CALL) {all : List Oper} {o : Oper} {K : V → St → Prop} (h : stepC T CALL all o s K) :
    ∃ v ob', K v ⟨s.tm, ob'⟩ ∧ (stillOp o.op = true → ob' = s.ob) ∧ ∀ s2 : St, (∀ x ∈ o.op.operands.toList, s2.ev x = s.ev x) →
      (∀ j w d, o.guard = some (j, w) → (all[j]?).bind (·.dst) = some d → s2.tm.f d = s.tm.f d) →
      (stillOp o.op = true → ∀ x ∈ namesOf s o.op, agr s2.ob s.ob x) → (stillOp o.op = false → s2.ob = s.ob) →
      ∀ K2 : V → St → Prop, K2 v (match stillOp o.op with | true => s2 | false => ⟨s2.tm, ob'⟩) → stepC T CALL all o s2 K2 := by
  have main : ∀ {K : V → St → Prop}, (match stillOp o.op with
        | true => opA T CALL o.op s fun v s' => K v s'
        | false => opA T CALL o.op s fun v s' => nilA T o.type v s' fun v s' => K v s') → ∃ v ob', K v ⟨s.tm, ob'⟩ ∧ (stillOp o.op = true → ob' = s.ob) ∧ ∀ s2 : St, (∀ x ∈ o.op.operands.toList, s2.ev x = s.ev x) →
      (stillOp o.op = true → ∀ x ∈ namesOf s o.op, agr s2.ob s.ob x) → (stillOp o.op = false → s2.ob = s.ob) →
      ∀ K2 : V → St → Prop, K2 v (match stillOp o.op with | true => s2 | false => ⟨s2.tm, ob'⟩) → (match stillOp o.op with
        | true => opA T CALL o.op s2 fun v s' => K2 v s'
        | false => opA T CALL o.op s2 fun v s' => nilA T o.type v s' fun v s' => K2 v s') := by
    intro K h
    cases hst : stillOp o.op with
    | true =>
      rw [hst] at h
      obtain ⟨v, h1, h2⟩ := still_run hst h
      exact ⟨v, s.ob, h1, fun _ => rfl, fun s2 he hn _ K2 h3 => h2 s2 he (hn rfl) _ h3⟩
    | false =>
      rw [hst] at h
      obtain ⟨v, ob1, h1, h2⟩ := eff_run hC hst h
      obtain ⟨v', ob2, h3, h4⟩ := nil_run h1
      refine ⟨v', ob2, h3, fun e => (by cases e), fun s2 he _ ho K2 h5 => ?_⟩
      exact h2 s2 he (ho rfl) _ (h4 ⟨s2.tm, ob1⟩ rfl _ h5)
  unfold stepC at h
  split at h
  · rename_i hg
    obtain ⟨v, ob', h1, h2, h3⟩ := main h
    refine ⟨v, ob', h1, h2, fun s2 he _ hn ho K2 h4 => ?_⟩
    unfold stepC
    rw [hg]
    exact h3 s2 he hn ho K2 h4
  · rename_i j want hg
    split at h
    · exact h.elim
    · rename_i d hd
      have skip : K (.val undef) s → (∀ s2 : St, s2.tm.f d = s.tm.f d → ∀ K2 : V → St → Prop, K2 (.val undef) s2 → stepC T CALL all o s2 K2) → ∃ v ob', K v ⟨s.tm, ob'⟩ ∧ (stillOp o.op = true → ob' = s.ob) ∧ ∀ s2 : St, (∀ x ∈ o.op.operands.toList, s2.ev x = s.ev x) →
          (∀ j w d, o.guard = some (j, w) → (all[j]?).bind (·.dst) = some d → s2.tm.f d = s.tm.f d) →
          (stillOp o.op = true → ∀ x ∈ namesOf s o.op, agr s2.ob s.ob x) → (stillOp o.op = false → s2.ob = s.ob) →
          ∀ K2 : V → St → Prop, K2 v (match stillOp o.op with | true => s2 | false => ⟨s2.tm, ob'⟩) → stepC T CALL all o s2 K2 := by
        intro h1 h2
        refine ⟨_, s.ob, h1, fun _ => rfl, fun s2 he hgd hn ho K2 h3 => h2 s2 (hgd j want d hg hd) K2 ?_⟩
        cases hst : stillOp o.op with
        | true => rw [hst] at h3; exact h3
        | false => rw [hst] at h3; simp only [← ho hst] at h3; exact h3
      split at h
      · rename_i b hb
        rcases brT_cases h with ⟨hbw, h⟩ | ⟨hbw, h⟩
        · obtain ⟨v, ob', h1, h2, h3⟩ := main h
          refine ⟨v, ob', h1, h2, fun s2 he hgd hn ho K2 h4 => ?_⟩
          unfold stepC
          simp only [hg, hd, (hgd j want d hg hd).trans hb, hbw]
          exact h3 s2 he hn ho K2 h4
        · refine skip h fun s2 h1 K2 h2 => ?_
          unfold stepC
          simp only [hg, hd, h1.trans hb, hbw]
          exact h2
      · rename_i vs hb
        refine skip h fun s2 h1 K2 h2 => ?_
        unfold stepC
        simp only [hg, hd, h1.trans hb]
        exact h2
      · exact h.elim
end
end Go.Sim
namespace Go.Sim
open Go Go.RowKit

/-! ### A drawn region by the order of the text -/
structure TrE where
  v : V
  ob : List Ob
  nm : List (Nat × Bool)

/-- The state behind the first i operations, in the order of the text. -/
def stAt : List Oper → List TrE → St → Nat → St
  | o :: L, e :: tr, s, i + 1 => stAt L tr (St.put ⟨s.tm, e.ob⟩ o.dst e.v) i
  | _, _, s, _ => s
theorem stAt_zero {L : List Oper} {tr : List TrE} {s : St} : stAt L tr s 0 = s := by cases L <;> cases tr <;> rfl
theorem stAt_succ : ∀ {L : List Oper} {tr : List TrE} {s : St} {i : Nat} {o : Oper} {e : TrE}, L[i]? = some o → tr[i]? = some e → stAt L tr s (i + 1) = St.put ⟨(stAt L tr s i).tm, e.ob⟩ o.dst e.v
  | o :: L, e :: tr, s, 0, o', e', h1, h2 => by
    simp at h1 h2; subst h1; subst h2
    simp only [stAt, stAt_zero]
  | o :: L, e :: tr, s, i + 1, o', e', h1, h2 => by
    simp at h1 h2
    simp only [stAt]
    exact stAt_succ h1 h2
  | [], _, _, _, _, _, h1, _ => by simp at h1
  | _ :: _, [], _, _, _, _, _, h2 => by simp at h2
theorem put_ob {s : St} {d : Option Tmp} {v : V} : (s.put d v).ob = s.ob := by cases d <;> rfl
theorem put_tm {s : St} {d : Option Tmp} {v : V} : (s.put d v).tm = match d with | some d => s.tm.set d v | none => s.tm := by cases d <;> rfl
theorem stAt_obs : ∀ {L : List Oper} {tr : List TrE} {s : St} {k : Nat}, tr.length = L.length → k ≤ L.length → (s.ob :: tr.map (·.ob)).getD k [] = (stAt L tr s k).ob
  | _, _, s, 0, _, _ => by simp [stAt_zero]
  | o :: L, e :: tr, s, k + 1, h, hk => by
    have := stAt_obs (L := L) (tr := tr) (s := St.put ⟨s.tm, e.ob⟩ o.dst e.v) (k := k) (by simpa using h) (by simpa using hk)
    rw [put_ob] at this
    simp only [stAt, ← this]
    simp
  | [], _, _, k + 1, _, hk => by simp at hk
  | _ :: _, [], _, _ + 1, h, _ => by simp at h

section
variable {C : Ctx} {T : Tab} {CALL : FuncId → List V → St → (V → St → Prop) → Prop}

structure StepR (T : Tab) (CALL : FuncId → List V → St → (V → St → Prop) → Prop) (all : List Oper) (o : Oper) (s : St) (e : TrE) : Prop where
  nm : e.nm = namesOf s o.op
  ob : stillOp o.op = true → e.ob = s.ob
  run : ∀ s2 : St, (∀ x ∈ o.op.operands.toList, s2.ev x = s.ev x) →
      (∀ j w d, o.guard = some (j, w) → (all[j]?).bind (·.dst) = some d → s2.tm.f d = s.tm.f d) →
      (stillOp o.op = true → ∀ x ∈ namesOf s o.op, agr s2.ob s.ob x) → (stillOp o.op = false → s2.ob = s.ob) →
      ∀ K2 : V → St → Prop, K2 e.v (match stillOp o.op with | true => s2 | false => ⟨s2.tm, e.ob⟩) → stepC T CALL all o s2 K2

theorem chain_trace (hC : CallRun CALL) {all : List Oper} {ws : List (Nat × Nat)} {K : St → Prop} : ∀ (rest : List Oper) (obs : List (List Ob)) (nms : List (List (Nat × Bool))) (s : St), chainA T CALL all ws K rest obs nms s →
    ∃ tr : List TrE, tr.length = rest.length ∧ agreeP (obs ++ tr.map (·.ob)) (nms ++ tr.map (·.nm)) (K (stAt rest tr s rest.length)) ws ∧ ∀ i o e, rest[i]? = some o → tr[i]? = some e → StepR T CALL all o (stAt rest tr s i) e
  | [], obs, nms, s, h => ⟨[], rfl, by simp only [chainA] at h; simpa [stAt] using h, fun i o e h1 => by simp at h1⟩
  | o :: rest, obs, nms, s, h => by
    replace h := pause_out h
    obtain ⟨v, ob', h1, h2, h3⟩ := step_run hC h
    obtain ⟨tr, g1, g2, g3⟩ := chain_trace hC rest _ _ _ h1
    refine ⟨⟨v, ob', namesOf s o.op⟩ :: tr, by simp [g1], ?_, fun i o' e h4 h5 => ?_⟩
    · simp only [List.map_cons, List.length_cons, stAt]
      rw [List.append_cons obs, List.append_cons nms]
      exact g2
    · cases i with
      | zero =>
        simp at h4 h5; subst h4; subst h5
        rw [stAt_zero]
        exact ⟨rfl, h2, h3⟩
      | succ i =>
        simp at h4 h5
        simp only [stAt]
        exact g3 i o' e h4 h5

theorem agreeN_out {a b : List Ob} {K : Prop} : ∀ {l : List (Nat × Bool)}, agreeN a b K l → K ∧ ∀ x ∈ l, agr a b x
  | [], h => ⟨h, fun o ho => by cases ho⟩
  | (x, true) :: l, h => by
    obtain ⟨h1, h2⟩ := h
    obtain ⟨g1, g2⟩ := agreeN_out h2
    exact ⟨g1, fun o ho => by rcases List.mem_cons.1 ho with rfl | ho; exact h1; exact g2 o ho⟩
  | (x, false) :: l, h => by
    obtain ⟨h1, h2⟩ := h
    obtain ⟨g1, g2⟩ := agreeN_out h2
    exact ⟨g1, fun o ho => by rcases List.mem_cons.1 ho with rfl | ho; exact h1; exact g2 o ho⟩
theorem agreeP_out {obs : List (List Ob)} {nms : List (List (Nat × Bool))} {K : Prop} : ∀ {ws : List (Nat × Nat)}, agreeP obs nms K ws → K ∧ ∀ i k, (i, k) ∈ ws → ∀ o ∈ nms.getD i [], agr (obs.getD k []) (obs.getD i []) o
  | [], h => ⟨h, fun i k hik => by cases hik⟩
  | (i, k) :: ws, h => by
    simp only [agreeP] at h
    obtain ⟨h1, h2⟩ := agreeN_out h
    obtain ⟨g1, g2⟩ := agreeP_out h1
    refine ⟨g1, fun i' k' hik => ?_⟩
    rcases List.mem_cons.1 hik with e | hik
    · injection e with e1 e2; subst e1; subst e2; exact h2
    · exact g2 i' k' hik

structure ChainOK (L : List Oper) (an : List (List Nat)) (ws : List (Nat × Nat)) : Prop where
  clos : ∀ (i : Nat) (o : Oper) (j : Nat), L[i]? = some o → j ∈ an.getD i [] → ∃ e ∈ o.after, Region.binds .any e = true ∧ (e.on = j ∨ j ∈ an.getD e.on [])
  back : ∀ (i : Nat) (o : Oper) (e : Edge), L[i]? = some o → e ∈ o.after → Region.binds .any e = true → e.on < i
  look : ∀ (i : Nat) (o : Oper) (t : Tmp) (j : Nat) (o' : Oper), L[i]? = some o → t ∈ o.looksAt L.toArray → L[j]? = some o' → o'.dst = some t → j ∈ an.getD i []
  dst : ∀ (i j : Nat) (o o' : Oper) (t : Tmp), j < i → L[i]? = some o → L[j]? = some o' → o.dst = some t → o'.dst = some t → False
  eff : ∀ (i j : Nat) (o o' : Oper), j < i → L[i]? = some o → L[j]? = some o' → stillOp o.op = false → stillOp o'.op = false → j ∈ an.getD i []
  win : ∀ (i k : Nat) (o : Oper), L[i]? = some o → stillOp o.op = true → (k = 0 ∨ ∃ j o', k = j + 1 ∧ L[j]? = some o' ∧ stillOp o'.op = false) → winB L an i k = true → nearB L k i = true ∨ (i, k) ∈ ws

theorem chainB_ok {L : List Oper} {an : List (List Nat)} {ws : List (Nat × Nat)} (h : chainB L an ws = true) : ChainOK L an ws := by
  have row : ∀ i o, L[i]? = some o →
      (an.getD i []).all (fun j => o.after.toList.any fun e => Region.binds .any e && (Nat.beq e.on j || (an.getD e.on []).contains j)) = true ∧
      o.after.toList.all (fun e => !Region.binds .any e || Nat.blt e.on i) = true ∧
      (o.looksAt L.toArray).all (fun t => (List.range L.length).all fun j => !dstIs L j t || (an.getD i []).contains j) = true ∧
      (List.range i).all (fun j => (match o.dst with | some t => !dstIs L j t | none => true) && (stillOp o.op || stillAt L j || (an.getD i []).contains j)) = true ∧
      (!stillOp o.op || (0 :: (List.range L.length).filterMap fun j => if stillAt L j then none else some (j + 1)).all fun k => !winB L an i k || nearB L k i || ws.contains (i, k)) = true := by
    intro i o hi
    have := List.all_eq_true.1 h i (List.mem_range.2 (lt_of_get hi))
    rw [hi] at this
    simp only [Bool.and_eq_true] at this
    exact ⟨this.1.1.1.1, this.1.1.1.2, this.1.1.2, this.1.2, this.2⟩
  refine ⟨fun i o j hi hj => ?_, fun i o e hi he hb => ?_, fun i o t j o' hi ht hj ho' => ?_, fun i j o o' t hlt hi hj h1 h2 => ?_, fun i j o o' hlt hi hj h1 h2 => ?_, fun i k o hi hst hk hw => ?_⟩
  · have := List.all_eq_true.1 (row i o hi).1 j hj
    obtain ⟨e, he, h2⟩ := List.any_eq_true.1 this
    simp only [Bool.and_eq_true, Bool.or_eq_true] at h2
    refine ⟨e, by simpa using he, h2.1, h2.2.imp Nat.eq_of_beq_eq_true (fun h => by simpa using h)⟩
  · have := List.all_eq_true.1 (row i o hi).2.1 e (by simpa using he)
    simp only [hb, Bool.not_true, Bool.false_or] at this
    simpa using this
  · have := List.all_eq_true.1 (List.all_eq_true.1 (row i o hi).2.2.1 t ht) j (List.mem_range.2 (lt_of_get hj))
    have hd : dstIs L j t = true := by simp [dstIs, hj, ho']
    simp only [hd, Bool.not_true, Bool.false_or] at this
    simpa using this
  · have := List.all_eq_true.1 (row i o hi).2.2.2.1 j (List.mem_range.2 hlt)
    have hd : dstIs L j t = true := by simp [dstIs, hj, h2]
    simp [h1, hd] at this
  · have := List.all_eq_true.1 (row i o hi).2.2.2.1 j (List.mem_range.2 hlt)
    have hs : stillAt L j = false := by simp [stillAt, hj, h2]
    simp only [Bool.and_eq_true, h1, hs, Bool.false_or] at this
    simpa using this.2
  · have := (row i o hi).2.2.2.2
    simp only [hst, Bool.not_true, Bool.false_or] at this
    have := List.all_eq_true.1 this k (by
      rcases hk with rfl | ⟨j, o', rfl, hj, ho'⟩
      · exact List.mem_cons_self ..
      · refine List.mem_cons_of_mem _ (List.mem_filterMap.2 ⟨j, List.mem_range.2 (lt_of_get hj), ?_⟩)
        simp [stillAt, hj, ho'])
    simp only [hw, Bool.not_true, Bool.false_or, Bool.or_eq_true] at this
    exact this.imp id (fun h => by simpa using h)

/-- The slots, once the operations of S have come up. -/
def tmF (L : List Oper) (tr : List TrE) (tm0 : Tm) (S : Nat → Bool) (t : Nat) : Option V :=
  match L.findIdx? (fun o => o.dst == some t) with
    | some j => if S j && Nat.blt t tm0.n then (match tr[j]? with | some e => some e.v | none => tm0.f t) else tm0.f t
    | none => tm0.f t
def tmS (L : List Oper) (tr : List TrE) (tm0 : Tm) (S : Nat → Bool) : Tm := ⟨tm0.n, tmF L tr tm0 S⟩
theorem Tm.ext' {a b : Tm} (h : a.n = b.n) (h2 : ∀ t, a.f t = b.f t) : a = b := by
  cases a; cases b
  simp only at h h2
  subst h
  congr 1
  exact funext h2

theorem who_some {L : List Oper} {t j : Nat} (h : L.findIdx? (fun o => o.dst == some t) = some j) : ∃ o, L[j]? = some o ∧ o.dst = some t := by
  obtain ⟨hj, h1, _⟩ := List.findIdx?_eq_some_iff_getElem.1 h
  exact ⟨L[j], List.getElem?_eq_getElem hj, by simpa using h1⟩

theorem tmS_put {L : List Oper} {an : List (List Nat)} {ws : List (Nat × Nat)} (hB : ChainOK L an ws) {tr : List TrE} {tm0 : Tm} {S S' : Nat → Bool} {i : Nat} {o : Oper} {e : TrE} (hi : L[i]? = some o) (he : tr[i]? = some e) (hS : ∀ j, S' j = (S j || j == i)) :
    (match o.dst with | some d => (tmS L tr tm0 S).set d e.v | none => tmS L tr tm0 S) = tmS L tr tm0 S' := by
  have uniq : ∀ {t j : Nat}, o.dst = some t → L.findIdx? (fun o => o.dst == some t) = some j → j = i := by
    intro t j h1 h2
    obtain ⟨o', g1, g2⟩ := who_some h2
    rcases Nat.lt_trichotomy j i with h | h | h
    · exact (hB.dst i j o o' t h hi g1 h1 g2).elim
    · exact h
    · exact (hB.dst j i o' o t h g1 hi g2 h1).elim
  have other : ∀ t : Nat, o.dst ≠ some t → tmF L tr tm0 S t = tmF L tr tm0 S' t := by
    intro t hne
    simp only [tmF]
    split
    · rename_i j hj
      have : j ≠ i := by
        rintro rfl
        obtain ⟨o', g1, g2⟩ := who_some hj
        rw [hi] at g1; injection g1 with g1; subst g1
        exact hne g2
      rw [hS j]
      simp [this]
    · rfl
  split
  · rename_i d hd
    refine Tm.ext' rfl fun t => ?_
    show upd tm0.n (tmF L tr tm0 S) d e.v t = tmF L tr tm0 S' t
    by_cases htd : t = d
    · subst htd
      have hw : L.findIdx? (fun o => o.dst == some t) = some i := by
        cases hf : L.findIdx? (fun o => o.dst == some t) with
        | none =>
          rw [List.findIdx?_eq_none_iff] at hf
          have := hf o (List.mem_of_getElem? hi)
          simp [hd] at this
        | some j => rw [uniq hd hf]
      by_cases hl : t < tm0.n
      · rw [upd_self hl]
        have hb : Nat.blt t tm0.n = true := by simpa using hl
        simp only [tmF, hw, he, hS i, hb]
        simp
      · rw [upd_out hl]
        have hb : Nat.blt t tm0.n = false := by
          cases hb : Nat.blt t tm0.n with
          | false => rfl
          | true => exact absurd (by simpa using hb) hl
        simp only [tmF, hw, he, hb]
        simp
    · rw [upd_ne htd]
      exact other t (by rw [hd]; intro h; injection h with h; exact htd h.symm)
  · rename_i hd
    refine Tm.ext' rfl fun t => other t (by rw [hd]; simp)

theorem tmS_none {L : List Oper} {tr : List TrE} {tm0 : Tm} {S : Nat → Bool} (h : ∀ j, j < L.length → S j = false) : tmS L tr tm0 S = tm0 := by
  refine Tm.ext' rfl fun t => ?_
  simp only [tmS, tmF]
  split
  · rename_i j hj
    obtain ⟨o', g1, g2⟩ := who_some hj
    simp [h j (lt_of_get g1)]
  · rfl
theorem tmS_cong {L : List Oper} {tr : List TrE} {tm0 : Tm} {S S' : Nat → Bool} (h : ∀ j, j < L.length → S j = S' j) : tmS L tr tm0 S = tmS L tr tm0 S' := by
  refine Tm.ext' rfl fun t => ?_
  simp only [tmS, tmF]
  split
  · rename_i j hj
    obtain ⟨o', g1, g2⟩ := who_some hj
    rw [h j (lt_of_get g1)]
  · rfl

theorem stAt_tm {L : List Oper} {an : List (List Nat)} {ws : List (Nat × Nat)} (hB : ChainOK L an ws) {tr : List TrE} {s : St} (hlen : tr.length = L.length) : ∀ i, i ≤ L.length → (stAt L tr s i).tm = tmS L tr s.tm (fun j => decide (j < i))
  | 0, _ => by rw [stAt_zero, tmS_none]; intro j hj; simp
  | i + 1, hi => by
    have h1 : L[i]? = some L[i] := List.getElem?_eq_getElem (by omega)
    have h2 : tr[i]? = some tr[i] := List.getElem?_eq_getElem (by omega)
    rw [stAt_succ h1 h2, put_tm]
    simp only [stAt_tm hB hlen i (by omega)]
    refine tmS_put hB h1 h2 fun j => ?_
    rcases Nat.lt_trichotomy j i with h | h | h
    · simp [h, Nat.lt_succ_of_lt h]
    · simp [h]
    · have h3 : ¬ j < i + 1 := by omega
      have h4 : ¬ j < i := by omega
      have h5 : ¬ j = i := by omega
      simp [h3, h4, h5]

theorem anc_lt {L : List Oper} {an : List (List Nat)} {ws : List (Nat × Nat)} (hB : ChainOK L an ws) : ∀ (i : Nat), i < L.length → ∀ j, j ∈ an.getD i [] → j < i := by
  intro i
  induction i using Nat.strongRecOn with
  | _ i ih =>
    intro hi j hj
    have h1 : L[i]? = some L[i] := List.getElem?_eq_getElem hi
    obtain ⟨e, he, hb, h2⟩ := hB.clos i _ j h1 hj
    have h3 := hB.back i _ e h1 he hb
    rcases h2 with rfl | h2
    · exact h3
    · exact Nat.lt_trans (ih e.on h3 (by omega) j h2) h3

/-- The semantics of one step, with what it answers given. -/
theorem step_sound (hT : TabOK C.P T) {all : List Oper} {o : Oper} {i : Nat} (hi : all[i]? = some o) {Q : Exit → Act → World → Prop} {s s' : St} {v : V} {m : Map} {a : Act} {w : World} {N : Act → World → Prop}
    (h : stepC T (callA C.P) all o s fun v1 s1 => v1 = v ∧ s1 = s') (hr : Rel C s m a w) (hN : ∀ m' a' w', Rel C (s'.put o.dst v) m' a' w' → N a' w')
    (hskip : ∀ m, Rel C s m a w → v = .val undef → s' = s → Rel C (s'.put o.dst v) m (a.put o.dst undef) w) : wpOp C.P all.toArray Q i N a w := by
  have hi' : all.toArray[i]? = some o := by simpa using hi
  have main : (match stillOp o.op with
        | true => opA T (callA C.P) o.op s fun v1 s1 => v1 = v ∧ s1 = s'
        | false => opA T (callA C.P) o.op s fun v1 s1 => nilA T o.type v1 s1 fun v1 s1 => v1 = v ∧ s1 = s') → o.wp C.P a w N Q := by
    intro h
    split at h
    · refine op_sound hT hr h ?_
      rintro v1 s1 m' u w' ⟨rfl, rfl⟩ hv hr'
      exact hN m' _ w' (hr'.put o.dst hv)
    · refine op_sound hT hr h ?_
      intro v1 s1 m' u w' hK hv hr'
      obtain ⟨v2, s2, m2, ⟨rfl, rfl⟩, hv, hr'⟩ := nil_ok hK hv hr'
      exact hN m2 _ w' (hr'.put o.dst hv)
  unfold wpOp
  rw [hi']
  simp only []
  unfold stepC at h
  split at h
  · rename_i hg
    rw [if_pos (by simp [Region.wanted, hg])]
    exact .inl (main h)
  · rename_i j want hg
    split at h
    · exact h.elim
    · rename_i d hd
      split at h
      · rename_i b hb
        obtain ⟨u, hu, hv⟩ := hr.tm.get hb
        have hv : u = .bool b := hv
        have hy : yielded all.toArray a.tmps j = some b := by
          have h1 : (all.toArray[j]?).bind (·.dst) = some d := by simpa using hd
          have h2 : a.tmps[d]? = some (.bool b) := by rw [← Array.getElem?_toList, hu, hv]
          simp only [yielded, h1, Option.bind_some, h2]
        rcases brT_cases h with ⟨hb', h2⟩ | ⟨hb', h2⟩
        · have : b = want := by simpa using hb'
          subst this
          rw [if_pos (by simp [Region.wanted, hg, hy])]
          exact .inl (main h2)
        · have : ¬ b = want := by intro e; subst e; simp at hb'
          rw [if_neg (by simp [Region.wanted, hg, hy, this])]
          exact hN m _ w (hskip m hr h2.1.symm h2.2.symm)
      · rename_i vs hb
        obtain ⟨u, hu, hv⟩ := hr.tm.get hb
        have hv : u = .tuple vs := hv
        have hy : yielded all.toArray a.tmps j = none := by
          have h1 : (all.toArray[j]?).bind (·.dst) = some d := by simpa using hd
          have h2 : a.tmps[d]? = some (.tuple vs) := by rw [← Array.getElem?_toList, hu, hv]
          simp only [yielded, h1, Option.bind_some, h2]
        rw [if_neg (by simp [Region.wanted, hg, hy])]
        exact hN m _ w (hskip m hr h.1.symm h.2.symm)
      · exact h.elim

theorem chain_go (hT : TabOK C.P T) {ops : Array Oper} {L : List Oper} (hL : ops = L.toArray) {an : List (List Nat)} {ws : List (Nat × Nat)} (hB : ChainOK L an ws) {tr : List TrE} {s : St} (hlen : tr.length = L.length)
    (hstep : ∀ i o e, L[i]? = some o → tr[i]? = some e → StepR T (callA C.P) L o (stAt L tr s i) e)
    (hagree : ∀ i k, (i, k) ∈ ws → ∀ o ∈ (([] : List (List (Nat × Bool))) ++ tr.map (·.nm)).getD i [], agr ((s.ob :: tr.map (·.ob)).getD k []) ((s.ob :: tr.map (·.ob)).getD i []) o)
    {Q : Exit → Act → World → Prop} (hQ : ∀ m a w, Rel C (stAt L tr s L.length) m a w → Q .normal a w) :
    ∀ (fuel : Nat) (listed : Array Bool) (rem : List Nat) (k : Nat) (m : Map) (a : Act) (w : World), listed.size = L.length → rem.length ≤ fuel → (∀ j, j < L.length → listed.getD j true = false → j ∈ rem) →
      (∀ i o, L[i]? = some o → listed.getD i false = true → ∀ e ∈ o.after, Region.binds .any e = true → listed.getD e.on false = true) → k ≤ L.length →
      (k = 0 ∨ ∃ j o', k = j + 1 ∧ L[j]? = some o' ∧ stillOp o'.op = false) → (∀ j o, L[j]? = some o → stillOp o.op = false → (listed.getD j false = true ↔ j < k)) →
      Rel C ⟨tmS L tr s.tm (fun j => listed.getD j false), (stAt L tr s k).ob⟩ m a w → wpAny C.P .any ops Q fuel listed a w := by
  subst hL
  -- all that is still between two times
  have same : ∀ d k, k + d ≤ L.length → (∀ j o, k ≤ j → j < k + d → L[j]? = some o → stillOp o.op = true) → (stAt L tr s (k + d)).ob = (stAt L tr s k).ob := by
    intro d
    induction d with
    | zero => intro k _ _; rfl
    | succ d ih =>
      intro k hk hs
      have h1 : L[k + d]? = some L[k + d] := List.getElem?_eq_getElem (by omega)
      have h2 : tr[k + d]? = some tr[k + d] := List.getElem?_eq_getElem (by omega)
      rw [← Nat.add_assoc, stAt_succ h1 h2, put_ob]
      have h3 := (hstep _ _ _ h1 h2).ob (hs _ _ (by omega) (by omega) h1)
      simp only [h3]
      exact ih k (by omega) (fun j o a1 a2 a3 => hs j o a1 (by omega) a3)
  have same' : ∀ k n, k ≤ n → n ≤ L.length → (∀ j o, k ≤ j → j < n → L[j]? = some o → stillOp o.op = true) → (stAt L tr s n).ob = (stAt L tr s k).ob := by
    intro k n h1 h2 h3
    obtain ⟨d, rfl⟩ := Nat.exists_eq_add_of_le h1
    exact same d k h2 h3
  have done : ∀ (listed : Array Bool) (k : Nat) (m : Map) (a : Act) (w : World), listed.size = L.length → k ≤ L.length → (∀ j o, L[j]? = some o → stillOp o.op = false → (listed.getD j false = true ↔ j < k)) →
      Rel C ⟨tmS L tr s.tm (fun j => listed.getD j false), (stAt L tr s k).ob⟩ m a w → (∀ j, j < L.length → listed.getD j false = true) → Q .normal a w := by
    intro listed k m a w hsz hk heff hr hall
    refine hQ m a w ?_
    have h1 : (stAt L tr s L.length).tm = tmS L tr s.tm (fun j => listed.getD j false) := by
      rw [stAt_tm hB hlen _ (Nat.le_refl _)]
      refine tmS_cong fun j hj => ?_
      rw [hall j hj]; simpa using hj
    have h2 : (stAt L tr s L.length).ob = (stAt L tr s k).ob := by
      refine same' k _ hk (Nat.le_refl _) fun j o a1 a2 a3 => ?_
      cases hst : stillOp o.op with
      | true => rfl
      | false => have := (heff j o a3 hst).1 (hall j a2); omega
    have : stAt L tr s L.length = ⟨tmS L tr s.tm (fun j => listed.getD j false), (stAt L tr s k).ob⟩ := by
      rw [← h1, ← h2]
    rw [this]; exact hr
  -- none ready: all are listed
  have full : ∀ (listed : Array Bool), listed.size = L.length → Region.ready .any L.toArray listed = [] → ∀ j, j < L.length → listed.getD j false = true := by
    intro listed hsz hready j
    induction j using Nat.strongRecOn with
    | _ j ih =>
      intro hj
      cases hl : listed.getD j true with
      | true =>
        have : j < listed.size := by omega
        simp [this] at hl ⊢; exact hl
      | false =>
        have h1 : L[j]? = some L[j] := List.getElem?_eq_getElem hj
        have : j ∈ Region.ready .any L.toArray listed := mem_ready.2 ⟨hl, L[j], by simp [hj], fun e he hb => ih e.on (hB.back j _ e h1 he hb) (by have := hB.back j _ e h1 he hb; omega)⟩
        rw [hready] at this
        cases this
  intro fuel
  induction fuel with
  | zero =>
    intro listed rem k m a w hsz hrem hmem hcl hk hk2 heff hr
    have hr0 : rem = [] := List.length_eq_zero_iff.1 (by omega)
    subst hr0
    have hnone : Region.ready .any L.toArray listed = [] := by
      refine List.eq_nil_iff_forall_not_mem.2 fun j hj => ?_
      obtain ⟨h1, o, ho, _⟩ := mem_ready.1 hj
      have := hmem j (by have := (Array.getElem?_eq_some_iff.1 ho).1; simpa using this) h1
      cases this
    exact ⟨hnone, done listed k m a w hsz hk heff hr (full listed hsz hnone)⟩
  | succ fuel ih =>
    intro listed rem k m a w hsz hrem hmem hcl hk hk2 heff hr
    refine ⟨fun hnone => done listed k m a w hsz hk heff hr (full listed hsz hnone), fun i hi => ?_⟩
    obtain ⟨hun, o, ho, haft⟩ := mem_ready.1 hi
    have ho' : L[i]? = some o := by simpa using ho
    have hilt : i < L.length := lt_of_get ho'
    have hf : listed.getD i false = false := by
      have : i < listed.size := by omega
      simp [this] at hun ⊢; exact hun
    have he : tr[i]? = some tr[i] := List.getElem?_eq_getElem (by omega)
    generalize tr[i] = e at he
    have hS := hstep i o e ho' he
    -- what must be ahead is listed
    have ancS : ∀ i, i < L.length → listed.getD i false = true → ∀ j, j ∈ an.getD i [] → listed.getD j false = true := by
      intro i
      induction i using Nat.strongRecOn with
      | _ i ih =>
        intro hi hl j hj
        have h1 : L[i]? = some L[i] := List.getElem?_eq_getElem hi
        obtain ⟨e, he, hb, h2⟩ := hB.clos i _ j h1 hj
        have h3 := hB.back i _ e h1 he hb
        have h4 := hcl i _ h1 hl e he hb
        rcases h2 with rfl | h2
        · exact h4
        · exact ih e.on h3 (by omega) h4 j h2
    have ancI : ∀ j, j ∈ an.getD i [] → listed.getD j false = true := by
      intro j hj
      obtain ⟨e, he, hb, h2⟩ := hB.clos i _ j ho' hj
      have h3 := hB.back i _ e ho' he hb
      have h4 := haft e he hb
      rcases h2 with rfl | h2
      · exact h4
      · exact ancS e.on (by omega) h4 j h2
    -- the slots that it looks at
    have slot : ∀ t, t ∈ o.looksAt L.toArray → (tmS L tr s.tm (fun j => listed.getD j false)).f t = (stAt L tr s i).tm.f t := by
      intro t ht
      rw [stAt_tm hB hlen i (by omega)]
      simp only [tmS, tmF]
      split
      · rename_i j hj
        obtain ⟨o2, g1, g2⟩ := who_some hj
        have h1 := hB.look i o t j o2 ho' ht g1 g2
        have h2 := anc_lt hB i hilt j h1
        simp [ancI j h1, h2]
      · rfl
    have hev : ∀ x ∈ o.op.operands.toList, St.ev ⟨tmS L tr s.tm (fun j => listed.getD j false), (stAt L tr s k).ob⟩ x = (stAt L tr s i).ev x := by
      intro x hx
      cases x with
      | tmp t => exact slot t (List.mem_append_left _ (List.mem_filterMap.2 ⟨.tmp t, hx, rfl⟩))
      | _ => rfl
    have hgd : ∀ j w d, o.guard = some (j, w) → (L[j]?).bind (·.dst) = some d → (tmS L tr s.tm (fun j => listed.getD j false)).f d = (stAt L tr s i).tm.f d := by
      intro j w d hg hd
      refine slot d (List.mem_append_right _ ?_)
      rw [hg]
      have : (L.toArray[j]?).bind (·.dst) = some d := by simpa using hd
      simp only [this, Option.toList_some, List.mem_singleton]
    have hnext : ∀ {k' : Nat} {m' : Map} {a' : Act} {w' : World}, k' ≤ L.length → (k' = 0 ∨ ∃ j o', k' = j + 1 ∧ L[j]? = some o' ∧ stillOp o'.op = false) →
        (∀ j o, L[j]? = some o → stillOp o.op = false → ((listed.setIfInBounds i true).getD j false = true ↔ j < k')) →
        Rel C (St.put ⟨tmS L tr s.tm (fun j => listed.getD j false), (stAt L tr s k').ob⟩ o.dst e.v) m' a' w' → wpAny C.P .any L.toArray Q fuel (listed.setIfInBounds i true) a' w' := by
      intro k' m' a' w' h1 h2 h3 h4
      have hset : ∀ j, (listed.setIfInBounds i true).getD j false = (listed.getD j false || j == i) := by
        intro j
        by_cases hji : i = j
        · subst hji
          have : i < listed.size := by omega
          simp [this]
        · rw [getD_set_ne false hji]
          have : ¬ j = i := fun e => hji e.symm
          simp [this]
      have himem : i ∈ rem := hmem i hilt hun
      refine ih (listed.setIfInBounds i true) (rem.erase i) k' m' a' w' (by simpa using hsz) (by rw [List.length_erase_of_mem himem]; omega) ?_ ?_ h1 h2 h3 ?_
      · intro j hj hjl
        have hne : j ≠ i := by
          rintro rfl
          have : j < listed.size := by omega
          simp [this] at hjl
        rw [getD_set_ne true (Ne.symm hne)] at hjl
        exact (List.mem_erase_of_ne hne).2 (hmem j hj hjl)
      · intro j oj hoj hjl e' he' hb'
        rw [hset] at hjl
        rw [hset]
        simp only [Bool.or_eq_true, beq_iff_eq] at hjl
        rcases hjl with hjl | rfl
        · rw [hcl j oj hoj hjl e' he' hb']; rfl
        · rw [ho'] at hoj; injection hoj with hoj; subst hoj
          rw [haft e' he' hb']; rfl
      · have : St.put ⟨tmS L tr s.tm (fun j => listed.getD j false), (stAt L tr s k').ob⟩ o.dst e.v = ⟨tmS L tr s.tm (fun j => (listed.setIfInBounds i true).getD j false), (stAt L tr s k').ob⟩ := by
          have h5 := tmS_put hB (tm0 := s.tm) (S := fun j => listed.getD j false) (S' := fun j => (listed.setIfInBounds i true).getD j false) ho' he hset
          rw [← h5]
          cases o.dst <;> rfl
        rw [this] at h4
        exact h4
    cases hst : stillOp o.op with
    | true =>
      have hwin : winB L an i k = true := by
        refine List.all_eq_true.2 fun j hj => ?_
        have hj := List.mem_range.1 hj
        have h1 : L[j]? = some L[j] := List.getElem?_eq_getElem hj
        cases hsj : stillOp (L[j]).op with
        | true => simp [stillAt, h1, hsj]
        | false =>
          have h2 := heff j _ h1 hsj
          have h3 : stillAt L j = false := by simp [stillAt, h1, hsj]
          simp only [h3, Bool.false_or, Bool.and_eq_true, Bool.or_eq_true, Bool.not_eq_true']
          refine ⟨?_, ?_⟩
          · by_cases hin : j ∈ an.getD i []
            · right; simpa using h2.1 (ancI j hin)
            · left; simpa using hin
          · by_cases hjk : j < k
            · right
              have h4 := h2.2 hjk
              have : i ∉ an.getD j [] := fun hin => by rw [ancS j hj h4 i hin] at hf; cases hf
              simpa using this
            · left
              cases hb : Nat.blt j k with
              | false => rfl
              | true => exact absurd (by simpa using hb) hjk
      have hobs : ∀ n ∈ namesOf (stAt L tr s i) o.op, agr (stAt L tr s k).ob (stAt L tr s i).ob n := by
        intro n hn
        rcases hB.win i k o ho' hst hk2 hwin with hnear | hmemw
        · simp only [nearB, Bool.and_eq_true] at hnear
          have hki := Nat.le_of_ble_eq_true hnear.1
          have hsame : (stAt L tr s i).ob = (stAt L tr s k).ob := by
            refine same' k i hki (by omega) fun j oj a1 a2 a3 => ?_
            have := List.all_eq_true.1 hnear.2 j (List.mem_range.2 (lt_of_get a3))
            simp only [stillAt, a3, Bool.or_eq_true] at this
            rcases this with (h | h) | h
            · exact h
            · exact absurd (by simpa using h : j < k) (by omega)
            · exact absurd (Nat.le_of_ble_eq_true h) (by omega)
          rw [hsame]
          unfold agr
          split <;> rfl
        · have := hagree i k hmemw n (by
            simp only [List.nil_append, List.getD_eq_getElem?_getD, List.getElem?_map, he, Option.map_some, Option.getD_some, hS.nm]
            exact hn)
          rw [stAt_obs hlen hk, stAt_obs hlen (by omega)] at this
          exact this
      have hs2 := hS.run ⟨tmS L tr s.tm (fun j => listed.getD j false), (stAt L tr s k).ob⟩ hev hgd (fun _ => hobs) (fun h => by rw [hst] at h; cases h) (fun v1 s1 => v1 = e.v ∧ s1 = ⟨tmS L tr s.tm (fun j => listed.getD j false), (stAt L tr s k).ob⟩) (by rw [hst]; exact ⟨rfl, rfl⟩)
      refine step_sound hT ho' hs2 hr (fun m' a' w' hr' => hnext hk hk2 (fun j oj hoj hsj => ?_) hr') (fun m hr' hv _ => by rw [hv]; exact hr'.put o.dst VR.self)
      have hne : i ≠ j := by rintro rfl; rw [ho'] at hoj; injection hoj with hoj; subst hoj; rw [hst] at hsj; cases hsj
      rw [getD_set_ne false hne]
      exact heff j oj hoj hsj
    | false =>
      -- all operations on memory ahead of it have come up, and no others
      have hki : k ≤ i := by
        rcases Nat.lt_or_ge i k with h | h
        · have := (heff i o ho' hst).2 h
          rw [hf] at this; cases this
        · exact h
      have hob : (stAt L tr s i).ob = (stAt L tr s k).ob := by
        refine same' k i hki (by omega) fun j oj a1 a2 a3 => ?_
        cases hsj : stillOp oj.op with
        | true => rfl
        | false =>
          have := (heff j oj a3 hsj).1 (ancI j (hB.eff i j o oj a2 ho' a3 hst hsj))
          omega
      have hs2 := hS.run ⟨tmS L tr s.tm (fun j => listed.getD j false), (stAt L tr s k).ob⟩ hev hgd (fun h => by rw [hst] at h; cases h) (fun _ => hob.symm) (fun v1 s1 => v1 = e.v ∧ s1 = ⟨tmS L tr s.tm (fun j => listed.getD j false), e.ob⟩) (by rw [hst]; exact ⟨rfl, rfl⟩)
      have hob' : (stAt L tr s (i + 1)).ob = e.ob := by rw [stAt_succ ho' he, put_ob]
      refine step_sound hT ho' hs2 hr (fun m' a' w' hr' => hnext (k' := i + 1) (by omega) (.inr ⟨i, o, rfl, ho', hst⟩) (fun j oj hoj hsj => ?_) (by rw [hob']; exact hr')) (fun m hr' hv hss => by rw [hv, hss]; exact hr'.put o.dst VR.self)
      by_cases hji : i = j
      · subst hji
        have : i < listed.size := by omega
        simp [this]
      · rw [getD_set_ne false hji, heff j oj hoj hsj]
        refine ⟨fun h => by omega, fun h => ?_⟩
        exact (heff j oj hoj hsj).1 (ancI j (hB.eff i j o oj (by omega) ho' hoj hst hsj))

theorem region_chain (hT : TabOK C.P T) {ops : Array Oper} {id : Nat} {ws : List (Nat × Nat)} {K : St → Prop} {s : St} {m : Map} {a : Act} {w : World} {Q : Exit → Act → World → Prop} (hB : chainB ops.toList (ancs ops.toList []) ws = true)
    (h : chainA T (callA C.P) ops.toList ws K ops.toList [s.ob] [] s) (hr : Rel C s m a w) (hQ : ∀ s' m' a' w', K s' → Rel C s' m' a' w' → Q .normal a' w') : (Code.region id ops true).wp C.P Q a w := by
  have hB := chainB_ok hB
  obtain ⟨tr, hlen, hag, hstep⟩ := chain_trace (callA_run C.P) _ _ _ _ h
  obtain ⟨hK, hag⟩ := agreeP_out hag
  refine wp_region_any hT.mix ?_
  have hsz : ops.size = ops.toList.length := by simp
  refine chain_go hT (L := ops.toList) (by simp) hB hlen hstep hag (fun m a w hr => hQ _ m a w hK hr) ops.size (Array.replicate ops.size false) (List.range ops.size) 0 m a { w with drawn := w.drawn + 1 }
    (by simp) (by simp) (fun j hj _ => by simpa using hj) (fun i o hi hl => ?_) (Nat.zero_le _) (.inl rfl) (fun j o hj hs => ?_) ?_
  · have : i < ops.size := by have := lt_of_get hi; simpa using this
    simp [this] at hl
  · have : j < ops.size := by have := lt_of_get hj; simpa using this
    simp [this]
  · rw [stAt_zero, tmS_none (fun j hj => by have : j < ops.size := by simpa using hj
                                            simp [this])]
    exact hr.drew
end
end Go.Sim
namespace Go.Sim
open Go Go.RowKit

section
variable {C : Ctx} {T : Tab} {s : St} {m : Map} {a : Act} {w : World} {Q : Exit → Act → World → Prop}

theorem ops_sound (hT : TabOK C.P T) {all : List Oper} {K : St → Prop} (hQ : ∀ s' m' a' w', K s' → Rel C s' m' a' w' → Q .normal a' w') :
    ∀ (l : List Oper) (s : St) (m : Map) (a : Act) (w : World), opsA T (callA C.P) all K l s → Rel C s m a w → wpList C.P all.toArray Q l a w
  | [], s, m, a, w, h, hr => hQ s m a w h hr
  | o :: rest, s, m, a, w, h, hr => by
    unfold wpList
    simp only [opsA] at h
    replace h := pause_out h
    split at h
    · rename_i hg
      rw [if_pos (by simp [Region.wanted, hg])]
      refine .inl (op_sound hT hr h ?_)
      intro v s' m' u w' hK hv hr'
      obtain ⟨v, s', m', hK, hv, hr'⟩ := nil_ok hK hv hr'
      exact ops_sound hT hQ rest _ m' _ w' hK (hr'.put o.dst hv)
    · rename_i j want hg
      split at h
      · exact h.elim
      · rename_i d hd
        split at h
        · rename_i b hb
          obtain ⟨u, hu, hv⟩ := hr.tm.get hb
          have hv : u = .bool b := hv
          have hy : yielded all.toArray a.tmps j = some b := by
            have h1 : (all.toArray[j]?).bind (·.dst) = some d := by simpa using hd
            have h2 : a.tmps[d]? = some (.bool b) := by rw [← Array.getElem?_toList, hu, hv]
            simp only [yielded, h1, Option.bind_some, h2]
          rcases brT_cases h with ⟨hb', h2⟩ | ⟨hb', h2⟩
          · have : b = want := by simpa using hb'
            subst this
            rw [if_pos (by simp [Region.wanted, hg, hy])]
            refine .inl (op_sound hT hr h2 ?_)
            intro v s' m' u w' hK hv hr'
            obtain ⟨v, s', m', hK, hv, hr'⟩ := nil_ok hK hv hr'
            exact ops_sound hT hQ rest _ m' _ w' hK (hr'.put o.dst hv)
          · have : ¬ b = want := by intro e; subst e; simp at hb'
            rw [if_neg (by simp [Region.wanted, hg, hy, this])]
            exact ops_sound hT hQ rest _ m _ w h2 (hr.put o.dst VR.self)
        · rename_i vs hb
          obtain ⟨u, hu, hv⟩ := hr.tm.get hb
          have hv : u = .tuple vs := hv
          have hy : yielded all.toArray a.tmps j = none := by
            have h1 : (all.toArray[j]?).bind (·.dst) = some d := by simpa using hd
            have h2 : a.tmps[d]? = some (.tuple vs) := by rw [← Array.getElem?_toList, hu, hv]
            simp only [yielded, h1, Option.bind_some, h2]
          rw [if_neg (by simp [Region.wanted, hg, hy])]
          exact ops_sound hT hQ rest _ m _ w h (hr.put o.dst VR.self)
        · exact h.elim

theorem opsA_append {all : List Oper} {CALL : FuncId → List V → St → (V → St → Prop) → Prop} {K : St → Prop} : ∀ (l l' : List Oper), opsA T CALL all K (l ++ l') = opsA T CALL all (opsA T CALL all K l') l
  | [], _ => rfl
  | o :: l, l' => by
    funext s
    simp only [List.cons_append, opsA, opsA_append l l']

theorem ops_still (hT : TabOK C.P T) {all : List Oper} {K : St → Prop} {Qa : Act → Prop} {w : World} (hQ : ∀ s' m' a', K s' → Rel C s' m' a' w → Qa a') :
    ∀ (l : List Oper) (s : St) (m : Map) (a : Act), l.all (fun o => pureOp o.op) = true → opsA T (callA C.P) all K l s → Rel C s m a w → wpStill C.P all.toArray w Qa l a
  | [], s, m, a, _, h, hr => hQ s m a h hr
  | o :: rest, s, m, a, hp, h, hr => by
    rw [List.all_cons, Bool.and_eq_true] at hp
    obtain ⟨hp1, hp⟩ := hp
    have key : ∀ {s : St} {m : Map}, Rel C s m a w → (opA T (callA C.P) o.op s fun v s' => nilA T o.type v s' fun v s' => opsA T (callA C.P) all K rest (s'.put o.dst v)) → o.still C.P a w (wpStill C.P all.toArray w Qa rest) := by
      intro s m hr h
      obtain ⟨u, hrun, hn⟩ := Still.op_still (next := fun a' w' => w' = w → wpStill C.P all.toArray w Qa rest a') hT hr hp1 h (fun v s' m' u w' hK hv hr' hw => by
        subst hw
        obtain ⟨v, s', m', hK, hv, hr'⟩ := nil_ok hK hv hr'
        exact ops_still hT hQ rest _ m' _ hp hK (hr'.put o.dst hv))
      unfold Oper.still
      rw [hrun, Oper.stillUpon_value]
      exact hn rfl
    unfold wpStill
    simp only [opsA] at h
    replace h := pause_out h
    split at h
    · rename_i hg
      rw [if_pos (by simp [Region.wanted, hg])]
      exact key hr h
    · rename_i j want hg
      split at h
      · exact h.elim
      · rename_i d hd
        split at h
        · rename_i b hb
          obtain ⟨u, hu, hv⟩ := hr.tm.get hb
          have hv : u = .bool b := hv
          have hy : yielded all.toArray a.tmps j = some b := by
            have h1 : (all.toArray[j]?).bind (·.dst) = some d := by simpa using hd
            have h2 : a.tmps[d]? = some (.bool b) := by rw [← Array.getElem?_toList, hu, hv]
            simp only [yielded, h1, Option.bind_some, h2]
          rcases brT_cases h with ⟨hb', h2⟩ | ⟨hb', h2⟩
          · have : b = want := by simpa using hb'
            subst this
            rw [if_pos (by simp [Region.wanted, hg, hy])]
            exact key hr h2
          · have : ¬ b = want := by intro e; subst e; simp at hb'
            rw [if_neg (by simp [Region.wanted, hg, hy, this])]
            exact ops_still hT hQ rest _ m _ hp h2 (hr.put o.dst VR.self)
        · rename_i vs hb
          obtain ⟨u, hu, hv⟩ := hr.tm.get hb
          have hv : u = .tuple vs := hv
          have hy : yielded all.toArray a.tmps j = none := by
            have h1 : (all.toArray[j]?).bind (·.dst) = some d := by simpa using hd
            have h2 : a.tmps[d]? = some (.tuple vs) := by rw [← Array.getElem?_toList, hu, hv]
            simp only [yielded, h1, Option.bind_some, h2]
          rw [if_neg (by simp [Region.wanted, hg, hy])]
          exact ops_still hT hQ rest _ m _ hp h (hr.put o.dst VR.self)
        · exact h.elim

theorem region_drawn (hT : TabOK C.P T) {ops : Array Oper} {id n : Nat} {K : St → Prop} (hB : drawnB ops n = true) (h : opsA T (callA C.P) ops.toList K ops.toList s) (hr : Rel C s m a w) (hQ : ∀ s' m' a' w', K s' → Rel C s' m' a' w' → Q .normal a' w') : (Code.region id ops true).wp C.P Q a w := by
  simp only [drawnB, Bool.and_eq_true, Bool.or_eq_true, decide_eq_true_eq] at hB
  obtain ⟨hp, hB⟩ := hB
  have hr' : Rel C s m a { w with drawn := w.drawn + 1 } := hr.drew
  rcases hB with hB | ⟨hn, hB⟩
  · have h1 : opsA T (callA C.P) ops.toList (opsA T (callA C.P) ops.toList K (ops.toList.drop n)) (ops.toList.take n) s := by
      rw [← opsA_append, List.take_append_drop]; exact h
    have := wp_region_still_tail (id := id) (Q := Q) (a := a) (w := w) (l := ops.toList) n hT.mix (by simpa using hB)
      (ops_still (all := ops.toList) hT (fun s' m' a' hK hr'' => ops_sound hT hQ _ s' m' a' _ hK hr'') _ s m a hp h1 hr')
    simpa using this
  · subst hn
    have hp : ops.toList.all (fun o => pureOp o.op) = true := by
      rw [show ops.size = ops.toList.length by simp, List.take_length] at hp
      exact hp
    refine wp_region_still hT.mix hB ?_
    have := ops_still (all := ops.toList) (Qa := fun a' => Q .normal a' { w with drawn := w.drawn + 1 }) hT (fun s' m' a' hK hr'' => hQ s' m' a' _ hK hr'') ops.toList s m a hp h hr'
    simpa using this

/-! ### Renaming -/
theorem renO_live {ids : List Nat} {x x' : Ob} (h : renO ids x = some x') : x'.live = x.live := by
  cases x with
  | dead => simp [renO] at h; subst h; rfl
  | row => simp [renO] at h; subst h; rfl
  | box ty cs => simp only [renO] at h; obtain ⟨cs', _, rfl⟩ := Option.map_eq_some_iff.1 h; rfl

section
variable {ob ob' : List Ob} {ids : List Nat}
theorem ren_bad (hob : renOs ids ob ids = some ob') {E : Nat → Prop} {b : Nat} (h : badOf E ob' (inMap m ids) b) : badOf E ob m b := by
  rcases h with h | ⟨i, x, base, h1, h2, h3⟩
  · exact .inl h
  · obtain ⟨q, hq, hmq⟩ := inMap_at h3
    obtain ⟨g1, g2⟩ := renOs_get hob
    obtain ⟨y, y', k1, k2, k3⟩ := g2 i q hq
    rw [h1] at k3; injection k3 with k3; subst k3
    exact .inr ⟨q, y, base, k1, by rw [← renO_live k2]; exact h2, hmq⟩

theorem renC_ok (hn : nodup ids = true) (hob : renOs ids ob ids = some ob') {E : Nat → Prop} {c c' : V} {v : Value} (hc : renC ids c = some c') (h : CR w (badOf E ob m) ob m c v) : CR w (badOf E ob' (inMap m ids)) ob' (inMap m ids) c' v := by
  have hfr : ∀ {c : V} {v : Value}, FR w (badOf E ob m) c v → FR w (badOf E ob' (inMap m ids)) c v := fun hf => FR.mono (fun _ _ _ _ _ h => h) (Nat.le_refl _) (fun b _ hb hb' => hb (ren_bad hob hb')) hf
  have obj : ∀ {o p : Nat}, pos o ids = some p → inMap m ids p = m o ∧ ∃ x x', ob[o]? = some x ∧ renO ids x = some x' ∧ ob'[p]? = some x' := by
    intro o p hp
    have hq := pos_some hp
    exact ⟨by simp only [inMap, hq], (renOs_get hob).2 p o hq⟩
  cases c with
  | val u => simp [renC] at hc; subst hc; exact h
  | any => simp [renC] at hc; subst hc; trivial
  | fz sz n g => simp [renC] at hc; subst hc; exact hfr h
  | fptr cs =>
    simp [renC] at hc; subst hc
    obtain ⟨b, off, u, rfl, h1, h2, h3⟩ := h
    exact ⟨b, off, u, rfl, fun hb => h1 (ren_bad hob hb), h2, fun j x hj => ⟨(h3 j x hj).1, hfr (h3 j x hj).2⟩⟩
  | row o off len =>
    simp only [renC] at hc
    obtain ⟨p, hp, rfl⟩ := Option.map_eq_some_iff.1 hc
    obtain ⟨hmp, x, x', g1, g2, g3⟩ := obj hp
    simp only [CR, g1] at h
    simp only [CR, g3, hmp]
    cases x with
    | dead => simp [renO] at g2; subst g2; exact h
    | row => simp [renO] at g2; subst g2; exact h
    | box ty cs => simp only [renO] at g2; obtain ⟨cs', _, rfl⟩ := Option.map_eq_some_iff.1 g2; exact h
  | ptr o j =>
    simp only [renC] at hc
    obtain ⟨p, hp, rfl⟩ := Option.map_eq_some_iff.1 hc
    obtain ⟨hmp, x, x', g1, g2, g3⟩ := obj hp
    simp only [CR, g1] at h
    simp only [CR, g3, hmp]
    cases x with
    | dead => simp [renO] at g2; subst g2; exact h
    | row => simp [renO] at g2; subst g2; exact h
    | box ty cs => simp only [renO] at g2; obtain ⟨cs', _, rfl⟩ := Option.map_eq_some_iff.1 g2; exact h
  | eptr o i j =>
    simp only [renC] at hc
    obtain ⟨p, hp, rfl⟩ := Option.map_eq_some_iff.1 hc
    obtain ⟨hmp, x, x', g1, g2, g3⟩ := obj hp
    simp only [CR, g1] at h
    simp only [CR, g3, hmp]
    cases x with
    | dead => simp [renO] at g2; subst g2; exact h
    | row => simp [renO] at g2; subst g2; exact h
    | box ty cs => simp only [renO] at g2; obtain ⟨cs', _, rfl⟩ := Option.map_eq_some_iff.1 g2; exact h
  | agg _ => simp [renC] at hc
  | tup _ => simp [renC] at hc

theorem renCs_ok (hn : nodup ids = true) (hob : renOs ids ob ids = some ob') {E : Nat → Prop} : ∀ {cs cs' : List V} {us : List Value}, renCs ids cs = some cs' → All2 (CR w (badOf E ob m) ob m) cs us → All2 (CR w (badOf E ob' (inMap m ids)) ob' (inMap m ids)) cs' us
  | [], cs', [], h, _ => by simp [renCs] at h; subst h; trivial
  | c :: cs, cs', u :: us, h, hv => by
    simp only [renCs] at h
    split at h
    · rename_i c1 cs1 h1 h2
      injection h with h; subst h
      exact ⟨renC_ok hn hob h1 hv.1, renCs_ok hn hob h2 hv.2⟩
    · cases h
  | [], _, _ :: _, _, hv => hv.elim
  | _ :: _, _, [], _, hv => hv.elim

theorem renC_cell {c c' : V} (h : renC ids c = some c') : (∀ cs, c' ≠ .agg cs) ∧ ∀ cs, c' ≠ .tup cs := by
  cases c <;> simp only [renC] at h
  all_goals first
    | (obtain ⟨p, _, rfl⟩ := Option.map_eq_some_iff.1 h; exact ⟨by simp, by simp⟩)
    | (cases h; done)
    | (cases h; exact ⟨by simp, by simp⟩)

theorem VA_of_CR {bad : Nat → Prop} {c : V} {v : Value} (h : CR w bad ob m c v) : VA w bad ob m c v := by
  cases c <;> first | exact h | exact h.elim

theorem renA_ok (hn : nodup ids = true) (hob : renOs ids ob ids = some ob') {E : Nat → Prop} {c c' : V} {v : Value} (hc : renA ids c = some c') (h : VA w (badOf E ob m) ob m c v) : VA w (badOf E ob' (inMap m ids)) ob' (inMap m ids) c' v := by
  cases c with
  | agg cs =>
    simp only [renA] at hc
    obtain ⟨cs', h1, rfl⟩ := Option.map_eq_some_iff.1 hc
    obtain ⟨us, rfl, h2⟩ := h
    exact ⟨us, rfl, renCs_ok hn hob h1 h2⟩
  | tup _ => exact h.elim
  | val u => exact VA_of_CR (renC_ok hn hob (c := .val u) hc h)
  | any => exact VA_of_CR (renC_ok hn hob (c := .any) hc h)
  | fz sz n g => exact VA_of_CR (renC_ok hn hob (c := .fz sz n g) hc h)
  | row o off len => exact VA_of_CR (renC_ok hn hob (c := .row o off len) hc h)
  | ptr o j => exact VA_of_CR (renC_ok hn hob (c := .ptr o j) hc h)
  | eptr o i j => exact VA_of_CR (renC_ok hn hob (c := .eptr o i j) hc h)
  | fptr cs => exact VA_of_CR (renC_ok hn hob (c := .fptr cs) hc h)

theorem VR_of_VA {bad : Nat → Prop} {c : V} {v : Value} (h : VA w bad ob m c v) : VR w bad ob m c v := by
  cases c <;> first | exact h | exact h.elim

theorem renAs_ok (hn : nodup ids = true) (hob : renOs ids ob ids = some ob') {E : Nat → Prop} : ∀ {cs cs' : List V} {us : List Value}, renAs ids cs = some cs' → All2 (VA w (badOf E ob m) ob m) cs us → All2 (VA w (badOf E ob' (inMap m ids)) ob' (inMap m ids)) cs' us
  | [], cs', [], h, _ => by simp [renAs] at h; subst h; trivial
  | c :: cs, cs', u :: us, h, hv => by
    simp only [renAs] at h
    split at h
    · rename_i c1 cs1 h1 h2
      injection h with h; subst h
      exact ⟨renA_ok hn hob h1 hv.1, renAs_ok hn hob h2 hv.2⟩
    · cases h
  | [], _, _ :: _, _, hv => hv.elim
  | _ :: _, _, [], _, hv => hv.elim

theorem renV_ok (hn : nodup ids = true) (hob : renOs ids ob ids = some ob') {E : Nat → Prop} {c c' : V} {v : Value} (hc : renV ids c = some c') (h : VR w (badOf E ob m) ob m c v) : VR w (badOf E ob' (inMap m ids)) ob' (inMap m ids) c' v := by
  cases c with
  | tup cs =>
    simp only [renV] at hc
    obtain ⟨cs', h1, rfl⟩ := Option.map_eq_some_iff.1 hc
    obtain ⟨us, rfl, h2⟩ := h
    exact ⟨us, rfl, renAs_ok hn hob h1 h2⟩
  | agg cs => exact VR_of_VA (renA_ok hn hob (c := .agg cs) hc h)
  | val u => exact VR_of_VA (renA_ok hn hob (c := .val u) hc h)
  | any => exact VR_of_VA (renA_ok hn hob (c := .any) hc h)
  | fz sz n g => exact VR_of_VA (renA_ok hn hob (c := .fz sz n g) hc h)
  | row o off len => exact VR_of_VA (renA_ok hn hob (c := .row o off len) hc h)
  | ptr o j => exact VR_of_VA (renA_ok hn hob (c := .ptr o j) hc h)
  | eptr o i j => exact VR_of_VA (renA_ok hn hob (c := .eptr o i j) hc h)
  | fptr cs => exact VR_of_VA (renA_ok hn hob (c := .fptr cs) hc h)

theorem pre_at : ∀ {i p : Nat} {l : List Nat}, pre i p l = true → p ≤ l.length ∧ ∀ o, o < p → l[o]? = some (i + o)
  | i, 0, l, _ => ⟨Nat.zero_le _, fun o h => absurd h (by omega)⟩
  | i, p + 1, x :: xs, h => by
    simp only [pre, Bool.and_eq_true] at h
    obtain ⟨g1, g2⟩ := pre_at h.2
    have := Nat.eq_of_beq_eq_true h.1
    subst this
    refine ⟨by simp; omega, fun o ho => ?_⟩
    cases o with
    | zero => rfl
    | succ o => have := g2 o (by omega); simp; rw [this]; congr 1; omega
  | i, p + 1, [], h => by simp [pre] at h

theorem Mem.canon (hm : Mem C ob m w) (hn : nodup ids = true) (hp : C.p ≤ ids.length ∧ ∀ o, o < C.p → ids[o]? = some o) (hob : renOs ids ob ids = some ob') : Mem C ob' (inMap m ids) w where
  ok i x hx := by
    obtain ⟨g1, g2⟩ := renOs_get hob
    have hil := lt_of_get hx
    obtain ⟨q, hq⟩ : ∃ q, ids[i]? = some q := ⟨_, List.getElem?_eq_getElem (by omega)⟩
    obtain ⟨y, y', k1, k2, k3⟩ := g2 i q hq
    rw [hx] at k3; injection k3 with k3; subst k3
    have hO := hm.ok q y k1
    have hmi : inMap m ids i = m q := by simp only [inMap, hq]
    cases y with
    | dead => simp [renO] at k2; subst k2; trivial
    | row ty sz n g =>
      simp [renO] at k2; subst k2
      simp only [OR, hmi] at hO ⊢
      cases hmq : m q with
      | none => rw [hmq] at hO; exact hO
      | some p =>
        obtain ⟨b, base⟩ := p
        rw [hmq] at hO
        obtain ⟨arr, h1, h2⟩ := hO
        refine ⟨arr, h1, fun k hk => ⟨(h2 k hk).1, fun j c hj => ?_⟩⟩
        obtain ⟨u, hu, hf⟩ := (h2 k hk).2 j c hj
        exact ⟨u, hu, FR.mono (fun _ _ _ _ _ h => h) (Nat.le_refl _) (fun b _ hb hb' => hb (ren_bad hob hb')) hf⟩
    | box ty cs =>
      simp only [renO] at k2
      obtain ⟨cs', h1, rfl⟩ := Option.map_eq_some_iff.1 k2
      obtain ⟨b, arr, h2, h3, h4⟩ := hO
      exact ⟨b, arr, hmi.trans h2, h3, renCs_ok hn hob h1 h4⟩
  inj i i' x x' b base base' hx hx' hl hl' h1 h2 := by
    obtain ⟨q, hq, hmq⟩ := inMap_at h1
    obtain ⟨q', hq', hmq'⟩ := inMap_at h2
    obtain ⟨g1, g2⟩ := renOs_get hob
    obtain ⟨y, y', k1, k2, k3⟩ := g2 i q hq
    obtain ⟨z, z', j1, j2, j3⟩ := g2 i' q' hq'
    rw [hx] at k3; injection k3 with k3; subst k3
    rw [hx'] at j3; injection j3 with j3; subst j3
    have := hm.inj q q' y z b base base' k1 j1 (by rw [← renO_live k2]; exact hl) (by rw [← renO_live j2]; exact hl') hmq hmq'
    subst this
    exact nodup_inj hn hq hq'
  blk i x b base hx hl h1 := by
    obtain ⟨q, hq, hmq⟩ := inMap_at h1
    obtain ⟨g1, g2⟩ := renOs_get hob
    obtain ⟨y, y', k1, k2, k3⟩ := g2 i q hq
    rw [hx] at k3; injection k3 with k3; subst k3
    exact hm.blk q y b base k1 (by rw [← renO_live k2]; exact hl) hmq
  kp := hm.kp
  eb := hm.eb
  pl := by rw [(renOs_get hob).1]; exact hp.1
  pm o ho := by simp only [inMap, hp.2 o ho]; exact hm.pm o ho

theorem keepTm_ok (hn : nodup ids = true) (hob : renOs ids ob ids = some ob') {E : Nat → Prop} {t : Tm} {us : List Value} (h0 : TmR (VR w (badOf E ob m) ob m) t us) : ∀ {live : List Nat} {t' : Tm}, keepTm ids t live = some t' → TmR (VR w (badOf E ob' (inMap m ids)) ob' (inMap m ids)) t' us
  | [], t', h => by simp only [keepTm, Option.some.injEq] at h; subst h; exact TmR.none h0.len
  | i :: l, t', h => by
    simp only [keepTm] at h
    split at h
    · exact keepTm_ok hn hob h0 h
    · rename_i c hc
      split at h
      · rename_i c' r h1 h2
        injection h with h; subst h
        obtain ⟨u, hu, hv⟩ := h0.get hc
        have h3 := (keepTm_ok hn hob h0 h2).set i (renV_ok hn hob h1 hv)
        have h4 : us.set i u = us := by
          have := lt_of_get hu
          refine List.ext_getElem? fun q => ?_
          by_cases hq : i = q
          · subst hq; rw [List.getElem?_set_self this, hu]
          · rw [List.getElem?_set_ne hq]
        rw [h4] at h3
        exact h3
      · cases h
end

theorem canon_ok {p : Nat} {live ids : List Nat} {K : St → Prop} (h : canon p live ids s K) (hp : C.p = p) (hr : Rel C s m a w) : ∃ s1 m1, K s1 ∧ Rel C s1 m1 a w := by
  obtain ⟨h1, h⟩ := br_true h
  rw [Bool.and_eq_true] at h1
  obtain ⟨hn, hpre⟩ := h1
  obtain ⟨tm, htm, h⟩ := opt_some h
  obtain ⟨ob, hob, hK⟩ := opt_some h
  clear h
  have := pre_at hpre
  simp only [Nat.zero_add] at this
  subst hp
  exact ⟨⟨tm, ob⟩, inMap m ids, hK, hr.df, keepTm_ok hn hob hr.tm htm, hr.mem.canon hn this hob⟩

/-! ### Nil taken for an empty row -/
theorem promo_ok {K : St → Prop} : ∀ {pr : List (Nat × Nat × Nat × Nat)} {s : St} {m : Map}, promo K pr s → Rel C s m a w → ∃ s' m', K s' ∧ Rel C s' m' a w
  | [], s, m, h, hr => ⟨s, m, h, hr⟩
  | (o, j, e, sz) :: r, s, m, h, hr => by
    simp only [promo] at h
    split at h
    · rename_i ty cs ho
      split at h
      · rename_i hj
        have hlt := lt_of_get ho
        have hr1 := hr.snoc (.row e sz 0 (fun _ => [])) none (w' := w) (fun b base e => by cases e) (fun _ _ => rfl) (Nat.le_refl _) ⟨rfl, rfl, rfl⟩ (by simp only [OR, snoc_at])
        generalize m.snoc s.ob.length none = m1 at hr1
        have ho1 : (s.ob ++ [Ob.row e sz 0 (fun _ => [])])[o]? = some (.box ty cs) := by rw [List.getElem?_append_left hlt]; exact ho
        have hset : s.ob.set o (.box ty (cs.set j (.row s.ob.length 0 0))) ++ [Ob.row e sz 0 (fun _ => [])] = (s.ob ++ [Ob.row e sz 0 (fun _ => [])]).set o (.box ty (cs.set j (.row s.ob.length 0 0))) := by rw [List.set_append_left _ _ hlt]
        have hN : (s.ob ++ [Ob.row e sz 0 (fun _ => [])])[s.ob.length]? = some (.row e sz 0 (fun _ => [])) := List.getElem?_concat_length
        rw [hset] at h
        generalize s.ob.length = N at h hN hlt
        generalize hob1 : s.ob ++ [Ob.row e sz 0 (fun _ => [])] = ob1 at h hN ho1 hr1
        have live : ∀ (q : Nat) (x : Ob), (ob1.set o (.box ty (cs.set j (.row N 0 0))))[q]? = some x → x.live = true → ∃ y, ob1[q]? = some y ∧ y.live = true := by
          intro q x hq hx
          by_cases hqo : o = q
          · subst hqo; exact ⟨_, ho1, rfl⟩
          · rw [List.getElem?_set_ne hqo] at hq; exact ⟨x, hq, hx⟩
        have ext : Ext w w (badOf C.E ob1 m1) (badOf C.E (ob1.set o (.box ty (cs.set j (.row N 0 0)))) m1) ob1 (ob1.set o (.box ty (cs.set j (.row N 0 0)))) m1 m1 := by
          refine ⟨fun _ _ _ _ _ h => h, Nat.le_refl _, fun b _ hn h => ?_, fun _ => Nat.le_refl _, fun q x hq => ?_, fun _ _ => rfl⟩
          · rcases h with h | ⟨q, x, base, h1, h2, h3⟩
            · exact hn (.inl h)
            · obtain ⟨y, g1, g2⟩ := live q x h1 h2
              exact hn (.inr ⟨q, y, base, g1, g2, h3⟩)
          · by_cases hqo : o = q
            · subst hqo
              rw [ho1] at hq; injection hq with hq; subst hq
              exact ⟨.box ty (cs.set j (.row N 0 0)), by rw [List.getElem?_set_self (lt_of_get ho1)], by simp [compat]⟩
            · exact ⟨x, by rw [List.getElem?_set_ne hqo]; exact hq, compat.refl x⟩
        have hm := hr1.mem
        refine promo_ok (pr := r) h (m := m1) ⟨hr1.df, hr1.tm.mono fun _ _ => VR.ext ext, ?_⟩
        refine ⟨fun q x hq => ?_, fun q q' x x' b base base' h1 h2 h3 h4 h5 h6 => ?_, fun q x b base h1 h2 h3 => ?_, hm.kp, hm.eb, by rw [List.length_set]; exact hm.pl, hm.pm⟩
        · by_cases hqo : o = q
          · subst hqo
            rw [List.getElem?_set_self (lt_of_get ho1)] at hq; injection hq with hq; subst hq
            obtain ⟨b, arr, g1, g2, g3⟩ := hm.ok o _ ho1
            refine ⟨b, arr, g1, g2, ?_⟩
            obtain ⟨u, hu, hcr⟩ := g3.get hj
            have hu' : u = .slice none 0 0 := hcr
            subst hu'
            have g4 := (g3.mono fun _ _ => CR.ext ext).set j (a := .row N 0 0) (b := .slice none 0 0) (by
              simp only [CR]
              rw [List.getElem?_set_ne (by rintro rfl; rw [ho1] at hN; cases hN), hN]
              exact ⟨none, 0, rfl, Nat.le_refl _, fun h => absurd h (Nat.lt_irrefl 0)⟩)
            have : arr.toList.set j (.slice none 0 0) = arr.toList := by
              refine List.ext_getElem? fun i => ?_
              by_cases hij : j = i
              · subst hij; rw [List.getElem?_set_self (lt_of_get hu)]; exact hu.symm
              · rw [List.getElem?_set_ne hij]
            rw [this] at g4
            exact g4
          · rw [List.getElem?_set_ne hqo] at hq
            exact OR.ext ext (hm.ok q x hq) rfl (fun _ _ _ _ => rfl)
        · obtain ⟨y, g1, g2⟩ := live q x h1 h3
          obtain ⟨y', g1', g2'⟩ := live q' x' h2 h4
          exact hm.inj q q' y y' b base base' g1 g1' g2 g2' h5 h6
        · obtain ⟨y, g1, g2⟩ := live q x h1 h2
          exact hm.blk q y b base g1 g2 h3
      · exact h.elim
    · exact h.elim

/-! ### Code -/
def Ex.exit' : Ex → Exit
  | .normal => .normal
  | .exit i => .exit i
  | .ret => .ret

theorem rounds_mono {P : Program} {c : Code} : ∀ {n : Nat} {a : Act} {w : World}, Code.rounds P c Q n a w → Code.rounds P c Q (n + 1) a w
  | 0, _, _, h => h.elim
  | n + 1, a, w, h => wp_mono (show c.wp P (Exit.then (Code.rounds P c Q n) Q) a w from h) (fun e a w hq => by
      cases e <;> first | exact rounds_mono hq | exact hq)
theorem rounds_le {P : Program} {c : Code} {n k : Nat} (h : n ≤ k) {a : Act} {w : World} (hr : Code.rounds P c Q n a w) : Code.rounds P c Q k a w := by
  induction h with
  | refl => exact hr
  | step _ ih => exact rounds_mono ih

theorem Rel.forget (hr : Rel C s m a w) (D : List (Nat × List Nat)) (id : Nat) : Rel C (forget D id s) m a w := by
  unfold Sim.forget
  split
  · exact hr
  · exact ⟨hr.df, hr.tm.keep _, hr.mem⟩

theorem code_sound (hT : TabOK C.P T) {D : Dir} : ∀ (c : Code) (Qa : Ex → St → Prop) (Q : Exit → Act → World → Prop) (s : St) (m : Map) (a : Act) (w : World), codeA T C.P D C.p c Qa s → Rel C s m a w →
    (∀ e s' m' a' w', Qa e s' → Rel C s' m' a' w' → Q e.exit' a' w') → c.wp C.P Q a w
  | .skip, Qa, Q, s, m, a, w, h, hr, hQ => wp_skip (hQ .normal s m a w h hr)
  | .region id ops draw, Qa, Q, s, m, a, w, h, hr, hQ => by
    have hr := hr.forget D.drop id
    have h : regA T C.P ops (Qa .normal) (forget D.drop id s) draw := h
    generalize forget D.drop id s = s at h hr
    cases draw
    · refine wp_region_list ?_
      have := ops_sound hT (all := ops.toList) (Q := Q) (fun s' m' a' w' hK hr' => hQ .normal s' m' a' w' hK hr') ops.toList s m a w h hr
      simpa using this
    · obtain ⟨d, h⟩ := h
      cases d with
      | still n =>
        obtain ⟨hB, h⟩ := h
        exact region_drawn hT hB h hr (fun s' m' a' w' hK hr' => hQ .normal s' m' a' w' hK hr')
      | chain ws =>
        obtain ⟨hB, h⟩ := h
        exact region_chain hT hB h hr (fun s' m' a' w' hK hr' => hQ .normal s' m' a' w' hK hr')
  | .seq x y, Qa, Q, s, m, a, w, h, hr, hQ => by
    simp only [codeA] at h
    split at h
    · refine wp_seq (code_sound hT x _ _ s m a w h hr (fun e s' m' a' w' hq hr' => ?_))
      cases e with
      | normal => exact code_sound hT y Qa Q s' m' a' w' hq hr' hQ
      | exit i => exact hQ (.exit i) s' m' a' w' hq hr'
      | ret => exact hQ .ret s' m' a' w' hq hr'
    · obtain ⟨J, hJ, h⟩ := h
      refine wp_seq (code_sound hT x _ _ s m a w h hr (fun e s' m' a' w' hq hr' => ?_))
      cases e with
      | normal =>
        obtain ⟨live, hq⟩ := hq
        obtain ⟨s1, m1, h1, hr1⟩ := canon_ok hq rfl hr'
        exact code_sound hT y Qa Q s1 m1 a' w' (hJ s1 h1) hr1 hQ
      | exit i => exact hQ (.exit i) s' m' a' w' hq hr'
      | ret => exact hQ .ret s' m' a' w' hq hr'
  | .cond c x y, Qa, Q, s, m, a, w, h, hr, hQ => by
    simp only [codeA] at h
    split at h
    · rename_i t hc
      have hv := VR.val (hr.ev hc)
      rcases brT_cases h with ⟨rfl, h⟩ | ⟨rfl, h⟩
      · exact wp_cond_true hv (code_sound hT x Qa Q s m a w h hr hQ)
      · exact wp_cond_false hv (code_sound hT y Qa Q s m a w h hr hQ)
    · exact h.elim
  | .block id c, Qa, Q, s, m, a, w, h, hr, hQ => by
    refine wp_block (code_sound hT c _ _ s m a w h hr (fun e s' m' a' w' hq hr' => ?_))
    cases e with
    | normal => exact hQ .normal s' m' a' w' hq hr'
    | ret => exact hQ .ret s' m' a' w' hq hr'
    | exit i =>
      simp only [Ex.exit', Exit.inBlock]
      rcases brT_cases hq with ⟨he, hq⟩ | ⟨he, hq⟩
      · rw [if_pos (Nat.eq_of_beq_eq_true he)]; exact hQ .normal s' m' a' w' hq hr'
      · rw [if_neg (fun e => by subst e; simp at he)]; exact hQ (.exit i) s' m' a' w' hq hr'
  | .loop c, Qa, Q, s, m, a, w, h, hr, hQ => by
    obtain ⟨I, hround, pr, h0⟩ := h
    obtain ⟨s0, m0, ⟨n, live, h0⟩, hr⟩ := promo_ok h0 hr
    obtain ⟨s1, m1, h1, hr1⟩ := canon_ok h0 rfl hr
    have key : ∀ n s m a w, I n s → Rel C s m a w → Code.rounds C.P c Q (n + 1) a w := by
      intro n
      induction n using Nat.strongRecOn with
      | _ n ih =>
        intro s m a w hI hr
        rw [rounds_succ]
        refine code_sound hT c _ _ s m a w (hround n s hI) hr (fun e s' m' a' w' hq hr' => ?_)
        cases e with
        | normal =>
          obtain ⟨n', live, hlt, hq⟩ := hq
          obtain ⟨s2, m2, h2, hr2⟩ := canon_ok hq rfl hr'
          exact rounds_le hlt (ih n' hlt s2 m2 a' w' h2 hr2)
        | exit i => exact hQ (.exit i) s' m' a' w' hq hr'
        | ret => exact hQ .ret s' m' a' w' hq hr'
    exact wp_loop_rounds _ (key n s1 m1 a w h1 hr1)
  | .exit id, Qa, Q, s, m, a, w, h, hr, hQ => wp_exit (hQ (.exit id) s m a w h hr)
  | .ret, Qa, Q, s, m, a, w, h, hr, hQ => wp_ret (hQ .ret s m a w h hr)
  | .rangeFunc .., _, _, _, _, _, _, h, _, _ => h.elim
  | .scope .., _, _, _, _, _, _, h, _, _ => h.elim
  | .label .., _, _, _, _, _, _, h, _, _ => h.elim
  | .goto .., _, _, _, _, _, _, h, _, _ => h.elim
  | .refuse .., _, _, _, _, _, _, h, _, _ => h.elim
end
end Go.Sim
namespace Go.Sim
open Go Go.RowKit

section
variable {C : Ctx} {T : Tab} {s : St} {m : Map} {a : Act} {w : World}

def resOf (P : Program) (tmps : Array Value) : ResultVar → Sem Value
  | .tmp t => pure (tmps.getD t undef)
  | .cell a t => do loadVar t (← asAddr (tmps.getD a undef))

theorem res_ok (hT : TabOK C.P T) (hr : Rel C s m a w) : ∀ {rs : List ResultVar} {vs : List V}, resA T s rs = some vs → ∃ us, All2 (VR w (badOf C.E s.ob m) s.ob m) vs us ∧ (rs.mapM (resOf C.P a.tmps)).run C.P w = .ok us w
  | [], vs, h => by simp [resA] at h; subst h; exact ⟨[], trivial, rfl⟩
  | .tmp t :: rs, vs, h => by
    simp only [resA] at h
    split at h
    · rename_i v l h1 h2
      injection h with h; subst h
      obtain ⟨us, g1, g2⟩ := res_ok hT hr h2
      obtain ⟨u, hu, hv⟩ := hr.tm.get h1
      refine ⟨u :: us, ⟨hv, g1⟩, ?_⟩
      have : a.tmps.getD t undef = u := by
        rw [Array.getD_eq_getD_getElem?, ← Array.getElem?_toList, hu]; rfl
      simp [List.mapM_cons, resOf, this, g2]
    · cases h
  | .cell t ty :: rs, vs, h => by
    simp only [resA] at h
    split at h
    · rename_i i q j l h1 h2 h3
      obtain ⟨u, hu, hv⟩ := hr.tm.get h2
      have ha : a.tmps.getD t undef = u := by
        rw [Array.getD_eq_getD_getElem?, ← Array.getElem?_toList, hu]; rfl
      have ha' : a.tmps[t]?.getD undef = u := by rw [← Array.getElem?_toList, hu]; rfl
      split at h
      · rename_i ty' cs hq
        obtain ⟨b, arr, g1, rfl, g3, g4⟩ := hr.box_at hq hv
        have hlen := g4.length
        split at h
        · rename_i fs hkd
          split at h
          · rename_i hle
            have hle := Nat.le_of_ble_eq_true hle
            injection h with h; subst h
            obtain ⟨us, k1, k2⟩ := res_ok hT hr h3
            refine ⟨.agg ((arr.toList.drop j).take i.size).toArray :: us, ⟨⟨_, rfl, (g4.drop j).take _⟩, k1⟩, ?_⟩
            have := run_load_agg hT h1 hkd (w := w) (b := b) (off := j) (us := (arr.toList.drop j).take i.size) (by simp only [List.length_take, List.length_drop]; omega) (fun x u hu => by
              obtain ⟨h6, _⟩ := get_drop_take hu
              rw [cell_of g3, ← Array.getElem?_toList]; exact h6)
            simp only [List.mapM_cons, resOf, ha, asAddr, Sem.run_bind, Sem.run_pure, Result.andThen_ok, this, k2]
          · cases h
        · rename_i hkd
          split at h
          · rename_i c hc
            injection h with h; subst h
            obtain ⟨us, k1, k2⟩ := res_ok hT hr h3
            obtain ⟨y, hy, hcr⟩ := g4.get hc
            refine ⟨y :: us, ⟨hcr.mono_VR, k1⟩, ?_⟩
            have := run_load_one hT h1 hkd (w := w) (ad := ⟨b, j, none⟩) (u := y) (by rw [cell_of g3, ← Array.getElem?_toList]; exact hy)
            simp only [List.mapM_cons, resOf, ha, asAddr, Sem.run_bind, Sem.run_pure, Result.andThen_ok, this, k2]
          · cases h
      · cases h
    · cases h

def oneV : List Value → Value
  | [u] => u
  | us => .tuple us.toArray
theorem run_results {P : Program} {fn : Func} {tmps : Array Value} {us : List Value} (h : (fn.results.toList.mapM (resOf P tmps)).run P w = .ok us w) :
    (results fn tmps).run P w = .ok (oneV us) w := by
  have h1 : results fn tmps = (do let vs ← fn.results.mapM (resOf P tmps); pure (if h : vs.size = 1 then vs[0] else .tuple vs)) := by
    unfold results
    congr 1
  rw [h1, Sem.run_bind, Array.mapM_eq_mapM_toList]
  simp only [Sem.run_map, h]
  cases us with
  | nil => rfl
  | cons u us =>
    cases us with
    | nil => rfl
    | cons u' us => simp [oneV]

/-! ### What is handed over -/
theorem fitC_out {B : List Bind} {l : Nat} {ob : List Ob} {c r : V} {K : Prop} (h : fitC B l ob c r K) : K := by
  unfold fitC at h
  split at h
  · exact (br_true h).2.2.2
  · have h := (br_true h).2
    split at h
    · exact (br_true h).2.2.2.2
    · exact h.elim
  · exact (br_true h).2.2.2.2
  · exact h.2.2
  · exact h.2
  · exact (br_true h).2.2.2
  · exact (br_true h).2
  · exact h.elim
theorem fitCs_split {B : List Bind} {l : Nat} {ob : List Ob} {K : Prop} : ∀ {cs rs : List V}, fitCs B l ob K cs rs → K ∧ fitCs B l ob True cs rs
  | [], [], h => ⟨h, trivial⟩
  | c :: cs, r :: rs, h => by
    have key : ∀ {K K' : Prop}, (K → K') → fitC B l ob c r K → fitC B l ob c r K' := by
      intro K K' hk h
      unfold fitC at h ⊢
      split at h
      · obtain ⟨h1, h2, h3, h4⟩ := br_true h
        exact br_intro_true h1 ⟨h2, h3, hk h4⟩
      · obtain ⟨h1, h⟩ := br_true h
        refine br_intro_true h1 ?_
        split at h
        · obtain ⟨g1, g2, g3, g4, g5⟩ := br_true h
          exact br_intro_true g1 ⟨g2, g3, g4, hk g5⟩
        · exact h.elim
      · obtain ⟨h1, h2, h3, h4, h5⟩ := br_true h
        exact br_intro_true h1 ⟨h2, h3, h4, hk h5⟩
      · obtain ⟨h1, h2, h3⟩ := h
        exact ⟨h1, h2, hk h3⟩
      · obtain ⟨h1, h2⟩ := h
        exact ⟨h1, hk h2⟩
      · obtain ⟨h1, h2, h3, h4⟩ := br_true h
        exact br_intro_true h1 ⟨h2, h3, hk h4⟩
      · obtain ⟨h1, h2⟩ := br_true h
        exact br_intro_true h1 (hk h2)
      · exact h.elim
    simp only [fitCs] at h
    exact ⟨(fitCs_split (fitC_out h)).1, key (fun h => (fitCs_split h).2) h⟩
  | [], _ :: _, h => h.elim
  | _ :: _, [], h => h.elim

/-- What is known of the objects handed over. -/
structure FitH (w : World) (bad bad' : Nat → Prop) (B : List Bind) (lent : Nat) (obF ob outs : List Ob) (m m' : Map) : Prop where
  hB : ∀ (q o off : Nat), B[q]? = some (some (o, off)) → ∃ ty sz n g n' g', outs[lent + q]? = some (.row ty sz n g) ∧ ob[o]? = some (.row ty sz n' g') ∧ m' (lent + q) = (m o).map fun x => (x.1, x.2 + off * sz)
  hN : ∀ q : Nat, B[q]? = some none → ∃ ty sz n g, outs[lent + q]? = some (.row ty sz n g)
  hL : ∀ o : Nat, o < lent → m' o = m o ∧ ∃ ty cs rs, ob[o]? = some (.box ty cs) ∧ outs[o]? = some (.box ty rs)
  hbad : ∀ b, b < w.heap.size → ¬ bad b → ¬ bad' b
  hob : ∀ (o : Nat) (x : Ob), obF[o]? = some x → ob[o]? = some x
  hrow : ∀ (o : Nat) (ty : TypeId) (sz n : Nat) (g : Nat → List V), obF[o]? = some (.row ty sz n g) → (bindNames B).contains o = false → match m o with
    | none => n = 0
    | some (b, base) => ¬ bad' b ∧ b < w.heap.size ∧ ∃ arr, w.heap[b]? = some (.cells arr ty (0, 0)) ∧ ∀ k, k < n → (g k).length = sz ∧ ∀ j c, (g k)[j]? = some c → ∃ u, arr[base + k * sz + j]? = some u ∧ FR w bad' c u

theorem fitC_ok {w : World} {bad bad' : Nat → Prop} {B : List Bind} {lent : Nat} {obF ob outs : List Ob} {m m' : Map} (H : FitH w bad bad' B lent obF ob outs m m') {K : Prop} {c r : V} {v : Value} (h : fitC B lent obF c r K) (hv : CR w bad ob m c v) : K ∧ CR w bad' outs m' r v := by
  unfold fitC at h
  split at h
  · rename_i o off len p off' n'
    obtain ⟨h1, h2, h3, hK⟩ := br_true h
    simp only [Bool.and_eq_true] at h1
    obtain ⟨h0, h1⟩ := h1
    have h0 := Nat.eq_of_beq_eq_true h0
    have h1 := Nat.le_of_ble_eq_true h1
    subst h0; subst h3
    obtain ⟨ty, sz, n, g, n', g', g1, g2, g3⟩ := H.hB _ _ _ h2
    rw [Nat.add_sub_cancel' h1] at g1 g3
    refine ⟨hK, ?_⟩
    simp only [CR, g2] at hv
    simp only [CR, g1]
    obtain ⟨A, cap, e1, e2, e3⟩ := hv
    refine ⟨A, cap, e1, e2, fun h0 => ?_⟩
    obtain ⟨b, base, k1, k2, k3⟩ := e3 h0
    refine ⟨b, base + off * sz, by rw [g3, k1]; rfl, by rw [k2, Nat.zero_mul, Nat.add_zero], ?_⟩
    rw [Nat.add_mul] at k3
    rw [Nat.zero_add]; omega
  · rename_i o off len sz n' g'
    obtain ⟨h1, h⟩ := br_true h
    split at h
    · rename_i ty sz' n g ho
      obtain ⟨h2, h3, h4, h5, hK⟩ := br_true h
      have h2 := Nat.eq_of_beq_eq_true h2
      subst h2; subst h4
      refine ⟨hK, ?_⟩
      have hrow := H.hrow o ty sz n g ho (by simpa using h1)
      have ho2 := H.hob o _ ho
      simp only [CR, ho2] at hv
      obtain ⟨A, cap, e1, e2, e3⟩ := hv
      subst e1
      show FR w bad' (.fz sz len g') (.slice A len cap)
      cases hmo : m o with
      | none =>
        rw [hmo] at hrow
        subst hrow
        obtain rfl : len = 0 := by omega
        exact FR.fz (fun _ _ => undef) e2 (fun h => absurd h (Nat.lt_irrefl 0)) (fun k hk => absurd hk (Nat.not_lt_zero k)) (fun k _ _ hk => absurd hk (Nat.not_lt_zero k))
      | some x =>
        obtain ⟨b, base⟩ := x
        rw [hmo] at hrow
        obtain ⟨r1, r2, arr, r3, r4⟩ := hrow
        refine FR.fz (fun k j => (arr[base + (k + off) * sz + j]?).getD undef) e2 (fun h => ?_) (fun k hk => ?_) (fun k j c hk hj => ?_)
        · obtain ⟨b', base', k1, k2, k3⟩ := e3 (by omega)
          rw [hmo] at k1; injection k1 with k1; injection k1 with k1 k1'; subst k1; subst k1'
          refine ⟨b, base + off * sz, k2, r1, r2, fun k j hk hj => ?_⟩
          obtain ⟨s1, s2⟩ := r4 (k + off) (by omega)
          obtain ⟨u, hu, _⟩ := s2 j _ (List.getElem?_eq_getElem (by rw [s1]; exact hj))
          rw [cell_of r3]
          have : base + off * sz + k * sz + j = base + (k + off) * sz + j := by rw [Nat.add_mul]; omega
          rw [this, hu]; rfl
        · rw [h5 k hk]; exact (r4 (k + off) (by omega)).1
        · rw [h5 k hk] at hj
          obtain ⟨u, hu, hf⟩ := (r4 (k + off) (by omega)).2 j c hj
          rw [hu]; exact hf
    · exact h.elim
  · rename_i v' p off' n'
    obtain ⟨h1, h2, h3, h4, hK⟩ := br_true h
    simp only [Bool.and_eq_true] at h1
    obtain ⟨h0, h1⟩ := h1
    have h0 := Nat.eq_of_beq_eq_true h0
    have h1 := Nat.le_of_ble_eq_true h1
    subst h0; subst h4; subst h2
    have hv' : v = .slice none 0 0 := hv
    subst hv'
    obtain ⟨ty, sz, n, g, g1⟩ := H.hN _ h3
    rw [Nat.add_sub_cancel' h1] at g1
    refine ⟨hK, ?_⟩
    simp only [CR, g1]
    exact ⟨none, 0, rfl, Nat.le_refl _, fun h => absurd h (Nat.lt_irrefl 0)⟩
  · rename_i v' sz n' g'
    obtain ⟨h1, h2, hK⟩ := h
    subst h1; subst h2
    have hv' : v = .slice none 0 0 := hv
    subst hv'
    exact ⟨hK, FR.fz (fun _ _ => undef) (Nat.le_refl _) (fun h => absurd h (Nat.lt_irrefl 0)) (fun k hk => absurd hk (Nat.not_lt_zero k)) (fun k _ _ hk => absurd hk (Nat.not_lt_zero k))⟩
  · obtain ⟨h1, hK⟩ := h
    subst h1
    exact ⟨hK, hv⟩
  · rename_i sz n g sz' n' g'
    obtain ⟨h1, h2, h3, hK⟩ := br_true h
    have h1 := Nat.eq_of_beq_eq_true h1
    subst h1; subst h2
    exact ⟨hK, FR.cong h3 (FR.mono (fun _ _ _ _ _ h => h) (Nat.le_refl _) H.hbad hv)⟩
  · rename_i o j o' j'
    obtain ⟨h1, hK⟩ := br_true h
    simp only [Bool.and_eq_true] at h1
    obtain ⟨⟨e1, e2⟩, e3⟩ := h1
    have e1 := Nat.eq_of_beq_eq_true e1
    have e2 := Nat.eq_of_beq_eq_true e2
    subst e1; subst e2
    have e3 : o < lent := by simpa using e3
    refine ⟨hK, ?_⟩
    obtain ⟨g1, ty, cs, rs, g2, g3⟩ := H.hL o e3
    simp only [CR, g2] at hv
    simp only [CR, g3, g1]
    exact hv
  · exact h.elim
theorem fitCs_ok {w : World} {bad bad' : Nat → Prop} {B : List Bind} {lent : Nat} {obF ob outs : List Ob} {m m' : Map} (H : FitH w bad bad' B lent obF ob outs m m') {K : Prop} : ∀ {cs rs : List V} {us : List Value}, fitCs B lent obF K cs rs → All2 (CR w bad ob m) cs us → K ∧ All2 (CR w bad' outs m') rs us
  | [], [], [], h, _ => ⟨h, trivial⟩
  | c :: cs, r :: rs, u :: us, h, hv => by
    obtain ⟨h1, h2⟩ := fitC_ok H h hv.1
    obtain ⟨h3, h4⟩ := fitCs_ok H h1 hv.2
    exact ⟨h3, h2, h4⟩
  | [], _ :: _, _, h, _ => h.elim
  | _ :: _, [], _, h, _ => h.elim
  | [], [], _ :: _, _, hv => hv.elim
  | _ :: _, _ :: _, [], _, hv => hv.elim
theorem fitA_ok {w : World} {bad bad' : Nat → Prop} {B : List Bind} {lent : Nat} {obF ob outs : List Ob} {m m' : Map} (H : FitH w bad bad' B lent obF ob outs m m') {K : Prop} {c r : V} {v : Value} (h : fitA B lent obF K c r) (hv : VR w bad ob m c v) : K ∧ VA w bad' outs m' r v := by
  unfold fitA at h
  split at h
  · rename_i cs rs
    obtain ⟨us, rfl, hv⟩ : ∃ us : List Value, v = .agg us.toArray ∧ All2 (CR w bad ob m) cs us := hv
    obtain ⟨h1, h2⟩ := fitCs_ok H h hv
    exact ⟨h1, us, rfl, h2⟩
  · have hcr : CR w bad ob m c v := by
      cases c with
      | agg _ => cases r <;> exact (show False from h).elim
      | tup _ => cases r <;> exact (show False from h).elim
      | _ => exact hv
    obtain ⟨h1, h2⟩ := fitC_ok H h hcr
    exact ⟨h1, VA_of_CR h2⟩
theorem fitAs_ok {w : World} {bad bad' : Nat → Prop} {B : List Bind} {lent : Nat} {obF ob outs : List Ob} {m m' : Map} (H : FitH w bad bad' B lent obF ob outs m m') {K : Prop} : ∀ {cs rs : List V} {us : List Value}, fitAs B lent obF K cs rs → All2 (VR w bad ob m) cs us → K ∧ All2 (VA w bad' outs m') rs us
  | [], [], [], h, _ => ⟨h, trivial⟩
  | c :: cs, r :: rs, u :: us, h, hv => by
    obtain ⟨h1, h2⟩ := fitA_ok H h hv.1
    obtain ⟨h3, h4⟩ := fitAs_ok H h1 hv.2
    exact ⟨h3, h2, h4⟩
  | [], _ :: _, _, h, _ => h.elim
  | _ :: _, [], _, h, _ => h.elim
  | [], [], _ :: _, _, hv => hv.elim
  | _ :: _, _ :: _, [], _, hv => hv.elim

theorem fitO_get {ob : List Ob} {K : Prop} : ∀ {B : List Bind} {r : List Ob}, fitO ob K B r → K ∧ B.length = r.length ∧
    (∀ (q o off : Nat), B[q]? = some (some (o, off)) → ∃ (ty : TypeId) (sz n : Nat) (g : Nat → List V) (n' : Nat) (g' : Nat → List V), r[q]? = some (.row ty sz n g) ∧ ob[o]? = some (.row ty sz n' g') ∧ off + n ≤ n' ∧ ∀ k, k < n → g k = g' (k + off)) ∧
    (∀ q : Nat, B[q]? = some none → ∃ (ty : TypeId) (sz : Nat) (g : Nat → List V), r[q]? = some (.row ty sz 0 g))
  | [], [], h => ⟨h, rfl, fun q o off h => by simp at h, fun q h => by simp at h⟩
  | some (o, off) :: B, .row ty sz n g :: r, h => by
    simp only [fitO] at h
    split at h
    · rename_i ty' sz' n' g' ho
      obtain ⟨h1, h2, h3, h'⟩ := br_true h
      clear h
      simp only [Bool.and_eq_true] at h1
      have e1 := Nat.eq_of_beq_eq_true h1.1
      have e2 := Nat.eq_of_beq_eq_true h1.2
      subst e1; subst e2
      obtain ⟨g1, g2, g3, g4⟩ := fitO_get h'
      refine ⟨g1, by simp [g2], fun q o2 off2 hq => ?_, fun q hq => ?_⟩
      · cases q with
        | zero => simp at hq; obtain ⟨rfl, rfl⟩ := hq; exact ⟨_, _, _, _, _, _, rfl, ho, h2, h3⟩
        | succ q => exact g3 q o2 off2 (by simpa using hq)
      · cases q with
        | zero => simp at hq
        | succ q => exact g4 q (by simpa using hq)
    · exact h.elim
  | none :: B, .row ty sz n g :: r, h => by
    obtain ⟨h1, h⟩ := h
    subst h1
    obtain ⟨g1, g2, g3, g4⟩ := fitO_get h
    refine ⟨g1, by simp [g2], fun q o2 off2 hq => ?_, fun q hq => ?_⟩
    · cases q with
      | zero => simp at hq
      | succ q => exact g3 q o2 off2 (by simpa using hq)
    · cases q with
      | zero => exact ⟨_, _, _, rfl⟩
      | succ q => exact g4 q (by simpa using hq)
  | [], _ :: _, h => h.elim
  | some _ :: _, [], h => h.elim
  | none :: _, [], h => h.elim
  | some _ :: _, .dead :: _, h => h.elim
  | some _ :: _, .box _ _ :: _, h => h.elim
  | none :: _, .dead :: _, h => h.elim
  | none :: _, .box _ _ :: _, h => h.elim
theorem fitL_get {K : Prop} : ∀ {a b : List Ob}, fitL K a b → K ∧ a.length = b.length ∧ ∀ (q : Nat) (x : Ob), a[q]? = some x → ∃ ty cs rs, x = .box ty cs ∧ b[q]? = some (.box ty rs) ∧ fitCs [] 0 [] True cs rs
  | [], [], h => ⟨h, rfl, fun q x h => by simp at h⟩
  | .box ty cs :: a, .box ty' rs :: b, h => by
    obtain ⟨h1, h'⟩ := br_true h
    clear h
    have h1 := Nat.eq_of_beq_eq_true h1
    subst h1
    obtain ⟨h2, h3⟩ := fitCs_split h'
    obtain ⟨g1, g2, g3⟩ := fitL_get h2
    refine ⟨g1, by simp [g2], fun q x hq => ?_⟩
    cases q with
    | zero => simp at hq; subst hq; exact ⟨_, _, _, rfl, rfl, h3⟩
    | succ q => exact g3 q x (by simpa using hq)
  | [], _ :: _, h => h.elim
  | .box _ _ :: _, [], h => h.elim
  | .dead :: _, [], h => h.elim
  | .row _ _ _ _ :: _, [], h => h.elim
  | .dead :: _, _ :: _, h => h.elim
  | .row _ _ _ _ :: _, _ :: _, h => h.elim
  | .box _ _ :: _, .dead :: _, h => h.elim
  | .box _ _ :: _, .row _ _ _ _ :: _, h => h.elim

theorem names_get : ∀ {B : List Bind} {q o off : Nat}, B[q]? = some (some (o, off)) → (bindNames B).contains o = true
  | some (o', off') :: B, 0, o, off, h => by simp at h; simp [bindNames, h.1]
  | some (o', off') :: B, q + 1, o, off, h => by simp at h; have := names_get h; simp only [bindNames, List.contains_cons, this, Bool.or_true]
  | none :: B, 0, o, off, h => by simp at h
  | none :: B, q + 1, o, off, h => by simp at h; exact names_get (B := B) h
  | [], _, _, _, h => by simp at h
theorem names_inj : ∀ {B : List Bind} {q q' o off off' : Nat}, nodup (bindNames B) = true → B[q]? = some (some (o, off)) → B[q']? = some (some (o, off')) → q = q'
  | some (a, b) :: B, 0, 0, o, _, _, _, _, _ => rfl
  | some (a, b) :: B, 0, q' + 1, o, off, off', hn, h, h' => by
    simp at h h'
    simp only [bindNames, nodup, Bool.and_eq_true] at hn
    have h1 := names_get h'
    have h2 : pos a (bindNames B) = none := by simpa using hn.1
    rw [h.1] at h2
    have : ∀ {l : List Nat}, l.contains o = true → pos o l ≠ none := by
      intro l
      induction l with
      | nil => intro h; simp at h
      | cons x xs ih =>
        intro h
        simp only [pos]
        split
        · simp
        · rename_i hb
          simp only [List.contains_cons, Bool.or_eq_true, beq_iff_eq] at h
          rcases h with rfl | h
          · simp at hb
          · simpa using ih h
    exact (this h1 h2).elim
  | some (a, b) :: B, q + 1, 0, o, off, off', hn, h, h' => (names_inj (B := some (a, b) :: B) (q := 0) (q' := q + 1) hn h' h).symm
  | some (a, b) :: B, q + 1, q' + 1, o, off, off', hn, h, h' => by
    simp at h h'
    simp only [bindNames, nodup, Bool.and_eq_true] at hn
    rw [names_inj (B := B) hn.2 h h']
  | none :: B, 0, _, o, _, _, _, h, _ => by simp at h
  | none :: B, _ + 1, 0, o, _, _, _, _, h => by simp at h
  | none :: B, q + 1, q' + 1, o, off, off', hn, h, h' => by
    simp at h h'
    rw [names_inj (B := B) (by simpa [bindNames] using hn) h h']
  | [], _, _, _, _, _, _, h, _ => by simp at h

/-- The names behind the end. -/
def endMap (m : Map) (ob : List Ob) (p : Nat) (B : List Bind) : Map := fun q => if q < p then m q else match B[q - p]? with
  | some (some (o, off)) => match ob[o]? with
    | some (.row _ sz _ _) => (m o).map fun x => (x.1, x.2 + off * sz)
    | _ => none
  | _ => none

theorem end_ok {rv v : V} {outs : List Ob} {u : Value} (hr : Mem C s.ob m w) (hv : VR w (badOf C.E s.ob m) s.ob m v u)
    (h : br (nodup (bindNames (bindV v rv))) (fitL (fitV (bindV v rv) C.p s.ob (fitO s.ob True (bindV v rv) (outs.drop C.p)) v rv) (s.ob.take C.p) (outs.take C.p)) False) :
    ∃ m', VR w (badOf C.E outs m') outs m' rv u ∧ Mem C outs m' w ∧ ∀ o, o < C.p → m' o = m o := by
  replace h := br_true h
  generalize bindV v rv = B at h
  obtain ⟨hn, h⟩ := h
  replace h := fitL_get h
  obtain ⟨h, hlen, hLent⟩ := h
  have hpl := hr.pl
  have hO : fitO s.ob True B (outs.drop C.p) := by
    unfold fitV at h
    split at h
    · have : ∀ {vs rs : List V} {K : Prop}, fitAs B C.p s.ob K vs rs → K := by
        intro vs
        induction vs with
        | nil => intro rs K h; cases rs with | nil => exact h | cons => exact h.elim
        | cons c vs ih =>
          intro rs K h
          cases rs with
          | nil => exact h.elim
          | cons r rs =>
            simp only [fitAs, fitA] at h
            split at h
            · exact ih (fitCs_split h).1
            · exact ih (fitC_out h)
      exact this h
    · unfold fitA at h
      split at h
      · exact (fitCs_split h).1
      · exact fitC_out h
  obtain ⟨_, hBl, hBs, hBn⟩ := fitO_get hO
  have hle : C.p ≤ outs.length := by
    rw [List.length_take, List.length_take] at hlen
    omega
  have lentBox : ∀ o, o < C.p → ∃ ty cs rs, s.ob[o]? = some (.box ty cs) ∧ outs[o]? = some (.box ty rs) ∧ fitCs [] 0 [] True cs rs := by
    intro o ho
    have h1 : (s.ob.take C.p)[o]? = s.ob[o]? := List.getElem?_take_of_lt ho
    have h2 : (outs.take C.p)[o]? = outs[o]? := List.getElem?_take_of_lt ho
    obtain ⟨ty, cs, rs, e1, e2, e3⟩ := hLent o _ (h1.trans (List.getElem?_eq_getElem (by omega)))
    exact ⟨ty, cs, rs, by rw [← e1]; exact List.getElem?_eq_getElem (by omega), by rw [← h2]; exact e2, e3⟩
  have outRow : ∀ q, (outs.drop C.p)[q]? = outs[C.p + q]? := fun q => List.getElem?_drop
  have mLent : ∀ o, o < C.p → endMap m s.ob C.p B o = m o := fun o ho => if_pos ho
  have mBind : ∀ q o off ty sz n g, B[q]? = some (some (o, off)) → s.ob[o]? = some (.row ty sz n g) → endMap m s.ob C.p B (C.p + q) = (m o).map fun x => (x.1, x.2 + off * sz) := by
    intro q o off ty sz n g h1 h2
    unfold endMap
    rw [if_neg (by omega), Nat.add_sub_cancel_left, h1]
    simp only [h2]
  have mNone : ∀ q : Nat, B[q]? = some none → endMap m s.ob C.p B (C.p + q) = none := by
    intro q h1
    unfold endMap
    rw [if_neg (by omega), Nat.add_sub_cancel_left, h1]
  -- where an object behind the end comes from
  have from_ : ∀ q x b base, outs[q]? = some x → endMap m s.ob C.p B q = some (b, base) → ∃ o y base', s.ob[o]? = some y ∧ y.live = true ∧ m o = some (b, base') ∧ ((q < C.p ∧ o = q) ∨ (C.p ≤ q ∧ (∃ off, B[q - C.p]? = some (some (o, off))) ∧ ∃ ty sz n g, y = .row ty sz n g)) := by
    intro q x b base hq hmq
    rcases Nat.lt_or_ge q C.p with hlt | hge
    · obtain ⟨ty, cs, rs, e1, e2, _⟩ := lentBox q hlt
      rw [mLent q hlt] at hmq
      exact ⟨q, _, base, e1, rfl, hmq, .inl ⟨hlt, rfl⟩⟩
    · obtain ⟨d, rfl⟩ := Nat.exists_eq_add_of_le hge
      have hd : d < B.length := by
        have := lt_of_get hq
        rw [hBl, List.length_drop]; omega
      cases hb : B[d]? with
      | none => rw [List.getElem?_eq_none_iff] at hb; omega
      | some bd =>
        cases bd with
        | none => rw [mNone d hb] at hmq; cases hmq
        | some z =>
          obtain ⟨o, off⟩ := z
          obtain ⟨ty, sz, n, g, n', g', e1, e2, e3, e4⟩ := hBs d o off hb
          rw [mBind d o off _ _ _ _ hb e2] at hmq
          cases hmo : m o with
          | none => rw [hmo] at hmq; cases hmq
          | some z =>
            rw [hmo] at hmq
            simp only [Option.map_some, Option.some.injEq, Prod.mk.injEq] at hmq
            refine ⟨o, _, z.2, e2, rfl, by rw [hmo, ← hmq.1], .inr ⟨hge, ⟨off, by rw [Nat.add_sub_cancel_left]; exact hb⟩, _, _, _, _, rfl⟩⟩
  have hbads : ∀ b, badOf C.E outs (endMap m s.ob C.p B) b → badOf C.E s.ob m b := by
    rintro b (h | ⟨q, x, base, h1, h2, h3⟩)
    · exact .inl h
    · obtain ⟨o, y, base', e1, e2, e3, _⟩ := from_ q x b base h1 h3
      exact .inr ⟨o, y, base', e1, e2, e3⟩
  have H : FitH w (badOf C.E s.ob m) (badOf C.E outs (endMap m s.ob C.p B)) B C.p s.ob s.ob outs m (endMap m s.ob C.p B) := by
    refine ⟨fun q o off hq => ?_, fun q hq => ?_, fun o ho => ?_, fun b _ h h' => h (hbads b h'), fun o x h => h, fun o ty sz n g ho hno => ?_⟩
    · obtain ⟨ty, sz, n, g, n', g', e1, e2, e3, e4⟩ := hBs q o off hq
      exact ⟨ty, sz, n, g, n', g', by rw [← outRow]; exact e1, e2, mBind q o off _ _ _ _ hq e2⟩
    · obtain ⟨ty, sz, g, e1⟩ := hBn q hq
      exact ⟨ty, sz, 0, g, by rw [← outRow]; exact e1⟩
    · obtain ⟨ty, cs, rs, e1, e2, _⟩ := lentBox o ho
      exact ⟨mLent o ho, ty, cs, rs, e1, e2⟩
    · have hok := hr.ok o _ ho
      simp only [OR] at hok
      cases hmo : m o with
      | none => rw [hmo] at hok; exact hok
      | some z =>
        obtain ⟨b, base⟩ := z
        rw [hmo] at hok
        obtain ⟨arr, g1, g2⟩ := hok
        obtain ⟨g3, _, g4⟩ := hr.blk o _ b base ho rfl hmo
        refine ⟨?_, g4, arr, g1, fun k hk => ⟨(g2 k hk).1, fun j c hj => ?_⟩⟩
        · rintro (h | ⟨q, x, base2, h1, h2, h3⟩)
          · exact g3 h
          · obtain ⟨o2, y, base3, e1, e2, e3, e4⟩ := from_ q x b base2 h1 h3
            have := hr.inj o o2 _ y b base base3 ho e1 rfl e2 hmo e3
            subst this
            rcases e4 with ⟨e4, rfl⟩ | ⟨_, ⟨off, e5⟩, _⟩
            · obtain ⟨ty', cs, rs, k1, _⟩ := lentBox _ e4
              rw [ho] at k1; cases k1
            · rw [names_get e5] at hno; cases hno
        · obtain ⟨u, hu, hf⟩ := (g2 k hk).2 j c hj
          exact ⟨u, hu, FR.mono (fun _ _ _ _ _ h => h) (Nat.le_refl _) (fun b _ h h' => h (hbads b h')) hf⟩
  refine ⟨endMap m s.ob C.p B, ?_, ?_, mLent⟩
  · unfold fitV at h
    split at h
    · rename_i vs rs
      obtain ⟨us, rfl, hv⟩ : ∃ us : List Value, u = .tuple us.toArray ∧ All2 (VA w (badOf C.E s.ob m) s.ob m) vs us := hv
      exact ⟨us, rfl, (fitAs_ok H h (hv.mono fun _ _ => VR_of_VA)).2⟩
    · exact VR_of_VA (fitA_ok H h hv).2
  · refine ⟨fun q x hq => ?_, fun q q' x x' b base base' h1 h2 h3 h4 h5 h6 => ?_, fun q x b base h1 h2 h3 => ?_, hr.kp, hr.eb, hle, fun o ho => (mLent o ho).trans (hr.pm o ho)⟩
    · rcases Nat.lt_or_ge q C.p with hlt | hge
      · obtain ⟨ty, cs, rs, e1, e2, e3⟩ := lentBox q hlt
        rw [e2] at hq; injection hq with hq; subst hq
        obtain ⟨b, arr, g1, g2, g3⟩ := hr.ok q _ e1
        have H0 : FitH w (badOf C.E s.ob m) (badOf C.E outs (endMap m s.ob C.p B)) [] 0 [] s.ob outs m (endMap m s.ob C.p B) :=
          ⟨fun q o off h => by simp at h, fun q h => by simp at h, fun o h => absurd h (Nat.not_lt_zero o), H.hbad, fun o x h => by simp at h, fun o ty sz n g h => by simp at h⟩
        exact ⟨b, arr, (mLent q hlt).trans g1, g2, (fitCs_ok H0 e3 g3).2⟩
      · obtain ⟨d, rfl⟩ := Nat.exists_eq_add_of_le hge
        have hd : d < B.length := by
          have := lt_of_get hq
          rw [hBl, List.length_drop]; omega
        cases hb : B[d]? with
        | none => rw [List.getElem?_eq_none_iff] at hb; omega
        | some bd =>
          cases bd with
          | none =>
            obtain ⟨ty, sz, g, e1⟩ := hBn d hb
            rw [outRow, hq] at e1; injection e1 with e1; subst e1
            simp only [OR, mNone d hb]
          | some z =>
            obtain ⟨o, off⟩ := z
            obtain ⟨ty, sz, n, g, n', g', e1, e2, e3, e4⟩ := hBs d o off hb
            rw [outRow, hq] at e1; injection e1 with e1; subst e1
            have hok := hr.ok o _ e2
            simp only [OR] at hok ⊢
            rw [mBind d o off _ _ _ _ hb e2]
            cases hmo : m o with
            | none => rw [hmo] at hok; simp only [Option.map_none]; omega
            | some z =>
              obtain ⟨b, base⟩ := z
              rw [hmo] at hok
              obtain ⟨arr, g1, g2⟩ := hok
              refine ⟨arr, g1, fun k hk => ?_⟩
              rw [e4 k hk]
              refine ⟨(g2 (k + off) (by omega)).1, fun j c hj => ?_⟩
              obtain ⟨u, hu, hf⟩ := (g2 (k + off) (by omega)).2 j c hj
              refine ⟨u, ?_, FR.mono (fun _ _ _ _ _ h => h) (Nat.le_refl _) H.hbad hf⟩
              have : base + off * sz + k * sz + j = base + (k + off) * sz + j := by rw [Nat.add_mul]; omega
              rw [this]; exact hu
    · obtain ⟨o, y, b1, e1, e2, e3, e4⟩ := from_ q x b base h1 h5
      obtain ⟨o', y', b2, f1, f2, f3, f4⟩ := from_ q' x' b base' h2 h6
      have := hr.inj o o' y y' b b1 b2 e1 f1 e2 f2 e3 f3
      subst this
      rcases e4 with ⟨e4, rfl⟩ | ⟨e4, ⟨off, e5⟩, ty, sz, n, g, rfl⟩ <;> rcases f4 with ⟨f4, rfl⟩ | ⟨f4, ⟨off', f5⟩, ty', sz', n', g', rfl⟩
      · rfl
      · obtain ⟨ty, cs, rs, k1, _⟩ := lentBox _ e4
        rw [f1] at k1; cases k1
      · obtain ⟨ty, cs, rs, k1, _⟩ := lentBox _ f4
        rw [e1] at k1; cases k1
      · have := names_inj hn e5 f5
        omega
    · obtain ⟨o, y, b1, e1, e2, e3, _⟩ := from_ q x b base h1 h3
      exact hr.blk o y b b1 e1 e2 e3

def endQ (T : Tab) (rs : List ResultVar) (p : Nat) (rv : V) (outs : List Ob) : Ex → St → Prop
  | .exit _, _ => False
  | _, s => endA T rs p rv outs s

theorem nodup_range_pre : ∀ (p : Nat) (ids : List Nat), p ≤ (List.range p ++ ids).length ∧ ∀ o, o < p → (List.range p ++ ids)[o]? = some o := by
  intro p ids
  refine ⟨by simp, fun o ho => ?_⟩
  rw [List.getElem?_append_left (by simpa using ho)]
  simp [ho]

theorem CallOK.of_code {P : Program} (hT : TabOK P T) {f : FuncId} {fn : Func} {c : Code} (hf : P.funcs[f]? = some fn) (hname : (fn.name == "runtime.NumGoroutine") = false) (hb : fn.body = some c) {args : List V} {ins : List Ob} {rv : V} {outs : List Ob}
    (D : Dir) (h : codeA T P D ins.length c (endQ T fn.results.toList ins.length rv outs) ⟨⟨args.length + (fn.ntmps - args.length), argT args⟩, ins⟩) : CallOK P f args ins rv outs := by
  refine ⟨⟨fn, hf, hname, by rw [hb]; rfl⟩, fun w E m vs hmem hargs => ?_⟩
  have hlen := hargs.length
  refine calls_of_wp hf hb ?_
  have hr : Rel ⟨P, w, E, lentBy ins.length m, ins.length, m⟩ ⟨⟨args.length + (fn.ntmps - args.length), argT args⟩, ins⟩ m { tmps := vs.toArray ++ Array.replicate (fn.ntmps - vs.toArray.size) undef, defers := [] } w := by
    refine ⟨rfl, ?_, hmem⟩
    simp only [Array.toList_append, Array.toList_replicate, List.size_toArray]
    rw [← hlen]
    refine ⟨by simp [hlen], fun i v hi => ?_⟩
    have hi : args[i]? = some v := hi
    obtain ⟨u, hu, hv⟩ := hargs.get hi
    exact ⟨u, by rw [List.getElem?_append_left (lt_of_get hu)]; exact hu, VR_of_VA hv⟩
  have hend : ∀ (s' : St) (m' : Map) (a' : Act) (w' : World), endA T fn.results.toList ins.length rv outs s' → Rel ⟨P, w, E, lentBy ins.length m, ins.length, m⟩ s' m' a' w' →
      a'.defers = [] ∧ ∃ v, (results fn a'.tmps).run P w' = .ok v w' ∧ ∃ v' m', Ending.returned v = .returned v' ∧ VR w' (badOf E outs m') outs m' rv v' ∧ Mem ⟨P, w, E, lentBy ins.length m, ins.length, m⟩ outs m' w' ∧ ∀ o, o < ins.length → m' o = m o := by
    intro s' m' a' w' h hr'
    obtain ⟨rs, hrs, h⟩ := opt_some h
    obtain ⟨us, hus, hrun⟩ := res_ok (C := ⟨P, w, E, lentBy ins.length m, ins.length, m⟩) hT hr' hrs
    have hone : VR w' (badOf E s'.ob m') s'.ob m' (oneOf rs) (oneV us) := by
      have tup : (∀ x ∈ rs, ∀ l, x ≠ .tup l) → ∀ us, All2 (VR w' (badOf E s'.ob m') s'.ob m') rs us → All2 (VA w' (badOf E s'.ob m') s'.ob m') rs us := by
        intro hno us hus
        refine All2.of_get hus.length fun i a b ha hb => ?_
        obtain ⟨b', hb', hvr⟩ := hus.get ha
        rw [hb] at hb'; injection hb' with hb'; subst hb'
        have := hno a (List.mem_of_getElem? ha)
        cases a with
        | tup l => exact (this l rfl).elim
        | _ => exact hvr
      have nest : ∀ (B : List Bind) (K : Prop) (vs rs' : List V), fitAs B ins.length s'.ob K vs rs' → ∀ x ∈ vs, ∀ l, x ≠ .tup l := by
        intro B K vs
        induction vs with
        | nil => intro _ _ x hx; cases hx
        | cons c vs ih =>
          intro rs' h x hx
          cases rs' with
          | nil => exact h.elim
          | cons r rs' =>
            have hc : ∀ l, c ≠ .tup l := by
              rintro l rfl
              simp only [fitAs, fitA, fitC] at h
            have hrest : fitAs B ins.length s'.ob K vs rs' := by
              simp only [fitAs, fitA] at h
              split at h
              · exact (fitCs_split h).1
              · exact fitC_out h
            rcases List.mem_cons.1 hx with rfl | hx
            · exact hc
            · exact ih rs' hrest x hx
      have hfit := (fitL_get (br_true h).2).1
      cases rs with
      | nil =>
        cases us with
        | nil => exact ⟨[], rfl, trivial⟩
        | cons _ _ => exact hus.elim
      | cons r rs =>
        cases us with
        | nil => exact hus.elim
        | cons u us =>
          cases rs with
          | nil =>
            cases us with
            | nil => exact hus.1
            | cons _ _ => exact hus.2.elim
          | cons r' rs =>
            cases us with
            | nil => exact hus.2.elim
            | cons u' us =>
              refine ⟨u :: u' :: us, rfl, tup ?_ _ hus⟩
              simp only [oneOf, fitV] at hfit
              split at hfit
              · rename_i e1 _ _
                first | (injection e1 with e1; subst e1; exact nest _ _ _ _ hfit) | exact nest _ _ _ _ hfit
              · simp only [fitA, fitC] at hfit
    obtain ⟨m2, g1, g2, g3⟩ := end_ok (C := ⟨P, w, E, lentBy ins.length m, ins.length, m⟩) hr'.mem hone h
    exact ⟨hr'.df, _, run_results hrun, _, m2, rfl, g1, g2, fun o ho => (g3 o ho).trans (hr'.mem.pm o ho)⟩
  refine code_sound (C := ⟨P, w, E, lentBy ins.length m, ins.length, m⟩) hT c _ _ _ m _ w h hr (fun e s' m' a' w' hq hr' => ?_)
  cases e with
  | normal => exact hend s' m' a' w' hq hr'
  | ret => exact hend s' m' a' w' hq hr'
  | exit i => exact hq.elim
end
end Go.Sim
namespace Go.Sim
open Go Go.RowKit

def TK.fitsB (k : TK) (d : TypeDesc) : Bool := match k, d with
  | .sl e, .slice e' => Nat.beq e e'
  | .st fs, .struct f => decide (f.toList.map (fun x => (x.offset, x.type)) = fs)
  | .int k, .int k' => decide (k = k')
  | .str, .string => true
  | .bool, .bool => true
  | .other, d => !d.isRow
  | _, _ => false
theorem TK.fits_of {k : TK} {d : TypeDesc} (h : k.fitsB d = true) : k.fits d := by
  unfold TK.fitsB at h
  split at h
  · rename_i e e'
    obtain rfl := Nat.eq_of_beq_eq_true h
    exact (rfl : TypeDesc.slice e = _)
  · rename_i fs f
    exact ⟨f, rfl, of_decide_eq_true h⟩
  · rename_i k k'
    obtain rfl := of_decide_eq_true h
    exact (rfl : TypeDesc.int k = _)
  · exact (rfl : TypeDesc.string = _)
  · exact (rfl : TypeDesc.bool = _)
  · exact (by simpa using h : d.isRow = false)
  · cases h

/-- A row of the table is as the program has it. -/
structure RowOK (P : Program) (T : Tab) (t : Nat) (i : TI) : Prop where
  z : ∃ z, (P.info? t).map (fun x => (x.size, x.bytes, x.zero)) = some (i.size, i.bytes, some z) ∧ z.cells.toList = i.zero
  len : i.zero.length = i.size
  one : i.zero.all Value.oneCell' = true
  desc : (P.underlying t).map i.kind.fitsB = some true
  fld : match i.kind with
    | .st fs => (fs.all fun p => (T.at p.2).isSome) = true ∧ (flatK T 3 fs = true → EqTop P t i.size)
    | _ => True
def RowsOK (P : Program) (T : Tab) : List (Nat × TI) → Prop
  | [] => True
  | (t, i) :: r => RowOK P T t i ∧ RowsOK P T r
theorem Tab.mem : ∀ {T : Tab} {t : Nat} {i : TI}, T.at t = some i → (t, i) ∈ T
  | [], _, _, h => by simp [Tab.at] at h
  | (k, x) :: r, t, i, h => by
    simp only [Tab.at] at h
    split at h
    · rename_i e
      have := Nat.eq_of_beq_eq_true e
      subst this
      injection h with h; subst h
      exact List.mem_cons_self ..
    · exact List.mem_cons_of_mem _ (Tab.mem h)
theorem RowsOK.get {P : Program} {T : Tab} : ∀ {l : List (Nat × TI)} {t : Nat} {i : TI}, RowsOK P T l → (t, i) ∈ l → RowOK P T t i
  | (k, x) :: r, t, i, h, hm => by
    rcases List.mem_cons.1 hm with hm | hm
    · injection hm with h1 h2; subst h1; subst h2; exact h.1
    · exact RowsOK.get h.2 hm
theorem TabOK.of {P : Program} {T : Tab} (hm : P.follows .mixedOrders = true) (h : RowsOK P T T) : TabOK P T where
  mix := hm
  eqs t i fs hi hk hf := by
    have hr := (h.get (Tab.mem hi)).fld
    rw [hk] at hr
    exact hr.2 hf
  info t i hi := by
    have hr := h.get (Tab.mem hi)
    obtain ⟨z, h1, h2⟩ := hr.z
    obtain ⟨inf, h3, h4⟩ := Option.map_eq_some_iff.1 h1
    simp only [Prod.mk.injEq] at h4
    exact ⟨inf, z, h3, h4.1, h4.2.1, h4.2.2, h2, hr.len, List.all_eq_true.1 hr.one⟩
  desc t i hi := by
    have hr := h.get (Tab.mem hi)
    obtain ⟨d, h1, h2⟩ := Option.map_eq_some_iff.1 hr.desc
    exact ⟨d, h1, TK.fits_of h2⟩
  fld t i fs hi hk p hp := by
    have hr := (h.get (Tab.mem hi)).fld
    rw [hk] at hr
    exact Option.isSome_iff_exists.1 (List.all_eq_true.1 hr.1 p hp)

/-! ### How a contract is used -/
theorem br_intro {b : Bool} {A B : Prop} (h1 : b = true → A) (h2 : b = false → B) : br b A B := by
  cases b
  · exact h2 rfl
  · exact h1 rfl
end Go.Sim
namespace Go.Sim
open Go Go.RowKit

theorem all_bool {e : Bool} {K : Bool → Prop} (h1 : e = true → K true) (h2 : e = false → K false) : ∀ d, e = d → K d := by
  intro d h; cases d
  · exact h2 h
  · exact h1 h
theorem all_lt {x y : Int} {K : Bool → Prop} (h1 : x < y → K true) (h2 : ¬ x < y → K false) : ∀ d, decide (x < y) = d → K d :=
  all_bool (fun h => h1 (of_decide_eq_true h)) (fun h => h2 (of_decide_eq_false h))
theorem all_le {x y : Int} {K : Bool → Prop} (h1 : x ≤ y → K true) (h2 : ¬ x ≤ y → K false) : ∀ d, decide (x ≤ y) = d → K d :=
  all_bool (fun h => h1 (of_decide_eq_true h)) (fun h => h2 (of_decide_eq_false h))
theorem all_beq {x y : Int} {K : Bool → Prop} (h1 : x = y → K true) (h2 : ¬ x = y → K false) : ∀ d, (x == y) = d → K d :=
  all_bool (fun h => h1 (by simpa using h)) (fun h => h2 (by simpa using h))
theorem all_bne {x y : Int} {K : Bool → Prop} (h1 : ¬ x = y → K true) (h2 : x = y → K false) : ∀ d, (x != y) = d → K d :=
  all_bool (fun h => h1 (by simpa using h)) (fun h => h2 (by simpa using h))
theorem all_wrap {n : Int} {K : Int → Prop} (h : ∀ y, wrap64 n = y → K y) : ∀ y, y = IntKind.i64.wrap n → K y := by
  intro y hy
  refine h y ?_
  rw [hy]
  unfold wrap64
  exact (IntKind.wrap_i64 n).symm
theorem all_eq {α : Type} {n : α} {K : α → Prop} (h : ∀ y, n = y → K y) : ∀ y, y = n → K y := fun y hy => h y hy.symm
theorem bind_some {α β : Type} {o : Option α} {f : α → Option β} {r : β} (h : o.bind f = some r) : ∃ x, o = some x ∧ f x = some r := by
  cases o with
  | none => cases h
  | some x => exact ⟨x, rfl, h⟩
theorem if_none {α : Type} {c : Prop} [Decidable c] {a : Option α} {r : α} (h : (if c then a else none) = some r) : c ∧ a = some r := by
  by_cases hc : c
  · rw [if_pos hc] at h; exact ⟨hc, h⟩
  · rw [if_neg hc] at h; cases h
theorem all_neg {x : Int} {K : Int → Prop} (h : ∀ y, wrap64 (-x) = y → K y) : ∀ y, y = IntKind.i64.wrap (0 - x) → K y :=
  all_wrap (by rw [Int.zero_sub]; exact h)
theorem all_u0 {K : Int → Prop} (h : K 0) : ∀ y, y = IntKind.u64.wrap 0 → K y := by
  rintro _ rfl
  exact h
theorem all_tdiv {x y : Int} {K : Int → Prop} (h : ∀ z, wrap64 (x.tdiv y) = z → K z) : ∀ z, z = IntKind.i64.wrap (x.tdiv y) → K z := all_wrap h
theorem all_tmod {x y : Int} {K : Int → Prop} (h : ∀ z, Int.tmod x y = z → K z) : ∀ z, z = x.tmod y → K z := all_eq h
theorem beq_pos {x y : Int} (h : x = y) : (x == y) = true := by simpa using h
theorem beq_neg {x y : Int} (h : ¬ x = y) : (x == y) = false := by simpa using h
theorem bne_pos {x y : Int} (h : ¬ x = y) : (x != y) = true := by simpa using h
theorem bne_neg {x y : Int} (h : x = y) : (x != y) = false := by simpa using h

theorem all_not {t : Bool} {K : Bool → Prop} (h1 : t = true → K false) (h2 : t = false → K true) : ∀ d, (!t) = d → K d := by
  cases t
  · rintro _ rfl; exact h2 rfl
  · rintro _ rfl; exact h1 rfl
theorem all_len {n : Nat} {K : Int → Prop} (h : ∀ y, (n : Int) = y → K y) : ∀ y, y = (n : Int) → K y := all_eq h
theorem all_len_old {n : Nat} {y : Int} {K : Int → Prop} (h0 : (n : Int) = y) (h : K y) : ∀ z, z = (n : Int) → K z := by rintro _ rfl; rw [h0]; exact h
theorem side {A : Prop} {K : A → Prop} (h : A) (k : K h) : ∃ h, K h := ⟨h, k⟩
theorem if_none' {α : Type} {c : Prop} [Decidable c] {a : Option α} {r : α} (h : (if c then none else a) = some r) : ¬ c ∧ a = some r := by
  by_cases hc : c
  · rw [if_pos hc] at h; cases h
  · rw [if_neg hc] at h; exact ⟨hc, h⟩
theorem all_shr40 {a : Int} {K : Int → Prop} (h : ∀ y, a / 1099511627776 = y → K y) : ∀ y, y = a.fdiv (2 ^ (min (40 : Int).toNat IntKind.u64.bits)) → K y := by
  intro y hy
  refine h y ?_
  rw [hy, Int.fdiv_eq_ediv_of_nonneg]
  · rfl
  · decide
theorem all_and {k : IntKind} {a b : Int} {K : Int → Prop} (h : ∀ y, bits .and k a b = y → K y) : ∀ y, y = k.wrap (BitVec.ofInt k.bits a &&& BitVec.ofInt k.bits b).toNat → K y := by
  intro y hy
  exact h y hy.symm
theorem all_not_true {K : Bool → Prop} (h : K false) : ∀ d, (!true) = d → K d := by
  rintro _ rfl; exact h
theorem all_not_false {K : Bool → Prop} (h : K true) : ∀ d, (!false) = d → K d := by
  rintro _ rfl; exact h
theorem all_old {α : Type} {x y : α} {K : α → Prop} (h0 : x = y) (h : K y) : ∀ z, z = x → K z := by
  rintro _ rfl; rw [h0]; exact h
theorem all_wrap_old {x y : Int} {K : Int → Prop} (h0 : wrap64 x = y) (h : K y) : ∀ z, z = IntKind.i64.wrap x → K z :=
  all_wrap fun z hz => by rw [← hz, h0]; exact h

/-- The elements of a row that stands for a list. -/
def encL {α : Type} (e : α → List V) (l : List α) : Nat → List V := fun k => match l[k]? with
  | some x => e x
  | none => []
theorem encL_at {α : Type} {e : α → List V} {l : List α} {k : Nat} (d : α) (h : k < l.length) : encL e l k = e (l.getD k d) := by
  unfold encL
  rw [List.getElem?_eq_getElem h, List.getD_eq_getElem?_getD, List.getElem?_eq_getElem h]
  rfl
theorem all_enc {α : Type} [Inhabited α] {e : α → List V} {l : List α} {n : Nat} {g : Nat → List V} {q : Int} {K : List V → Prop} (hg : encL e l = g) (hn : l.length = n) (h0 : 0 ≤ q) (h1 : q < (n : Int)) (h : ∀ z, l.getD q.toNat default = z → K (e z)) : ∀ cs, cs = g q.toNat → K cs := by
  subst hg; subst hn
  rintro _ rfl
  rw [encL_at default (by omega)]
  exact h _ rfl
theorem all_show {n len : Nat} {g : Nat → List V} {K : (Nat → List V) → Prop} (h0 : 0 + len ≤ n) (h : K g) : ∃ _ : 0 + len ≤ n, ∃ g', (∀ k, k < len → g' k = g (k + 0)) ∧ K g' := ⟨h0, g, fun _ _ => rfl, h⟩
theorem all_buildI1 {a0 : Int} {K : (Nat → List V) → Prop} (h : ∀ g', encL (fun x : Int => [V.val (.int .i64 x)]) [a0] = g' → K g') : ∃ g', (∀ k, k < 1 → g' k = ([[.val (.int .i64 a0)]] : List (List V)).getD k []) ∧ K g' :=
  ⟨_, fun k hk => by
    match k, hk with
    | 0, _ => rfl, h _ rfl⟩
theorem all_buildI2 {a0 a1 : Int} {K : (Nat → List V) → Prop} (h : ∀ g', encL (fun x : Int => [V.val (.int .i64 x)]) [a0, a1] = g' → K g') : ∃ g', (∀ k, k < 2 → g' k = ([[.val (.int .i64 a0)], [.val (.int .i64 a1)]] : List (List V)).getD k []) ∧ K g' :=
  ⟨_, fun k hk => by
    match k, hk with
    | 0, _ => rfl
    | 1, _ => rfl, h _ rfl⟩
theorem all_buildI3 {a0 a1 a2 : Int} {K : (Nat → List V) → Prop} (h : ∀ g', encL (fun x : Int => [V.val (.int .i64 x)]) [a0, a1, a2] = g' → K g') : ∃ g', (∀ k, k < 3 → g' k = ([[.val (.int .i64 a0)], [.val (.int .i64 a1)], [.val (.int .i64 a2)]] : List (List V)).getD k []) ∧ K g' :=
  ⟨_, fun k hk => by
    match k, hk with
    | 0, _ => rfl
    | 1, _ => rfl
    | 2, _ => rfl, h _ rfl⟩
theorem all_buildI4 {a0 a1 a2 a3 : Int} {K : (Nat → List V) → Prop} (h : ∀ g', encL (fun x : Int => [V.val (.int .i64 x)]) [a0, a1, a2, a3] = g' → K g') : ∃ g', (∀ k, k < 4 → g' k = ([[.val (.int .i64 a0)], [.val (.int .i64 a1)], [.val (.int .i64 a2)], [.val (.int .i64 a3)]] : List (List V)).getD k []) ∧ K g' :=
  ⟨_, fun k hk => by
    match k, hk with
    | 0, _ => rfl
    | 1, _ => rfl
    | 2, _ => rfl
    | 3, _ => rfl, h _ rfl⟩
theorem all_buildI5 {a0 a1 a2 a3 a4 : Int} {K : (Nat → List V) → Prop} (h : ∀ g', encL (fun x : Int => [V.val (.int .i64 x)]) [a0, a1, a2, a3, a4] = g' → K g') : ∃ g', (∀ k, k < 5 → g' k = ([[.val (.int .i64 a0)], [.val (.int .i64 a1)], [.val (.int .i64 a2)], [.val (.int .i64 a3)], [.val (.int .i64 a4)]] : List (List V)).getD k []) ∧ K g' :=
  ⟨_, fun k hk => by
    match k, hk with
    | 0, _ => rfl
    | 1, _ => rfl
    | 2, _ => rfl
    | 3, _ => rfl
    | 4, _ => rfl, h _ rfl⟩
theorem all_buildI6 {a0 a1 a2 a3 a4 a5 : Int} {K : (Nat → List V) → Prop} (h : ∀ g', encL (fun x : Int => [V.val (.int .i64 x)]) [a0, a1, a2, a3, a4, a5] = g' → K g') : ∃ g', (∀ k, k < 6 → g' k = ([[.val (.int .i64 a0)], [.val (.int .i64 a1)], [.val (.int .i64 a2)], [.val (.int .i64 a3)], [.val (.int .i64 a4)], [.val (.int .i64 a5)]] : List (List V)).getD k []) ∧ K g' :=
  ⟨_, fun k hk => by
    match k, hk with
    | 0, _ => rfl
    | 1, _ => rfl
    | 2, _ => rfl
    | 3, _ => rfl
    | 4, _ => rfl
    | 5, _ => rfl, h _ rfl⟩
theorem all_buildI7 {a0 a1 a2 a3 a4 a5 a6 : Int} {K : (Nat → List V) → Prop} (h : ∀ g', encL (fun x : Int => [V.val (.int .i64 x)]) [a0, a1, a2, a3, a4, a5, a6] = g' → K g') : ∃ g', (∀ k, k < 7 → g' k = ([[.val (.int .i64 a0)], [.val (.int .i64 a1)], [.val (.int .i64 a2)], [.val (.int .i64 a3)], [.val (.int .i64 a4)], [.val (.int .i64 a5)], [.val (.int .i64 a6)]] : List (List V)).getD k []) ∧ K g' :=
  ⟨_, fun k hk => by
    match k, hk with
    | 0, _ => rfl
    | 1, _ => rfl
    | 2, _ => rfl
    | 3, _ => rfl
    | 4, _ => rfl
    | 5, _ => rfl
    | 6, _ => rfl, h _ rfl⟩
theorem all_buildI8 {a0 a1 a2 a3 a4 a5 a6 a7 : Int} {K : (Nat → List V) → Prop} (h : ∀ g', encL (fun x : Int => [V.val (.int .i64 x)]) [a0, a1, a2, a3, a4, a5, a6, a7] = g' → K g') : ∃ g', (∀ k, k < 8 → g' k = ([[.val (.int .i64 a0)], [.val (.int .i64 a1)], [.val (.int .i64 a2)], [.val (.int .i64 a3)], [.val (.int .i64 a4)], [.val (.int .i64 a5)], [.val (.int .i64 a6)], [.val (.int .i64 a7)]] : List (List V)).getD k []) ∧ K g' :=
  ⟨_, fun k hk => by
    match k, hk with
    | 0, _ => rfl
    | 1, _ => rfl
    | 2, _ => rfl
    | 3, _ => rfl
    | 4, _ => rfl
    | 5, _ => rfl
    | 6, _ => rfl
    | 7, _ => rfl, h _ rfl⟩
theorem all_enc_old {α : Type} [Inhabited α] {e : α → List V} {l : List α} {n : Nat} {g : Nat → List V} {q : Int} {K : List V → Prop} {z : α} (hg : encL e l = g) (hn : l.length = n) (h0 : 0 ≤ q) (h1 : q < (n : Int)) (hz : l.getD q.toNat default = z) (h : K (e z)) : ∀ cs, cs = g q.toNat → K cs :=
  all_enc hg hn h0 h1 fun z' hz' => by rw [← hz', hz]; exact h
/-- Two rows one behind the other. -/
theorem all_append {α : Type} {e : α → List V} {l1 l2 : List α} {n1 n2 : Nat} {g1 gx : Nat → List V} {K : Nat → (Nat → List V) → Prop} (hg1 : encL e l1 = g1) (hn1 : l1.length = n1) (hn2 : l2.length = n2) (hgx : ∀ k, k < n2 → gx k = encL e l2 k)
    (h : ∀ L, l1 ++ l2 = L → ∀ n, L.length = n → ∀ g, encL e L = g → K n g) : ∀ n', n' = n1 + n2 → ∃ g', (∀ k, k < n' → g' k = if k < n1 then g1 (k + 0) else gx (k - n1)) ∧ K n' g' := by
  intro n' hn'
  subst hg1 hn1 hn2 hn'
  refine ⟨encL e (l1 ++ l2), fun k hk => ?_, h _ rfl _ List.length_append _ rfl⟩
  by_cases hc : k < l1.length
  · rw [if_pos hc]
    unfold encL
    rw [List.getElem?_append_left hc]
    rfl
  · rw [if_neg hc, hgx _ (by omega)]
    unfold encL
    rw [List.getElem?_append_right (by omega)]
/-- One element of a row of one cell is set. -/
theorem all_set {α : Type} {e : α → List V} {l : List α} {n k : Nat} {x : α} {g : Nat → List V} {c : List V} {K : (Nat → List V) → Prop} (hg : encL e l = g) (hn : l.length = n) (hk : k < n) (hc : e x = c) (hs : ∀ y, (e y).length = c.length)
    (h : ∀ L, l.set k x = L → L.length = n → ∀ g, encL e L = g → K g) : ∃ g', (∀ q, q < n → g' q = if q = k then (g q).take 0 ++ c ++ (g q).drop (0 + c.length) else g q) ∧ K g' := by
  subst hg hn
  refine ⟨encL e (l.set k x), fun q hq => ?_, h _ rfl List.length_set _ rfl⟩
  by_cases hqk : q = k
  · subst hqk
    rw [if_pos rfl]
    have h1 : encL e (l.set q x) q = e x := by unfold encL; rw [List.getElem?_set_self hq]
    have h2 : encL e l q = e l[q] := by unfold encL; rw [List.getElem?_eq_getElem hq]
    rw [h1, h2, hc, List.take_zero, List.nil_append, List.drop_eq_nil_of_le (by rw [hs]; omega), List.append_nil]
  · rw [if_neg hqk]
    unfold encL
    rw [List.getElem?_set_ne (fun e => hqk e.symm)]
/-- A row of one value. -/
theorem all_make {α : Type} {e : α → List V} {d : α} {n : Nat} {z : List V} {K : (Nat → List V) → Prop} (hd : e d = z) (h : ∀ L, List.replicate n d = L → L.length = n → ∀ g, encL e L = g → K g) : ∃ g', (∀ k, k < n → g' k = z) ∧ K g' := by
  refine ⟨encL e (List.replicate n d), fun k hk => ?_, h _ rfl List.length_replicate _ rfl⟩
  unfold encL
  rw [List.getElem?_replicate, if_pos hk]
  exact hd

/-! ### The second generator's steps -/
theorem all_ix0 {q : Int} {K : Nat → Prop} (h : ∀ y, q.toNat = y → K y) : ∀ k, k = q.toNat + 0 → K k := by rintro _ rfl; exact h _ rfl
theorem all_rd {α : Type} [Inhabited α] (e : α → List V) (R : List α → Int → α) {l : List α} {n : Nat} {q : Int} {g : Nat → List V} {k : Nat} {K : List V → Prop} (hR : ∀ l q, R l q = l.getD q.toNat default) (hg : encL e l = g) (hn : l.length = n) (hk : q.toNat = k) (h0 : 0 ≤ q) (h1 : q < (n : Int))
    (h : ∀ z, R l q = z → K (e z)) : ∀ cs, cs = g k → K cs := by
  subst hk
  exact all_enc hg hn h0 h1 fun z hz => h z ((hR l q).trans hz)
theorem all_rd_old {α : Type} [Inhabited α] (e : α → List V) (R : List α → Int → α) {l : List α} {n : Nat} {q : Int} {z : α} {g : Nat → List V} {k : Nat} {K : List V → Prop} (hR : ∀ l q, R l q = l.getD q.toNat default) (hg : encL e l = g) (hn : l.length = n) (hk : q.toNat = k) (h0 : 0 ≤ q) (h1 : q < (n : Int))
    (hz : R l q = z) (h : K (e z)) : ∀ cs, cs = g k → K cs :=
  all_rd e R hR hg hn hk h0 h1 fun z' hz' => by rw [← hz', hz]; exact h
/-- An element of a row of the call's own is set. -/
theorem all_put {α : Type} (e : α → List V) {l : List α} {n k d : Nat} {x : α} {g : Nat → List V} {c : List V} {K : (Nat → List V) → Prop} (hg : encL e l = g) (hn : l.length = n) (hk : k < n) (hc : e x = c) (hd : ∀ y, (e y).length = d)
    (h : ∀ L, l.set k x = L → L.length = n → ∀ g, encL e L = g → K g) : ∃ _ : k < n, ∃ g', (∀ q, q < n → g' q = if q = k then (g q).take 0 ++ c ++ (g q).drop (0 + d) else g q) ∧ K g' := by
  have hcd : c.length = d := by rw [← hc]; exact hd x
  subst hcd
  exact ⟨hk, all_set hg hn hk hc (fun y => hd y) h⟩
theorem all_mk {α : Type} (e : α → List V) (d : α) (m : Nat) {a : Nat} {z : List V} {K : Nat → (Nat → List V) → Prop} (ha : a = m) (hd : e d = z) (h : ∀ L, List.replicate m d = L → L.length = m → ∀ g, encL e L = g → K m g) : ∀ n, n = a → ∃ g', (∀ k, k < n → g' k = z) ∧ K n g' := by
  rintro n rfl
  subst ha
  exact all_make (e := e) (d := d) hd (fun L h1 h2 g h3 => h L h1 h2 g h3)
theorem all_app {α : Type} {e : α → List V} {l1 l2 : List α} {n1 n2 : Nat} {g1 g2 : Nat → List V} {K : Nat → (Nat → List V) → Prop} (hg1 : encL e l1 = g1) (hn1 : l1.length = n1) (hg2 : encL e l2 = g2) (hn2 : l2.length = n2)
    (h : ∀ L, l1 ++ l2 = L → ∀ n, L.length = n → ∀ g, encL e L = g → K n g) : ∀ n', n' = n1 + n2 → ∃ g', (∀ k, k < n' → g' k = if k < n1 then g1 (k + 0) else g2 (k - n1 + 0)) ∧ K n' g' :=
  all_append (gx := fun k => g2 (k + 0)) hg1 hn1 hn2 (fun k _ => by rw [← hg2]; rfl) h
theorem all_appF {α : Type} {e : α → List V} {l1 l2 : List α} {n1 n2 : Nat} {g1 g2 : Nat → List V} {K : Nat → (Nat → List V) → Prop} (hg1 : encL e l1 = g1) (hn1 : l1.length = n1) (hg2 : encL e l2 = g2) (hn2 : l2.length = n2)
    (h : ∀ L, l1 ++ l2 = L → ∀ n, L.length = n → ∀ g, encL e L = g → K n g) : ∀ n', n' = n1 + n2 → ∃ g', (∀ k, k < n' → g' k = if k < n1 then g1 (k + 0) else g2 (k - n1)) ∧ K n' g' :=
  all_append (gx := g2) hg1 hn1 hn2 (fun k _ => by rw [← hg2]) h
theorem enc_drop {α : Type} {e : α → List V} {l : List α} {c k : Nat} : encL e (l.drop c) k = encL e l (k + c) := by
  unfold encL
  rw [List.getElem?_drop, Nat.add_comm]
theorem all_appD {α : Type} {e : α → List V} {l1 l2 : List α} {n1 n2 c : Nat} {g1 g2 : Nat → List V} {K : Nat → (Nat → List V) → Prop} (hg1 : encL e l1 = g1) (hn1 : l1.length = n1) (hg2 : encL e l2 = g2) (hn2 : (l2.drop c).length = n2)
    (h : ∀ L, l1 ++ l2.drop c = L → ∀ n, L.length = n → ∀ g, encL e L = g → K n g) : ∀ n', n' = n1 + n2 → ∃ g', (∀ k, k < n' → g' k = if k < n1 then g1 (k + 0) else g2 (k - n1 + c)) ∧ K n' g' :=
  all_append (gx := fun k => g2 (k + c)) hg1 hn1 hn2 (fun k _ => by rw [← hg2]; exact enc_drop.symm) h
theorem all_build1 {α : Type} (e : α → List V) {x : α} {c : List V} {K : (Nat → List V) → Prop} (hc : e x = c) (h : ∀ g', encL e [x] = g' → K g') : ∃ g', (∀ k, k < 1 → g' k = ([c] : List (List V)).getD k []) ∧ K g' :=
  ⟨_, fun k hk => by
    match k, hk with
    | 0, _ => exact hc, h _ rfl⟩
theorem all_build0 {α : Type} (e : α → List V) {K : (Nat → List V) → Prop} (h : ∀ g', encL e [] = g' → K g') : ∃ g', (∀ k, k < 0 → g' k = ([] : List (List V)).getD k []) ∧ K g' := ⟨_, fun k hk => absurd hk (Nat.not_lt_zero k), h _ rfl⟩
theorem all_g0 {n : Nat} {g : Nat → List V} {K : (Nat → List V) → Prop} (h : K g) : ∃ g', (∀ k, k < n → g' k = g (k + 0)) ∧ K g' := ⟨g, fun _ _ => rfl, h⟩
theorem lt_ix {x : Int} {q n : Nat} (hq : x.toNat = q) (h0 : 0 ≤ x) (hc : x < (n : Int)) : q < n := by omega
theorem lt_ix2 {x y : Int} {q n : Nat} (hq : x.toNat = q) (h0 : 0 ≤ x) (hc : x < y) (hy : (n : Int) = y) : q < n := by omega
theorem lt_y {x y : Int} {n : Nat} (hc : x < y) (hy : (n : Int) = y) : x < (n : Int) := by omega
theorem le_y {y : Int} {n : Nat} (hy : (n : Int) = y) : y ≤ (n : Int) := by omega
theorem ge_y {y : Int} {n : Nat} (hy : (n : Int) = y) : 0 ≤ y := by omega
theorem cut_len {y : Int} {n n' c : Nat} (hn' : n' = y.toNat - c) (hy : (n : Int) = y) : n' = n - c := by omega
theorem cut_le {y c : Int} {n : Nat} (h : c ≤ (n : Int)) (hy : (n : Int) = y) : c ≤ y := by omega
theorem all_ix0_old {q : Int} {y : Nat} {K : Nat → Prop} (hq : q.toNat = y) (h : K y) : ∀ k, k = q.toNat + 0 → K k := by rintro _ rfl; rw [Nat.add_zero, hq]; exact h
theorem all_putS {α : Type} (e : α → List V) {l : List α} {n k d : Nat} {x : α} {g : Nat → List V} {c : List V} {K : (Nat → List V) → Prop} (hg : encL e l = g) (hn : l.length = n) (hk : k < n) (hc : e x = c) (hd : ∀ y, (e y).length = d)
    (h : ∀ L, l.set k x = L → L.length = n → ∀ g, encL e L = g → K g) : ∃ g', (∀ q, q < n → g' q = if q = k then (g q).take 0 ++ c ++ (g q).drop (0 + d) else g q) ∧ K g' :=
  (all_put e hg hn hk hc hd h).2
theorem one_le {y : Int} {n : Nat} (hc : 1 ≤ y) (hy : (n : Int) = y) : 1 ≤ n := by omega
theorem agree_side {a b : List Ob} {o : Nat} {K : Prop} (h : a[o]? = b[o]?) (k : K) : ∃ _ : a[o]? = b[o]?, K := ⟨h, k⟩
theorem agree_weak {a b : List Ob} {o : Nat} {K : Prop} (h : (a[o]?).map weakOb = (b[o]?).map weakOb) (k : K) : ∃ _ : (a[o]?).map weakOb = (b[o]?).map weakOb, K := ⟨h, k⟩
theorem bind_side {B : List Bind} {n : Nat} {x : Option Bind} {K : Prop} (h : B[n]? = x) (k : K) : ∃ _ : B[n]? = x, K := ⟨h, k⟩
theorem enc_same {α : Type} {e : α → List V} {l : List α} {g g' : Nat → List V} (h : encL e l = g) (h' : encL e l = g') (n : Nat) : ∀ k, k < n → g k = g' (k + 0) := by subst h h'; exact fun _ _ => rfl
theorem clean_enc {α : Type} {e : α → List V} {l : List α} {g : Nat → List V} {n : Nat} (hn : l.length = n) (hg : encL e l = g) (he : ∀ x, (e x).all cleanC = true) : ∀ k, k < n → (g k).all cleanC = true := by
  intro k hk
  subst hg hn
  unfold encL
  rw [List.getElem?_eq_getElem hk]
  exact he _
end Go.Sim
namespace Go.Sim
/-- What is told of truth values, as one fact (simp takes it apart). -/
theorem bs : ((true = false) = False) ∧ ((false = true) = False) ∧ (∀ b : Bool, (b && true) = b) ∧ (∀ b : Bool, (b && false) = false) ∧ (∀ b : Bool, (true && b) = b) ∧ (∀ b : Bool, (false && b) = false) ∧
    (∀ b : Bool, (true || b) = true) ∧ (∀ b : Bool, (false || b) = b) ∧ (∀ b : Bool, (b || true) = true) ∧ (∀ b : Bool, (b || false) = b) ∧ ((!true) = false) ∧ ((!false) = true) := by
  refine ⟨by simp, by simp, ?_, ?_, ?_, ?_, ?_, ?_, ?_, ?_, rfl, rfl⟩ <;> (intro b; cases b <;> rfl)
end Go.Sim
namespace Go.Sim
open Go Go.RowKit
theorem enc_take {α : Type} {e : α → List V} {l : List α} {c k : Nat} (h : k < c) : encL e (l.take c) k = encL e l k := by
  unfold encL
  rw [List.getElem?_take_of_lt h]
/-- A cut of a row that is only read: a list of its own. -/
theorem all_cut {α : Type} {e : α → List V} {l : List α} {n : Nat} {g : Nat → List V} {lo hi : Int} {K : Nat → (Nat → List V) → Prop} (hg : encL e l = g) (hn : l.length = n) (h0 : 0 ≤ lo) (h1 : lo ≤ hi) (h2 : hi.toNat ≤ n)
    (h : ∀ D, (l.take hi.toNat).drop lo.toNat = D → ∀ m, D.length = m → ∀ g, encL e D = g → K m g) : ∀ n', n' = hi.toNat - lo.toNat → ∃ g', (∀ k, k < n' → g' k = g (k + lo.toNat)) ∧ K n' g' := by
  intro n' hn'
  subst hg hn
  have hlen : ((l.take hi.toNat).drop lo.toNat).length = n' := by rw [List.length_drop, List.length_take]; omega
  refine ⟨encL e ((l.take hi.toNat).drop lo.toNat), fun k hk => ?_, h _ rfl _ hlen _ rfl⟩
  rw [enc_drop, enc_take (by omega)]
theorem all_cut0 {α : Type} {e : α → List V} {l : List α} {n : Nat} {g : Nat → List V} {hi : Int} {K : Nat → (Nat → List V) → Prop} (hg : encL e l = g) (hn : l.length = n) (h1 : 0 ≤ hi) (h2 : hi.toNat ≤ n)
    (h : ∀ D, l.take hi.toNat = D → ∀ m, D.length = m → ∀ g, encL e D = g → K m g) : ∀ n', n' = hi.toNat → ∃ g', (∀ k, k < n' → g' k = g (k + 0)) ∧ K n' g' :=
  all_cut hg hn (Int.le_refl 0) h1 h2 fun D hD m hm g hg => h D hD m hm g hg
theorem all_cutD {α : Type} {e : α → List V} {l : List α} {n : Nat} {g : Nat → List V} {lo hi : Int} {K : Nat → (Nat → List V) → Prop} (hg : encL e l = g) (hn : l.length = n) (h0 : 0 ≤ lo) (h1 : lo ≤ hi) (h2 : (n : Int) = hi)
    (h : ∀ D, l.drop lo.toNat = D → ∀ m, D.length = m → ∀ g, encL e D = g → K m g) : ∀ n', n' = hi.toNat - lo.toNat → ∃ g', (∀ k, k < n' → g' k = g (k + lo.toNat)) ∧ K n' g' :=
  all_cut hg hn h0 h1 (by omega) fun D hD m hm g hg => h D (by rw [← hD, List.take_of_length_le (by omega)]) m hm g hg
theorem cut_hi {hi : Int} {n : Nat} (h : hi ≤ (n : Int)) : hi.toNat ≤ n := by omega
theorem cut_hi2 {hi y : Int} {n : Nat} (h : hi ≤ y) (hy : (n : Int) = y) : hi.toNat ≤ n := by omega
theorem cut_hi3 {hi : Int} {n : Nat} (h : hi < (n : Int)) : hi.toNat ≤ n := by omega
theorem cut_hi4 {hi y : Int} {n : Nat} (h : hi < y) (hy : (n : Int) = y) : hi.toNat ≤ n := by omega
theorem bnt {b : Bool} (h : (!b) = true) : b = false := by cases b; rfl; cases h
theorem bnf {b : Bool} (h : (!b) = false) : b = true := by cases b; cases h; rfl
theorem dself {b : Bool} : decide (b = b) = true := by simp
theorem btrue {b : Bool} (h : decide (b = true) = true) : b = true := of_decide_eq_true h
theorem bfalse {b : Bool} (h : decide (b = true) = false) : b = false := by cases b; rfl; exact absurd h (by decide)
theorem btrue' {b : Bool} (h : decide (b = false) = true) : b = false := of_decide_eq_true h
theorem bfalse' {b : Bool} (h : decide (b = false) = false) : b = true := by cases b; exact absurd h (by decide); rfl
theorem cut_len0 {n' : Nat} {hi : Int} (h : n' = hi.toNat - Int.toNat 0) : n' = hi.toNat := h
/-- An own row, cut at its beginning, shown to a callee. -/
theorem all_showT {α : Type} {e : α → List V} {l : List α} {n n' : Nat} {g : Nat → List V} {hi : Int} {K : (Nat → List V) → Prop} (hg : encL e l = g) (hn : l.length = n) (hn' : n' = hi.toNat) (h1 : 0 ≤ hi) (h2 : hi.toNat ≤ n)
    (h : ∀ D, l.take hi.toNat = D → D.length = n' → ∀ g', encL e D = g' → K g') : ∃ _ : 0 + n' ≤ n, ∃ g', (∀ k, k < n' → g' k = g (k + 0)) ∧ K g' := by
  subst hg hn hn'
  exact ⟨by omega, encL e (l.take hi.toNat), fun k hk => enc_take hk, h _ rfl (by rw [List.length_take]; omega) _ rfl⟩
theorem take_s1 {n n' : Nat} {hi y : Int} (hn' : n' = hi.toNat) (h : hi ≤ y) (hy : (n : Int) = y) : 0 + n' ≤ n := by omega
theorem take_s2 {α : Type} {l : List α} {n n' m : Nat} {hi y : Int} (hn' : n' = hi.toNat) (hr : (l.take hi.toNat).length = m) (hl : l.length = n) (h : hi ≤ y) (hy : (n : Int) = y) : n' = m := by
  rw [List.length_take] at hr; omega
theorem take_s3 {α : Type} {e : α → List V} {l : List α} {n' : Nat} {hi : Int} {g g' : Nat → List V} (hn' : n' = hi.toNat) (hg : encL e l = g) (hr : encL e (l.take hi.toNat) = g') : ∀ k, k < n' → g' k = g (k + 0) := by
  subst hn' hg hr
  exact fun k hk => enc_take hk
theorem take_s4 {α : Type} {e : α → List V} {l : List α} {m : Nat} {hi : Int} {g g' : Nat → List V} (hl : (l.take hi.toNat).length = m) (hr : encL e (l.take hi.toNat) = g') (hg : encL e l = g) : ∀ k, k < m → g' k = g (k + 0) := by
  subst hl hg hr
  intro k hk
  rw [List.length_take] at hk
  exact enc_take (by omega)
end Go.Sim
namespace Go.Sim
open Go Go.RowKit Go.ChangeShapes Go.WideShapes Go.Deep

/-- Bytes that can be read as data are a slice that is only read. -/
theorem bytes_arg {H : Type} {enc : TypeId × Value → H} {P : Program} {W : World} {t e : TypeId} (hu : P.underlying t = some (.slice e)) (he : P.underlying e = some (.int .u8)) (hc : P.cellsOf e = 1)
    {A : Option Addr} {len cap : Nat} {x : DataW H} {ps : List MemPlace} (hd : DataW.Trod enc P W 0 (fun _ => true) true t (.slice A len cap) x ps) :
    ∃ xs : List Int, xs.length = len ∧ xs.length ≤ maxLen ∧ (∀ x ∈ xs, (Lit.int .u8 x).wf = true) ∧ FR W (fun _ => False) (.fz 1 len (encL (fun x => [V.val (.int .u8 x)]) xs)) (.slice A len cap) := by
  obtain ⟨fuel, hf⟩ := hd
  rcases open_slice hu hf with ⟨h0, _⟩ | ⟨a, len', cap', m, k, D, Pl, h0, _, hlc, hcm, hm, _, hel⟩
  · simp only [Value.cells, List.cons.injEq, Value.slice.injEq, and_true] at h0
    obtain ⟨rfl, rfl, rfl⟩ := h0
    exact ⟨[], rfl, Nat.zero_le _, by simp, FR.fz (fun _ _ => undef) (Nat.le_refl _) (fun h => absurd h (Nat.lt_irrefl 0)) (fun k hk => absurd hk (Nat.not_lt_zero k)) (fun k _ _ hk => absurd hk (Nat.not_lt_zero k))⟩
  · simp only [Value.cells, List.cons.injEq, Value.slice.injEq, and_true] at h0
    obtain ⟨rfl, rfl, rfl⟩ := h0
    have hlm : len ≤ m := by rw [hm]; simp; exact hlc
    have each : ∀ i : Fin len, ∃ z : Int, (Lit.int .u8 z).wf = true ∧ W.cell? (a.add i.1) = some (.int .u8 z) := by
      intro i
      obtain ⟨cs', h1, h2⟩ := hel i.1 (by have := i.2; omega)
      obtain ⟨n, rfl, _, hw⟩ := DataW.trod_int he h2
      obtain ⟨_, hln, hce⟩ := World.cells?_some h1
      refine ⟨n, hw, ?_⟩
      have := hce 0 (by rw [hc]; exact Nat.one_pos)
      rw [hc, Nat.mul_one] at this
      rw [Deep.add_add, Nat.add_zero] at this
      exact this
    let f : Fin len → Int := fun i => Classical.choose (each i)
    have hf' : ∀ i : Fin len, (Lit.int .u8 (f i)).wf = true ∧ W.cell? (a.add i.1) = some (.int .u8 (f i)) := fun i => Classical.choose_spec (each i)
    refine ⟨List.ofFn f, by simp, by simp; omega, ?_, ?_⟩
    · intro x hx
      obtain ⟨i, rfl⟩ := List.mem_ofFn.1 hx
      exact (hf' i).1
    · have hget : ∀ k (hk : k < len), (List.ofFn f)[k]? = some (f ⟨k, hk⟩) := by
        intro k hk
        rw [List.getElem?_ofFn, dif_pos hk]
      refine FR.fz (fun k _ => .int .u8 ((List.ofFn f).getD k 0)) hlc (fun h => ?_) (fun k hk => ?_) (fun k j c hk hj => ?_)
      · obtain ⟨b, off, spot⟩ := a
        have h1 := (hf' ⟨0, h⟩).2
        have hspot : spot = none := by
          cases spot with
          | none => rfl
          | some s =>
            simp only [World.cell?, Addr.add] at h1
            split at h1
            · split at h1
              · cases h1
              · rename_i hn; simp at hn
            · cases h1
        subst hspot
        have hb : b < W.heap.size := by
          rw [add_plain'] at h1
          simp only [World.cell?] at h1
          cases hh : W.heap[b]? with
          | none => rw [hh] at h1; cases h1
          | some o => exact (Array.getElem?_eq_some_iff.1 hh).1
        refine ⟨b, off, rfl, id, hb, fun k j hk hj => ?_⟩
        obtain rfl : j = 0 := by omega
        have h2 := (hf' ⟨k, hk⟩).2
        rw [add_plain'] at h2
        rw [Nat.mul_one, Nat.add_zero, h2, List.getD_eq_getElem?_getD, hget k hk]
        rfl
      · unfold encL; rw [hget k hk]; rfl
      · unfold encL at hj
        rw [hget k hk] at hj
        cases j with
        | zero =>
          simp at hj; subst hj
          rw [List.getD_eq_getElem?_getD, hget k hk]
          exact .val rfl
        | succ j => simp at hj

/-- What a law's contract says of a world that holds its bytes: it returns true, and what was there is as it was. -/
theorem law_calls {P : Program} {f : FuncId} {l0 l1 : List Int} {n0 n1 : Nat} {a0 a1 : Option Addr} {c0 c1 : Nat} {W : World}
    (h : CallOK P f [.fz 1 n0 (encL (fun x => [V.val (.int .u8 x)]) l0), .fz 1 n1 (encL (fun x => [V.val (.int .u8 x)]) l1)] [] (.val (.bool true)) [])
    (h0 : FR W (fun _ => False) (.fz 1 n0 (encL (fun x => [V.val (.int .u8 x)]) l0)) (.slice a0 n0 c0)) (h1 : FR W (fun _ => False) (.fz 1 n1 (encL (fun x => [V.val (.int .u8 x)]) l1)) (.slice a1 n1 c1)) :
    Calls P f #[.slice a0 n0 c0, .slice a1 n1 c1] W fun e W' => e = .returned (.bool true) ∧ Below W.heap.size W W' := by
  have hbad : ∀ b, ¬ badOf (fun _ => False) ([] : List Ob) (fun _ => none) b := by
    rintro b (h | ⟨o, x, base, h, _⟩)
    · exact h
    · simp at h
  have hfr : ∀ {c : V} {v : Value}, FR W (fun _ => False) c v → FR W (badOf (fun _ => False) ([] : List Ob) (fun _ => none)) c v := fun hf => FR.mono (fun _ _ _ _ _ h => h) (Nat.le_refl _) (fun b _ _ => hbad b) hf
  have hmem : Mem ⟨P, W, fun _ => False, lentBy ([] : List Ob).length (fun _ => none), ([] : List Ob).length, fun _ => none⟩ [] (fun _ => none) W :=
    ⟨fun o x h => by simp at h, fun o o' x x' b base base' h => by simp at h, fun o x b base h => by simp at h, ⟨rfl, rfl, rfl, Nat.le_refl _, fun _ _ _ => rfl⟩, fun b h => h.elim, Nat.le_refl _, fun o h => rfl⟩
  refine (h.2 W (fun _ => False) (fun _ => none) [.slice a0 n0 c0, .slice a1 n1 c1] hmem ⟨hfr h0, hfr h1, trivial⟩).mono fun e W' ⟨v, m', he, hv, hm, _⟩ => ?_
  obtain rfl : v = .bool true := hv
  refine ⟨he, ⟨hm.kp.os, hm.kp.tape, hm.kp.output, hm.kp.size, fun k hk => hm.kp.block k hk ?_⟩⟩
  rintro ⟨o, base, ho, _⟩
  simp at ho
end Go.Sim
