/- How a value that can be read as data is of a printed kind: whole numbers, strings, structs, slices, one in the other. -/
import Derived.Test.YthpjjfhkebppmaaDoorRows
import Derived.Test.YthpjjfhkebppmaaDoorMWFnExactShopText
import Derived.Deep.Slices
import Derived.ChangeArms
import Derived.WalkKit
namespace Go.Proofs.YthpjjfhkebppmaaDoor.Open
open Go.ChangeShapes Go.WideShapes Go.Deep Go.RowKit Go.Proofs.YthpjjfhkebppmaaDoorW.PrintWords
section
variable {H : Type} {enc : TypeId × Value → H} {P : Program} {W : World}
/-- Whatever reads at type t is of kind d, and Q. -/
def Opens (enc : TypeId × Value → H) (P : Program) (W : World) (t : TypeId) {α : Type} (d : Kd α) (Q : α → Prop) : Prop :=
  P.cellsOf t = d.sz ∧ ∀ fuel cs x, DataW.trod enc P W 0 (fun _ => true) true fuel t cs = some x → ∃ a, d.K W a cs ∧ Q a
theorem opens_int {t : TypeId} {k : IntKind} (hu : P.underlying t = some (.int k)) (hc : P.cellsOf t = 1) : Opens enc P W t (Kd.int k) (fun x => (Lit.int k x).wf = true) := by
  refine ⟨hc, fun fuel cs x h => ?_⟩
  obtain ⟨n, rfl, _, hw⟩ := DataW.trod_int hu h
  exact ⟨n, rfl, hw⟩
theorem opens_string {t : TypeId} (hu : P.underlying t = some .string) (hc : P.cellsOf t = 1) : Opens enc P W t Kd.string (fun s => s.size ≤ maxLen) := by
  refine ⟨hc, fun fuel cs x h => ?_⟩
  obtain ⟨s, rfl, _, hw⟩ := DataW.trod_string hu h
  exact ⟨s, rfl, hw⟩
theorem opens_iso {t : TypeId} {α β : Type} {d : Kd α} {Q : α → Prop} (h : Opens enc P W t d Q) (f : β → α) (g : α → β) (hg : ∀ y, f (g y) = y) : Opens enc P W t (Kd.iso d f) (fun x => Q (f x)) := by
  refine ⟨h.1, fun fuel cs x hx => ?_⟩
  obtain ⟨a, hK, hQ⟩ := h.2 fuel cs x hx
  exact ⟨g a, by show d.K W (f (g a)) cs; rw [hg]; exact hK, by show Q (f (g a)); rw [hg]; exact hQ⟩
theorem opens_mono {t : TypeId} {α : Type} {d : Kd α} {Q Q' : α → Prop} (h : Opens enc P W t d Q) (hq : ∀ a, Q a → Q' a) : Opens enc P W t d Q' :=
  ⟨h.1, fun fuel cs x hx => by obtain ⟨a, hK, hQ⟩ := h.2 fuel cs x hx; exact ⟨a, hK, hq a hQ⟩⟩
theorem opens_slice {t e : TypeId} {α : Type} {d : Kd α} {Q : α → Prop} (n : Nat) (hu : P.underlying t = some (.slice e)) (hc : P.cellsOf t = 1) (he : Opens enc P W e d Q) : Opens enc P W t (Kd.slice n d) (fun l => l.length ≤ maxLen ∧ ∀ x ∈ l, Q x) := by
  refine ⟨hc, fun fuel cs x h => ?_⟩
  rcases open_slice hu h with ⟨rfl, _⟩ | ⟨a, len, cap, m, k, D, Pl, rfl, _, hlc, hcm, hm, _, hel⟩
  · exact ⟨[], ⟨none, 0, rfl, Nat.le_refl _, rfl, by simp, fun h => absurd h (by simp)⟩, by simp, by simp⟩
  · have hlm : len ≤ m := by rw [hm]; simp; exact hlc
    have each : ∀ i : Fin len, ∃ x cs', d.K W x cs' ∧ Q x ∧ W.cells? 0 (a.add (i.1 * P.cellsOf e)) (P.cellsOf e) = some cs' := by
      intro i
      obtain ⟨cs', h1, h2⟩ := hel i.1 (by have := i.2; omega)
      obtain ⟨x, hK, hQ⟩ := he.2 _ _ _ h2
      exact ⟨x, cs', hK, hQ, h1⟩
    let f : Fin len → α := fun i => Classical.choose (each i)
    have hf : ∀ i : Fin len, ∃ cs', d.K W (f i) cs' ∧ Q (f i) ∧ W.cells? 0 (a.add (i.1 * P.cellsOf e)) (P.cellsOf e) = some cs' := fun i => Classical.choose_spec (each i)
    refine ⟨List.ofFn f, ⟨some a, cap, by simp, by simpa using hlc, ?_⟩, by simp; omega, ?_⟩
    · refine ⟨rfl, ?_, fun _ => ⟨a, rfl, fun j p hj => ?_⟩⟩
      · simp only [List.length_ofFn]; unfold maxLen at hcm; omega
      · obtain ⟨hjl, hjp⟩ := List.getElem?_eq_some_iff.1 hj
        simp only [List.length_ofFn] at hjl
        rw [List.getElem_ofFn] at hjp
        obtain ⟨cs', hK, _, hcs⟩ := hf ⟨j, hjl⟩
        obtain ⟨_, hln, hce⟩ := World.cells?_some hcs
        rw [he.1] at hcs hln hce
        refine ⟨cs', hln, by rw [← hjp]; exact hK, fun i u hu => ?_⟩
        have hi : i < d.sz := by have := (List.getElem?_eq_some_iff.1 hu).1; omega
        have := hce i hi
        rw [Deep.add_add, hu] at this
        exact this
    · intro x hx
      obtain ⟨i, rfl⟩ := List.mem_ofFn.1 hx
      obtain ⟨_, _, hQ, _⟩ := hf i
      exact hQ
theorem opens_struct2 {t : TypeId} {f0 f1 : Field} {α β : Type} {d0 : Kd α} {d1 : Kd β} {Q0 : α → Prop} {Q1 : β → Prop} (hu : P.underlying t = some (.struct #[f0, f1])) (hc : P.cellsOf t = d0.sz + d1.sz)
    (o0 : f0.offset = 0) (o1 : f1.offset = d0.sz) (h0 : Opens enc P W f0.type d0 Q0) (h1 : Opens enc P W f1.type d1 Q1) : Opens enc P W t (Kd.pair d0 d1) (fun x => Q0 x.1 ∧ Q1 x.2) := by
  refine ⟨hc, fun fuel cs x h => ?_⟩
  obtain ⟨xs, n, _, _, hl, hxl, hf⟩ := DataW.trod_struct hu h
  match xs, hxl with
  | [y0, y1], _ =>
    have g0 := hf 0 f0 rfl
    have g1 := hf 1 f1 rfl
    rw [h0.1, o0] at g0
    rw [h1.1, o1] at g1
    obtain ⟨a, ka, qa⟩ := h0.2 _ _ _ g0
    obtain ⟨b, kb, qb⟩ := h1.2 _ _ _ g1
    refine ⟨(a, b), ⟨_, _, ?_, ka, kb⟩, qa, qb⟩
    rw [List.drop_zero, List.take_of_length_le (l := cs.drop d0.sz) (by rw [List.length_drop, hl, hc]; omega), List.take_append_drop]
theorem opens_struct3 {t : TypeId} {f0 f1 f2 : Field} {α β γ : Type} {d0 : Kd α} {d1 : Kd β} {d2 : Kd γ} {Q0 : α → Prop} {Q1 : β → Prop} {Q2 : γ → Prop} (hu : P.underlying t = some (.struct #[f0, f1, f2])) (hc : P.cellsOf t = d0.sz + (d1.sz + d2.sz))
    (o0 : f0.offset = 0) (o1 : f1.offset = d0.sz) (o2 : f2.offset = d0.sz + d1.sz) (h0 : Opens enc P W f0.type d0 Q0) (h1 : Opens enc P W f1.type d1 Q1) (h2 : Opens enc P W f2.type d2 Q2) : Opens enc P W t (Kd.pair d0 (Kd.pair d1 d2)) (fun x => Q0 x.1 ∧ Q1 x.2.1 ∧ Q2 x.2.2) := by
  refine ⟨hc, fun fuel cs x h => ?_⟩
  obtain ⟨xs, n, _, _, hl, hxl, hf⟩ := DataW.trod_struct hu h
  match xs, hxl with
  | [y0, y1, y2], _ =>
    have g0 := hf 0 f0 rfl
    have g1 := hf 1 f1 rfl
    have g2 := hf 2 f2 rfl
    rw [h0.1, o0] at g0
    rw [h1.1, o1] at g1
    rw [h2.1, o2] at g2
    obtain ⟨a, ka, qa⟩ := h0.2 _ _ _ g0
    obtain ⟨b, kb, qb⟩ := h1.2 _ _ _ g1
    obtain ⟨c, kc, qc⟩ := h2.2 _ _ _ g2
    refine ⟨(a, b, c), ⟨_, _, ?_, ka, _, _, rfl, kb, kc⟩, qa, qb, qc⟩
    rw [List.drop_zero, List.take_of_length_le (l := cs.drop (d0.sz + d1.sz)) (by rw [List.length_drop, hl, hc]; omega), ← List.drop_drop, List.take_append_drop, List.take_append_drop]
theorem opens_struct4 {t : TypeId} {f0 f1 f2 f3 : Field} {α β γ δ : Type} {d0 : Kd α} {d1 : Kd β} {d2 : Kd γ} {d3 : Kd δ} {Q0 : α → Prop} {Q1 : β → Prop} {Q2 : γ → Prop} {Q3 : δ → Prop} (hu : P.underlying t = some (.struct #[f0, f1, f2, f3])) (hc : P.cellsOf t = d0.sz + (d1.sz + (d2.sz + d3.sz)))
    (o0 : f0.offset = 0) (o1 : f1.offset = d0.sz) (o2 : f2.offset = d0.sz + d1.sz) (o3 : f3.offset = d0.sz + d1.sz + d2.sz) (h0 : Opens enc P W f0.type d0 Q0) (h1 : Opens enc P W f1.type d1 Q1) (h2 : Opens enc P W f2.type d2 Q2) (h3 : Opens enc P W f3.type d3 Q3) : Opens enc P W t (Kd.pair d0 (Kd.pair d1 (Kd.pair d2 d3))) (fun x => Q0 x.1 ∧ Q1 x.2.1 ∧ Q2 x.2.2.1 ∧ Q3 x.2.2.2) := by
  refine ⟨hc, fun fuel cs x h => ?_⟩
  obtain ⟨xs, n, _, _, hl, hxl, hf⟩ := DataW.trod_struct hu h
  match xs, hxl with
  | [y0, y1, y2, y3], _ =>
    have g0 := hf 0 f0 rfl
    have g1 := hf 1 f1 rfl
    have g2 := hf 2 f2 rfl
    have g3 := hf 3 f3 rfl
    rw [h0.1, o0] at g0
    rw [h1.1, o1] at g1
    rw [h2.1, o2] at g2
    rw [h3.1, o3] at g3
    obtain ⟨a, ka, qa⟩ := h0.2 _ _ _ g0
    obtain ⟨b, kb, qb⟩ := h1.2 _ _ _ g1
    obtain ⟨c, kc, qc⟩ := h2.2 _ _ _ g2
    obtain ⟨e, ke, qe⟩ := h3.2 _ _ _ g3
    refine ⟨(a, b, c, e), ⟨_, _, ?_, ka, _, _, rfl, kb, _, _, rfl, kc, ke⟩, qa, qb, qc, qe⟩
    have e1 : cs.drop (d0.sz + d1.sz) = (cs.drop d0.sz).drop d1.sz := by simp only [List.drop_drop]
    have e2 : cs.drop (d0.sz + d1.sz + d2.sz) = ((cs.drop d0.sz).drop d1.sz).drop d2.sz := by simp only [List.drop_drop, Nat.add_assoc]
    rw [List.drop_zero, List.take_of_length_le (l := cs.drop (d0.sz + d1.sz + d2.sz)) (by rw [List.length_drop, hl, hc]; omega), e2, e1, List.take_append_drop, List.take_append_drop, List.take_append_drop]
/-- An argument that is a slice. -/
theorem slice_arg {t : TypeId} {α : Type} {d : Kd α} {n : Nat} {Q : List α → Prop} {a : Option Addr} {len cap : Nat} {x : DataW H} {ps : List MemPlace} (h : Opens enc P W t (Kd.slice n d) Q) (hd : DataW.Trod enc P W 0 (fun _ => true) true t (.slice a len cap) x ps) :
    ∃ xs : List α, len = xs.length ∧ xs.length ≤ cap ∧ Kd.C d W a xs.length xs ∧ Q xs := by
  obtain ⟨fuel, hf⟩ := hd
  obtain ⟨xs, ⟨A, c, he, hl, hC⟩, hQ⟩ := h.2 _ _ _ hf
  simp only [Value.cells, List.cons.injEq, Value.slice.injEq, and_true] at he
  obtain ⟨rfl, rfl, rfl⟩ := he
  exact ⟨xs, rfl, hl, hC, hQ⟩
/-- An argument that is a struct: its cells. -/
theorem struct_arg {t : TypeId} {α : Type} {d : Kd α} {Q : α → Prop} {cs : Array Value} {x : DataW H} {ps : List MemPlace} (h : Opens enc P W t d Q) (hd : DataW.Trod enc P W 0 (fun _ => true) true t (.agg cs) x ps) :
    ∃ a : α, d.K W a cs.toList ∧ Q a := by
  obtain ⟨fuel, hf⟩ := hd
  exact h.2 _ _ _ hf
end
end Go.Proofs.YthpjjfhkebppmaaDoor.Open
