import Derived.Test.YtkkgjljcgnegpaaDoorShelf
import Derived.Test.YtkkgjljcgnegpaaDoorProg
import Derived.Below
import Derived.Deep.Draws
import Derived.Deep.AppendLies
import Derived.Maps.AppendAt
import Derived.OwnWalk
import Derived.Laws.BytesArg
import Derived.Laws.MakeOwn
import Derived.Laws.OwnMore
import Derived.Deep.OwnRows
import Derived.Tactics
import Derived.Lib.ConvBytes
import Derived.Laws.Slices
import Derived.WalkKit
import Derived.KernelRfl
import Derived.RowKit3
import Derived.Deep.LoopGhost
import Derived.Deep.QuietTactic
import Derived.BigQuiet
import Derived.WideLaws
import Derived.Deep.DeepCutAuto
import Derived.Deep.CutBlock
import Derived.Deep.RegionHeld3
import Derived.Laws.Rows
import Derived.Lib.AppendStr
import Derived.ArgAppend
import Derived.Laws.IdiomCopy
import Derived.OrdersHeld
import Derived.Laws.BitsLemmas
import Derived.RowKit
import Derived.Test.YtkkgjljcgnegpaaDoorMWFnExactSessionText
namespace Go.Proofs.YtkkgjljcgnegpaaDoor.Pall
open Go.RowKit Go.Proofs.YtkkgjljcgnegpaaDoorW.PrintWords Go.Proofs.YtkkgjljcgnegpaaDoorW.PrintLast Go.Proofs.YtkkgjljcgnegpaaDoorW.PrintMore
attribute [local go_sem] max2_int min2_int max_two min_two max_three min_three max_four min_four   -- for this text's walks alone
set_option linter.unusedVariables false
set_option linter.unusedSimpArgs false
set_option maxHeartbeats 8000000
set_option maxRecDepth 100000



def errW : Option Int → Value
  | none => .nilIface
  | some c => .iface 0 (.int .i64 c)
theorem errW_none : errW none = .nilIface := rfl
theorem errW_some (c : Int) : errW (some c) = .iface 0 (.int .i64 c) := rfl

theorem info5 : (Tryd.prog.info? 5).map (fun i => (i.zero, i.size, i.bytes)) = some (some (.int .u8 0), 1, 1) := by kernel_rfl
theorem info9 : (Tryd.prog.info? 9).map (fun i => (i.zero, i.size, i.bytes)) = some (some (.string ⟨#[]⟩), 1, 16) := by kernel_rfl
theorem info45 : (Tryd.prog.info? 45).map (fun i => (i.zero, i.size, i.bytes)) = some (some (.agg #[(.int .i64 0), (.int .i64 0)]), 2, 16) := by kernel_rfl
theorem info47 : (Tryd.prog.info? 47).map (fun i => (i.zero, i.size, i.bytes)) = some (some (.agg #[(.int .i64 0), (.int .i64 0), (.int .i64 0), (.int .i64 0), (.int .i64 0)]), 5, 40) := by kernel_rfl
structure S66 where
  f0 : Int
  f1 : Int
def z66 : S66 := ⟨(0 : Int), (0 : Int)⟩
def k66 : Kd S66 := Kd.iso (Kd.pair (Kd.int .i64) (Kd.int .i64)) (fun x : S66 => (x.f0, x.f1))
theorem k66_open {w : World} {x : S66} {cs : List Value} (h : k66.K w x cs) : cs = [.int .i64 x.f0, .int .i64 x.f1] := by
  obtain ⟨_, _, rfl, rfl, rfl⟩ := h
  exact rfl
def rd_T66 (xs : List S66) (i : Int) : S66 := xs.getD i.toNat z66
theorem at_T66 {w : World} {A : Option Addr} {n : Nat} {xs : List S66} (h : Kd.C k66 w A n xs) (i : Int) (h0 : 0 ≤ i) (h1 : i < n) : ∃ ad , A = some ad ∧ w.cell? (ad.add (i.toNat * 2)) = some (.int .i64 (rd_T66 xs i).f0) ∧ w.cell? ⟨(ad.add (i.toNat * 2)).block, (ad.add (i.toNat * 2)).off + 1, none⟩ = some (.int .i64 (rd_T66 xs i).f1) := by
  obtain ⟨ad, c, e, _, hK, hc0⟩ := Kd.C_get h z66 i h0 h1
  have hc : ∀ j u, c[j]? = some u → w.cell? (ad.add (i.toNat * 2 + j)) = some u := hc0
  obtain rfl := k66_open hK
  exact ⟨ad, e, hc 0 _ rfl, by rw [← add_field _ _ 1 (by omega)]; exact hc 1 _ rfl⟩

structure S68 where
  f0 : Int
  f1 : Int
  f2 : Int
  f3 : S66
def z68 : S68 := ⟨(0 : Int), (0 : Int), (0 : Int), z66⟩
def k68 : Kd S68 := Kd.iso (Kd.pair (Kd.int .i64) (Kd.pair (Kd.int .i64) (Kd.pair (Kd.int .i64) k66))) (fun x : S68 => (x.f0, x.f1, x.f2, x.f3))
theorem k68_open {w : World} {x : S68} {cs : List Value} (h : k68.K w x cs) : cs = [.int .i64 x.f0, .int .i64 x.f1, .int .i64 x.f2, .int .i64 x.f3.f0, .int .i64 x.f3.f1] := by
  obtain ⟨_, _, rfl, rfl, ⟨_, _, rfl, rfl, ⟨_, _, rfl, rfl, s3⟩⟩⟩ := h
  obtain rfl := k66_open s3
  exact rfl
def rd_T68 (xs : List S68) (i : Int) : S68 := xs.getD i.toNat z68
theorem at_T68 {w : World} {A : Option Addr} {n : Nat} {xs : List S68} (h : Kd.C k68 w A n xs) (i : Int) (h0 : 0 ≤ i) (h1 : i < n) : ∃ ad , A = some ad ∧ w.cell? (ad.add (i.toNat * 5)) = some (.int .i64 (rd_T68 xs i).f0) ∧ w.cell? ⟨(ad.add (i.toNat * 5)).block, (ad.add (i.toNat * 5)).off + 1, none⟩ = some (.int .i64 (rd_T68 xs i).f1) ∧ w.cell? ⟨(ad.add (i.toNat * 5)).block, (ad.add (i.toNat * 5)).off + 2, none⟩ = some (.int .i64 (rd_T68 xs i).f2) ∧ w.cell? ⟨(ad.add (i.toNat * 5)).block, (ad.add (i.toNat * 5)).off + 3, none⟩ = some (.int .i64 (rd_T68 xs i).f3.f0) ∧ w.cell? ⟨(ad.add (i.toNat * 5)).block, (ad.add (i.toNat * 5)).off + 4, none⟩ = some (.int .i64 (rd_T68 xs i).f3.f1) := by
  obtain ⟨ad, c, e, _, hK, hc0⟩ := Kd.C_get h z68 i h0 h1
  have hc : ∀ j u, c[j]? = some u → w.cell? (ad.add (i.toNat * 5 + j)) = some u := hc0
  obtain rfl := k68_open hK
  exact ⟨ad, e, hc 0 _ rfl, by rw [← add_field _ _ 1 (by omega)]; exact hc 1 _ rfl, by rw [← add_field _ _ 2 (by omega)]; exact hc 2 _ rfl, by rw [← add_field _ _ 3 (by omega)]; exact hc 3 _ rfl, by rw [← add_field _ _ 4 (by omega)]; exact hc 4 _ rfl⟩

structure S45 where
  f0 : Int
  f1 : Int
def z45 : S45 := ⟨(0 : Int), (0 : Int)⟩
def k45 : Kd S45 := Kd.iso (Kd.pair (Kd.int .i64) (Kd.int .i64)) (fun x : S45 => (x.f0, x.f1))
theorem k45_heap : Kd.Heap k45 := Kd.heap_iso _ (Kd.heap_pair (Kd.heap_int .i64) (Kd.heap_int .i64))
theorem k45_open {w : World} {x : S45} {cs : List Value} (h : k45.K w x cs) : cs = [.int .i64 x.f0, .int .i64 x.f1] := by
  obtain ⟨_, _, rfl, rfl, rfl⟩ := h
  exact rfl
theorem k45_openM {w : World} {base : Nat} {ok : Nat → Prop} {x : S45} {cs : List Value} (h : k45.M w base ok x cs) : cs = [.int .i64 x.f0, .int .i64 x.f1] := by
  obtain ⟨_, _, rfl, rfl, rfl⟩ := h
  exact rfl
theorem k45_mkM (w : World) (base : Nat) (ok : Nat → Prop) (x : S45)  : k45.M w base ok x [.int .i64 x.f0, .int .i64 x.f1] := ⟨[.int .i64 x.f0], [.int .i64 x.f1], rfl, rfl, rfl⟩
def rd_T45 (xs : List S45) (i : Int) : S45 := xs.getD i.toNat z45
theorem at_T45 {w : World} {A : Option Addr} {n : Nat} {xs : List S45} (h : Kd.C k45 w A n xs) (i : Int) (h0 : 0 ≤ i) (h1 : i < n) : ∃ ad , A = some ad ∧ w.cell? (ad.add (i.toNat * 2)) = some (.int .i64 (rd_T45 xs i).f0) ∧ w.cell? ⟨(ad.add (i.toNat * 2)).block, (ad.add (i.toNat * 2)).off + 1, none⟩ = some (.int .i64 (rd_T45 xs i).f1) := by
  obtain ⟨ad, c, e, _, hK, hc0⟩ := Kd.C_get h z45 i h0 h1
  have hc : ∀ j u, c[j]? = some u → w.cell? (ad.add (i.toNat * 2 + j)) = some u := hc0
  obtain rfl := k45_open hK
  exact ⟨ad, e, hc 0 _ rfl, by rw [← add_field _ _ 1 (by omega)]; exact hc 1 _ rfl⟩

structure S47 where
  f0 : Int
  f1 : Int
  f2 : Int
  f3 : S45
def z47 : S47 := ⟨(0 : Int), (0 : Int), (0 : Int), z45⟩
def k47 : Kd S47 := Kd.iso (Kd.pair (Kd.int .i64) (Kd.pair (Kd.int .i64) (Kd.pair (Kd.int .i64) k45))) (fun x : S47 => (x.f0, x.f1, x.f2, x.f3))
theorem k47_heap : Kd.Heap k47 := Kd.heap_iso _ (Kd.heap_pair (Kd.heap_int .i64) (Kd.heap_pair (Kd.heap_int .i64) (Kd.heap_pair (Kd.heap_int .i64) k45_heap)))
theorem k47_open {w : World} {x : S47} {cs : List Value} (h : k47.K w x cs) : cs = [.int .i64 x.f0, .int .i64 x.f1, .int .i64 x.f2, .int .i64 x.f3.f0, .int .i64 x.f3.f1] := by
  obtain ⟨_, _, rfl, rfl, ⟨_, _, rfl, rfl, ⟨_, _, rfl, rfl, s3⟩⟩⟩ := h
  obtain rfl := k45_open s3
  exact rfl
theorem k47_openM {w : World} {base : Nat} {ok : Nat → Prop} {x : S47} {cs : List Value} (h : k47.M w base ok x cs) : cs = [.int .i64 x.f0, .int .i64 x.f1, .int .i64 x.f2, .int .i64 x.f3.f0, .int .i64 x.f3.f1] := by
  obtain ⟨_, _, rfl, rfl, ⟨_, _, rfl, rfl, ⟨_, _, rfl, rfl, s3⟩⟩⟩ := h
  obtain rfl := k45_openM s3
  exact rfl
theorem k47_mkM (w : World) (base : Nat) (ok : Nat → Prop) (x : S47)  : k47.M w base ok x [.int .i64 x.f0, .int .i64 x.f1, .int .i64 x.f2, .int .i64 x.f3.f0, .int .i64 x.f3.f1] := ⟨[.int .i64 x.f0], [.int .i64 x.f1, .int .i64 x.f2, .int .i64 x.f3.f0, .int .i64 x.f3.f1], rfl, rfl, ⟨[.int .i64 x.f1], [.int .i64 x.f2, .int .i64 x.f3.f0, .int .i64 x.f3.f1], rfl, rfl, ⟨[.int .i64 x.f2], [.int .i64 x.f3.f0, .int .i64 x.f3.f1], rfl, rfl, (k45_mkM w base ok x.f3 )⟩⟩⟩
def rd_T47 (xs : List S47) (i : Int) : S47 := xs.getD i.toNat z47
theorem at_T47 {w : World} {A : Option Addr} {n : Nat} {xs : List S47} (h : Kd.C k47 w A n xs) (i : Int) (h0 : 0 ≤ i) (h1 : i < n) : ∃ ad , A = some ad ∧ w.cell? (ad.add (i.toNat * 5)) = some (.int .i64 (rd_T47 xs i).f0) ∧ w.cell? ⟨(ad.add (i.toNat * 5)).block, (ad.add (i.toNat * 5)).off + 1, none⟩ = some (.int .i64 (rd_T47 xs i).f1) ∧ w.cell? ⟨(ad.add (i.toNat * 5)).block, (ad.add (i.toNat * 5)).off + 2, none⟩ = some (.int .i64 (rd_T47 xs i).f2) ∧ w.cell? ⟨(ad.add (i.toNat * 5)).block, (ad.add (i.toNat * 5)).off + 3, none⟩ = some (.int .i64 (rd_T47 xs i).f3.f0) ∧ w.cell? ⟨(ad.add (i.toNat * 5)).block, (ad.add (i.toNat * 5)).off + 4, none⟩ = some (.int .i64 (rd_T47 xs i).f3.f1) := by
  obtain ⟨ad, c, e, _, hK, hc0⟩ := Kd.C_get h z47 i h0 h1
  have hc : ∀ j u, c[j]? = some u → w.cell? (ad.add (i.toNat * 5 + j)) = some u := hc0
  obtain rfl := k47_open hK
  exact ⟨ad, e, hc 0 _ rfl, by rw [← add_field _ _ 1 (by omega)]; exact hc 1 _ rfl, by rw [← add_field _ _ 2 (by omega)]; exact hc 2 _ rfl, by rw [← add_field _ _ 3 (by omega)]; exact hc 3 _ rfl, by rw [← add_field _ _ 4 (by omega)]; exact hc 4 _ rfl⟩

def rd_L6 (xs : List (List S47)) (i : Int) : (List S47) := xs.getD i.toNat ([] : List S47)
theorem at_L6 {w : World} {A : Option Addr} {n : Nat} {xs : List (List S47)} (h : Kd.C (Kd.slice 47 k47) w A n xs) (i : Int) (h0 : 0 ≤ i) (h1 : i < n) : ∃ ad A0 c0, A = some ad ∧ w.cell? (ad.add i.toNat) = some (.slice A0 (rd_L6 xs i).length c0) ∧ (rd_L6 xs i).length ≤ c0 ∧ k47.C w A0 (rd_L6 xs i).length (rd_L6 xs i) := by
  obtain ⟨ad, c, e, _, hK, hc0⟩ := Kd.C_get h ([] : List S47) i h0 h1
  have hc : ∀ j u, c[j]? = some u → w.cell? (ad.add (i.toNat * 1 + j)) = some u := hc0
  obtain ⟨A0, c0, rfl, l0, g0⟩ := hK
  exact ⟨ad, A0, c0, e, by have hq := hc 0 _ rfl; rwa [Nat.mul_one, Nat.add_zero] at hq, l0, g0⟩


theorem eqA45 (d : Nat) (w : World) (x0 y0 : Int) (x1 y1 : Int) :
    (Op.equalIn (d + 2) 45 (.agg #[.int .i64 x0, .int .i64 x1]) (.agg #[.int .i64 y0, .int .i64 y1])).run Tryd.prog w = .ok (x0 == y0 && (x1 == y1)) w := by
  refine eqA_of Tryd.underlying45 (by kernel_rfl) ?_
  refine eqf_cons (by rfl) (by go_simp; rfl) (by go_simp; rfl) (by go_simp) ?_
  exact eqf_last (by rfl) (by go_simp; rfl) (by go_simp; rfl) (by go_simp)

theorem eqA47 (d : Nat) (w : World) (x0 y0 : Int) (x1 y1 : Int) (x2 y2 : Int) (x3 y3 : Int) (x4 y4 : Int) :
    (Op.equalIn (d + 3) 47 (.agg #[.int .i64 x0, .int .i64 x1, .int .i64 x2, .int .i64 x3, .int .i64 x4]) (.agg #[.int .i64 y0, .int .i64 y1, .int .i64 y2, .int .i64 y3, .int .i64 y4])).run Tryd.prog w = .ok (x0 == y0 && (x1 == y1 && (x2 == y2 && ((x3 == y3 && (x4 == y4)))))) w := by
  refine eqA_of Tryd.underlying47 (by kernel_rfl) ?_
  refine eqf_cons (by rfl) (by go_simp; rfl) (by go_simp; rfl) (by go_simp) ?_
  refine eqf_cons (by rfl) (by go_simp; rfl) (by go_simp; rfl) (by go_simp) ?_
  refine eqf_cons (by rfl) (by go_simp; rfl) (by go_simp; rfl) (by go_simp) ?_
  exact eqf_last (by rfl) (by go_simp) (by go_simp) (eqA45 (d + 0) w _ _ _ _)

attribute [local go_sem high] eqA45 eqA47

theorem bq {B : Nat} {w w' : World} (h : Below B w w' := by repeat (first | (with_reducible first | exact HB.out | apply below_alloc | apply pw_below_drewN | apply below_drew1 | refine below_set ?_ (Aside0.out (by assumption))) | exact HB.out)) : Below B w w' := h
theorem rq {P Q : Prop} (H : Aside0 P) (h : P → Q := by intro h_; (with_reducible repeat (first | apply Kd.R_alloc | apply Kd.R_drewN | apply Kd.R_drew)); exact h_) : Q := h H.out
theorem zq {P Q : Prop} (H : Aside0 P) (h : P → Q := by intro h_; (with_reducible repeat (first | refine blk_drewN ?_ _ | refine blk_drew ?_ | refine blk_alloc ?_ _)); exact h_) : Q := h H.out
theorem cq {P Q : Prop} (H : P) (h : P → Q := by intro h_; repeat (first | exact h_ | (with_reducible refine Kd.C_alloc ?_ _) | (with_reducible refine Kd.C_drewN ?_ _) | (with_reducible refine Kd.C_drew ?_))) : Q := h H
theorem gq {B : Nat} {w w' : World} {g : Nat} (hg : g = w'.heap.size) (h : Below B w w' := by repeat (first | (with_reducible first | exact HB.out | apply below_alloc | apply pw_below_drewN | apply below_drew1 | refine below_set ?_ (Aside0.out (by assumption))) | exact HB.out)) (hB : B = w.heap.size := by rfl) : B ≤ g := by subst hB; subst hg; exact below_size h
theorem eq_ {P : Prop} (h : P := by first | rfl | (simp [errW_none, errW_some] <;> rfl) | (simp [*, errW_none, errW_some] <;> rfl)) : P := h
theorem sq {P : Prop} (h : P := by first | rfl | (simp; done) | (simp [*]; done)) : P := h
theorem aq {P : Prop} (h : P := by first | (with_reducible assumption) | assumption) : P := h
theorem mq {P : Prop} (h : P := by (try simp only [List.map_toArray, List.map_cons, List.map_nil]); first | done | rfl | (simp only [List.length_drop, List.length_take]; rfl)) : P := h
theorem bindq {α β : Type} {o : Option α} {f : α → Option β} {r : β} (h : o.bind f = some r) : ∃ a, Aside0 (o = some a) ∧ f a = some r := by
  obtain ⟨a, h1, h2⟩ := Option.bind_eq_some_iff.mp h
  exact ⟨a, ⟨h1⟩, h2⟩
theorem rb {α : Type} {d : Kd α} {e base : Nat} {ok : Nat → Prop} {W W' w' : World} {v : Value} {xs : List α} (H : Aside0 (Kd.R d e W base ok v xs)) (hb : Below W'.heap.size W' w') (h : Kd.R d e W base ok v xs → Kd.R d e W' base ok v xs := by intro h_; (with_reducible repeat (first | apply Kd.R_alloc | apply Kd.R_drewN | apply Kd.R_drew)); exact h_) : Aside0 (Kd.R d e w' base ok v xs) := ⟨Kd.R_below (h H.out) hb⟩
theorem sb {w W w' : World} (hb : Below W.heap.size W w') (h : Below w.heap.size w W := by repeat (first | (with_reducible first | exact HB.out | apply below_alloc | apply pw_below_drewN | apply below_drew1 | refine below_set ?_ (Aside0.out (by assumption))) | exact HB.out)) : Aside0 (Below w.heap.size w w') := ⟨below_step h hb⟩
theorem rl {α : Type} {d : Kd α} {e : Nat} {ok : Nat → Prop} {w W W' : World} {v : Value} {xs : List α} (ho : Kd.R d e W' W.heap.size ok v xs) (h : Below w.heap.size w W := by repeat (first | (with_reducible first | exact HB.out | apply below_alloc | apply pw_below_drewN | apply below_drew1 | refine below_set ?_ (Aside0.out (by assumption))) | exact HB.out)) : Aside0 (Kd.R d e W' w.heap.size ok v xs) := ⟨Kd.R_lower ho (below_size h)⟩
theorem nl {W W' : World} {g g' : Nat} {o : Obj} (hg : g' = W'.heap.size) (H : Aside0 (W.heap[g]? = some o)) (h : W.heap[g]? = some o → W'.heap[g]? = some o := by intro h_; (with_reducible repeat (first | refine blk_drewN ?_ _ | refine blk_drew ?_ | refine blk_alloc ?_ _)); exact h_) : Aside0 (g ≠ g') := ⟨by rw [hg]; exact Nat.ne_of_lt (blk_lt (h H.out))⟩
theorem ng {W W' : World} {g g' : Nat} {o : Obj} (hg : g' = W'.heap.size) (H : Aside0 (W.heap[g]? = some o)) (h : W.heap[g]? = some o → W'.heap[g]? = some o := by intro h_; (with_reducible repeat (first | refine blk_drewN ?_ _ | refine blk_drew ?_ | refine blk_alloc ?_ _)); exact h_) : Aside0 (g' ≠ g) := ⟨by rw [hg]; exact Nat.ne_of_gt (blk_lt (h H.out))⟩
theorem rq1 {α : Type} {d : Kd α} {e base : Nat} {ok : Nat → Prop} {W : World} {A : Option Addr} {n c : Nat} {xs : List α} (H : Aside0 (Kd.R d e W base ok (.slice A n c) xs)) : n ≤ c := (Kd.R_reads' H.out).2.1
theorem cr {α : Type} {d : Kd α} {e base : Nat} {ok : Nat → Prop} {W : World} {A : Option Addr} {n c : Nat} {xs : List α} {Q : Prop} (H : Aside0 (Kd.R d e W base ok (.slice A n c) xs)) (h : Kd.C d W A xs.length xs → Q := by intro h_; repeat (first | exact h_ | (with_reducible refine Kd.C_alloc ?_ _) | (with_reducible refine Kd.C_drewN ?_ _) | (with_reducible refine Kd.C_drew ?_))) : Q := h (Kd.R_reads' H.out).2.2
theorem fq {α : Type} {d : Kd α} {e base t g : Nat} {ok : Nat → Prop} {W W' : World} {v : Value} {xs : List α} {cs : Array Value} (H : Aside0 (Kd.R d e W base ok v xs)) (B : Aside0 (W.heap[g]? = some (.cells cs t (0, 0)))) (hne : ∀ q, q ∈ e :: d.E → q ≠ t := by decide) (h : Kd.R d e W base (fun k => ok k ∧ k ≠ g) v xs → Kd.R d e W' base (fun k => ok k ∧ k ≠ g) v xs := by intro h_; (repeat (first | (with_reducible exact h_) | (with_reducible first | apply Kd.R_alloc | apply Kd.R_drewN | apply Kd.R_drew) | (with_reducible refine Kd.R_far ?_ (fun _ hk => hk.2) _))); all_goals exact h_) : Kd.R d e W' base ok v xs := Kd.R_mono (h (Kd.R_types H.out B.out hne)) (fun _ h_ => h_.1)
theorem zp {P Q : Prop} (H : Aside0 P) (h : P → Q := by intro h_; (repeat (first | (with_reducible exact h_) | (with_reducible first | refine blk_drewN ?_ _ | refine blk_drew ?_ | refine blk_alloc ?_ _) | (with_reducible refine (Below.heap_setCell _ _ _ _ (Aside0.out (by assumption))).trans ?_) | (with_reducible apply blk_put))); all_goals (first | rfl | exact h_)) : Q := h H.out
theorem tq2 {α : Type} {d : Kd α} {e base : Nat} {ok : Nat → Prop} {W w1 : World} {u v v' : Value} {xs : List α} {β γ : Type} {db : Kd β} {dc : Kd γ} {eb ec : Nat} {okb okc : Nat → Prop} {w2 w3 : World} {ys : List β} {zs : List γ} (hu : Kd.R d e W base ok u xs) (hb : Below W.heap.size W w1) (ho : Kd.R db eb w2 W.heap.size okb v ys) (ho' : Kd.R dc ec w3 W.heap.size okc v' zs) : Aside0 (Kd.R d e w1 base (fun k => (ok k ∧ some k ≠ v.ownBlock) ∧ some k ≠ v'.ownBlock) u xs) := ⟨Kd.R_mono (Kd.R_told (Kd.R_told (Kd.R_old hu hb) (Kd.R_base ho)) (Kd.R_base ho')) (fun _ h_ => h_.1)⟩
theorem rm {α : Type} {d : Kd α} {e base : Nat} {ok ok' : Nat → Prop} {W W' : World} {v : Value} {xs : List α} (H : Aside0 (Kd.R d e W base ok v xs)) (hok : ∀ k, ok k → ok' k := by intro _ hk; first | exact trivial | exact hk | simp only [hk, ne_eq, not_false_eq_true, and_self]) (h : Kd.R d e W base ok' v xs → Kd.R d e W' base ok' v xs := by intro h_; (with_reducible repeat (first | apply Kd.R_alloc | apply Kd.R_drewN | apply Kd.R_drew)); exact h_) : Kd.R d e W' base ok' v xs := h (Kd.R_mono H.out hok)
theorem cf {α : Type} {d : Kd α} {e base t g n c : Nat} {ok : Nat → Prop} {W W' : World} {A : Option Addr} {xs : List α} {cs : Array Value} (H : Aside0 (Kd.R d e W base ok (.slice A n c) xs)) (B : Aside0 (W.heap[g]? = some (.cells cs t (0, 0)))) (hne : ∀ q, q ∈ e :: d.E → q ≠ t := by decide) (h : Kd.R d e W base (fun k => ok k ∧ k ≠ g) (.slice A n c) xs → Kd.R d e W' base (fun k => ok k ∧ k ≠ g) (.slice A n c) xs := by intro h_; (repeat (first | (with_reducible exact h_) | (with_reducible first | apply Kd.R_alloc | apply Kd.R_drewN | apply Kd.R_drew) | (with_reducible refine Kd.R_far ?_ (fun _ hk => hk.2) _))); all_goals exact h_) : Kd.C d W' A xs.length xs := (Kd.R_reads' (h (Kd.R_types H.out B.out hne))).2.2
theorem cl {P : Prop} (h : P := by (repeat' apply And.intro) <;> exact (blk_cell (Aside0.out (by assumption)) _).trans rfl) : P := h
theorem am {p : Prop} (h : p) : Aside0 p := ⟨h⟩
theorem lw {α : Type} {d : Kd α} {e base : Nat} {ok : Nat → Prop} {W W' : World} {v : Value} {xs : List α} (H : Aside0 (Kd.R d e W base ok v xs)) (h : Kd.R d e W base ok v xs → Kd.R d e W' base ok v xs := by intro h_; (with_reducible repeat (first | apply Kd.R_alloc | apply Kd.R_drewN | apply Kd.R_drew)); exact h_) : ∀ k, v.ownBlock = some k → k < W'.heap.size := Kd.R_lt (h H.out)
theorem goesQ {P : Program} {ops : Array Oper} {Q : Exit → Act → World → Prop} {rest : List Oper} {oi : Oper} {a : Act} {w : World} (N : Option Tmp) {f : FuncId} {fn : Func} (hf : P.funcs[f]? = some fn) (args : Array Value) (h : Calls P f args w fun e w' => ∃ v, e = .returned v ∧ wpList P ops Q rest (a.put N v) w') {ar_ : Array Operand} {ts : Array TypeId} (hd : oi.dst = N := by exact rfl) (hg : oi.guard = none := by exact rfl) (hname : (fn.name == "runtime.NumGoroutine") = false := by kernel_rfl) (hb : fn.body.isSome = true := by exact rfl) (hop : oi.op = .call { callee := .value (.func f), args := ar_, argTypes := ts } := by exact rfl) (hargs : ar_.map a.eval = args := by (try simp only [List.map_toArray, List.map_cons, List.map_nil]); first | done | rfl | (simp only [List.length_drop, List.length_take]; rfl)) : wpList P ops Q (oi :: rest) a w := goesL_ N hd hg hf hname hb args hop hargs h
theorem zb {W W' w' : World} {g : Nat} {o : Obj} (H : Aside0 (W.heap[g]? = some o)) (hb : Below W'.heap.size W' w') (h : W.heap[g]? = some o → W'.heap[g]? = some o := by intro h_; (with_reducible repeat (first | refine blk_drewN ?_ _ | refine blk_drew ?_ | refine blk_alloc ?_ _)); exact h_) : Aside0 (w'.heap[g]? = some o) := ⟨blk_below (h H.out) hb⟩
abbrev I : Bool := true
abbrev O : Bool := false
theorem pu_ {P : Program} {md : Region.Mode} {ops : Array Oper} {Q : Exit → Act → World → Prop} {S : World → Prop} {ds : List Nat} {oi : Oper} {fuel : Nat} {l : Array Bool} {a : Act} {w : World} (i : Nat) (N : Option Tmp) (v : Value) (l' : Array Bool) (hi : ops[i]? = some oi) (hN : oi.dst = N) (hc : anyB md ops l l' i = true) (hy : Yields P ops oi v a) (a' : Act) (ha : a.put N v = a') (h : wpAnyLast P md ops Q S ds fuel l' a' w) (hQ : ∀ c a w, Q (.panic c) (a.put oi.dst v) w → Q (.panic c) a w := by exact fun _ _ _ h => h) : wpAnyLast P md ops Q S ds (fuel + 1) l a w := pure_ l' hi hN hc hQ hy ha h
theorem tk_ {P : Program} {md : Region.Mode} {ops : Array Oper} {Q : Exit → Act → World → Prop} {S : World → Prop} {ds : List Nat} {oi : Oper} {fuel : Nat} {l : Array Bool} {a : Act} {w : World} (i : Nat) (N : Option Tmp) (v : Value) (l' : Array Bool) (hi : ops[i]? = some oi) (hN : oi.dst = N) (hc : takeB md ops ds l l' i = true) (hy : YieldsIf P ops S oi v a) (hS : S w) (a' : Act) (ha : a.put N v = a') (h : wpAnyLast P md ops Q S ds fuel l' a' w) (hQ : ∀ c a w, Q (.panic c) (a.put oi.dst v) w → Q (.panic c) a w := by exact fun _ _ _ h => h) : wpAnyLast P md ops Q S ds (fuel + 1) l a w := take_ l' hi hN hc hQ hy hS ha h
theorem zw {W W' w' : World} {g : Nat} {o : Obj} (o' : Obj) (H : Aside0 (W.heap[g]? = some o)) (hb : Below W'.heap.size W' w') (h : W.heap[g]? = some o → W'.heap[g]? = some o' := by intro h_; (repeat (first | (with_reducible exact h_) | (with_reducible first | refine blk_drewN ?_ _ | refine blk_drew ?_ | refine blk_alloc ?_ _) | (with_reducible refine (Below.heap_setCell _ _ _ _ (Aside0.out (by assumption))).trans ?_) | (with_reducible apply blk_put))); all_goals (first | rfl | exact h_)) : Aside0 (w'.heap[g]? = some o') := ⟨blk_below (h H.out) hb⟩
theorem zg {W W' w' : World} {g : Nat} {o : Obj} {row : Option Nat} (H : Aside0 (W.heap[g]? = some o)) (hg : W'.grownBy w' row) (hne : some g ≠ row) (h : W.heap[g]? = some o → W'.heap[g]? = some o := by intro h_; (with_reducible repeat (first | refine blk_drewN ?_ _ | refine blk_drew ?_ | refine blk_alloc ?_ _)); exact h_) : Aside0 (w'.heap[g]? = some o) := ⟨blk_grown (h H.out) hg hne⟩
theorem nn {W W' : World} {g g' : Nat} {o : Obj} (hg : g' = W'.heap.size) (H : Aside0 (W.heap[g]? = some o)) (h : W.heap[g]? = some o → W'.heap[g]? = some o := by intro h_; (with_reducible repeat (first | refine blk_drewN ?_ _ | refine blk_drew ?_ | refine blk_alloc ?_ _)); exact h_) : Aside0 (g ≠ g') ∧ Aside0 (g' ≠ g) := ⟨nl hg H h, ng hg H h⟩
theorem yq {P Q : Prop} {α : Type} {y t : α} (e : y = t) (H : P) (h : P → y = t → Q := by intro H hy; first | (rw [hy]; with_reducible exact H) | (have H2_ := (Option.bind_some _ _).symm.trans H; rw [hy]; with_reducible exact H2_) | (have H2_ := (Option.bind_some _ _).symm.trans H; with_reducible exact H2_) | with_reducible exact H | (rw [hy]; exact H) | exact H) : Q := h H e
theorem pw : (∀ (a : Act) (d : Tmp) (v : Value), a.put (some d) v = ⟨a.tmps.setIfInBounds d v, a.defers⟩) ∧ (∀ (a : Act) (v : Value), a.put none v = a) ∧ (∀ (l : List Value) (i : Nat) (a : Value), l.toArray.setIfInBounds i a = (l.set i a).toArray) ∧ (∀ (x : Value) (xs : List Value) (a : Value), (x :: xs).set 0 a = a :: xs) ∧ (∀ (x : Value) (xs : List Value) (i : Nat) (a : Value), (x :: xs).set (i + 1) a = x :: xs.set i a) ∧ (∀ n : Int, IntKind.i64.wrap n = Go.RowKit.wrap64 n) ∧ (∀ n : Int, IntKind.i32.wrap n = Go.RowKit.wrap32 n) := ⟨fun _ _ _ => rfl, fun _ _ => rfl, fun _ _ _ => List.setIfInBounds_toArray _ _ _, fun _ _ _ => rfl, fun _ _ _ _ => rfl, i64_w, i32_w⟩
theorem bc2 {w : World} {g t : Nat} {a0 a1 : Value} (h : Aside0 (w.heap[g]? = some (.cells #[a0, a1] t (0, 0)))) : w.cell? ⟨g, 0, none⟩ = some a0 ∧ w.cell? ⟨g, 1, none⟩ = some a1 ∧ w.frozen? ⟨g, 0, none⟩ = false ∧ w.frozen? ⟨g, 1, none⟩ = false := ⟨(blk_cell h.out 0).trans rfl, (blk_cell h.out 1).trans rfl, blk_frozen h.out 0, blk_frozen h.out 1⟩
theorem bc3 {w : World} {g t : Nat} {a0 a1 a2 : Value} (h : Aside0 (w.heap[g]? = some (.cells #[a0, a1, a2] t (0, 0)))) : w.cell? ⟨g, 0, none⟩ = some a0 ∧ w.cell? ⟨g, 1, none⟩ = some a1 ∧ w.cell? ⟨g, 2, none⟩ = some a2 ∧ w.frozen? ⟨g, 0, none⟩ = false ∧ w.frozen? ⟨g, 1, none⟩ = false ∧ w.frozen? ⟨g, 2, none⟩ = false := ⟨(blk_cell h.out 0).trans rfl, (blk_cell h.out 1).trans rfl, (blk_cell h.out 2).trans rfl, blk_frozen h.out 0, blk_frozen h.out 1, blk_frozen h.out 2⟩
theorem bc5 {w : World} {g t : Nat} {a0 a1 a2 a3 a4 : Value} (h : Aside0 (w.heap[g]? = some (.cells #[a0, a1, a2, a3, a4] t (0, 0)))) : w.cell? ⟨g, 0, none⟩ = some a0 ∧ w.cell? ⟨g, 1, none⟩ = some a1 ∧ w.cell? ⟨g, 2, none⟩ = some a2 ∧ w.cell? ⟨g, 3, none⟩ = some a3 ∧ w.cell? ⟨g, 4, none⟩ = some a4 ∧ w.frozen? ⟨g, 0, none⟩ = false ∧ w.frozen? ⟨g, 1, none⟩ = false ∧ w.frozen? ⟨g, 2, none⟩ = false ∧ w.frozen? ⟨g, 3, none⟩ = false ∧ w.frozen? ⟨g, 4, none⟩ = false := ⟨(blk_cell h.out 0).trans rfl, (blk_cell h.out 1).trans rfl, (blk_cell h.out 2).trans rfl, (blk_cell h.out 3).trans rfl, (blk_cell h.out 4).trans rfl, blk_frozen h.out 0, blk_frozen h.out 1, blk_frozen h.out 2, blk_frozen h.out 3, blk_frozen h.out 4⟩

def laws_szCellS.f (l0 : List (S66)) (a1 : Int) : Option (Int) := if (wrap64 (a1 - (l0.length : Int))) < 0 then (some (-1)) else (some (wrap64 (a1 - (l0.length : Int))))
theorem laws_szCellS.calls (A0 : Option Addr) (c0 : Nat) (l0 : List (S66)) (a1 : Int) (r : Int) (w : World) (hr0 : Kd.C k66 w A0 l0.length l0) (hc0 : l0.length ≤ c0) (h : laws_szCellS.f l0 a1 = some r) :
  Calls Tryd.prog 23 #[.slice A0 l0.length c0, .int .i64 a1] w fun e w' => e = .returned (.int .i64 r) ∧ Drawn0 w w' := by
 have HR0 := am hr0; have HC0 := am hc0; clear hr0 hc0; have H := h; clear h
 unfold laws_szCellS.f at H
 by_cases c3 : (wrap64 (a1 - (l0.length : Int))) < 0
 ·rw [if_pos c3] at H; have c3b0 : decide ((wrap64 (a1 - (l0.length : Int))) < 0) = true := decide_eq_true c3; clear c3; obtain rfl := Option.some.inj H
  go_enter Tryd.func23, Tryd.ntmps23
  go_wp2
  go_ret
  exact ⟨sq, by repeat (first | exact Drawn0.refl _ | apply Drawn0.step)⟩
 rw [if_neg c3] at H; have c3b0 : decide ((wrap64 (a1 - (l0.length : Int))) < 0) = false := decide_eq_false c3; clear c3; obtain rfl := Option.some.inj H
 go_enter Tryd.func23, Tryd.ntmps23
 go_wp2
 go_ret
 exact ⟨sq, by repeat (first | exact Drawn0.refl _ | apply Drawn0.step)⟩


def laws_szBoard.f (a0_0 : Int) (a0_1 : Int) (l0_2 : List (S66)) (a1 : Int) : Option (Int) := (laws_szCellS.f l0_2 a1).bind fun t102 => (if t102 < 0 then (some (-1)) else (some t102))
theorem laws_szBoard.calls (a0_0 : Int) (a0_1 : Int) (A0_2 : Option Addr) (c0_2 : Nat) (l0_2 : List (S66)) (a1 : Int) (r : Int) (w : World) (hr0_2 : Kd.C k66 w A0_2 l0_2.length l0_2) (hc0_2 : l0_2.length ≤ c0_2) (h : laws_szBoard.f a0_0 a0_1 l0_2 a1 = some r) :
  Calls Tryd.prog 9 #[.agg #[.int .i64 a0_0, .int .i64 a0_1, .slice A0_2 l0_2.length c0_2], .int .i64 a1] w fun e w' => e = .returned (.int .i64 r) ∧ Below w.heap.size w w' := by
 have hu24 := Tryd.underlying24; have HR0_2 := am hr0_2; have HC0_2 := am hc0_2; clear hr0_2 hc0_2; have HB := am (Below.refl w.heap.size w); have H := h; clear h
 unfold laws_szBoard.f at H
 obtain ⟨t102, A3, H⟩ := bindq H; try dsimp only at H
 by_cases c4 : t102 < 0
 ·rw [if_pos c4] at H; have c4b0 : decide (t102 < 0) = true := decide_eq_true c4; clear c4; obtain rfl := Option.some.inj H
  go_enter Tryd.func9, Tryd.ntmps9
  go_wp2_with (first | ((with_reducible refine gate_dst (N := 2) rfl ?_); refine box_event ?hg (N := 2) ?hd (cs := #[.int .i64 a0_0, .int .i64 a0_1, .slice A0_2 l0_2.length c0_2]) (t := 24) ?hr ?_; (case hd | hg => rfl); (case hr => go_simp; try rfl); intro gb101 hg w5 hbox hb; have BK101 := am (hbox); have GW101 := am (gq hg); have GE101 := am (gq hg); replace HB := sb hb; clear hb hbox hg; have ⟨b60, b61, b62, d60, d61, d62⟩ := bc3 BK101) | ((with_reducible refine gate_callee (f := 23) rfl ?_); refine goesL_ (some 8) rfl rfl Tryd.func23 (by kernel_rfl) rfl #[.slice A0_2 l0_2.length c0_2, .int .i64 a1] rfl mq ?_; (with_reducible refine (laws_szCellS.calls _ _ l0_2 a1 t102 _ ?s1 ?s2 A3.out).mono ?_); (case s1 => exact cq (Kd.C_below HR0_2.out HB.out)); (case s2 => exact HC0_2.out); rintro e w' ⟨rfl, ⟨nd, rfl⟩⟩; refine ⟨_, rfl, ?_⟩))
  go_ret
  exact ⟨eq_, bq⟩
 rw [if_neg c4] at H; have c4b0 : decide (t102 < 0) = false := decide_eq_false c4; clear c4; obtain rfl := Option.some.inj H
 go_enter Tryd.func9, Tryd.ntmps9
 go_wp2_with (first | ((with_reducible refine gate_dst (N := 2) rfl ?_); refine box_event ?hg (N := 2) ?hd (cs := #[.int .i64 a0_0, .int .i64 a0_1, .slice A0_2 l0_2.length c0_2]) (t := 24) ?hr ?_; (case hd | hg => rfl); (case hr => go_simp; try rfl); intro gb101 hg w7 hbox hb; have BK101 := am (hbox); have GW101 := am (gq hg); have GE101 := am (gq hg); replace HB := sb hb; clear hb hbox hg; have ⟨b80, b81, b82, d80, d81, d82⟩ := bc3 BK101) | ((with_reducible refine gate_callee (f := 23) rfl ?_); refine goesL_ (some 8) rfl rfl Tryd.func23 (by kernel_rfl) rfl #[.slice A0_2 l0_2.length c0_2, .int .i64 a1] rfl mq ?_; (with_reducible refine (laws_szCellS.calls _ _ l0_2 a1 t102 _ ?s1 ?s2 A3.out).mono ?_); (case s1 => exact cq (Kd.C_below HR0_2.out HB.out)); (case s2 => exact HC0_2.out); rintro e w' ⟨rfl, ⟨nd, rfl⟩⟩; refine ⟨_, rfl, ?_⟩))
 go_ret
 exact ⟨eq_, bq⟩


def laws_szSessionActS.f (l0 : List (S68)) (a1 : Int) : Option (Int) := if (wrap64 (a1 - (l0.length : Int))) < 0 then (some (-1)) else (some (wrap64 (a1 - (l0.length : Int))))
theorem laws_szSessionActS.calls (A0 : Option Addr) (c0 : Nat) (l0 : List (S68)) (a1 : Int) (r : Int) (w : World) (hr0 : Kd.C k68 w A0 l0.length l0) (hc0 : l0.length ≤ c0) (h : laws_szSessionActS.f l0 a1 = some r) :
  Calls Tryd.prog 10 #[.slice A0 l0.length c0, .int .i64 a1] w fun e w' => e = .returned (.int .i64 r) ∧ Drawn0 w w' := by
 have HR0 := am hr0; have HC0 := am hc0; clear hr0 hc0; have H := h; clear h
 unfold laws_szSessionActS.f at H
 by_cases c3 : (wrap64 (a1 - (l0.length : Int))) < 0
 ·rw [if_pos c3] at H; have c3b0 : decide ((wrap64 (a1 - (l0.length : Int))) < 0) = true := decide_eq_true c3; clear c3; obtain rfl := Option.some.inj H
  go_enter Tryd.func10, Tryd.ntmps10
  go_wp2
  go_ret
  exact ⟨sq, by repeat (first | exact Drawn0.refl _ | apply Drawn0.step)⟩
 rw [if_neg c3] at H; have c3b0 : decide ((wrap64 (a1 - (l0.length : Int))) < 0) = false := decide_eq_false c3; clear c3; obtain rfl := Option.some.inj H
 go_enter Tryd.func10, Tryd.ntmps10
 go_wp2
 go_ret
 exact ⟨sq, by repeat (first | exact Drawn0.refl _ | apply Drawn0.step)⟩


def laws_szSession.f (a0_0 : Int) (a0_1 : Int) (l0_2 : List (S66)) (l0_3 : List (S68)) (l0_4 : List (S68)) (a1 : Int) : Option (Int) := (laws_szBoard.f a0_0 a0_1 l0_2 a1).bind fun t104 => (if t104 < 0 then (some (-1)) else ((laws_szSessionActS.f l0_3 t104).bind fun t105 => (if t105 < 0 then (some (-1)) else ((laws_szSessionActS.f l0_4 t105).bind fun t106 => (if t106 < 0 then (some (-1)) else (some t106))))))
theorem laws_szSession.calls (a0_0 : Int) (a0_1 : Int) (A0_2 : Option Addr) (c0_2 : Nat) (l0_2 : List (S66)) (A0_3 : Option Addr) (c0_3 : Nat) (l0_3 : List (S68)) (A0_4 : Option Addr) (c0_4 : Nat) (l0_4 : List (S68)) (a1 : Int) (r : Int) (w : World) (hr0_2 : Kd.C k66 w A0_2 l0_2.length l0_2) (hc0_2 : l0_2.length ≤ c0_2) (hr0_3 : Kd.C k68 w A0_3 l0_3.length l0_3) (hc0_3 : l0_3.length ≤ c0_3) (hr0_4 : Kd.C k68 w A0_4 l0_4.length l0_4) (hc0_4 : l0_4.length ≤ c0_4) (h : laws_szSession.f a0_0 a0_1 l0_2 l0_3 l0_4 a1 = some r) :
  Calls Tryd.prog 4 #[.agg #[.int .i64 a0_0, .int .i64 a0_1, .slice A0_2 l0_2.length c0_2, .slice A0_3 l0_3.length c0_3, .slice A0_4 l0_4.length c0_4], .int .i64 a1] w fun e w' => e = .returned (.int .i64 r) ∧ Below w.heap.size w w' := by
 have hu27 := Tryd.underlying27; have hu24 := Tryd.underlying24; have HR0_2 := am hr0_2; have HC0_2 := am hc0_2; clear hr0_2 hc0_2; have HR0_3 := am hr0_3; have HC0_3 := am hc0_3; clear hr0_3 hc0_3; have HR0_4 := am hr0_4; have HC0_4 := am hc0_4; clear hr0_4 hc0_4; have HB := am (Below.refl w.heap.size w); have H := h; clear h
 unfold laws_szSession.f at H
 obtain ⟨t104, A3, H⟩ := bindq H; try dsimp only at H
 by_cases c4 : t104 < 0
 ·rw [if_pos c4] at H; have c4b0 : decide (t104 < 0) = true := decide_eq_true c4; clear c4; obtain rfl := Option.some.inj H
  go_enter Tryd.func4, Tryd.ntmps4
  go_wp2_with (first | ((with_reducible refine gate_dst (N := 2) rfl ?_); refine box_event ?hg (N := 2) ?hd (cs := #[.int .i64 a0_0, .int .i64 a0_1, .slice A0_2 l0_2.length c0_2, .slice A0_3 l0_3.length c0_3, .slice A0_4 l0_4.length c0_4]) (t := 27) ?hr ?_; (case hd | hg => rfl); (case hr => go_simp; try rfl); intro gb103 hg w5 hbox hb; have BK103 := am (hbox); have GW103 := am (gq hg); have GE103 := am (gq hg); replace HB := sb hb; clear hb hbox hg; have ⟨b60, b61, b62, b63, b64, d60, d61, d62, d63, d64⟩ := bc5 BK103) | ((with_reducible refine gate_callee (f := 9) rfl ?_); refine goesL_ (some 8) rfl rfl Tryd.func9 (by kernel_rfl) rfl #[.agg #[.int .i64 a0_0, .int .i64 a0_1, .slice A0_2 l0_2.length c0_2], .int .i64 a1] rfl mq ?_; (with_reducible refine (laws_szBoard.calls a0_0 a0_1 _ _ l0_2 a1 t104 _ ?s1 ?s2 A3.out).mono ?_); (case s1 => exact cq (Kd.C_below HR0_2.out HB.out)); (case s2 => exact HC0_2.out); rintro e w7 ⟨rfl, hb⟩; refine ⟨_, rfl, ?_⟩; replace BK103 := zb BK103 hb; replace HB := sb hb; (try clear hb)))
  go_ret
  exact ⟨eq_, bq⟩
 rw [if_neg c4] at H; have c4b0 : decide (t104 < 0) = false := decide_eq_false c4; clear c4; obtain ⟨t105, A8, H⟩ := bindq H; try dsimp only at H
 by_cases c9 : t105 < 0
 ·rw [if_pos c9] at H; have c9b0 : decide (t105 < 0) = true := decide_eq_true c9; clear c9; obtain rfl := Option.some.inj H
  go_enter Tryd.func4, Tryd.ntmps4
  go_wp2_with (first | ((with_reducible refine gate_dst (N := 2) rfl ?_); refine box_event ?hg (N := 2) ?hd (cs := #[.int .i64 a0_0, .int .i64 a0_1, .slice A0_2 l0_2.length c0_2, .slice A0_3 l0_3.length c0_3, .slice A0_4 l0_4.length c0_4]) (t := 27) ?hr ?_; (case hd | hg => rfl); (case hr => go_simp; try rfl); intro gb103 hg w10 hbox hb; have BK103 := am (hbox); have GW103 := am (gq hg); have GE103 := am (gq hg); replace HB := sb hb; clear hb hbox hg; have ⟨b110, b111, b112, b113, b114, d110, d111, d112, d113, d114⟩ := bc5 BK103) | ((with_reducible refine gate_callee (f := 9) rfl ?_); refine goesL_ (some 8) rfl rfl Tryd.func9 (by kernel_rfl) rfl #[.agg #[.int .i64 a0_0, .int .i64 a0_1, .slice A0_2 l0_2.length c0_2], .int .i64 a1] rfl mq ?_; (with_reducible refine (laws_szBoard.calls a0_0 a0_1 _ _ l0_2 a1 t104 _ ?s1 ?s2 A3.out).mono ?_); (case s1 => exact cq (Kd.C_below HR0_2.out HB.out)); (case s2 => exact HC0_2.out); rintro e w12 ⟨rfl, hb⟩; refine ⟨_, rfl, ?_⟩; replace BK103 := zb BK103 hb; replace HB := sb hb; (try clear hb); have ⟨b130, b131, b132, b133, b134, d130, d131, d132, d133, d134⟩ := bc5 BK103) | ((with_reducible refine gate_callee (f := 10) rfl ?_); refine goesL_ (some 14) rfl rfl Tryd.func10 (by kernel_rfl) rfl #[.slice A0_3 l0_3.length c0_3, .int .i64 t104] rfl mq ?_; (with_reducible refine (laws_szSessionActS.calls _ _ l0_3 t104 t105 _ ?s1 ?s2 A8.out).mono ?_); (case s1 => exact cq (Kd.C_below HR0_3.out HB.out)); (case s2 => exact HC0_3.out); rintro e w' ⟨rfl, ⟨nd, rfl⟩⟩; refine ⟨_, rfl, ?_⟩))
  go_ret
  exact ⟨eq_, bq⟩
 rw [if_neg c9] at H; have c9b0 : decide (t105 < 0) = false := decide_eq_false c9; clear c9; obtain ⟨t106, A14, H⟩ := bindq H; try dsimp only at H
 by_cases c15 : t106 < 0
 ·rw [if_pos c15] at H; have c15b0 : decide (t106 < 0) = true := decide_eq_true c15; clear c15; obtain rfl := Option.some.inj H
  go_enter Tryd.func4, Tryd.ntmps4
  go_wp2_with (first | ((with_reducible refine gate_dst (N := 2) rfl ?_); refine box_event ?hg (N := 2) ?hd (cs := #[.int .i64 a0_0, .int .i64 a0_1, .slice A0_2 l0_2.length c0_2, .slice A0_3 l0_3.length c0_3, .slice A0_4 l0_4.length c0_4]) (t := 27) ?hr ?_; (case hd | hg => rfl); (case hr => go_simp; try rfl); intro gb103 hg w16 hbox hb; have BK103 := am (hbox); have GW103 := am (gq hg); have GE103 := am (gq hg); replace HB := sb hb; clear hb hbox hg; have ⟨b170, b171, b172, b173, b174, d170, d171, d172, d173, d174⟩ := bc5 BK103) | ((with_reducible refine gate_callee (f := 9) rfl ?_); refine goesL_ (some 8) rfl rfl Tryd.func9 (by kernel_rfl) rfl #[.agg #[.int .i64 a0_0, .int .i64 a0_1, .slice A0_2 l0_2.length c0_2], .int .i64 a1] rfl mq ?_; (with_reducible refine (laws_szBoard.calls a0_0 a0_1 _ _ l0_2 a1 t104 _ ?s1 ?s2 A3.out).mono ?_); (case s1 => exact cq (Kd.C_below HR0_2.out HB.out)); (case s2 => exact HC0_2.out); rintro e w18 ⟨rfl, hb⟩; refine ⟨_, rfl, ?_⟩; replace BK103 := zb BK103 hb; replace HB := sb hb; (try clear hb); have ⟨b190, b191, b192, b193, b194, d190, d191, d192, d193, d194⟩ := bc5 BK103) | ((with_reducible refine gate_callee (f := 10) rfl ?_); refine goesL_ (some 14) rfl rfl Tryd.func10 (by kernel_rfl) rfl #[.slice A0_3 l0_3.length c0_3, .int .i64 t104] rfl mq ?_; (with_reducible refine (laws_szSessionActS.calls _ _ l0_3 t104 t105 _ ?s1 ?s2 A8.out).mono ?_); (case s1 => exact cq (Kd.C_below HR0_3.out HB.out)); (case s2 => exact HC0_3.out); rintro e w' ⟨rfl, ⟨nd, rfl⟩⟩; refine ⟨_, rfl, ?_⟩) | ((with_reducible refine gate_callee (f := 10) rfl ?_); refine goesL_ (some 20) rfl rfl Tryd.func10 (by kernel_rfl) rfl #[.slice A0_4 l0_4.length c0_4, .int .i64 t105] rfl mq ?_; (with_reducible refine (laws_szSessionActS.calls _ _ l0_4 t105 t106 _ ?s1 ?s2 A14.out).mono ?_); (case s1 => exact cq (Kd.C_below HR0_4.out bq)); (case s2 => exact HC0_4.out); rintro e w' ⟨rfl, ⟨nd, rfl⟩⟩; refine ⟨_, rfl, ?_⟩))
  go_ret
  exact ⟨eq_, bq⟩
 rw [if_neg c15] at H; have c15b0 : decide (t106 < 0) = false := decide_eq_false c15; clear c15; obtain rfl := Option.some.inj H
 go_enter Tryd.func4, Tryd.ntmps4
 go_wp2_with (first | ((with_reducible refine gate_dst (N := 2) rfl ?_); refine box_event ?hg (N := 2) ?hd (cs := #[.int .i64 a0_0, .int .i64 a0_1, .slice A0_2 l0_2.length c0_2, .slice A0_3 l0_3.length c0_3, .slice A0_4 l0_4.length c0_4]) (t := 27) ?hr ?_; (case hd | hg => rfl); (case hr => go_simp; try rfl); intro gb103 hg w20 hbox hb; have BK103 := am (hbox); have GW103 := am (gq hg); have GE103 := am (gq hg); replace HB := sb hb; clear hb hbox hg; have ⟨b210, b211, b212, b213, b214, d210, d211, d212, d213, d214⟩ := bc5 BK103) | ((with_reducible refine gate_callee (f := 9) rfl ?_); refine goesL_ (some 8) rfl rfl Tryd.func9 (by kernel_rfl) rfl #[.agg #[.int .i64 a0_0, .int .i64 a0_1, .slice A0_2 l0_2.length c0_2], .int .i64 a1] rfl mq ?_; (with_reducible refine (laws_szBoard.calls a0_0 a0_1 _ _ l0_2 a1 t104 _ ?s1 ?s2 A3.out).mono ?_); (case s1 => exact cq (Kd.C_below HR0_2.out HB.out)); (case s2 => exact HC0_2.out); rintro e w22 ⟨rfl, hb⟩; refine ⟨_, rfl, ?_⟩; replace BK103 := zb BK103 hb; replace HB := sb hb; (try clear hb); have ⟨b230, b231, b232, b233, b234, d230, d231, d232, d233, d234⟩ := bc5 BK103) | ((with_reducible refine gate_callee (f := 10) rfl ?_); refine goesL_ (some 14) rfl rfl Tryd.func10 (by kernel_rfl) rfl #[.slice A0_3 l0_3.length c0_3, .int .i64 t104] rfl mq ?_; (with_reducible refine (laws_szSessionActS.calls _ _ l0_3 t104 t105 _ ?s1 ?s2 A8.out).mono ?_); (case s1 => exact cq (Kd.C_below HR0_3.out HB.out)); (case s2 => exact HC0_3.out); rintro e w' ⟨rfl, ⟨nd, rfl⟩⟩; refine ⟨_, rfl, ?_⟩) | ((with_reducible refine gate_callee (f := 10) rfl ?_); refine goesL_ (some 20) rfl rfl Tryd.func10 (by kernel_rfl) rfl #[.slice A0_4 l0_4.length c0_4, .int .i64 t105] rfl mq ?_; (with_reducible refine (laws_szSessionActS.calls _ _ l0_4 t105 t106 _ ?s1 ?s2 A14.out).mono ?_); (case s1 => exact cq (Kd.C_below HR0_4.out bq)); (case s2 => exact HC0_4.out); rintro e w' ⟨rfl, ⟨nd, rfl⟩⟩; refine ⟨_, rfl, ?_⟩))
 go_ret
 exact ⟨eq_, bq⟩


def spec_l1In.f (a0 : Int) (a1 : Int) (a2 : Int) : Option (Bool) := if a0 ≥ a1 then (some (decide (a0 ≤ a2))) else (some false)
theorem spec_l1In.calls (a0 : Int) (a1 : Int) (a2 : Int) (r : Bool) (w : World) (h : spec_l1In.f a0 a1 a2 = some r) :
  Calls Tryd.prog 38 #[.int .i64 a0, .int .i64 a1, .int .i64 a2] w fun e w' => e = .returned (.bool r) ∧ Drawn0 w w' := by
 have H := h; clear h
 unfold spec_l1In.f at H
 by_cases c4 : a0 ≥ a1
 ·rw [if_pos c4] at H; have c4b0 : decide (a1 ≤ a0) = true := decide_eq_true c4; clear c4; obtain rfl := Option.some.inj H
  go_enter Tryd.func38, Tryd.ntmps38
  go_wp2
  go_ret
  exact ⟨sq, by repeat (first | exact Drawn0.refl _ | apply Drawn0.step)⟩
 rw [if_neg c4] at H; have c4b0 : decide (a1 ≤ a0) = false := decide_eq_false c4; clear c4; obtain rfl := Option.some.inj H
 go_enter Tryd.func38, Tryd.ntmps38
 go_wp2
 go_ret
 exact ⟨sq, by repeat (first | exact Drawn0.refl _ | apply Drawn0.step)⟩


def spec_paTurning.f (a0_0 : Int) (a0_1 : Int) : Option (Bool) := if a0_0 = 3 then (some true) else (some (a0_0 == 6))
theorem spec_paTurning.calls (a0_0 : Int) (a0_1 : Int) (r : Bool) (w : World) (h : spec_paTurning.f a0_0 a0_1 = some r) :
  Calls Tryd.prog 49 #[.agg #[.int .i64 a0_0, .int .i64 a0_1]] w fun e w' => e = .returned (.bool r) ∧ Below w.heap.size w w' := by
 have hu45 := Tryd.underlying45; have HB := am (Below.refl w.heap.size w); have H := h; clear h
 unfold spec_paTurning.f at H
 by_cases c2 : a0_0 = 3
 ·rw [if_pos c2] at H; have c2b0 : (a0_0 == 3) = true := beq_iff_eq.mpr c2; have c2b1 : (a0_0 != 3) = false := bne_eq_false_iff_eq.mpr c2; clear c2; obtain rfl := Option.some.inj H
  go_enter Tryd.func49, Tryd.ntmps49
  go_wp2_with (first | ((with_reducible refine gate_dst (N := 1) rfl ?_); refine box_event ?hg (N := 1) ?hd (cs := #[.int .i64 a0_0, .int .i64 a0_1]) (t := 45) ?hr ?_; (case hd | hg => rfl); (case hr => go_simp; try rfl); intro gb107 hg w3 hbox hb; have BK107 := am (hbox); have GW107 := am (gq hg); have GE107 := am (gq hg); replace HB := sb hb; clear hb hbox hg; have ⟨b40, b41, d40, d41⟩ := bc2 BK107))
  go_ret
  exact ⟨eq_, bq⟩
 rw [if_neg c2] at H; have c2b0 : (a0_0 == 3) = false := beq_eq_false_iff_ne.mpr c2; have c2b1 : (a0_0 != 3) = true := bne_iff_ne.mpr c2; obtain rfl := Option.some.inj H
 go_enter Tryd.func49, Tryd.ntmps49
 go_wp2_with (first | ((with_reducible refine gate_dst (N := 1) rfl ?_); refine box_event ?hg (N := 1) ?hd (cs := #[.int .i64 a0_0, .int .i64 a0_1]) (t := 45) ?hr ?_; (case hd | hg => rfl); (case hr => go_simp; try rfl); intro gb107 hg w5 hbox hb; have BK107 := am (hbox); have GW107 := am (gq hg); have GE107 := am (gq hg); replace HB := sb hb; clear hb hbox hg; have ⟨b60, b61, d60, d61⟩ := bc2 BK107))
 go_ret
 exact ⟨eq_, bq⟩


def spec_paGood.f (a0_0 : Int) (a0_1 : Int) : Option (Bool) := (spec_l1In.f a0_0 0 7).bind fun t109 => (if t109 = true then (if a0_1 = 0 then (some true) else (if a0_1 = 1 then ((spec_paTurning.f a0_0 a0_1).bind fun t110 => (some t110)) else (some false))) else (some false))
theorem spec_paGood.calls (a0_0 : Int) (a0_1 : Int) (r : Bool) (w : World) (h : spec_paGood.f a0_0 a0_1 = some r) :
  Calls Tryd.prog 39 #[.agg #[.int .i64 a0_0, .int .i64 a0_1]] w fun e w' => e = .returned (.bool r) ∧ Below w.heap.size w w' := by
 have hu45 := Tryd.underlying45; have HB := am (Below.refl w.heap.size w); have H := h; clear h
 unfold spec_paGood.f at H
 obtain ⟨t109, A2, H⟩ := bindq H; try dsimp only at H
 by_cases c3 : t109 = true
 ·subst c3; rw [if_pos rfl] at H; try dsimp only at H
  by_cases c4 : a0_1 = 0
  ·rw [if_pos c4] at H; have c4b0 : (a0_1 == 0) = true := beq_iff_eq.mpr c4; have c4b1 : (a0_1 != 0) = false := bne_eq_false_iff_eq.mpr c4; clear c4; obtain rfl := Option.some.inj H
   go_enter Tryd.func39, Tryd.ntmps39
   go_wp2_with (first | ((with_reducible refine gate_dst (N := 1) rfl ?_); refine box_event ?hg (N := 1) ?hd (cs := #[.int .i64 a0_0, .int .i64 a0_1]) (t := 45) ?hr ?_; (case hd | hg => rfl); (case hr => go_simp; try rfl); intro gb108 hg w5 hbox hb; have BK108 := am (hbox); have GW108 := am (gq hg); have GE108 := am (gq hg); replace HB := sb hb; clear hb hbox hg; have ⟨b60, b61, d60, d61⟩ := bc2 BK108) | ((with_reducible refine gate_callee (f := 38) rfl ?_); refine goesL_ (some 5) rfl rfl Tryd.func38 (by kernel_rfl) rfl #[.int .i64 a0_0, .int .i64 0, .int .i64 7] rfl mq ?_; (with_reducible refine (spec_l1In.calls a0_0 0 7 true _ A2.out).mono ?_); rintro e w' ⟨rfl, ⟨nd, rfl⟩⟩; refine ⟨_, rfl, ?_⟩))
   go_ret
   exact ⟨eq_, bq⟩
  rw [if_neg c4] at H; have c4b0 : (a0_1 == 0) = false := beq_eq_false_iff_ne.mpr c4; have c4b1 : (a0_1 != 0) = true := bne_iff_ne.mpr c4; by_cases c7 : a0_1 = 1
  ·rw [if_pos c7] at H; have c7b0 : (a0_1 == 1) = true := beq_iff_eq.mpr c7; have c7b1 : (a0_1 != 1) = false := bne_eq_false_iff_eq.mpr c7; clear c7; obtain ⟨t110, A8, H⟩ := bindq H; try dsimp only at H
   obtain rfl := Option.some.inj H
   go_enter Tryd.func39, Tryd.ntmps39
   go_wp2_with (first | ((with_reducible refine gate_dst (N := 1) rfl ?_); refine box_event ?hg (N := 1) ?hd (cs := #[.int .i64 a0_0, .int .i64 a0_1]) (t := 45) ?hr ?_; (case hd | hg => rfl); (case hr => go_simp; try rfl); intro gb108 hg w9 hbox hb; have BK108 := am (hbox); have GW108 := am (gq hg); have GE108 := am (gq hg); replace HB := sb hb; clear hb hbox hg; have ⟨b100, b101, d100, d101⟩ := bc2 BK108) | ((with_reducible refine gate_callee (f := 38) rfl ?_); refine goesL_ (some 5) rfl rfl Tryd.func38 (by kernel_rfl) rfl #[.int .i64 a0_0, .int .i64 0, .int .i64 7] rfl mq ?_; (with_reducible refine (spec_l1In.calls a0_0 0 7 true _ A2.out).mono ?_); rintro e w' ⟨rfl, ⟨nd, rfl⟩⟩; refine ⟨_, rfl, ?_⟩) | (go_at_call 49; (with_reducible refine (spec_paTurning.calls a0_0 a0_1 t110 _ A8.out).mono ?_); rintro e w11 ⟨rfl, hb⟩; replace BK108 := zb BK108 hb; replace HB := sb hb; (try clear hb)))
   go_ret
   exact ⟨eq_, bq⟩
  rw [if_neg c7] at H; have c7b0 : (a0_1 == 1) = false := beq_eq_false_iff_ne.mpr c7; have c7b1 : (a0_1 != 1) = true := bne_iff_ne.mpr c7; obtain rfl := Option.some.inj H
  go_enter Tryd.func39, Tryd.ntmps39
  go_wp2_with (first | ((with_reducible refine gate_dst (N := 1) rfl ?_); refine box_event ?hg (N := 1) ?hd (cs := #[.int .i64 a0_0, .int .i64 a0_1]) (t := 45) ?hr ?_; (case hd | hg => rfl); (case hr => go_simp; try rfl); intro gb108 hg w12 hbox hb; have BK108 := am (hbox); have GW108 := am (gq hg); have GE108 := am (gq hg); replace HB := sb hb; clear hb hbox hg; have ⟨b130, b131, d130, d131⟩ := bc2 BK108) | ((with_reducible refine gate_callee (f := 38) rfl ?_); refine goesL_ (some 5) rfl rfl Tryd.func38 (by kernel_rfl) rfl #[.int .i64 a0_0, .int .i64 0, .int .i64 7] rfl mq ?_; (with_reducible refine (spec_l1In.calls a0_0 0 7 true _ A2.out).mono ?_); rintro e w' ⟨rfl, ⟨nd, rfl⟩⟩; refine ⟨_, rfl, ?_⟩))
  go_ret
  exact ⟨eq_, bq⟩
 replace c3 := Bool.eq_false_iff.mpr c3; subst c3; rw [if_neg (show ¬ (false = true) by decide)] at H; try dsimp only at H
 obtain rfl := Option.some.inj H
 go_enter Tryd.func39, Tryd.ntmps39
 go_wp2_with (first | ((with_reducible refine gate_dst (N := 1) rfl ?_); refine box_event ?hg (N := 1) ?hd (cs := #[.int .i64 a0_0, .int .i64 a0_1]) (t := 45) ?hr ?_; (case hd | hg => rfl); (case hr => go_simp; try rfl); intro gb108 hg w14 hbox hb; have BK108 := am (hbox); have GW108 := am (gq hg); have GE108 := am (gq hg); replace HB := sb hb; clear hb hbox hg; have ⟨b150, b151, d150, d151⟩ := bc2 BK108) | ((with_reducible refine gate_callee (f := 38) rfl ?_); refine goesL_ (some 5) rfl rfl Tryd.func38 (by kernel_rfl) rfl #[.int .i64 a0_0, .int .i64 0, .int .i64 7] rfl mq ?_; (with_reducible refine (spec_l1In.calls a0_0 0 7 false _ A2.out).mono ?_); rintro e w' ⟨rfl, ⟨nd, rfl⟩⟩; refine ⟨_, rfl, ?_⟩))
 go_ret
 exact ⟨eq_, bq⟩


mutual
def spec_boGood.j0 : Nat → Bool → Int → Int → List (S45) → Option (Bool)
 | 0, _, _, _, _ => none
 | k + 1, x25, x2, x3, x1 => if x25 = true then (some false) else (spec_boGood.l0 k x1 (x1.length : Int) 0)
def spec_boGood.l0 : Nat → List (S45) → Int → Int → Option (Bool)
 | 0, _, _, _ => none
 | k + 1, x27, x28, x29 => if x29 < x28 then (if 0 ≤ x29 then (if x29 < (x27.length : Int) then ((spec_paGood.f ((rd_T45 x27 x29).f0) ((rd_T45 x27 x29).f1)).bind fun t116 => (if t116 = true then (spec_boGood.l0 k x27 x28 (wrap64 (x29 + 1))) else (some false))) else (none)) else (none)) else (some true)
end
def spec_boGood.f (k : Nat) (a0_0 : Int) (a0_1 : Int) (l0_2 : List (S45)) : Option (Bool) := (spec_l1In.f a0_0 1 10).bind fun t112 => (if t112 = true then ((spec_l1In.f a0_1 1 9).bind fun t113 => (if t113 = true then (spec_boGood.j0 k ((l0_2.length : Int) != (wrap64 (a0_0 * a0_1))) a0_0 a0_1 l0_2) else (spec_boGood.j0 k true a0_0 a0_1 l0_2))) else (spec_boGood.j0 k true a0_0 a0_1 l0_2))
theorem spec_boGood.calls (k : Nat) (a0_0 : Int) (a0_1 : Int) (A0_2 : Option Addr) (c0_2 : Nat) (l0_2 : List (S45)) (r : Bool) (w : World) (hr0_2 : Kd.C k45 w A0_2 l0_2.length l0_2) (hc0_2 : l0_2.length ≤ c0_2) (h : spec_boGood.f k a0_0 a0_1 l0_2 = some r) :
  Calls Tryd.prog 24 #[.agg #[.int .i64 a0_0, .int .i64 a0_1, .slice A0_2 l0_2.length c0_2]] w fun e w' => e = .returned (.bool r) ∧ Below w.heap.size w w' := by
 have hu33 := Tryd.underlying33; have hu45 := Tryd.underlying45; have HR0_2 := am hr0_2; have HC0_2 := am hc0_2; clear hr0_2 hc0_2; have HB := am (Below.refl w.heap.size w); have H := h; clear h
 unfold spec_boGood.f at H
 have HC2 := am H; clear H
 go_enter Tryd.func24, Tryd.ntmps24
 go_upto_region 1 with (first | ((with_reducible refine gate_dst (N := 1) rfl ?_); (try (refine gate_guard (by rfl) ?_; dsimp only)); refine box_event ?hg (N := 1) ?hd (cs := #[.int .i64 a0_0, .int .i64 a0_1, .slice A0_2 l0_2.length c0_2]) (t := 33) ?hr ?_; (case hd | hg => rfl); (case hr => go_simp; try rfl); intro gb111 hg w3 hbox hb; have BK111 := am (hbox); have GW111 := am (gq hg); have GE111 := am (gq hg); replace HB := sb hb; clear hb hbox hg))
 (try simp only [Act.put, List.setIfInBounds_toArray, List.set_cons_zero, List.set_cons_succ])
 go_cut [25] (fun v25 wc => ∃ (kq : Nat) (x25_1 : Bool), v25 = .bool x25_1 ∧ Aside0 (spec_boGood.j0 kq x25_1 a0_0 a0_1 l0_2 = some r) ∧ Aside0 (kq ≤ k) ∧ Aside0 (wc.heap[gb111]? = some (.cells #[.int .i64 a0_0, .int .i64 a0_1, (.slice A0_2 l0_2.length c0_2)] 33 (0, 0))) ∧ Aside0 (Below w.heap.size w wc))
 case first =>
  have H := HC2.out; clear HC2; obtain ⟨t112, A4, H⟩ := bindq H; try dsimp only at H
  by_cases c5 : t112 = true
  ·subst c5; rw [if_pos rfl] at H; try dsimp only at H
   obtain ⟨t113, A6, H⟩ := bindq H; try dsimp only at H
   by_cases c7 : t113 = true
   ·subst c7; rw [if_pos rfl] at H; try dsimp only at H
    have H' := am H; clear H; have ⟨b80, b81, b82, d80, d81, d82⟩ := bc3 BK111; go_wp2_with (first | ((with_reducible refine gate_callee (f := 38) rfl ?_); refine goesL_ (some 7) rfl rfl Tryd.func38 (by kernel_rfl) rfl #[.int .i64 a0_0, .int .i64 1, .int .i64 10] rfl mq ?_; (with_reducible refine (spec_l1In.calls a0_0 1 10 true _ A4.out).mono ?_); rintro e w' ⟨rfl, ⟨nd, rfl⟩⟩; refine ⟨_, rfl, ?_⟩) | (go_at_call 38; (with_reducible refine (spec_l1In.calls a0_1 1 9 true _ A6.out).mono ?_); rintro e w' ⟨rfl, ⟨nd, rfl⟩⟩))
    go_meet
    case rel => exact ⟨_, (((l0_2.length : Int) != (wrap64 (a0_0 * a0_1)))), sq, H', ⟨by first | omega | exact Nat.le_refl _⟩, ⟨zq BK111⟩, ⟨bq⟩⟩
   replace c7 := Bool.eq_false_iff.mpr c7; subst c7; rw [if_neg (show ¬ (false = true) by decide)] at H; try dsimp only at H
   have H' := am H; clear H; have ⟨b90, b91, b92, d90, d91, d92⟩ := bc3 BK111; go_wp2_with (first | ((with_reducible refine gate_callee (f := 38) rfl ?_); refine goesL_ (some 7) rfl rfl Tryd.func38 (by kernel_rfl) rfl #[.int .i64 a0_0, .int .i64 1, .int .i64 10] rfl mq ?_; (with_reducible refine (spec_l1In.calls a0_0 1 10 true _ A4.out).mono ?_); rintro e w' ⟨rfl, ⟨nd, rfl⟩⟩; refine ⟨_, rfl, ?_⟩) | (go_at_call 38; (with_reducible refine (spec_l1In.calls a0_1 1 9 false _ A6.out).mono ?_); rintro e w' ⟨rfl, ⟨nd, rfl⟩⟩))
   go_meet
   case rel => exact ⟨_, (true), sq, H', ⟨by first | omega | exact Nat.le_refl _⟩, ⟨zq BK111⟩, ⟨bq⟩⟩
  replace c5 := Bool.eq_false_iff.mpr c5; subst c5; rw [if_neg (show ¬ (false = true) by decide)] at H; try dsimp only at H
  have H' := am H; clear H; have ⟨b100, b101, b102, d100, d101, d102⟩ := bc3 BK111; go_wp2_with (first | ((with_reducible refine gate_callee (f := 38) rfl ?_); refine goesL_ (some 7) rfl rfl Tryd.func38 (by kernel_rfl) rfl #[.int .i64 a0_0, .int .i64 1, .int .i64 10] rfl mq ?_; (with_reducible refine (spec_l1In.calls a0_0 1 10 false _ A4.out).mono ?_); rintro e w' ⟨rfl, ⟨nd, rfl⟩⟩; refine ⟨_, rfl, ?_⟩))
  go_meet
  case rel => exact ⟨_, (true), sq, H', ⟨by first | omega | exact Nat.le_refl _⟩, ⟨zq BK111⟩, ⟨bq⟩⟩
 case rest =>
  clear HC2; try clear c5
  try clear c7
  try clear b100 b101 b102 d100 d101 d102
  try clear b80 b81 b82 d80 d81 d82
  try clear b90 b91 b92 d90 d91 d92
  obtain ⟨kq, x25_1, rfl, HA, HJ1, BK111, HB⟩ := hcut
  cases kq with
  | zero => exact absurd HA.out (by simp [spec_boGood.j0])
  | succ kj1 =>
   have H := HA.out; clear HA; simp only [spec_boGood.j0] at H; by_cases c11 : x25_1 = true
   ·subst c11; rw [if_pos rfl] at H; try dsimp only at H
    obtain rfl := Option.some.inj H
    go_wp2
    go_ret
    exact ⟨eq_, bq⟩
   replace c11 := Bool.eq_false_iff.mpr c11; subst c11; rw [if_neg (show ¬ (false = true) by decide)] at H; try dsimp only at H
   have H' := am H; clear H; have ⟨b120, b121, b122, d120, d121, d122⟩ := bc3 BK111
   go_wp2
   go_loopg [29] kj1 (fun kq v29 w' => ∃ (x29_2 : Int), v29 = .int .i64 x29_2 ∧ Aside0 (spec_boGood.l0 kq l0_2 (l0_2.length : Int) x29_2 = some r) ∧ Aside0 (kq ≤ kj1) ∧ Aside0 (w'.heap[gb111]? = some (.cells #[.int .i64 a0_0, .int .i64 a0_1, (.slice A0_2 l0_2.length c0_2)] 33 (0, 0))) ∧ Aside0 (Below w.heap.size w w'))
   case atStart => exact ⟨(0), sq, H', ⟨Nat.le_refl _⟩, ⟨zq BK111⟩, ⟨bq⟩⟩
   case round =>
    clear H'; try clear c5
    try clear c7
    try clear c11
    try clear b100 b101 b102 d100 d101 d102
    try clear b120 b121 b122 d120 d121 d122
    try clear b80 b81 b82 d80 d81 d82
    try clear b90 b91 b92 d90 d91 d92
    obtain ⟨x29_2, rfl, HA, HK2, BK111, HB⟩ := hrel
    cases gk with
    | zero => exact absurd HA.out (by simp [spec_boGood.l0])
    | succ k2 =>
     have H := HA.out; clear HA; simp only [spec_boGood.l0] at H; by_cases c13 : x29_2 < (l0_2.length : Int)
     ·rw [if_pos c13] at H; have c13b0 : decide (x29_2 < (l0_2.length : Int)) = true := decide_eq_true c13; clear c13; by_cases c14 : 0 ≤ x29_2
      ·rw [if_pos c14] at H; have c14b0 : decide (0 ≤ x29_2) = true := decide_eq_true c14; clear c14; by_cases c15 : x29_2 < (l0_2.length : Int)
       ·rw [if_pos c15] at H; have c15b0 : decide (x29_2 < (l0_2.length : Int)) = true := decide_eq_true c15; clear c15; obtain ⟨t116, A16, H⟩ := bindq H; try dsimp only at H
        by_cases c17 : t116 = true
        ·subst c17; rw [if_pos rfl] at H; try dsimp only at H
         have H' := am H; clear H; have p114 : 0 ≤ (x29_2 : Int) := of_decide_eq_true aq; have q114 : x29_2 < (l0_2.length : Int) := of_decide_eq_true aq; obtain ⟨ad114, e114, hx114_0, hx114_1⟩ := at_T45 HR0_2.out x29_2 p114 q114
         cases e114
         replace hx114_0 := (HB.out.cell (World.block_lt_of_cell? w _ hx114_0)).trans hx114_0; replace hx114_1 := (HB.out.cell (World.block_lt_of_cell? w _ hx114_1)).trans hx114_1; replace p114 := eq_true p114; replace q114 := eq_true q114; go_wp2_with (first | ((with_reducible refine gate_dst (N := 4) rfl ?_); (try (refine gate_guard (by rfl) ?_; dsimp only)); refine box_event ?hg (N := 4) ?hd (cs := #[.int .i64 0, .int .i64 0]) (t := 45) ?hr ?_; (case hd | hg => rfl); (case hr => go_simp; try rfl); intro gb115 hg w18 hbox hb; have BK115 := am (hbox); have GW115 := am (gq hg); have GE115 := am (gq hg); replace HB := sb hb; have ⟨NB111_115, NB115_111⟩ := nn hg BK111; replace BK111 := zb BK111 hb; clear hb hbox hg; have hnb19 := NB115_111.out; have hnc19 := NB111_115.out; have ⟨b200, b201, d200, d201⟩ := bc2 BK115) | ((with_reducible refine gate_callee (f := 39) rfl ?_); refine goesL_ (some 34) rfl rfl Tryd.func39 (by kernel_rfl) rfl #[.agg #[.int .i64 ((rd_T45 l0_2 x29_2).f0), .int .i64 ((rd_T45 l0_2 x29_2).f1)]] rfl mq ?_; (with_reducible refine (spec_paGood.calls ((rd_T45 l0_2 x29_2).f0) ((rd_T45 l0_2 x29_2).f1) true _ A16.out).mono ?_); rintro e w21 ⟨rfl, hb⟩; refine ⟨_, rfl, ?_⟩; replace BK111 := zw (.cells #[.int .i64 a0_0, .int .i64 a0_1, .slice (some ad114) l0_2.length c0_2] 33 (0, 0)) BK111 hb; replace BK115 := zw (.cells #[.int .i64 ((rd_T45 l0_2 x29_2).f0), .int .i64 ((rd_T45 l0_2 x29_2).f1)] 45 (0, 0)) BK115 hb; replace HB := sb hb; (try clear hb)))
         go_roundg k2
         case measure => have := HJ1.out; have := HK2.out; omega
         case rel => exact ⟨(wrap64 (x29_2 + 1)), sq, H', ⟨by have := HJ1.out; have := HK2.out; omega⟩, ⟨zq BK111⟩, ⟨bq⟩⟩
        replace c17 := Bool.eq_false_iff.mpr c17; subst c17; rw [if_neg (show ¬ (false = true) by decide)] at H; try dsimp only at H
        obtain rfl := Option.some.inj H; have p114 : 0 ≤ (x29_2 : Int) := of_decide_eq_true aq; have q114 : x29_2 < (l0_2.length : Int) := of_decide_eq_true aq; obtain ⟨ad114, e114, hx114_0, hx114_1⟩ := at_T45 HR0_2.out x29_2 p114 q114
        cases e114
        replace hx114_0 := (HB.out.cell (World.block_lt_of_cell? w _ hx114_0)).trans hx114_0; replace hx114_1 := (HB.out.cell (World.block_lt_of_cell? w _ hx114_1)).trans hx114_1; replace p114 := eq_true p114; replace q114 := eq_true q114; go_wp2_with (first | ((with_reducible refine gate_dst (N := 4) rfl ?_); (try (refine gate_guard (by rfl) ?_; dsimp only)); refine box_event ?hg (N := 4) ?hd (cs := #[.int .i64 0, .int .i64 0]) (t := 45) ?hr ?_; (case hd | hg => rfl); (case hr => go_simp; try rfl); intro gb115 hg w22 hbox hb; have BK115 := am (hbox); have GW115 := am (gq hg); have GE115 := am (gq hg); replace HB := sb hb; have ⟨NB111_115, NB115_111⟩ := nn hg BK111; replace BK111 := zb BK111 hb; clear hb hbox hg; have hnb23 := NB115_111.out; have hnc23 := NB111_115.out; have ⟨b240, b241, d240, d241⟩ := bc2 BK115) | ((with_reducible refine gate_callee (f := 39) rfl ?_); refine goesL_ (some 34) rfl rfl Tryd.func39 (by kernel_rfl) rfl #[.agg #[.int .i64 ((rd_T45 l0_2 x29_2).f0), .int .i64 ((rd_T45 l0_2 x29_2).f1)]] rfl mq ?_; (with_reducible refine (spec_paGood.calls ((rd_T45 l0_2 x29_2).f0) ((rd_T45 l0_2 x29_2).f1) false _ A16.out).mono ?_); rintro e w25 ⟨rfl, hb⟩; refine ⟨_, rfl, ?_⟩; replace BK111 := zw (.cells #[.int .i64 a0_0, .int .i64 a0_1, .slice (some ad114) l0_2.length c0_2] 33 (0, 0)) BK111 hb; replace BK115 := zw (.cells #[.int .i64 ((rd_T45 l0_2 x29_2).f0), .int .i64 ((rd_T45 l0_2 x29_2).f1)] 45 (0, 0)) BK115 hb; replace HB := sb hb; (try clear hb)))
        go_ret
        exact ⟨eq_, bq⟩
       rw [if_neg c15] at H; exact absurd H (by simp)
      rw [if_neg c14] at H; exact absurd H (by simp)
     rw [if_neg c13] at H; have c13b0 : decide (x29_2 < (l0_2.length : Int)) = false := decide_eq_false c13; clear c13; obtain rfl := Option.some.inj H
     go_wp2
     go_ret
     exact ⟨eq_, bq⟩


def spec_seAct.j0 : Nat → Bool → Int → Int → Int → Int → Int → Option (Bool)
 | 0, _, _, _, _, _, _ => none
 | k + 1, x20, x1, x4, x5, x2, x3 => if x20 = true then (some false) else (if x1 = 1 then ((spec_paGood.f x2 x3).bind fun t121 => (some t121)) else (if x1 = 2 then (if x4 = 0 then (some (x2 == 0 && (x3 == 0))) else (some false)) else (some (x1 == 3 && (x4 == 0 && (x5 == 0 && ((x2 == 0 && (x3 == 0)))))))))
def spec_seAct.f (k : Nat) (a0_0 : Int) (a0_1 : Int) (l0_2 : List (S45)) (a1_0 : Int) (a1_1 : Int) (a1_2 : Int) (a1_3 : Int) (a1_4 : Int) : Option (Bool) := (spec_l1In.f a1_1 0 (wrap64 (a0_0 - 1))).bind fun t119 => (if t119 = true then ((spec_l1In.f a1_2 0 (wrap64 (a0_1 - 1))).bind fun t120 => (spec_seAct.j0 k (!t120) a1_0 a1_1 a1_2 a1_3 a1_4)) else (spec_seAct.j0 k true a1_0 a1_1 a1_2 a1_3 a1_4))
theorem spec_seAct.calls (k : Nat) (a0_0 : Int) (a0_1 : Int) (A0_2 : Option Addr) (c0_2 : Nat) (l0_2 : List (S45)) (a1_0 : Int) (a1_1 : Int) (a1_2 : Int) (a1_3 : Int) (a1_4 : Int) (r : Bool) (w : World) (hr0_2 : Kd.C k45 w A0_2 l0_2.length l0_2) (hc0_2 : l0_2.length ≤ c0_2) (h : spec_seAct.f k a0_0 a0_1 l0_2 a1_0 a1_1 a1_2 a1_3 a1_4 = some r) :
  Calls Tryd.prog 40 #[.agg #[.int .i64 a0_0, .int .i64 a0_1, .slice A0_2 l0_2.length c0_2], .agg #[.int .i64 a1_0, .int .i64 a1_1, .int .i64 a1_2, .int .i64 a1_3, .int .i64 a1_4]] w fun e w' => e = .returned (.bool r) ∧ Below w.heap.size w w' := by
 have hu33 := Tryd.underlying33; have hu47 := Tryd.underlying47; have hu45 := Tryd.underlying45; have HR0_2 := am hr0_2; have HC0_2 := am hc0_2; clear hr0_2 hc0_2; have HB := am (Below.refl w.heap.size w); have H := h; clear h
 unfold spec_seAct.f at H
 have HC3 := am H; clear H
 go_enter Tryd.func40, Tryd.ntmps40
 go_upto_region 1 with (first | ((with_reducible refine gate_dst (N := 2) rfl ?_); refine box_event ?hg (N := 2) ?hd (cs := #[.int .i64 a0_0, .int .i64 a0_1, .slice A0_2 l0_2.length c0_2]) (t := 33) ?hr ?_; (case hd | hg => rfl); (case hr => go_simp; try rfl); intro gb117 hg w4 hbox hb; have BK117 := am (hbox); have GW117 := am (gq hg); have GE117 := am (gq hg); replace HB := sb hb; clear hb hbox hg) | ((with_reducible refine gate_dst (N := 3) rfl ?_); refine box_event ?hg (N := 3) ?hd (cs := #[.int .i64 a1_0, .int .i64 a1_1, .int .i64 a1_2, .int .i64 a1_3, .int .i64 a1_4]) (t := 47) ?hr ?_; (case hd | hg => rfl); (case hr => go_simp; try rfl); intro gb118 hg w5 hbox hb; have BK118 := am (hbox); have GW118 := am (gq hg); have GE118 := am (gq hg); replace HB := sb hb; have ⟨NB117_118, NB118_117⟩ := nn hg BK117; replace BK117 := zb BK117 hb; clear hb hbox hg))
 (try simp only [Act.put, List.setIfInBounds_toArray, List.set_cons_zero, List.set_cons_succ])
 go_cut [20] (fun v20 wc => ∃ (kq : Nat) (x20_2 : Bool), v20 = .bool x20_2 ∧ Aside0 (spec_seAct.j0 kq x20_2 a1_0 a1_1 a1_2 a1_3 a1_4 = some r) ∧ Aside0 (kq ≤ k) ∧ Aside0 (wc.heap[gb117]? = some (.cells #[.int .i64 a0_0, .int .i64 a0_1, (.slice A0_2 l0_2.length c0_2)] 33 (0, 0))) ∧ Aside0 (wc.heap[gb118]? = some (.cells #[.int .i64 a1_0, .int .i64 a1_1, .int .i64 a1_2, .int .i64 a1_3, .int .i64 a1_4] 47 (0, 0))) ∧ Aside0 (Below w.heap.size w wc))
 case first =>
  have H := HC3.out; clear HC3; obtain ⟨t119, A6, H⟩ := bindq H; try dsimp only at H
  by_cases c7 : t119 = true
  ·subst c7; rw [if_pos rfl] at H; try dsimp only at H
   obtain ⟨t120, A8, H⟩ := bindq H; try dsimp only at H
   have H' := am H; clear H; have hnb9 := NB118_117.out; have hnc9 := NB117_118.out; have ⟨b100, b101, b102, b103, b104, d100, d101, d102, d103, d104⟩ := bc5 BK118; have ⟨b110, b111, b112, d110, d111, d112⟩ := bc3 BK117; go_wp2_with (first | ((with_reducible refine gate_callee (f := 38) rfl ?_); refine goesL_ (some 10) rfl rfl Tryd.func38 (by kernel_rfl) rfl #[.int .i64 a1_1, .int .i64 0, .int .i64 (wrap64 (a0_0 - 1))] rfl mq ?_; (with_reducible refine (spec_l1In.calls a1_1 0 (wrap64 (a0_0 - 1)) true _ A6.out).mono ?_); rintro e w' ⟨rfl, ⟨nd, rfl⟩⟩; refine ⟨_, rfl, ?_⟩) | (go_at_call 38; (with_reducible refine (spec_l1In.calls a1_2 0 (wrap64 (a0_1 - 1)) t120 _ A8.out).mono ?_); rintro e w' ⟨rfl, ⟨nd, rfl⟩⟩))
   go_meet
   case rel => exact ⟨_, (!t120), sq, H', ⟨by first | omega | exact Nat.le_refl _⟩, ⟨zq BK117⟩, ⟨zq BK118⟩, ⟨bq⟩⟩
  replace c7 := Bool.eq_false_iff.mpr c7; subst c7; rw [if_neg (show ¬ (false = true) by decide)] at H; try dsimp only at H
  have H' := am H; clear H; have hnb12 := NB118_117.out; have hnc12 := NB117_118.out; have ⟨b130, b131, b132, b133, b134, d130, d131, d132, d133, d134⟩ := bc5 BK118; have ⟨b140, b141, b142, d140, d141, d142⟩ := bc3 BK117; go_wp2_with (first | ((with_reducible refine gate_callee (f := 38) rfl ?_); refine goesL_ (some 10) rfl rfl Tryd.func38 (by kernel_rfl) rfl #[.int .i64 a1_1, .int .i64 0, .int .i64 (wrap64 (a0_0 - 1))] rfl mq ?_; (with_reducible refine (spec_l1In.calls a1_1 0 (wrap64 (a0_0 - 1)) false _ A6.out).mono ?_); rintro e w' ⟨rfl, ⟨nd, rfl⟩⟩; refine ⟨_, rfl, ?_⟩))
  go_meet
  case rel => exact ⟨_, (true), sq, H', ⟨by first | omega | exact Nat.le_refl _⟩, ⟨zq BK117⟩, ⟨zq BK118⟩, ⟨bq⟩⟩
 case rest =>
  clear HC3; try clear c7
  try clear b100 b101 b102 b103 b104 d100 d101 d102 d103 d104
  try clear b110 b111 b112 d110 d111 d112
  try clear b130 b131 b132 b133 b134 d130 d131 d132 d133 d134
  try clear b140 b141 b142 d140 d141 d142
  obtain ⟨kq, x20_2, rfl, HA, HJ2, BK117, BK118, HB⟩ := hcut
  cases kq with
  | zero => exact absurd HA.out (by simp [spec_seAct.j0])
  | succ kj2 =>
   have H := HA.out; clear HA; simp only [spec_seAct.j0] at H; by_cases c15 : x20_2 = true
   ·subst c15; rw [if_pos rfl] at H; try dsimp only at H
    obtain rfl := Option.some.inj H
    go_wp2
    all_goals (go_ret; exact ⟨eq_, bq⟩)
   replace c15 := Bool.eq_false_iff.mpr c15; subst c15; rw [if_neg (show ¬ (false = true) by decide)] at H; try dsimp only at H
   by_cases c16 : a1_0 = 1
   ·rw [if_pos c16] at H; have c16b0 : (a1_0 == 1) = true := beq_iff_eq.mpr c16; have c16b1 : (a1_0 != 1) = false := bne_eq_false_iff_eq.mpr c16; clear c16; obtain ⟨t121, A17, H⟩ := bindq H; try dsimp only at H
    obtain rfl := Option.some.inj H; have hnb18 := NB118_117.out; have hnc18 := NB117_118.out; have ⟨b190, b191, b192, b193, b194, d190, d191, d192, d193, d194⟩ := bc5 BK118; go_wp2_with (first | ((with_reducible refine gate_callee (f := 39) rfl ?_); refine goesL_ (some 27) rfl rfl Tryd.func39 (by kernel_rfl) rfl #[.agg #[.int .i64 a1_3, .int .i64 a1_4]] rfl mq ?_; (with_reducible refine (spec_paGood.calls a1_3 a1_4 t121 _ A17.out).mono ?_); rintro e w20 ⟨rfl, hb⟩; refine ⟨_, rfl, ?_⟩; replace BK117 := zb BK117 hb; replace BK118 := zb BK118 hb; replace HB := sb hb; (try clear hb)))
    go_ret
    exact ⟨eq_, bq⟩
   rw [if_neg c16] at H; have c16b0 : (a1_0 == 1) = false := beq_eq_false_iff_ne.mpr c16; have c16b1 : (a1_0 != 1) = true := bne_iff_ne.mpr c16; by_cases c21 : a1_0 = 2
   ·rw [if_pos c21] at H; have c21b0 : (a1_0 == 2) = true := beq_iff_eq.mpr c21; have c21b1 : (a1_0 != 2) = false := bne_eq_false_iff_eq.mpr c21; clear c21; by_cases c22 : a1_1 = 0
    ·rw [if_pos c22] at H; have c22b0 : (a1_1 == 0) = true := beq_iff_eq.mpr c22; have c22b1 : (a1_1 != 0) = false := bne_eq_false_iff_eq.mpr c22; clear c22; obtain rfl := Option.some.inj H; have hnb23 := NB118_117.out; have hnc23 := NB117_118.out; have ⟨b240, b241, b242, b243, b244, d240, d241, d242, d243, d244⟩ := bc5 BK118
     go_wp2
     all_goals (go_ret; exact ⟨eq_, bq⟩)
    rw [if_neg c22] at H; have c22b0 : (a1_1 == 0) = false := beq_eq_false_iff_ne.mpr c22; have c22b1 : (a1_1 != 0) = true := bne_iff_ne.mpr c22; obtain rfl := Option.some.inj H; have hnb25 := NB118_117.out; have hnc25 := NB117_118.out; have ⟨b260, b261, b262, b263, b264, d260, d261, d262, d263, d264⟩ := bc5 BK118
    go_wp2
    all_goals (go_ret; exact ⟨eq_, bq⟩)
   rw [if_neg c21] at H; have c21b0 : (a1_0 == 2) = false := beq_eq_false_iff_ne.mpr c21; have c21b1 : (a1_0 != 2) = true := bne_iff_ne.mpr c21; obtain rfl := Option.some.inj H; have hnb27 := NB118_117.out; have hnc27 := NB117_118.out; have ⟨b280, b281, b282, b283, b284, d280, d281, d282, d283, d284⟩ := bc5 BK118
   go_wp2
   all_goals (go_ret; exact ⟨eq_, bq⟩)



def spec_seActs.l0 : Nat → List (S47) → Int → Int → Int → Int → List (S45) → Option (Bool)
 | 0, _, _, _, _, _, _ => none
 | k + 1, x7, x8, x9, x4, x5, x6 => if x9 < x8 then (if 0 ≤ x9 then (if x9 < (x7.length : Int) then ((spec_seAct.f k x4 x5 x6 ((rd_T47 x7 x9).f0) ((rd_T47 x7 x9).f1) ((rd_T47 x7 x9).f2) ((rd_T47 x7 x9).f3.f0) ((rd_T47 x7 x9).f3.f1)).bind fun t125 => (if t125 = true then (spec_seActs.l0 k x7 x8 (wrap64 (x9 + 1)) x4 x5 x6) else (some false))) else (none)) else (none)) else (some true)
def spec_seActs.f (k : Nat) (a0_0 : Int) (a0_1 : Int) (l0_2 : List (S45)) (l1 : List (S47)) : Option (Bool) := spec_seActs.l0 k l1 (l1.length : Int) 0 a0_0 a0_1 l0_2
theorem spec_seActs.calls (k : Nat) (a0_0 : Int) (a0_1 : Int) (A0_2 : Option Addr) (c0_2 : Nat) (l0_2 : List (S45)) (A1 : Option Addr) (c1 : Nat) (l1 : List (S47)) (r : Bool) (w : World) (hr0_2 : Kd.C k45 w A0_2 l0_2.length l0_2) (hc0_2 : l0_2.length ≤ c0_2) (hr1 : Kd.C k47 w A1 l1.length l1) (hc1 : l1.length ≤ c1) (h : spec_seActs.f k a0_0 a0_1 l0_2 l1 = some r) :
  Calls Tryd.prog 25 #[.agg #[.int .i64 a0_0, .int .i64 a0_1, .slice A0_2 l0_2.length c0_2], .slice A1 l1.length c1] w fun e w' => e = .returned (.bool r) ∧ Below w.heap.size w w' := by
 have hu33 := Tryd.underlying33; have hu47 := Tryd.underlying47; have HR0_2 := am hr0_2; have HC0_2 := am hc0_2; clear hr0_2 hc0_2; have HR1 := am hr1; have HC1 := am hc1; clear hr1 hc1; have HB := am (Below.refl w.heap.size w); have H := h; clear h
 unfold spec_seActs.f at H
 have H' := am H; clear H
 go_enter Tryd.func25, Tryd.ntmps25
 go_wp2_with (first | ((with_reducible refine gate_dst (N := 2) rfl ?_); refine box_event ?hg (N := 2) ?hd (cs := #[.int .i64 a0_0, .int .i64 a0_1, .slice A0_2 l0_2.length c0_2]) (t := 33) ?hr ?_; (case hd | hg => rfl); (case hr => go_simp; try rfl); intro gb122 hg w3 hbox hb; have BK122 := am (hbox); have GW122 := am (gq hg); have GE122 := am (gq hg); replace HB := sb hb; clear hb hbox hg))
 go_loopg [9] k (fun kq v9 w' => ∃ (x9_1 : Int), v9 = .int .i64 x9_1 ∧ Aside0 (spec_seActs.l0 kq l1 (l1.length : Int) x9_1 a0_0 a0_1 l0_2 = some r) ∧ Aside0 (kq ≤ k) ∧ Aside0 (w'.heap[gb122]? = some (.cells #[.int .i64 a0_0, .int .i64 a0_1, (.slice A0_2 l0_2.length c0_2)] 33 (0, 0))) ∧ Aside0 (Below w.heap.size w w'))
 case atStart => exact ⟨(0), sq, H', ⟨Nat.le_refl _⟩, ⟨zq BK122⟩, ⟨bq⟩⟩
 case round =>
  clear H'; obtain ⟨x9_1, rfl, HA, HK1, BK122, HB⟩ := hrel
  cases gk with
  | zero => exact absurd HA.out (by simp [spec_seActs.l0])
  | succ k1 =>
   have H := HA.out; clear HA; simp only [spec_seActs.l0] at H; by_cases c4 : x9_1 < (l1.length : Int)
   ·rw [if_pos c4] at H; have c4b0 : decide (x9_1 < (l1.length : Int)) = true := decide_eq_true c4; clear c4; by_cases c5 : 0 ≤ x9_1
    ·rw [if_pos c5] at H; have c5b0 : decide (0 ≤ x9_1) = true := decide_eq_true c5; clear c5; by_cases c6 : x9_1 < (l1.length : Int)
     ·rw [if_pos c6] at H; have c6b0 : decide (x9_1 < (l1.length : Int)) = true := decide_eq_true c6; clear c6; obtain ⟨t125, A7, H⟩ := bindq H; try dsimp only at H
      by_cases c8 : t125 = true
      ·subst c8; rw [if_pos rfl] at H; try dsimp only at H
       have H' := am H; clear H; have p123 : 0 ≤ (x9_1 : Int) := of_decide_eq_true aq; have q123 : x9_1 < (l1.length : Int) := of_decide_eq_true aq; obtain ⟨ad123, e123, hx123_0, hx123_1, hx123_2, hx123_3, hx123_4⟩ := at_T47 HR1.out x9_1 p123 q123
       cases e123
       replace hx123_0 := (HB.out.cell (World.block_lt_of_cell? w _ hx123_0)).trans hx123_0; replace hx123_1 := (HB.out.cell (World.block_lt_of_cell? w _ hx123_1)).trans hx123_1; replace hx123_2 := (HB.out.cell (World.block_lt_of_cell? w _ hx123_2)).trans hx123_2; replace hx123_3 := (HB.out.cell (World.block_lt_of_cell? w _ hx123_3)).trans hx123_3; replace hx123_4 := (HB.out.cell (World.block_lt_of_cell? w _ hx123_4)).trans hx123_4; replace p123 := eq_true p123; replace q123 := eq_true q123; go_wp2_with (first | ((with_reducible refine gate_dst (N := 6) rfl ?_); refine box_event ?hg (N := 6) ?hd (cs := #[.int .i64 0, .int .i64 0, .int .i64 0, .int .i64 0, .int .i64 0]) (t := 47) ?hr ?_; (case hd | hg => rfl); (case hr => go_simp; try rfl); intro gb124 hg w9 hbox hb; have BK124 := am (hbox); have GW124 := am (gq hg); have GE124 := am (gq hg); replace HB := sb hb; have ⟨NB122_124, NB124_122⟩ := nn hg BK122; replace BK122 := zb BK122 hb; clear hb hbox hg; have hnb10 := NB124_122.out; have hnc10 := NB122_124.out; have ⟨b110, b111, b112, b113, b114, d110, d111, d112, d113, d114⟩ := bc5 BK124; have ⟨b120, b121, b122, d120, d121, d122⟩ := bc3 BK122) | ((with_reducible refine gate_callee (f := 40) rfl ?_); refine goesL_ (some 15) rfl rfl Tryd.func40 (by kernel_rfl) rfl #[.agg #[.int .i64 a0_0, .int .i64 a0_1, .slice A0_2 l0_2.length c0_2], .agg #[.int .i64 ((rd_T47 l1 x9_1).f0), .int .i64 ((rd_T47 l1 x9_1).f1), .int .i64 ((rd_T47 l1 x9_1).f2), .int .i64 ((rd_T47 l1 x9_1).f3.f0), .int .i64 ((rd_T47 l1 x9_1).f3.f1)]] rfl mq ?_; (with_reducible refine (spec_seAct.calls k1 a0_0 a0_1 _ _ l0_2 ((rd_T47 l1 x9_1).f0) ((rd_T47 l1 x9_1).f1) ((rd_T47 l1 x9_1).f2) ((rd_T47 l1 x9_1).f3.f0) ((rd_T47 l1 x9_1).f3.f1) true _ ?s1 ?s2 A7.out).mono ?_); (case s1 => exact Kd.C_below HR0_2.out bq); (case s2 => exact HC0_2.out); rintro e w13 ⟨rfl, hb⟩; refine ⟨_, rfl, ?_⟩; replace BK122 := zw (.cells #[.int .i64 a0_0, .int .i64 a0_1, .slice A0_2 l0_2.length c0_2] 33 (0, 0)) BK122 hb; replace BK124 := zw (.cells #[.int .i64 ((rd_T47 l1 x9_1).f0), .int .i64 ((rd_T47 l1 x9_1).f1), .int .i64 ((rd_T47 l1 x9_1).f2), .int .i64 ((rd_T47 l1 x9_1).f3.f0), .int .i64 ((rd_T47 l1 x9_1).f3.f1)] 47 (0, 0)) BK124 hb; replace HB := sb hb; (try clear hb)))
       go_roundg k1
       case measure => have := HK1.out; omega
       case rel => exact ⟨(wrap64 (x9_1 + 1)), sq, H', ⟨by have := HK1.out; omega⟩, ⟨zq BK122⟩, ⟨bq⟩⟩
      replace c8 := Bool.eq_false_iff.mpr c8; subst c8; rw [if_neg (show ¬ (false = true) by decide)] at H; try dsimp only at H
      obtain rfl := Option.some.inj H; have p123 : 0 ≤ (x9_1 : Int) := of_decide_eq_true aq; have q123 : x9_1 < (l1.length : Int) := of_decide_eq_true aq; obtain ⟨ad123, e123, hx123_0, hx123_1, hx123_2, hx123_3, hx123_4⟩ := at_T47 HR1.out x9_1 p123 q123
      cases e123
      replace hx123_0 := (HB.out.cell (World.block_lt_of_cell? w _ hx123_0)).trans hx123_0; replace hx123_1 := (HB.out.cell (World.block_lt_of_cell? w _ hx123_1)).trans hx123_1; replace hx123_2 := (HB.out.cell (World.block_lt_of_cell? w _ hx123_2)).trans hx123_2; replace hx123_3 := (HB.out.cell (World.block_lt_of_cell? w _ hx123_3)).trans hx123_3; replace hx123_4 := (HB.out.cell (World.block_lt_of_cell? w _ hx123_4)).trans hx123_4; replace p123 := eq_true p123; replace q123 := eq_true q123; go_wp2_with (first | ((with_reducible refine gate_dst (N := 6) rfl ?_); refine box_event ?hg (N := 6) ?hd (cs := #[.int .i64 0, .int .i64 0, .int .i64 0, .int .i64 0, .int .i64 0]) (t := 47) ?hr ?_; (case hd | hg => rfl); (case hr => go_simp; try rfl); intro gb124 hg w14 hbox hb; have BK124 := am (hbox); have GW124 := am (gq hg); have GE124 := am (gq hg); replace HB := sb hb; have ⟨NB122_124, NB124_122⟩ := nn hg BK122; replace BK122 := zb BK122 hb; clear hb hbox hg; have hnb15 := NB124_122.out; have hnc15 := NB122_124.out; have ⟨b160, b161, b162, b163, b164, d160, d161, d162, d163, d164⟩ := bc5 BK124; have ⟨b170, b171, b172, d170, d171, d172⟩ := bc3 BK122) | ((with_reducible refine gate_callee (f := 40) rfl ?_); refine goesL_ (some 15) rfl rfl Tryd.func40 (by kernel_rfl) rfl #[.agg #[.int .i64 a0_0, .int .i64 a0_1, .slice A0_2 l0_2.length c0_2], .agg #[.int .i64 ((rd_T47 l1 x9_1).f0), .int .i64 ((rd_T47 l1 x9_1).f1), .int .i64 ((rd_T47 l1 x9_1).f2), .int .i64 ((rd_T47 l1 x9_1).f3.f0), .int .i64 ((rd_T47 l1 x9_1).f3.f1)]] rfl mq ?_; (with_reducible refine (spec_seAct.calls k1 a0_0 a0_1 _ _ l0_2 ((rd_T47 l1 x9_1).f0) ((rd_T47 l1 x9_1).f1) ((rd_T47 l1 x9_1).f2) ((rd_T47 l1 x9_1).f3.f0) ((rd_T47 l1 x9_1).f3.f1) false _ ?s1 ?s2 A7.out).mono ?_); (case s1 => exact Kd.C_below HR0_2.out bq); (case s2 => exact HC0_2.out); rintro e w18 ⟨rfl, hb⟩; refine ⟨_, rfl, ?_⟩; replace BK122 := zw (.cells #[.int .i64 a0_0, .int .i64 a0_1, .slice A0_2 l0_2.length c0_2] 33 (0, 0)) BK122 hb; replace BK124 := zw (.cells #[.int .i64 ((rd_T47 l1 x9_1).f0), .int .i64 ((rd_T47 l1 x9_1).f1), .int .i64 ((rd_T47 l1 x9_1).f2), .int .i64 ((rd_T47 l1 x9_1).f3.f0), .int .i64 ((rd_T47 l1 x9_1).f3.f1)] 47 (0, 0)) BK124 hb; replace HB := sb hb; (try clear hb)))
      go_ret
      exact ⟨eq_, bq⟩
     rw [if_neg c6] at H; exact absurd H (by simp)
    rw [if_neg c5] at H; exact absurd H (by simp)
   rw [if_neg c4] at H; have c4b0 : decide (x9_1 < (l1.length : Int)) = false := decide_eq_false c4; clear c4; obtain rfl := Option.some.inj H
   go_wp2
   go_ret
   exact ⟨eq_, bq⟩


def spec_seGood.f (k : Nat) (a0_0 : Int) (a0_1 : Int) (l0_2 : List (S45)) (l0_3 : List (S47)) (l0_4 : List (S47)) : Option (Bool) := (spec_boGood.f k a0_0 a0_1 l0_2).bind fun t127 => (if t127 = true then ((spec_seActs.f k a0_0 a0_1 l0_2 l0_3).bind fun t128 => (if t128 = true then ((spec_seActs.f k a0_0 a0_1 l0_2 l0_4).bind fun t129 => (if t129 = true then (some (decide ((wrap64 ((l0_3.length : Int) + (l0_4.length : Int))) ≤ 40))) else (some false))) else (some false))) else (some false))
theorem spec_seGood.calls (k : Nat) (a0_0 : Int) (a0_1 : Int) (A0_2 : Option Addr) (c0_2 : Nat) (l0_2 : List (S45)) (A0_3 : Option Addr) (c0_3 : Nat) (l0_3 : List (S47)) (A0_4 : Option Addr) (c0_4 : Nat) (l0_4 : List (S47)) (r : Bool) (w : World) (hr0_2 : Kd.C k45 w A0_2 l0_2.length l0_2) (hc0_2 : l0_2.length ≤ c0_2) (hr0_3 : Kd.C k47 w A0_3 l0_3.length l0_3) (hc0_3 : l0_3.length ≤ c0_3) (hr0_4 : Kd.C k47 w A0_4 l0_4.length l0_4) (hc0_4 : l0_4.length ≤ c0_4) (h : spec_seGood.f k a0_0 a0_1 l0_2 l0_3 l0_4 = some r) :
  Calls Tryd.prog 11 #[.agg #[.int .i64 a0_0, .int .i64 a0_1, .slice A0_2 l0_2.length c0_2, .slice A0_3 l0_3.length c0_3, .slice A0_4 l0_4.length c0_4]] w fun e w' => e = .returned (.bool r) ∧ Below w.heap.size w w' := by
 have hu36 := Tryd.underlying36; have hu33 := Tryd.underlying33; have HR0_2 := am hr0_2; have HC0_2 := am hc0_2; clear hr0_2 hc0_2; have HR0_3 := am hr0_3; have HC0_3 := am hc0_3; clear hr0_3 hc0_3; have HR0_4 := am hr0_4; have HC0_4 := am hc0_4; clear hr0_4 hc0_4; have HB := am (Below.refl w.heap.size w); have H := h; clear h
 unfold spec_seGood.f at H
 obtain ⟨t127, A2, H⟩ := bindq H; try dsimp only at H
 by_cases c3 : t127 = true
 ·subst c3; rw [if_pos rfl] at H; try dsimp only at H
  obtain ⟨t128, A4, H⟩ := bindq H; try dsimp only at H
  by_cases c5 : t128 = true
  ·subst c5; rw [if_pos rfl] at H; try dsimp only at H
   obtain ⟨t129, A6, H⟩ := bindq H; try dsimp only at H
   by_cases c7 : t129 = true
   ·subst c7; rw [if_pos rfl] at H; try dsimp only at H
    obtain rfl := Option.some.inj H
    go_enter Tryd.func11, Tryd.ntmps11
    go_wp2_with (first | ((with_reducible refine gate_dst (N := 1) rfl ?_); (try (refine gate_guard (by rfl) ?_; dsimp only)); refine box_event ?hg (N := 1) ?hd (cs := #[.int .i64 a0_0, .int .i64 a0_1, .slice A0_2 l0_2.length c0_2, .slice A0_3 l0_3.length c0_3, .slice A0_4 l0_4.length c0_4]) (t := 36) ?hr ?_; (case hd | hg => rfl); (case hr => go_simp; try rfl); intro gb126 hg w8 hbox hb; have BK126 := am (hbox); have GW126 := am (gq hg); have GE126 := am (gq hg); replace HB := sb hb; clear hb hbox hg; have ⟨b90, b91, b92, b93, b94, d90, d91, d92, d93, d94⟩ := bc5 BK126) | ((with_reducible refine gate_callee (f := 24) rfl ?_); refine goesL_ (some 5) rfl rfl Tryd.func24 (by kernel_rfl) rfl #[.agg #[.int .i64 a0_0, .int .i64 a0_1, .slice A0_2 l0_2.length c0_2]] rfl mq ?_; (with_reducible refine (spec_boGood.calls k a0_0 a0_1 _ _ l0_2 true _ ?s1 ?s2 A2.out).mono ?_); (case s1 => exact cq (Kd.C_below HR0_2.out HB.out)); (case s2 => exact HC0_2.out); rintro e w10 ⟨rfl, hb⟩; refine ⟨_, rfl, ?_⟩; replace BK126 := zb BK126 hb; replace HB := sb hb; (try clear hb); have ⟨b110, b111, b112, b113, b114, d110, d111, d112, d113, d114⟩ := bc5 BK126) | (go_at_call 25; (with_reducible refine (spec_seActs.calls k a0_0 a0_1 _ _ l0_2 _ _ l0_3 true _ ?s1 ?s2 ?s3 ?s4 A4.out).mono ?_); (case s1 => exact cq (Kd.C_below HR0_2.out HB.out)); (case s2 => exact HC0_2.out); (case s3 => exact cq (Kd.C_below HR0_3.out HB.out)); (case s4 => exact HC0_3.out); rintro e w12 ⟨rfl, hb⟩; replace BK126 := zb BK126 hb; replace HB := sb hb; (try clear hb); have ⟨b130, b131, b132, b133, b134, d130, d131, d132, d133, d134⟩ := bc5 BK126) | (go_at_call 25; (with_reducible refine (spec_seActs.calls k a0_0 a0_1 _ _ l0_2 _ _ l0_4 true _ ?s1 ?s2 ?s3 ?s4 A6.out).mono ?_); (case s1 => exact cq (Kd.C_below HR0_2.out HB.out)); (case s2 => exact HC0_2.out); (case s3 => exact cq (Kd.C_below HR0_4.out HB.out)); (case s4 => exact HC0_4.out); rintro e w14 ⟨rfl, hb⟩; replace BK126 := zb BK126 hb; replace HB := sb hb; (try clear hb); have ⟨b150, b151, b152, b153, b154, d150, d151, d152, d153, d154⟩ := bc5 BK126))
    go_ret
    exact ⟨eq_, bq⟩
   replace c7 := Bool.eq_false_iff.mpr c7; subst c7; rw [if_neg (show ¬ (false = true) by decide)] at H; try dsimp only at H
   obtain rfl := Option.some.inj H
   go_enter Tryd.func11, Tryd.ntmps11
   go_wp2_with (first | ((with_reducible refine gate_dst (N := 1) rfl ?_); (try (refine gate_guard (by rfl) ?_; dsimp only)); refine box_event ?hg (N := 1) ?hd (cs := #[.int .i64 a0_0, .int .i64 a0_1, .slice A0_2 l0_2.length c0_2, .slice A0_3 l0_3.length c0_3, .slice A0_4 l0_4.length c0_4]) (t := 36) ?hr ?_; (case hd | hg => rfl); (case hr => go_simp; try rfl); intro gb126 hg w16 hbox hb; have BK126 := am (hbox); have GW126 := am (gq hg); have GE126 := am (gq hg); replace HB := sb hb; clear hb hbox hg; have ⟨b170, b171, b172, b173, b174, d170, d171, d172, d173, d174⟩ := bc5 BK126) | ((with_reducible refine gate_callee (f := 24) rfl ?_); refine goesL_ (some 5) rfl rfl Tryd.func24 (by kernel_rfl) rfl #[.agg #[.int .i64 a0_0, .int .i64 a0_1, .slice A0_2 l0_2.length c0_2]] rfl mq ?_; (with_reducible refine (spec_boGood.calls k a0_0 a0_1 _ _ l0_2 true _ ?s1 ?s2 A2.out).mono ?_); (case s1 => exact cq (Kd.C_below HR0_2.out HB.out)); (case s2 => exact HC0_2.out); rintro e w18 ⟨rfl, hb⟩; refine ⟨_, rfl, ?_⟩; replace BK126 := zb BK126 hb; replace HB := sb hb; (try clear hb); have ⟨b190, b191, b192, b193, b194, d190, d191, d192, d193, d194⟩ := bc5 BK126) | (go_at_call 25; (with_reducible refine (spec_seActs.calls k a0_0 a0_1 _ _ l0_2 _ _ l0_3 true _ ?s1 ?s2 ?s3 ?s4 A4.out).mono ?_); (case s1 => exact cq (Kd.C_below HR0_2.out HB.out)); (case s2 => exact HC0_2.out); (case s3 => exact cq (Kd.C_below HR0_3.out HB.out)); (case s4 => exact HC0_3.out); rintro e w20 ⟨rfl, hb⟩; replace BK126 := zb BK126 hb; replace HB := sb hb; (try clear hb); have ⟨b210, b211, b212, b213, b214, d210, d211, d212, d213, d214⟩ := bc5 BK126) | (go_at_call 25; (with_reducible refine (spec_seActs.calls k a0_0 a0_1 _ _ l0_2 _ _ l0_4 false _ ?s1 ?s2 ?s3 ?s4 A6.out).mono ?_); (case s1 => exact cq (Kd.C_below HR0_2.out HB.out)); (case s2 => exact HC0_2.out); (case s3 => exact cq (Kd.C_below HR0_4.out HB.out)); (case s4 => exact HC0_4.out); rintro e w22 ⟨rfl, hb⟩; replace BK126 := zb BK126 hb; replace HB := sb hb; (try clear hb)))
   go_ret
   exact ⟨eq_, bq⟩
  replace c5 := Bool.eq_false_iff.mpr c5; subst c5; rw [if_neg (show ¬ (false = true) by decide)] at H; try dsimp only at H
  obtain rfl := Option.some.inj H
  go_enter Tryd.func11, Tryd.ntmps11
  go_wp2_with (first | ((with_reducible refine gate_dst (N := 1) rfl ?_); (try (refine gate_guard (by rfl) ?_; dsimp only)); refine box_event ?hg (N := 1) ?hd (cs := #[.int .i64 a0_0, .int .i64 a0_1, .slice A0_2 l0_2.length c0_2, .slice A0_3 l0_3.length c0_3, .slice A0_4 l0_4.length c0_4]) (t := 36) ?hr ?_; (case hd | hg => rfl); (case hr => go_simp; try rfl); intro gb126 hg w23 hbox hb; have BK126 := am (hbox); have GW126 := am (gq hg); have GE126 := am (gq hg); replace HB := sb hb; clear hb hbox hg; have ⟨b240, b241, b242, b243, b244, d240, d241, d242, d243, d244⟩ := bc5 BK126) | ((with_reducible refine gate_callee (f := 24) rfl ?_); refine goesL_ (some 5) rfl rfl Tryd.func24 (by kernel_rfl) rfl #[.agg #[.int .i64 a0_0, .int .i64 a0_1, .slice A0_2 l0_2.length c0_2]] rfl mq ?_; (with_reducible refine (spec_boGood.calls k a0_0 a0_1 _ _ l0_2 true _ ?s1 ?s2 A2.out).mono ?_); (case s1 => exact cq (Kd.C_below HR0_2.out HB.out)); (case s2 => exact HC0_2.out); rintro e w25 ⟨rfl, hb⟩; refine ⟨_, rfl, ?_⟩; replace BK126 := zb BK126 hb; replace HB := sb hb; (try clear hb); have ⟨b260, b261, b262, b263, b264, d260, d261, d262, d263, d264⟩ := bc5 BK126) | (go_at_call 25; (with_reducible refine (spec_seActs.calls k a0_0 a0_1 _ _ l0_2 _ _ l0_3 false _ ?s1 ?s2 ?s3 ?s4 A4.out).mono ?_); (case s1 => exact cq (Kd.C_below HR0_2.out HB.out)); (case s2 => exact HC0_2.out); (case s3 => exact cq (Kd.C_below HR0_3.out HB.out)); (case s4 => exact HC0_3.out); rintro e w27 ⟨rfl, hb⟩; replace BK126 := zb BK126 hb; replace HB := sb hb; (try clear hb)))
  go_ret
  exact ⟨eq_, bq⟩
 replace c3 := Bool.eq_false_iff.mpr c3; subst c3; rw [if_neg (show ¬ (false = true) by decide)] at H; try dsimp only at H
 obtain rfl := Option.some.inj H
 go_enter Tryd.func11, Tryd.ntmps11
 go_wp2_with (first | ((with_reducible refine gate_dst (N := 1) rfl ?_); (try (refine gate_guard (by rfl) ?_; dsimp only)); refine box_event ?hg (N := 1) ?hd (cs := #[.int .i64 a0_0, .int .i64 a0_1, .slice A0_2 l0_2.length c0_2, .slice A0_3 l0_3.length c0_3, .slice A0_4 l0_4.length c0_4]) (t := 36) ?hr ?_; (case hd | hg => rfl); (case hr => go_simp; try rfl); intro gb126 hg w28 hbox hb; have BK126 := am (hbox); have GW126 := am (gq hg); have GE126 := am (gq hg); replace HB := sb hb; clear hb hbox hg; have ⟨b290, b291, b292, b293, b294, d290, d291, d292, d293, d294⟩ := bc5 BK126) | ((with_reducible refine gate_callee (f := 24) rfl ?_); refine goesL_ (some 5) rfl rfl Tryd.func24 (by kernel_rfl) rfl #[.agg #[.int .i64 a0_0, .int .i64 a0_1, .slice A0_2 l0_2.length c0_2]] rfl mq ?_; (with_reducible refine (spec_boGood.calls k a0_0 a0_1 _ _ l0_2 false _ ?s1 ?s2 A2.out).mono ?_); (case s1 => exact cq (Kd.C_below HR0_2.out HB.out)); (case s2 => exact HC0_2.out); rintro e w30 ⟨rfl, hb⟩; refine ⟨_, rfl, ?_⟩; replace BK126 := zb BK126 hb; replace HB := sb hb; (try clear hb)))
 go_ret
 exact ⟨eq_, bq⟩


def spec_paLetter.f (a0_0 : Int) (a0_1 : Int) : Option (ByteArray) := if a0_1 = 1 then (if 0 ≤ a0_0 then (if a0_0 ≤ (wrap64 (a0_0 + 1)) then (if (wrap64 (a0_0 + 1)) ≤ 8 then (some ((⟨#[46, 46, 46, 70, 46, 46, 71, 46]⟩ : ByteArray).extract (a0_0 : Int).toNat ((wrap64 (a0_0 + 1)) : Int).toNat)) else (none)) else (none)) else (none)) else (if 0 ≤ a0_0 then (if a0_0 ≤ (wrap64 (a0_0 + 1)) then (if (wrap64 (a0_0 + 1)) ≤ 8 then (some ((⟨#[46, 108, 114, 102, 120, 111, 103, 99]⟩ : ByteArray).extract (a0_0 : Int).toNat ((wrap64 (a0_0 + 1)) : Int).toNat)) else (none)) else (none)) else (none))
theorem spec_paLetter.calls (a0_0 : Int) (a0_1 : Int) (r : ByteArray) (w : World) (h : spec_paLetter.f a0_0 a0_1 = some r) :
  Calls Tryd.prog 14 #[.agg #[.int .i64 a0_0, .int .i64 a0_1]] w fun e w' => e = .returned (.string r) ∧ Below w.heap.size w w' := by
 have hu45 := Tryd.underlying45; have HB := am (Below.refl w.heap.size w); have H := h; clear h
 unfold spec_paLetter.f at H
 by_cases c2 : a0_1 = 1
 ·rw [if_pos c2] at H; have c2b0 : (a0_1 == 1) = true := beq_iff_eq.mpr c2; have c2b1 : (a0_1 != 1) = false := bne_eq_false_iff_eq.mpr c2; clear c2; by_cases c3 : 0 ≤ a0_0
  ·rw [if_pos c3] at H; have c3b0 := eq_true c3; have c3b1 : decide (0 ≤ a0_0) = true := decide_eq_true c3; clear c3; by_cases c4 : a0_0 ≤ (wrap64 (a0_0 + 1))
   ·rw [if_pos c4] at H; have c4b0 := eq_true c4; have c4b1 : decide (a0_0 ≤ (wrap64 (a0_0 + 1))) = true := decide_eq_true c4; by_cases c5 : (wrap64 (a0_0 + 1)) ≤ 8
    ·rw [if_pos c5] at H; have c5b0 := eq_true c5; have c5b1 : decide ((wrap64 (a0_0 + 1)) ≤ 8) = true := decide_eq_true c5; obtain rfl := Option.some.inj H
     go_enter Tryd.func14, Tryd.ntmps14
     go_wp2_with (first | ((with_reducible refine gate_dst (N := 1) rfl ?_); refine box_event ?hg (N := 1) ?hd (cs := #[.int .i64 a0_0, .int .i64 a0_1]) (t := 45) ?hr ?_; (case hd | hg => rfl); (case hr => go_simp; try rfl); intro gb130 hg w6 hbox hb; have BK130 := am (hbox); have GW130 := am (gq hg); have GE130 := am (gq hg); replace HB := sb hb; clear hb hbox hg; have ⟨b70, b71, d70, d71⟩ := bc2 BK130))
     go_ret
     exact ⟨eq_, bq⟩
    rw [if_neg c5] at H; exact absurd H (by simp)
   rw [if_neg c4] at H; exact absurd H (by simp)
  rw [if_neg c3] at H; exact absurd H (by simp)
 rw [if_neg c2] at H; have c2b0 : (a0_1 == 1) = false := beq_eq_false_iff_ne.mpr c2; have c2b1 : (a0_1 != 1) = true := bne_iff_ne.mpr c2; by_cases c8 : 0 ≤ a0_0
 ·rw [if_pos c8] at H; have c8b0 := eq_true c8; have c8b1 : decide (0 ≤ a0_0) = true := decide_eq_true c8; clear c8; by_cases c9 : a0_0 ≤ (wrap64 (a0_0 + 1))
  ·rw [if_pos c9] at H; have c9b0 := eq_true c9; have c9b1 : decide (a0_0 ≤ (wrap64 (a0_0 + 1))) = true := decide_eq_true c9; by_cases c10 : (wrap64 (a0_0 + 1)) ≤ 8
   ·rw [if_pos c10] at H; have c10b0 := eq_true c10; have c10b1 : decide ((wrap64 (a0_0 + 1)) ≤ 8) = true := decide_eq_true c10; obtain rfl := Option.some.inj H
    go_enter Tryd.func14, Tryd.ntmps14
    go_wp2_with (first | ((with_reducible refine gate_dst (N := 1) rfl ?_); refine box_event ?hg (N := 1) ?hd (cs := #[.int .i64 a0_0, .int .i64 a0_1]) (t := 45) ?hr ?_; (case hd | hg => rfl); (case hr => go_simp; try rfl); intro gb130 hg w11 hbox hb; have BK130 := am (hbox); have GW130 := am (gq hg); have GE130 := am (gq hg); replace HB := sb hb; clear hb hbox hg; have ⟨b120, b121, d120, d121⟩ := bc2 BK130))
    go_ret
    exact ⟨eq_, bq⟩
   rw [if_neg c10] at H; exact absurd H (by simp)
  rw [if_neg c9] at H; exact absurd H (by simp)
 rw [if_neg c8] at H; exact absurd H (by simp)


def spec_paText.l0 : Nat → ByteArray → List (S45) → Int → Int → Option (ByteArray)
 | 0, _, _, _, _ => none
 | k + 1, x3, x6, x7, x8 => if x8 < x7 then (if 0 ≤ x8 then (if x8 < (x6.length : Int) then ((spec_paLetter.f ((rd_T45 x6 x8).f0) ((rd_T45 x6 x8).f1)).bind fun t133 => (if x3.size + t133.size ≤ 9223372036854775807 then (spec_paText.l0 k (x3 ++ t133) x6 x7 (wrap64 (x8 + 1))) else (none))) else (none)) else (none)) else (some x3)
def spec_paText.f (k : Nat) (l0 : List (S45)) : Option (ByteArray) := spec_paText.l0 k (⟨#[]⟩ : ByteArray) l0 (l0.length : Int) 0
theorem spec_paText.calls (k : Nat) (A0 : Option Addr) (c0 : Nat) (l0 : List (S45)) (r : ByteArray) (w : World) (hr0 : Kd.C k45 w A0 l0.length l0) (hc0 : l0.length ≤ c0) (h : spec_paText.f k l0 = some r) :
  Calls Tryd.prog 26 #[.slice A0 l0.length c0] w fun e w' => e = .returned (.string r) ∧ Below w.heap.size w w' := by
 have hu45 := Tryd.underlying45; have HR0 := am hr0; have HC0 := am hc0; clear hr0 hc0; have HB := am (Below.refl w.heap.size w); have H := h; clear h
 unfold spec_paText.f at H
 have H' := am H; clear H
 go_enter Tryd.func26, Tryd.ntmps26
 go_wp2
 go_loopg [3, 8] k (fun kq v3 v8 w' => ∃ (x3_1 : ByteArray) (x8_1 : Int), v3 = .string x3_1 ∧ v8 = .int .i64 x8_1 ∧ Aside0 (spec_paText.l0 kq x3_1 l0 (l0.length : Int) x8_1 = some r) ∧ Aside0 (kq ≤ k) ∧ Aside0 (Below w.heap.size w w'))
 case atStart => exact ⟨((⟨#[]⟩ : ByteArray)), (0), sq, sq, H', ⟨Nat.le_refl _⟩, ⟨bq⟩⟩
 case round =>
  clear H'; obtain ⟨x3_1, x8_1, rfl, rfl, HA, HK1, HB⟩ := hrel
  cases gk with
  | zero => exact absurd HA.out (by simp [spec_paText.l0])
  | succ k1 =>
   have H := HA.out; clear HA; simp only [spec_paText.l0] at H; by_cases c2 : x8_1 < (l0.length : Int)
   ·rw [if_pos c2] at H; have c2b0 : decide (x8_1 < (l0.length : Int)) = true := decide_eq_true c2; clear c2; by_cases c3 : 0 ≤ x8_1
    ·rw [if_pos c3] at H; have c3b0 : decide (0 ≤ x8_1) = true := decide_eq_true c3; clear c3; by_cases c4 : x8_1 < (l0.length : Int)
     ·rw [if_pos c4] at H; have c4b0 : decide (x8_1 < (l0.length : Int)) = true := decide_eq_true c4; clear c4; obtain ⟨t133, A5, H⟩ := bindq H; try dsimp only at H
      by_cases c6 : x3_1.size + t133.size ≤ 9223372036854775807
      ·rw [if_pos c6] at H; have c6b0 := eq_true c6; have c6b1 : decide (x3_1.size + t133.size ≤ 9223372036854775807) = true := decide_eq_true c6; try have c6b2 : (9223372036854775807 < x3_1.size + t133.size) = False := eq_false (Nat.not_lt.2 c6)
       have H' := am H; clear H; have p131 : 0 ≤ (x8_1 : Int) := of_decide_eq_true aq; have q131 : x8_1 < (l0.length : Int) := of_decide_eq_true aq; obtain ⟨ad131, e131, hx131_0, hx131_1⟩ := at_T45 HR0.out x8_1 p131 q131
       cases e131
       replace hx131_0 := (HB.out.cell (World.block_lt_of_cell? w _ hx131_0)).trans hx131_0; replace hx131_1 := (HB.out.cell (World.block_lt_of_cell? w _ hx131_1)).trans hx131_1; replace p131 := eq_true p131; replace q131 := eq_true q131; go_wp2_with (first | ((with_reducible refine gate_dst (N := 5) rfl ?_); refine box_event ?hg (N := 5) ?hd (cs := #[.int .i64 0, .int .i64 0]) (t := 45) ?hr ?_; (case hd | hg => rfl); (case hr => go_simp; try rfl); intro gb132 hg w7 hbox hb; have BK132 := am (hbox); have GW132 := am (gq hg); have GE132 := am (gq hg); replace HB := sb hb; clear hb hbox hg; have ⟨b80, b81, d80, d81⟩ := bc2 BK132) | ((with_reducible refine gate_callee (f := 14) rfl ?_); refine goesL_ (some 14) rfl rfl Tryd.func14 (by kernel_rfl) rfl #[.agg #[.int .i64 ((rd_T45 l0 x8_1).f0), .int .i64 ((rd_T45 l0 x8_1).f1)]] rfl mq ?_; (with_reducible refine (spec_paLetter.calls ((rd_T45 l0 x8_1).f0) ((rd_T45 l0 x8_1).f1) t133 _ A5.out).mono ?_); rintro e w9 ⟨rfl, hb⟩; refine ⟨_, rfl, ?_⟩; replace BK132 := zw (.cells #[.int .i64 ((rd_T45 l0 x8_1).f0), .int .i64 ((rd_T45 l0 x8_1).f1)] 45 (0, 0)) BK132 hb; replace HB := sb hb; (try clear hb)))
       go_roundg k1
       case measure => have := HK1.out; omega
       case rel => exact ⟨(x3_1 ++ t133), (wrap64 (x8_1 + 1)), sq, sq, H', ⟨by have := HK1.out; omega⟩, ⟨bq⟩⟩
      rw [if_neg c6] at H; exact absurd H (by simp)
     rw [if_neg c4] at H; exact absurd H (by simp)
    rw [if_neg c3] at H; exact absurd H (by simp)
   rw [if_neg c2] at H; have c2b0 : decide (x8_1 < (l0.length : Int)) = false := decide_eq_false c2; clear c2; obtain rfl := Option.some.inj H
   go_wp2
   go_ret
   exact ⟨eq_, bq⟩


theorem spec_boRow.calls (a0_0 : Int) (a0_1 : Int) (A0_2 : Option Addr) (c0_2 : Nat) (l0_2 : List (S45)) (row : Int) (y : List (S45)) (w : World) (hr0_2 : Kd.C k45 w A0_2 l0_2.length l0_2) (hc0_2 : l0_2.length ≤ c0_2)
    (h0 : 0 ≤ wrap64 (row * a0_1)) (h1 : wrap64 (row * a0_1) ≤ wrap64 ((wrap64 (row + 1)) * a0_1)) (h2 : wrap64 ((wrap64 (row + 1)) * a0_1) ≤ (l0_2.length : Int)) (hy : y = ((l0_2.take ((wrap64 ((wrap64 (row + 1)) * a0_1)) : Int).toNat).drop ((wrap64 (row * a0_1)) : Int).toNat)) :
  Calls Tryd.prog 27 #[.agg #[.int .i64 a0_0, .int .i64 a0_1, .slice A0_2 l0_2.length c0_2], .int .i64 row] w fun e w' => ∃ A1 c1, e = .returned (.slice A1 y.length c1) ∧ y.length ≤ c1 ∧ Kd.C k45 w' A1 y.length y ∧ Below w.heap.size w w' := by
 have hu33 := Tryd.underlying33; obtain ⟨i016, hi016, _, hsz16, _⟩ := info_parts info45; have hcut16 := cut_mid (P := Tryd.prog) 31 45 .i64 .i64 Tryd.underlying31 hi016 2 hsz16 A0_2 l0_2.length c0_2 (wrap64 (row * a0_1)) (wrap64 ((wrap64 (row + 1)) * a0_1)) h0 h1 h2 hc0_2; have hr16 := Kd.C_mid (lo := ((wrap64 (row * a0_1)) : Int).toNat) (hi := ((wrap64 ((wrap64 (row + 1)) * a0_1)) : Int).toNat) (c := c0_2) hr0_2 (by omega) (by omega) hc0_2; obtain ⟨A16, hA16⟩ : ∃ A1, A1 = (if c0_2 = ((wrap64 (row * a0_1)) : Int).toNat then A0_2 else (A0_2 : Option Addr).map (·.add (((wrap64 (row * a0_1)) : Int).toNat * 2))) := ⟨_, rfl⟩; obtain ⟨c16, hc16⟩ : ∃ c1, c1 = c0_2 - ((wrap64 (row * a0_1)) : Int).toNat := ⟨_, rfl⟩; have hy16 : y.length = ((wrap64 ((wrap64 (row + 1)) * a0_1)) : Int).toNat - ((wrap64 (row * a0_1)) : Int).toNat := (by rw [hy, List.length_drop, List.length_take] <;> omega); rw [← hy] at hr16; replace hr16 : Kd.C k45 w A16 y.length y := (by rw [hA16]; exact hr16); rw [← hy16, ← hA16, ← hc16] at hcut16; have HR240 := am hr16; have HC240 := am (show y.length ≤ c16 from by rw [hy16, hc16]; exact Nat.sub_le_sub_right (Nat.le_trans (by omega) hc0_2) _); clear hr16 hr0_2 hi016 hsz16 hc16 hy16 hA16 hy h0 h1 h2; have HB := am (Below.refl w.heap.size w)
 go_enter Tryd.func27, Tryd.ntmps27
 go_wp2_with (first | ((with_reducible refine gate_dst (N := 2) rfl ?_); refine box_event ?hg (N := 2) ?hd (cs := #[.int .i64 a0_0, .int .i64 a0_1, .slice A0_2 l0_2.length c0_2]) (t := 33) ?hr ?_; (case hd | hg => rfl); (case hr => go_simp; try rfl); intro gb235 hg w4 hbox hb; have BK235 := am (hbox); have GW235 := am (gq hg); have GE235 := am (gq hg); replace HB := sb hb; clear hb hbox hg; have ⟨b50, b51, b52, d50, d51, d52⟩ := bc3 BK235))
 go_ret
 exact ⟨_, _, eq_, HC240.out, Kd.C_below HR240.out bq, bq⟩

def spec_boText.l0 : Nat → ByteArray → Int → Int → Int → List (S45) → Option (ByteArray)
 | 0, _, _, _, _, _ => none
 | k + 1, x3, x4, x0, x1, x2 => if x4 < x0 then (if 0 ≤ (wrap64 (x4 * x1)) then (if (wrap64 (x4 * x1)) ≤ (wrap64 ((wrap64 (x4 + 1)) * x1)) then (if (wrap64 ((wrap64 (x4 + 1)) * x1)) ≤ (x2.length : Int) then ((spec_paText.f k ((x2.take ((wrap64 ((wrap64 (x4 + 1)) * x1)) : Int).toNat).drop ((wrap64 (x4 * x1)) : Int).toNat)).bind fun t241 => (if t241.size + 1 ≤ 9223372036854775807 then (if x3.size + (t241 ++ (⟨#[10]⟩ : ByteArray)).size ≤ 9223372036854775807 then (spec_boText.l0 k (x3 ++ (t241 ++ (⟨#[10]⟩ : ByteArray))) (wrap64 (x4 + 1)) x0 x1 x2) else (none)) else (none))) else (none)) else (none)) else (none)) else (some x3)
def spec_boText.f (k : Nat) (a0_0 : Int) (a0_1 : Int) (l0_2 : List (S45)) : Option (ByteArray) := spec_boText.l0 k (⟨#[]⟩ : ByteArray) 0 a0_0 a0_1 l0_2
theorem spec_boText.calls (k : Nat) (a0_0 : Int) (a0_1 : Int) (A0_2 : Option Addr) (c0_2 : Nat) (l0_2 : List (S45)) (r : ByteArray) (w : World) (hr0_2 : Kd.C k45 w A0_2 l0_2.length l0_2) (hc0_2 : l0_2.length ≤ c0_2) (h : spec_boText.f k a0_0 a0_1 l0_2 = some r) :
  Calls Tryd.prog 12 #[.agg #[.int .i64 a0_0, .int .i64 a0_1, .slice A0_2 l0_2.length c0_2]] w fun e w' => e = .returned (.string r) ∧ Below w.heap.size w w' := by
 have hu33 := Tryd.underlying33; have HR0_2 := am hr0_2; have HC0_2 := am hc0_2; clear hr0_2 hc0_2; have HB := am (Below.refl w.heap.size w); have H' := am (show spec_boText.l0 k (⟨#[]⟩ : ByteArray) 0 a0_0 a0_1 l0_2 = some r from h); clear h
 go_enter Tryd.func12, Tryd.ntmps12
 go_wp2_with (first | ((with_reducible refine gate_dst (N := 1) rfl ?_); refine box_event ?hg (N := 1) ?hd (cs := #[.int .i64 a0_0, .int .i64 a0_1, .slice A0_2 l0_2.length c0_2]) (t := 33) ?hr ?_; (case hd | hg => rfl); (case hr => go_simp; try rfl); intro gb235 hg w4 hbox hb; have BK235 := am (hbox); have GW235 := am (gq hg); have GE235 := am (gq hg); replace HB := sb hb; clear hb hbox hg; have ⟨b50, b51, b52, d50, d51, d52⟩ := bc3 BK235))
 go_loopg [3, 4] k (fun kq v3 v4 w' => ∃ (x3_1 : ByteArray) (x4_1 : Int), v3 = .string x3_1 ∧ v4 = .int .i64 x4_1 ∧ Aside0 (spec_boText.l0 kq x3_1 x4_1 a0_0 a0_1 l0_2 = some r) ∧ Aside0 (kq ≤ k) ∧ Aside0 (w'.heap[gb235]? = some (.cells #[.int .i64 a0_0, .int .i64 a0_1, (.slice A0_2 l0_2.length c0_2)] 33 (0, 0))) ∧ Aside0 (Below w.heap.size w w'))
 case atStart => exact ⟨((⟨#[]⟩ : ByteArray)), (0), sq, sq, H', ⟨Nat.le_refl _⟩, ⟨zq BK235⟩, ⟨bq⟩⟩
 case round =>
  clear H'; try clear b50 b51 b52 d50 d51 d52
  obtain ⟨x3_1, x4_1, rfl, rfl, HA, HK1, BK235, HB⟩ := hrel
  cases gk with
  | zero => exact absurd HA.out (by simp [spec_boText.l0])
  | succ k1 =>
   have H := HA.out; clear HA; simp only [spec_boText.l0] at H; have ⟨b150, b151, b152, d150, d151, d152⟩ := bc3 BK235; by_cases c7 : x4_1 < a0_0
   ·rw [if_pos c7] at H; have c7b0 : decide (x4_1 < a0_0) = true := decide_eq_true c7; clear c7; by_cases c9 : 0 ≤ (wrap64 (x4_1 * a0_1))
    ·rw [if_pos c9] at H; by_cases c10 : (wrap64 (x4_1 * a0_1)) ≤ (wrap64 ((wrap64 (x4_1 + 1)) * a0_1))
     ·rw [if_pos c10] at H; by_cases c11 : (wrap64 ((wrap64 (x4_1 + 1)) * a0_1)) ≤ (l0_2.length : Int)
      ·rw [if_pos c11] at H; obtain ⟨y237, hy237⟩ : ∃ y_ : List (S45), y_ = ((l0_2.take ((wrap64 ((wrap64 (x4_1 + 1)) * a0_1)) : Int).toNat).drop ((wrap64 (x4_1 * a0_1)) : Int).toNat) := ⟨_, rfl⟩; rw [← hy237] at H; obtain ⟨t241, A12, H⟩ := bindq H; try dsimp only at H
       by_cases c13 : t241.size + 1 ≤ 9223372036854775807
       ·rw [if_pos c13] at H; have c13b0 := eq_true c13; have c13b1 : decide (t241.size + 1 ≤ 9223372036854775807) = true := decide_eq_true c13; have c13b2 : (9223372036854775807 < t241.size + 1) = False := eq_false (Nat.not_lt.2 c13); by_cases c14 : x3_1.size + (t241 ++ (⟨#[10]⟩ : ByteArray)).size ≤ 9223372036854775807
        ·rw [if_pos c14] at H; have c14b0 := eq_true c14; have c14b1 : decide (x3_1.size + (t241 ++ (⟨#[10]⟩ : ByteArray)).size ≤ 9223372036854775807) = true := decide_eq_true c14; have c14b2 : (9223372036854775807 < x3_1.size + (t241 ++ (⟨#[10]⟩ : ByteArray)).size) = False := eq_false (Nat.not_lt.2 c14); have H' := am H; clear H; have Z9 := am c9; have Z10 := am c10; have Z11 := am c11; have ZY := am hy237; clear c9 c10 c11 hy237; go_wp2_with (first | ((with_reducible refine gate_callee (f := 27) rfl ?_); refine goesQ (some 14) Tryd.func27 #[.agg #[.int .i64 a0_0, .int .i64 a0_1, .slice A0_2 l0_2.length c0_2], .int .i64 x4_1] ?_; (refine (spec_boRow.calls a0_0 a0_1 A0_2 c0_2 l0_2 x4_1 y237 _ ?s1 HC0_2.out Z9.out Z10.out Z11.out ZY.out).mono ?_); (case s1 => exact cq (Kd.C_below HR0_2.out HB.out)); rintro e w16 ⟨A16, c16, rfl, hl, hr, hb⟩; refine ⟨_, rfl, ?_⟩; have HL := am hl; have HR := am hr; replace BK235 := zb BK235 hb; replace HB := sb hb; clear hl hr hb) | ((with_reducible refine gate_callee (f := 26) rfl ?_); refine goesQ (some 15) Tryd.func26 #[.slice A16 y237.length c16] ?_; (refine (spec_paText.calls k1 _ _ y237 t241 _ ?s1 ?s2 A12.out).mono ?_); (case s1 => exact cq HR.out); (case s2 => exact HL.out); rintro e w17 ⟨rfl, hb⟩; refine ⟨_, rfl, ?_⟩; replace BK235 := zb BK235 hb; replace HB := sb hb; clear hb))
         go_roundg k1
         case measure => have := HK1.out; omega
         case rel => exact ⟨(x3_1 ++ (t241 ++ (⟨#[10]⟩ : ByteArray))), (wrap64 (x4_1 + 1)), sq, sq, H', ⟨by have := HK1.out; omega⟩, ⟨zq BK235⟩, ⟨bq⟩⟩
        rw [if_neg c14] at H; exact absurd H (by simp)
       rw [if_neg c13] at H; exact absurd H (by simp)
      rw [if_neg c11] at H; exact absurd H (by simp)
     rw [if_neg c10] at H; exact absurd H (by simp)
    rw [if_neg c9] at H; exact absurd H (by simp)
   rw [if_neg c7] at H; have c7b0 : decide (x4_1 < a0_0) = false := decide_eq_false c7; clear c7; obtain rfl := Option.some.inj H
   go_wp2
   go_ret
   exact ⟨eq_, bq⟩

def spec_l1Num.f : Nat → Int → Option (ByteArray)
 | 0, _ => none
 | k + 1, a0 => if a0 < 10 then (some (strOfNums (([(wrap64 (48 + a0)) % 256] : List Int)))) else ((spec_l1Num.f k (wrap64 (Int.tdiv a0 10))).bind fun t143 => ((some (([(wrap64 (48 + (Int.tmod a0 10))) % 256] : List Int) : List Int)).bind fun y144 => (if t143.size + (strOfNums y144).size ≤ 9223372036854775807 then (some (t143 ++ (strOfNums y144))) else (none))))
def spec_l1Num.T3 : Bool × List (List Nat × List Nat) := (true, [([], []), ([0], [0]), ([1], [1]), ([], []), ([3], [3]), ([4], [4]), ([5], [5]), ([6], [6]), ([7], [7]), ([2, 8], [2, 8]), ([9, 2, 0, 1, 2, 3, 4, 5, 6, 7, 8, 9], [9])])
def spec_l1Num.B3 : List Nat := [0, 1, 3, 0, 8, 24, 56, 120, 248, 511, 1023]
theorem spec_l1Num.tab3 : rtab .any (opsOf Tryd.f13 3) = spec_l1Num.T3 := by kernel_rfl
theorem spec_l1Num.bits3 : waitsOk spec_l1Num.T3.2 spec_l1Num.B3 = true := by kernel_rfl
theorem spec_l1Num.calls (k : Nat) : ∀ (a0 : Int) (r : ByteArray) (w : World) (h : spec_l1Num.f k a0 = some r),
  Calls Tryd.prog 13 #[.int .i64 a0] w fun e w' => e = .returned (.string r) ∧ Below w.heap.size w w' := by
 induction k using Nat.strongRecOn with
 | _ k ih =>
 intro a0 r w h
 cases k with
 | zero => exact absurd h (by simp [spec_l1Num.f])
 | succ k =>
 simp only [spec_l1Num.f] at h; have HB := am (Below.refl w.heap.size w); have H : (if a0 < 10 then (some (strOfNums (([(wrap64 (48 + a0)) % 256] : List Int)))) else ((spec_l1Num.f k (wrap64 (Int.tdiv a0 10))).bind fun t143 => ((some (([(wrap64 (48 + (Int.tmod a0 10))) % 256] : List Int) : List Int)).bind fun y144 => (if t143.size + (strOfNums y144).size ≤ 9223372036854775807 then (some (t143 ++ (strOfNums y144))) else (none))))) = some r := h; clear h; by_cases c2 : a0 < 10
 ·rw [if_pos c2] at H; have c2b0 : decide (a0 < 10) = true := decide_eq_true c2; clear c2; obtain ⟨y140, hy140⟩ : ∃ y_ : List Int, y_ = (([(wrap64 (48 + a0)) % 256] : List Int)) := ⟨_, rfl⟩; replace H : (some (strOfNums y140)) = some r := yq hy140 H; have Ny140 := am hy140; clear hy140; obtain rfl := Option.some.inj H
  go_enter Tryd.func13, Tryd.ntmps13
  go_wp2_with (first | ((with_reducible refine gate_dst (N := 8) rfl ?_); refine Kd.R_lit (Kd.int .u8) _ 5 ?hg (N := 8) ?hd (xs := ([(wrap64 (48 + a0)) % 256] : List Int)) (inner := [.int .u8 ((wrap64 (48 + a0)) % 256)]) (ok := fun _ => True) (okp := fun _ => True) ?hr ?hp (fun _ hk => hk) trivial (Below.refl _ _) (Nat.le_refl _) (by simp) ?_; (case hd | hg => rfl); (case hr => go_simp; try rfl); (case hp => exact (Reps.one (show Kd.M (Kd.int .u8) _ _ _ ((wrap64 (48 + a0)) % 256) [.int .u8 ((wrap64 (48 + a0)) % 256)] from rfl) (Reps.none _ _))); intro v141 w3 ho4 hb hg_ hnew_; clear hg_ hnew_; (first | rw [← Ny140.out] at ho4 | (simp only [Int.reduceToNat] at ho4; rw [← Ny140.out] at ho4)); have HO142 := rl ho4; replace HB := sb hb; clear hb ho4; have hcv5 := own_string (P := Tryd.prog) Tryd.underlying63 Tryd.underlying5 Tryd.underlying9 (Kd.own_of_R HO142.out)))
  go_ret
  exact ⟨eq_, bq⟩
 rw [if_neg c2] at H; have c2b0 : decide (a0 < 10) = false := decide_eq_false c2; clear c2; obtain ⟨t143, A6, H⟩ := bindq H; try dsimp only at H
 obtain ⟨y144, hy144⟩ : ∃ y_ : List Int, y_ = (([(wrap64 (48 + (Int.tmod a0 10))) % 256] : List Int)) := ⟨_, rfl⟩; replace H : (if t143.size + (strOfNums y144).size ≤ 9223372036854775807 then (some (t143 ++ (strOfNums y144))) else (none)) = some r := yq hy144 H; have Ny144 := am hy144; clear hy144; by_cases c7 : t143.size + (strOfNums y144).size ≤ 9223372036854775807
 ·rw [if_pos c7] at H; have c7b0 := eq_true c7; have c7b1 : decide (t143.size + (strOfNums y144).size ≤ 9223372036854775807) = true := decide_eq_true c7; try have c7b2 : (9223372036854775807 < t143.size + (strOfNums y144).size) = False := eq_false (Nat.not_lt.2 c7)
  obtain rfl := Option.some.inj H
  go_enter Tryd.func13, Tryd.ntmps13
  try go_wp2
  have n0_ := am (below_drew1 HB.out); clear HB; have HB := n0_; clear n0_; refine start_ (n := 11) (S := fun w' => True) (ds := []) #[O, O, O, O, O, O, O, O, O, O, O] (by kernel_rfl) rfl rfl trivial (fun hHeld => ?_); refine with_tabW spec_l1Num.tab3 spec_l1Num.bits3 (fun HT_ HW_ => ?_); generalize w.drew = w8 at HB hHeld ⊢; refine pu_ 0 (some 10) ?_ #[I, O, O, O, O, O, O, O, O, O, O] rfl rfl (any_of HT_.out (by kernel_rfl)) (.inl ⟨by rfl, ?_⟩) ?_ ?_ ?_; rotate_left; (intro w'; go_simp; with_reducible rfl); rotate_left; (simp only [pw]; rfl); refine pu_ 1 (some 11) ?_ #[I, I, O, O, O, O, O, O, O, O, O] rfl rfl (any_of HT_.out (by kernel_rfl)) (.inl ⟨by rfl, ?_⟩) ?_ ?_ ?_; rotate_left; (intro w'; go_simp; with_reducible rfl); rotate_left; (simp only [pw]; rfl); refine pu_ 3 (some 13) ?_ #[I, I, O, I, O, O, O, O, O, O, O] rfl rfl (any_of HT_.out (by kernel_rfl)) (.inl ⟨by rfl, ?_⟩) ?_ ?_ ?_; rotate_left; (intro w'; go_simp; with_reducible rfl); rotate_left; (simp only [pw]; rfl); refine pu_ 4 (some 14) ?_ #[I, I, O, I, I, O, O, O, O, O, O] rfl rfl (any_of HT_.out (by kernel_rfl)) (.inl ⟨by rfl, ?_⟩) ?_ ?_ ?_; rotate_left; (intro w'; go_simp; with_reducible rfl); rotate_left; (simp only [pw]; rfl); refine pu_ 5 (some 15) ?_ #[I, I, O, I, I, I, O, O, O, O, O] rfl rfl (any_of HT_.out (by kernel_rfl)) (.inl ⟨by rfl, ?_⟩) ?_ ?_ ?_; rotate_left; (intro w'; go_simp; with_reducible rfl); rotate_left; (simp only [pw]; rfl); refine pu_ 6 (some 16) ?_ #[I, I, O, I, I, I, I, O, O, O, O] rfl rfl (any_of HT_.out (by kernel_rfl)) (.inl ⟨by rfl, ?_⟩) ?_ ?_ ?_; rotate_left; (intro w'; go_simp; with_reducible rfl); rotate_left; (simp only [pw]; rfl); refine join_ (σ := Value) 2 #[I, I, I, I, I, I, I, I, I, O, O] (fun s_ => [(12, .string t143), (17, s_), (18, .string (strOfNums y144))]) (fun s_ w' => (Kd.R (Kd.int .u8) 5 w' w.heap.size (fun _ => True) s_ y144) ∧ (Below w.heap.size w w')) ?_ ?_; rotate_left
  ·intro hCont; refine two_ (i := 2) (j := 7) (Ni := some 12) (Nj := some 17) #[I, I, I, I, I, I, I, O, O, O, O] #[I, I, O, I, I, I, I, I, O, O, O] rfl rfl rfl rfl (two_of HT_.out (by kernel_rfl)) (by decide) (by decide) (fun K hK => ?_) (fun K hK => ?_)
   ·skip
    refine goes_ Tryd.func13 (by kernel_rfl) rfl #[.int .i64 (wrap64 (Int.tdiv a0 10))] (by rfl) rfl rfl mq ?_; with_reducible refine (ih k (by omega) (wrap64 (Int.tdiv a0 10)) t143 _ A6.out).mono ?_
    rintro e w9 ⟨rfl, hb⟩; refine ⟨_, rfl, ?_⟩; have n0_ := sb hb; clear HB; have HB := n0_; clear n0_; (try clear hb); refine hK.out _ _ trivial (fun hHeld => ?_); clear hK K; refine norm_ (a' := ?_) ?_ ?_; rotate_left
    ·show Act.put _ (some 12) _ = _
     simp only [pw]; rfl
    refine one_ (i := 7) (N := some 17) #[I, I, I, I, I, I, I, I, O, O, O] rfl rfl (one_of HT_.out (by kernel_rfl)) (by decide) (fun K hK => ?_); refine Kd.R_lit_step (Kd.int .u8) _ 5 ?hg (N := 17) ?hd (xs := ([(wrap64 (48 + (Int.tmod a0 10))) % 256] : List Int)) (inner := [.int .u8 ((wrap64 (48 + (Int.tmod a0 10))) % 256)]) (ok := fun _ => True) (okp := fun _ => True) ?hr ?hp (fun _ hk => hk) trivial (Below.refl _ _) (Nat.le_refl _) (by simp) ?_; (case hd | hg => rfl); (case hr => go_simp; try rfl); (case hp => exact (Reps.one (show Kd.M (Kd.int .u8) _ _ _ ((wrap64 (48 + (Int.tmod a0 10))) % 256) [.int .u8 ((wrap64 (48 + (Int.tmod a0 10))) % 256)] from rfl) (Reps.none _ _))); intro v145 w10 ho11 hb hg_ hnew_; clear hg_ hnew_; (first | rw [← Ny144.out] at ho11 | (simp only [Int.reduceToNat] at ho11; rw [← Ny144.out] at ho11)); have HO146 := rl ho11; replace HB := sb hb; clear hb ho11; refine hK.out _ _ trivial (fun hHeld => ?_); clear hK K; refine norm_ (a' := ?_) ?_ ?_; rotate_left
    ·show Act.put _ (some 17) _ = _
     simp only [pw]; rfl
    refine one_ (i := 8) (N := some 18) #[I, I, I, I, I, I, I, I, I, O, O] rfl rfl (one_of HT_.out (by kernel_rfl)) (by decide) (fun K hK => ?_); have hcv12 := own_string (P := Tryd.prog) Tryd.underlying63 Tryd.underlying5 Tryd.underlying9 (Kd.own_of_R HO146.out); refine value_ (w1 := ?_) (v := ?_) (by rfl) rfl ?_ ?_; rotate_left 2
    ·go_simp
     constructor
     (rfl); rfl
    clear hcv12; refine hK.out _ _ trivial (fun hHeld => ?_); clear hK K; refine norm_ (a' := ?_) ?_ ?_; rotate_left
    ·show Act.put _ (some 18) _ = _
     simp only [pw]; rfl
    exact norm_ (by simp only [putAll, Act.put, List.setIfInBounds_toArray, List.set_cons_zero, List.set_cons_succ]) (hCont (v145) _ ⟨(rq HO146), bq⟩)
   skip
   refine Kd.R_lit_step (Kd.int .u8) _ 5 ?hg (N := 17) ?hd (xs := ([(wrap64 (48 + (Int.tmod a0 10))) % 256] : List Int)) (inner := [.int .u8 ((wrap64 (48 + (Int.tmod a0 10))) % 256)]) (ok := fun _ => True) (okp := fun _ => True) ?hr ?hp (fun _ hk => hk) trivial (Below.refl _ _) (Nat.le_refl _) (by simp) ?_; (case hd | hg => rfl); (case hr => go_simp; try rfl); (case hp => exact (Reps.one (show Kd.M (Kd.int .u8) _ _ _ ((wrap64 (48 + (Int.tmod a0 10))) % 256) [.int .u8 ((wrap64 (48 + (Int.tmod a0 10))) % 256)] from rfl) (Reps.none _ _))); intro v145 w9 ho10 hb hg_ hnew_; clear hg_ hnew_; (first | rw [← Ny144.out] at ho10 | (simp only [Int.reduceToNat] at ho10; rw [← Ny144.out] at ho10)); have HO146 := rl ho10; replace HB := sb hb; clear hb ho10; refine hK.out _ _ trivial (fun hHeld => ?_); clear hK K; refine norm_ (a' := ?_) ?_ ?_; rotate_left
   ·show Act.put _ (some 17) _ = _
    simp only [pw]; rfl
   refine two_ (i := 2) (j := 8) (Ni := some 12) (Nj := some 18) #[I, I, I, I, I, I, I, I, O, O, O] #[I, I, O, I, I, I, I, I, I, O, O] rfl rfl rfl rfl (two_of HT_.out (by kernel_rfl)) (by decide) (by decide) (fun K hK => ?_) (fun K hK => ?_)
   ·skip
    refine goes_ Tryd.func13 (by kernel_rfl) rfl #[.int .i64 (wrap64 (Int.tdiv a0 10))] (by rfl) rfl rfl mq ?_; with_reducible refine (ih k (by omega) (wrap64 (Int.tdiv a0 10)) t143 _ A6.out).mono ?_
    rintro e w11 ⟨rfl, hb⟩; refine ⟨_, rfl, ?_⟩; replace HO146 := rb HO146 hb; replace HB := sb hb; (try clear hb); refine hK.out _ _ trivial (fun hHeld => ?_); clear hK K; refine norm_ (a' := ?_) ?_ ?_; rotate_left
    ·show Act.put _ (some 12) _ = _
     simp only [pw]; rfl
    refine one_ (i := 8) (N := some 18) #[I, I, I, I, I, I, I, I, I, O, O] rfl rfl (one_of HT_.out (by kernel_rfl)) (by decide) (fun K hK => ?_); have hcv12 := own_string (P := Tryd.prog) Tryd.underlying63 Tryd.underlying5 Tryd.underlying9 (Kd.own_of_R HO146.out); refine value_ (w1 := ?_) (v := ?_) (by rfl) rfl ?_ ?_; rotate_left 2
    ·go_simp
     constructor
     (rfl); rfl
    clear hcv12; refine hK.out _ _ trivial (fun hHeld => ?_); clear hK K; refine norm_ (a' := ?_) ?_ ?_; rotate_left
    ·show Act.put _ (some 18) _ = _
     simp only [pw]; rfl
    exact norm_ (by simp only [putAll, Act.put, List.setIfInBounds_toArray, List.set_cons_zero, List.set_cons_succ]) (hCont (v145) _ ⟨(rq HO146), bq⟩)
   skip
   have hcv11 := own_string (P := Tryd.prog) Tryd.underlying63 Tryd.underlying5 Tryd.underlying9 (Kd.own_of_R HO146.out); refine value_ (w1 := ?_) (v := ?_) (by rfl) rfl ?_ ?_; rotate_left 2
   ·go_simp
    constructor
    (rfl); rfl
   clear hcv11; refine hK.out _ _ trivial (fun hHeld => ?_); clear hK K; refine norm_ (a' := ?_) ?_ ?_; rotate_left
   ·show Act.put _ (some 18) _ = _
    simp only [pw]; rfl
   refine one_ (i := 2) (N := some 12) #[I, I, I, I, I, I, I, I, I, O, O] rfl rfl (one_of HT_.out (by kernel_rfl)) (by decide) (fun K hK => ?_); refine goes_ Tryd.func13 (by kernel_rfl) rfl #[.int .i64 (wrap64 (Int.tdiv a0 10))] (by rfl) rfl rfl mq ?_; with_reducible refine (ih k (by omega) (wrap64 (Int.tdiv a0 10)) t143 _ A6.out).mono ?_
   rintro e w12 ⟨rfl, hb⟩; refine ⟨_, rfl, ?_⟩; replace HO146 := rb HO146 hb; replace HB := sb hb; (try clear hb); refine hK.out _ _ trivial (fun hHeld => ?_); clear hK K; refine norm_ (a' := ?_) ?_ ?_; rotate_left
   ·show Act.put _ (some 12) _ = _
    simp only [pw]; rfl
   exact norm_ (by simp only [putAll, Act.put, List.setIfInBounds_toArray, List.set_cons_zero, List.set_cons_succ]) (hCont (v145) _ ⟨(rq HO146), bq⟩)
  rintro v145 w13 ⟨h0_, h1_⟩; have n0_ : Aside0 (Kd.R (Kd.int .u8) 5 w13 w.heap.size (fun _ => True) v145 y144) := ⟨h0_⟩; have n1_ : Aside0 (Below w.heap.size w w13) := ⟨h1_⟩; clear HB h0_ h1_; have HB := n1_; clear n0_ n1_; have hHeld := trivial; refine norm_ (a' := ?_) ?_ ?_; rotate_left; (simp only [putAll, Act.put, List.setIfInBounds_toArray, List.set_cons_zero, List.set_cons_succ]; rfl); refine pu_ 9 (some 19) ?_ #[I, I, I, I, I, I, I, I, I, I, O] rfl rfl (any_of HT_.out (by kernel_rfl)) (.inl ⟨by rfl, ?_⟩) ?_ ?_ ?_; rotate_left; (intro w'; go_simp; with_reducible rfl); rotate_left; (simp only [pw]; rfl); refine pu_ 10 (some 2) ?_ #[I, I, I, I, I, I, I, I, I, I, I] rfl rfl (any_of HT_.out (by kernel_rfl)) (.inl ⟨by rfl, ?_⟩) ?_ ?_ ?_; rotate_left; (intro w'; go_simp; with_reducible rfl); rotate_left; (simp only [pw]; rfl); refine done_ (done_of HT_.out (by kernel_rfl)) ?_; try go_wp2
  go_ret
  exact ⟨eq_, bq⟩
 rw [if_neg c7] at H; exact absurd H (by simp)



def spec_SessionText.l0 : Nat → ByteArray → List (S47) → Int → Int → Option (ByteArray × Bool)
 | 0, _, _, _, _ => none
 | k + 1, x4, x14, x15, x16 => if x16 < x15 then (if 0 ≤ x16 then (if x16 < (x14.length : Int) then (if ((rd_T47 x14 x16).f0) = 1 then ((spec_l1Num.f k ((rd_T47 x14 x16).f1)).bind fun t152 => (if 4 + t152.size ≤ 9223372036854775807 then (if ((⟨#[112, 117, 116, 32]⟩ : ByteArray) ++ t152).size + 1 ≤ 9223372036854775807 then ((spec_l1Num.f k ((rd_T47 x14 x16).f2)).bind fun t153 => (if (((⟨#[112, 117, 116, 32]⟩ : ByteArray) ++ t152) ++ (⟨#[32]⟩ : ByteArray)).size + t153.size ≤ 9223372036854775807 then (if ((((⟨#[112, 117, 116, 32]⟩ : ByteArray) ++ t152) ++ (⟨#[32]⟩ : ByteArray)) ++ t153).size + 1 ≤ 9223372036854775807 then ((spec_paLetter.f ((rd_T47 x14 x16).f3.f0) ((rd_T47 x14 x16).f3.f1)).bind fun t154 => (if (((((⟨#[112, 117, 116, 32]⟩ : ByteArray) ++ t152) ++ (⟨#[32]⟩ : ByteArray)) ++ t153) ++ (⟨#[32]⟩ : ByteArray)).size + t154.size ≤ 9223372036854775807 then (if ((((((⟨#[112, 117, 116, 32]⟩ : ByteArray) ++ t152) ++ (⟨#[32]⟩ : ByteArray)) ++ t153) ++ (⟨#[32]⟩ : ByteArray)) ++ t154).size + 1 ≤ 9223372036854775807 then (if x4.size + (((((((⟨#[112, 117, 116, 32]⟩ : ByteArray) ++ t152) ++ (⟨#[32]⟩ : ByteArray)) ++ t153) ++ (⟨#[32]⟩ : ByteArray)) ++ t154) ++ (⟨#[10]⟩ : ByteArray)).size ≤ 9223372036854775807 then (spec_SessionText.l0 k (x4 ++ (((((((⟨#[112, 117, 116, 32]⟩ : ByteArray) ++ t152) ++ (⟨#[32]⟩ : ByteArray)) ++ t153) ++ (⟨#[32]⟩ : ByteArray)) ++ t154) ++ (⟨#[10]⟩ : ByteArray))) x14 x15 (wrap64 (x16 + 1))) else (none)) else (none)) else (none))) else (none)) else (none))) else (none)) else (none))) else (if ((rd_T47 x14 x16).f0) = 2 then ((spec_l1Num.f k ((rd_T47 x14 x16).f2)).bind fun t155 => (if 7 + t155.size ≤ 9223372036854775807 then (if ((⟨#[109, 97, 114, 98, 108, 101, 32]⟩ : ByteArray) ++ t155).size + 1 ≤ 9223372036854775807 then (if x4.size + (((⟨#[109, 97, 114, 98, 108, 101, 32]⟩ : ByteArray) ++ t155) ++ (⟨#[10]⟩ : ByteArray)).size ≤ 9223372036854775807 then (spec_SessionText.l0 k (x4 ++ (((⟨#[109, 97, 114, 98, 108, 101, 32]⟩ : ByteArray) ++ t155) ++ (⟨#[10]⟩ : ByteArray))) x14 x15 (wrap64 (x16 + 1))) else (none)) else (none)) else (none))) else (if x4.size + 6 ≤ 9223372036854775807 then (spec_SessionText.l0 k (x4 ++ (⟨#[114, 101, 115, 101, 116, 10]⟩ : ByteArray)) x14 x15 (wrap64 (x16 + 1))) else (none)))) else (none)) else (none)) else (some (x4, true))
def spec_SessionText.f (k : Nat) (a0_0 : Int) (a0_1 : Int) (l0_2 : List (S45)) (l0_3 : List (S47)) (l0_4 : List (S47)) : Option (ByteArray × Bool) := (spec_seGood.f k a0_0 a0_1 l0_2 l0_3 l0_4).bind fun t148 => (if t148 = true then ((spec_boText.f k a0_0 a0_1 l0_2).bind fun t149 => (spec_SessionText.l0 k t149 l0_3 (l0_3.length : Int) 0)) else (some ((⟨#[]⟩ : ByteArray), false)))
def spec_SessionText.T10 : Bool × List (List Nat × List Nat) := (true, [([], []), ([], []), ([1], [1]), ([2], [2]), ([3], [3]), ([4], [4]), ([], []), ([6], [6]), ([7, 3], [7]), ([5, 8], [5, 8]), ([9], [9]), ([], []), ([11], [11]), ([12, 8], [12]), ([10, 13], [10, 13]), ([14], [14]), ([0, 15], [0, 15]), ([16, 13, 0, 1, 2, 3, 4, 5, 6, 7, 8, 9, 10, 11, 12, 13, 14, 15, 16], [0, 16])])
def spec_SessionText.B10 : List Nat := [0, 0, 2, 6, 14, 30, 0, 64, 206, 510, 1022, 0, 2048, 6606, 16382, 32766, 65535, 131071]
theorem spec_SessionText.tab10 : rtab .any (opsOf Tryd.f5 10) = spec_SessionText.T10 := by kernel_rfl
theorem spec_SessionText.bits10 : waitsOk spec_SessionText.T10.2 spec_SessionText.B10 = true := by kernel_rfl
theorem spec_SessionText.calls (k : Nat) (a0_0 : Int) (a0_1 : Int) (A0_2 : Option Addr) (c0_2 : Nat) (l0_2 : List (S45)) (A0_3 : Option Addr) (c0_3 : Nat) (l0_3 : List (S47)) (A0_4 : Option Addr) (c0_4 : Nat) (l0_4 : List (S47)) (r1 : ByteArray) (r2 : Bool) (w : World) (hr0_2 : Kd.C k45 w A0_2 l0_2.length l0_2) (hc0_2 : l0_2.length ≤ c0_2) (hr0_3 : Kd.C k47 w A0_3 l0_3.length l0_3) (hc0_3 : l0_3.length ≤ c0_3) (hr0_4 : Kd.C k47 w A0_4 l0_4.length l0_4) (hc0_4 : l0_4.length ≤ c0_4) (h : spec_SessionText.f k a0_0 a0_1 l0_2 l0_3 l0_4 = some (r1, r2)) :
  Calls Tryd.prog 5 #[.agg #[.int .i64 a0_0, .int .i64 a0_1, .slice A0_2 l0_2.length c0_2, .slice A0_3 l0_3.length c0_3, .slice A0_4 l0_4.length c0_4]] w fun e w' => e = .returned (.tuple #[.string r1, .bool r2]) ∧ Below w.heap.size w w' := by
 have hu36 := Tryd.underlying36; have hu33 := Tryd.underlying33; have hu47 := Tryd.underlying47; have hu45 := Tryd.underlying45; have HR0_2 := am hr0_2; have HC0_2 := am hc0_2; clear hr0_2 hc0_2; have HR0_3 := am hr0_3; have HC0_3 := am hc0_3; clear hr0_3 hc0_3; have HR0_4 := am hr0_4; have HC0_4 := am hc0_4; clear hr0_4 hc0_4; have HB := am (Below.refl w.heap.size w); have H := h; clear h
 unfold spec_SessionText.f at H
 obtain ⟨t148, A2, H⟩ := bindq H; try dsimp only at H
 by_cases c3 : t148 = true
 ·subst c3; rw [if_pos rfl] at H; try dsimp only at H
  obtain ⟨t149, A4, H⟩ := bindq H; try dsimp only at H
  have H' := am H; clear H
  go_enter Tryd.func5, Tryd.ntmps5
  go_wp2_with (first | ((with_reducible refine gate_dst (N := 1) rfl ?_); refine box_event ?hg (N := 1) ?hd (cs := #[.int .i64 a0_0, .int .i64 a0_1, .slice A0_2 l0_2.length c0_2, .slice A0_3 l0_3.length c0_3, .slice A0_4 l0_4.length c0_4]) (t := 36) ?hr ?_; (case hd | hg => rfl); (case hr => go_simp; try rfl); intro gb147 hg w5 hbox hb; have BK147 := am (hbox); have GW147 := am (gq hg); have GE147 := am (gq hg); replace HB := sb hb; clear hb hbox hg; have ⟨b60, b61, b62, b63, b64, d60, d61, d62, d63, d64⟩ := bc5 BK147) | ((with_reducible refine gate_callee (f := 11) rfl ?_); refine goesL_ (some 8) rfl rfl Tryd.func11 (by kernel_rfl) rfl #[.agg #[.int .i64 a0_0, .int .i64 a0_1, .slice A0_2 l0_2.length c0_2, .slice A0_3 l0_3.length c0_3, .slice A0_4 l0_4.length c0_4]] rfl mq ?_; (with_reducible refine (spec_seGood.calls k a0_0 a0_1 _ _ l0_2 _ _ l0_3 _ _ l0_4 true _ ?s1 ?s2 ?s3 ?s4 ?s5 ?s6 A2.out).mono ?_); (case s1 => exact cq (Kd.C_below HR0_2.out HB.out)); (case s2 => exact HC0_2.out); (case s3 => exact cq (Kd.C_below HR0_3.out HB.out)); (case s4 => exact HC0_3.out); (case s5 => exact cq (Kd.C_below HR0_4.out HB.out)); (case s6 => exact HC0_4.out); rintro e w7 ⟨rfl, hb⟩; refine ⟨_, rfl, ?_⟩; replace BK147 := zb BK147 hb; replace HB := sb hb; (try clear hb); have ⟨b80, b81, b82, b83, b84, d80, d81, d82, d83, d84⟩ := bc5 BK147) | ((with_reducible refine gate_callee (f := 12) rfl ?_); refine goesL_ (some 12) rfl rfl Tryd.func12 (by kernel_rfl) rfl #[.agg #[.int .i64 a0_0, .int .i64 a0_1, .slice A0_2 l0_2.length c0_2]] rfl mq ?_; (with_reducible refine (spec_boText.calls k a0_0 a0_1 _ _ l0_2 t149 _ ?s1 ?s2 A4.out).mono ?_); (case s1 => exact cq (Kd.C_below HR0_2.out HB.out)); (case s2 => exact HC0_2.out); rintro e w9 ⟨rfl, hb⟩; refine ⟨_, rfl, ?_⟩; replace BK147 := zb BK147 hb; replace HB := sb hb; (try clear hb); have ⟨b100, b101, b102, b103, b104, d100, d101, d102, d103, d104⟩ := bc5 BK147))
  go_loopg [4, 16] k (fun kq v4 v16 w' => ∃ (x4_1 : ByteArray) (x16_1 : Int), v4 = .string x4_1 ∧ v16 = .int .i64 x16_1 ∧ Aside0 (spec_SessionText.l0 kq x4_1 l0_3 (l0_3.length : Int) x16_1 = some (r1, r2)) ∧ Aside0 (kq ≤ k) ∧ Aside0 (w'.heap[gb147]? = some (.cells #[.int .i64 a0_0, .int .i64 a0_1, (.slice A0_2 l0_2.length c0_2), (.slice A0_3 l0_3.length c0_3), (.slice A0_4 l0_4.length c0_4)] 36 (0, 0))) ∧ Aside0 (Below w.heap.size w w'))
  case atStart => exact ⟨(t149), (0), sq, sq, H', ⟨Nat.le_refl _⟩, ⟨zq BK147⟩, ⟨bq⟩⟩
  case round =>
   clear H'; try clear c3
   try clear b100 b101 b102 b103 b104 d100 d101 d102 d103 d104
   try clear b60 b61 b62 b63 b64 d60 d61 d62 d63 d64
   try clear b80 b81 b82 b83 b84 d80 d81 d82 d83 d84
   obtain ⟨x4_1, x16_1, rfl, rfl, HA, HK1, BK147, HB⟩ := hrel
   cases gk with
   | zero => exact absurd HA.out (by simp [spec_SessionText.l0])
   | succ k1 =>
    have H := HA.out; clear HA; simp only [spec_SessionText.l0] at H; by_cases c11 : x16_1 < (l0_3.length : Int)
    ·rw [if_pos c11] at H; have c11b0 : decide (x16_1 < (l0_3.length : Int)) = true := decide_eq_true c11; clear c11; by_cases c12 : 0 ≤ x16_1
     ·rw [if_pos c12] at H; have c12b0 : decide (0 ≤ x16_1) = true := decide_eq_true c12; clear c12; by_cases c13 : x16_1 < (l0_3.length : Int)
      ·rw [if_pos c13] at H; have c13b0 : decide (x16_1 < (l0_3.length : Int)) = true := decide_eq_true c13; clear c13; by_cases c14 : ((rd_T47 l0_3 x16_1).f0) = 1
       ·rw [if_pos c14] at H; have c14b0 : (((rd_T47 l0_3 x16_1).f0) == 1) = true := beq_iff_eq.mpr c14; have c14b1 : (((rd_T47 l0_3 x16_1).f0) != 1) = false := bne_eq_false_iff_eq.mpr c14; clear c14; obtain ⟨t152, A15, H⟩ := bindq H; try dsimp only at H
        by_cases c16 : 4 + t152.size ≤ 9223372036854775807
        ·rw [if_pos c16] at H; have c16b0 := eq_true c16; have c16b1 : decide (4 + t152.size ≤ 9223372036854775807) = true := decide_eq_true c16; try have c16b2 : (9223372036854775807 < 4 + t152.size) = False := eq_false (Nat.not_lt.2 c16)
         by_cases c17 : ((⟨#[112, 117, 116, 32]⟩ : ByteArray) ++ t152).size + 1 ≤ 9223372036854775807
         ·rw [if_pos c17] at H; have c17b0 := eq_true c17; have c17b1 : decide (((⟨#[112, 117, 116, 32]⟩ : ByteArray) ++ t152).size + 1 ≤ 9223372036854775807) = true := decide_eq_true c17; try have c17b2 : (9223372036854775807 < ((⟨#[112, 117, 116, 32]⟩ : ByteArray) ++ t152).size + 1) = False := eq_false (Nat.not_lt.2 c17)
          have c17b9 : (9223372036854775807 < 4 + t152.size + 1) = False := eq_false (Nat.not_lt.2 (by have h_ := c17; simp only [ByteArray.size_append] at h_; exact h_)); obtain ⟨t153, A18, H⟩ := bindq H; try dsimp only at H
          by_cases c19 : (((⟨#[112, 117, 116, 32]⟩ : ByteArray) ++ t152) ++ (⟨#[32]⟩ : ByteArray)).size + t153.size ≤ 9223372036854775807
          ·rw [if_pos c19] at H; have c19b0 := eq_true c19; have c19b1 : decide ((((⟨#[112, 117, 116, 32]⟩ : ByteArray) ++ t152) ++ (⟨#[32]⟩ : ByteArray)).size + t153.size ≤ 9223372036854775807) = true := decide_eq_true c19; try have c19b2 : (9223372036854775807 < (((⟨#[112, 117, 116, 32]⟩ : ByteArray) ++ t152) ++ (⟨#[32]⟩ : ByteArray)).size + t153.size) = False := eq_false (Nat.not_lt.2 c19)
           have c19b9 : (9223372036854775807 < 4 + t152.size + 1 + t153.size) = False := eq_false (Nat.not_lt.2 (by have h_ := c19; simp only [ByteArray.size_append] at h_; exact h_)); by_cases c20 : ((((⟨#[112, 117, 116, 32]⟩ : ByteArray) ++ t152) ++ (⟨#[32]⟩ : ByteArray)) ++ t153).size + 1 ≤ 9223372036854775807
           ·rw [if_pos c20] at H; have c20b0 := eq_true c20; have c20b1 : decide (((((⟨#[112, 117, 116, 32]⟩ : ByteArray) ++ t152) ++ (⟨#[32]⟩ : ByteArray)) ++ t153).size + 1 ≤ 9223372036854775807) = true := decide_eq_true c20; try have c20b2 : (9223372036854775807 < ((((⟨#[112, 117, 116, 32]⟩ : ByteArray) ++ t152) ++ (⟨#[32]⟩ : ByteArray)) ++ t153).size + 1) = False := eq_false (Nat.not_lt.2 c20)
            have c20b9 : (9223372036854775807 < 4 + t152.size + 1 + t153.size + 1) = False := eq_false (Nat.not_lt.2 (by have h_ := c20; simp only [ByteArray.size_append] at h_; exact h_)); obtain ⟨t154, A21, H⟩ := bindq H; try dsimp only at H
            by_cases c22 : (((((⟨#[112, 117, 116, 32]⟩ : ByteArray) ++ t152) ++ (⟨#[32]⟩ : ByteArray)) ++ t153) ++ (⟨#[32]⟩ : ByteArray)).size + t154.size ≤ 9223372036854775807
            ·rw [if_pos c22] at H; have c22b0 := eq_true c22; have c22b1 : decide ((((((⟨#[112, 117, 116, 32]⟩ : ByteArray) ++ t152) ++ (⟨#[32]⟩ : ByteArray)) ++ t153) ++ (⟨#[32]⟩ : ByteArray)).size + t154.size ≤ 9223372036854775807) = true := decide_eq_true c22; try have c22b2 : (9223372036854775807 < (((((⟨#[112, 117, 116, 32]⟩ : ByteArray) ++ t152) ++ (⟨#[32]⟩ : ByteArray)) ++ t153) ++ (⟨#[32]⟩ : ByteArray)).size + t154.size) = False := eq_false (Nat.not_lt.2 c22)
             have c22b9 : (9223372036854775807 < 4 + t152.size + 1 + t153.size + 1 + t154.size) = False := eq_false (Nat.not_lt.2 (by have h_ := c22; simp only [ByteArray.size_append] at h_; exact h_)); by_cases c23 : ((((((⟨#[112, 117, 116, 32]⟩ : ByteArray) ++ t152) ++ (⟨#[32]⟩ : ByteArray)) ++ t153) ++ (⟨#[32]⟩ : ByteArray)) ++ t154).size + 1 ≤ 9223372036854775807
             ·rw [if_pos c23] at H; have c23b0 := eq_true c23; have c23b1 : decide (((((((⟨#[112, 117, 116, 32]⟩ : ByteArray) ++ t152) ++ (⟨#[32]⟩ : ByteArray)) ++ t153) ++ (⟨#[32]⟩ : ByteArray)) ++ t154).size + 1 ≤ 9223372036854775807) = true := decide_eq_true c23; try have c23b2 : (9223372036854775807 < ((((((⟨#[112, 117, 116, 32]⟩ : ByteArray) ++ t152) ++ (⟨#[32]⟩ : ByteArray)) ++ t153) ++ (⟨#[32]⟩ : ByteArray)) ++ t154).size + 1) = False := eq_false (Nat.not_lt.2 c23)
              have c23b9 : (9223372036854775807 < 4 + t152.size + 1 + t153.size + 1 + t154.size + 1) = False := eq_false (Nat.not_lt.2 (by have h_ := c23; simp only [ByteArray.size_append] at h_; exact h_)); by_cases c24 : x4_1.size + (((((((⟨#[112, 117, 116, 32]⟩ : ByteArray) ++ t152) ++ (⟨#[32]⟩ : ByteArray)) ++ t153) ++ (⟨#[32]⟩ : ByteArray)) ++ t154) ++ (⟨#[10]⟩ : ByteArray)).size ≤ 9223372036854775807
              ·rw [if_pos c24] at H; have c24b0 := eq_true c24; have c24b1 : decide (x4_1.size + (((((((⟨#[112, 117, 116, 32]⟩ : ByteArray) ++ t152) ++ (⟨#[32]⟩ : ByteArray)) ++ t153) ++ (⟨#[32]⟩ : ByteArray)) ++ t154) ++ (⟨#[10]⟩ : ByteArray)).size ≤ 9223372036854775807) = true := decide_eq_true c24; try have c24b2 : (9223372036854775807 < x4_1.size + (((((((⟨#[112, 117, 116, 32]⟩ : ByteArray) ++ t152) ++ (⟨#[32]⟩ : ByteArray)) ++ t153) ++ (⟨#[32]⟩ : ByteArray)) ++ t154) ++ (⟨#[10]⟩ : ByteArray)).size) = False := eq_false (Nat.not_lt.2 c24)
               have c24b9 : (9223372036854775807 < x4_1.size + (4 + t152.size + 1 + t153.size + 1 + t154.size + 1)) = False := eq_false (Nat.not_lt.2 (by have h_ := c24; simp only [ByteArray.size_append] at h_; exact h_)); have H' := am H; clear H; have p150 : 0 ≤ (x16_1 : Int) := of_decide_eq_true aq; have q150 : x16_1 < (l0_3.length : Int) := of_decide_eq_true aq; obtain ⟨ad150, e150, hx150_0, hx150_1, hx150_2, hx150_3, hx150_4⟩ := at_T47 HR0_3.out x16_1 p150 q150
               cases e150
               replace hx150_0 := (HB.out.cell (World.block_lt_of_cell? w _ hx150_0)).trans hx150_0; replace hx150_1 := (HB.out.cell (World.block_lt_of_cell? w _ hx150_1)).trans hx150_1; replace hx150_2 := (HB.out.cell (World.block_lt_of_cell? w _ hx150_2)).trans hx150_2; replace hx150_3 := (HB.out.cell (World.block_lt_of_cell? w _ hx150_3)).trans hx150_3; replace hx150_4 := (HB.out.cell (World.block_lt_of_cell? w _ hx150_4)).trans hx150_4; replace p150 := eq_true p150; replace q150 := eq_true q150; try go_wp2_with (first | ((with_reducible refine gate_dst (N := 6) rfl ?_); refine box_event ?hg (N := 6) ?hd (cs := #[.int .i64 0, .int .i64 0, .int .i64 0, .int .i64 0, .int .i64 0]) (t := 47) ?hr ?_; (case hd | hg => rfl); (case hr => go_simp; try rfl); intro gb151 hg w25 hbox hb; have BK151 := am (hbox); have GW151 := am (gq hg); have GE151 := am (gq hg); replace HB := sb hb; have ⟨NB147_151, NB151_147⟩ := nn hg BK147; replace BK147 := zb BK147 hb; clear hb hbox hg; have hnb26 := NB151_147.out; have hnc26 := NB147_151.out; have ⟨b270, b271, b272, b273, b274, d270, d271, d272, d273, d274⟩ := bc5 BK151))
               have n0_ : Aside0 ((((((w25.setCell ⟨gb151, 0, none⟩ (.int .i64 ((rd_T47 l0_3 x16_1).f0))).setCell ⟨gb151, 1, none⟩ (.int .i64 ((rd_T47 l0_3 x16_1).f1))).setCell ⟨gb151, 2, none⟩ (.int .i64 ((rd_T47 l0_3 x16_1).f2))).setCell ⟨gb151, 3, none⟩ (.int .i64 ((rd_T47 l0_3 x16_1).f3.f0))).setCell ⟨gb151, 4, none⟩ (.int .i64 ((rd_T47 l0_3 x16_1).f3.f1))).heap[gb147]? = some (.cells #[.int .i64 a0_0, .int .i64 a0_1, .slice A0_2 l0_2.length c0_2, .slice (some ad150) l0_3.length c0_3, .slice A0_4 l0_4.length c0_4] 36 (0, 0))) := ⟨zp BK147⟩; have n1_ : Aside0 ((((((w25.setCell ⟨gb151, 0, none⟩ (.int .i64 ((rd_T47 l0_3 x16_1).f0))).setCell ⟨gb151, 1, none⟩ (.int .i64 ((rd_T47 l0_3 x16_1).f1))).setCell ⟨gb151, 2, none⟩ (.int .i64 ((rd_T47 l0_3 x16_1).f2))).setCell ⟨gb151, 3, none⟩ (.int .i64 ((rd_T47 l0_3 x16_1).f3.f0))).setCell ⟨gb151, 4, none⟩ (.int .i64 ((rd_T47 l0_3 x16_1).f3.f1))).heap[gb151]? = some (.cells #[.int .i64 ((rd_T47 l0_3 x16_1).f0), .int .i64 ((rd_T47 l0_3 x16_1).f1), .int .i64 ((rd_T47 l0_3 x16_1).f2), .int .i64 ((rd_T47 l0_3 x16_1).f3.f0), .int .i64 ((rd_T47 l0_3 x16_1).f3.f1)] 47 (0, 0))) := ⟨zp BK151⟩; have n2_ : Aside0 (Below w.heap.size w (((((w25.setCell ⟨gb151, 0, none⟩ (.int .i64 ((rd_T47 l0_3 x16_1).f0))).setCell ⟨gb151, 1, none⟩ (.int .i64 ((rd_T47 l0_3 x16_1).f1))).setCell ⟨gb151, 2, none⟩ (.int .i64 ((rd_T47 l0_3 x16_1).f2))).setCell ⟨gb151, 3, none⟩ (.int .i64 ((rd_T47 l0_3 x16_1).f3.f0))).setCell ⟨gb151, 4, none⟩ (.int .i64 ((rd_T47 l0_3 x16_1).f3.f1)))) := ⟨bq⟩; (try clear BK147); (try clear BK151); (try clear HB); generalize (((((w25.setCell ⟨gb151, 0, none⟩ (.int .i64 ((rd_T47 l0_3 x16_1).f0))).setCell ⟨gb151, 1, none⟩ (.int .i64 ((rd_T47 l0_3 x16_1).f1))).setCell ⟨gb151, 2, none⟩ (.int .i64 ((rd_T47 l0_3 x16_1).f2))).setCell ⟨gb151, 3, none⟩ (.int .i64 ((rd_T47 l0_3 x16_1).f3.f0))).setCell ⟨gb151, 4, none⟩ (.int .i64 ((rd_T47 l0_3 x16_1).f3.f1))) = w28 at n0_ n1_ n2_ ⊢; have BK147 := n0_; have BK151 := n1_; have HB := n2_; clear n0_ n1_ n2_; replace BK147 := am (blk_drew BK147.out); replace BK151 := am (blk_drew BK151.out); replace HB := am (below_drew1 HB.out); refine start_ (n := 18) (S := fun w' => w'.cell? ⟨gb151, 0, none⟩ = some (.int .i64 ((rd_T47 l0_3 x16_1).f0)) ∧ w'.cell? ⟨gb151, 1, none⟩ = some (.int .i64 ((rd_T47 l0_3 x16_1).f1)) ∧ w'.cell? ⟨gb151, 2, none⟩ = some (.int .i64 ((rd_T47 l0_3 x16_1).f2)) ∧ w'.cell? ⟨gb151, 3, none⟩ = some (.int .i64 ((rd_T47 l0_3 x16_1).f3.f0)) ∧ w'.cell? ⟨gb151, 4, none⟩ = some (.int .i64 ((rd_T47 l0_3 x16_1).f3.f1))) (ds := []) #[O, O, O, O, O, O, O, O, O, O, O, O, O, O, O, O, O, O] (by kernel_rfl) rfl rfl cl (fun hHeld => ?_); refine with_tabW spec_SessionText.tab10 spec_SessionText.bits10 (fun HT_ HW_ => ?_); generalize w28.drew = w29 at BK147 BK151 HB hHeld ⊢; refine pu_ 0 (some 26) ?_ #[I, O, O, O, O, O, O, O, O, O, O, O, O, O, O, O, O, O] rfl rfl (any_of HT_.out (by kernel_rfl)) (.inl ⟨by rfl, ?_⟩) ?_ ?_ ?_; rotate_left; (intro w'; go_simp; with_reducible rfl); rotate_left; (simp only [pw]; rfl); refine pu_ 1 (some 27) ?_ #[I, I, O, O, O, O, O, O, O, O, O, O, O, O, O, O, O, O] rfl rfl (any_of HT_.out (by kernel_rfl)) (.inl ⟨by rfl, ?_⟩) ?_ ?_ ?_; rotate_left; (intro w'; go_simp; with_reducible rfl); rotate_left; (simp only [pw]; rfl); refine pu_ 6 (some 32) ?_ #[I, I, O, O, O, O, I, O, O, O, O, O, O, O, O, O, O, O] rfl rfl (any_of HT_.out (by kernel_rfl)) (.inl ⟨by rfl, ?_⟩) ?_ ?_ ?_; rotate_left; (intro w'; go_simp; with_reducible rfl); rotate_left; (simp only [pw]; rfl); refine pu_ 11 (some 37) ?_ #[I, I, O, O, O, O, I, O, O, O, O, I, O, O, O, O, O, O] rfl rfl (any_of HT_.out (by kernel_rfl)) (.inl ⟨by rfl, ?_⟩) ?_ ?_ ?_; rotate_left; (intro w'; go_simp; with_reducible rfl); rotate_left; (simp only [pw]; rfl); refine tk_ 2 (some 28) ?_ #[I, I, I, O, O, O, I, O, O, O, O, I, O, O, O, O, O, O] rfl rfl (take_ofW HT_.out HW_.out (by kernel_rfl)) (.inl ⟨by rfl, ?_⟩) hHeld ?_ ?_ ?_; rotate_left; (rintro w' ⟨s0, s1, s2, s3, s4⟩; go_simp; with_reducible rfl); rotate_left; (simp only [pw]; rfl); refine tk_ 7 (some 33) ?_ #[I, I, I, O, O, O, I, I, O, O, O, I, O, O, O, O, O, O] rfl rfl (take_ofW HT_.out HW_.out (by kernel_rfl)) (.inl ⟨by rfl, ?_⟩) hHeld ?_ ?_ ?_; rotate_left; (rintro w' ⟨s0, s1, s2, s3, s4⟩; go_simp; with_reducible rfl); rotate_left; (simp only [pw]; rfl); refine tk_ 12 (some 38) ?_ #[I, I, I, O, O, O, I, I, O, O, O, I, I, O, O, O, O, O] rfl rfl (take_ofW HT_.out HW_.out (by kernel_rfl)) (.inl ⟨by rfl, ?_⟩) hHeld ?_ ?_ ?_; rotate_left; (rintro w' ⟨s0, s1, s2, s3, s4⟩; go_simp; with_reducible rfl); rotate_left; (simp only [pw]; rfl); refine one_ (i := 3) (N := some 29) #[I, I, I, I, O, O, I, I, O, O, O, I, I, O, O, O, O, O] rfl rfl (one_of HT_.out (by kernel_rfl)) (by decide) (fun K hK => ?_); refine goes_ Tryd.func13 (by kernel_rfl) rfl #[.int .i64 ((rd_T47 l0_3 x16_1).f1)] (by rfl) rfl rfl mq ?_; with_reducible refine (spec_l1Num.calls k1 ((rd_T47 l0_3 x16_1).f1) t152 _ A15.out).mono ?_
               rintro e w30 ⟨rfl, hb⟩; refine ⟨_, rfl, ?_⟩; replace BK147 := zb BK147 hb; replace BK151 := zb BK151 hb; replace HB := sb hb; (try clear hb); refine hK.out _ _ cl (fun hHeld => ?_); clear hK K; refine norm_ (a' := ?_) ?_ ?_; rotate_left
               ·show Act.put _ (some 29) _ = _
                simp only [pw]; rfl
               refine pu_ 4 (some 30) ?_ #[I, I, I, I, I, O, I, I, O, O, O, I, I, O, O, O, O, O] rfl rfl (any_of HT_.out (by kernel_rfl)) (.inl ⟨by rfl, ?_⟩) ?_ ?_ ?_; rotate_left; (intro w'; go_simp; with_reducible rfl); rotate_left; (simp only [pw]; rfl); refine pu_ 5 (some 31) ?_ #[I, I, I, I, I, I, I, I, O, O, O, I, I, O, O, O, O, O] rfl rfl (any_of HT_.out (by kernel_rfl)) (.inl ⟨by rfl, ?_⟩) ?_ ?_ ?_; rotate_left; (intro w'; go_simp; with_reducible rfl); rotate_left; (simp only [pw]; rfl); refine one_ (i := 8) (N := some 34) #[I, I, I, I, I, I, I, I, I, O, O, I, I, O, O, O, O, O] rfl rfl (one_of HT_.out (by kernel_rfl)) (by decide) (fun K hK => ?_); refine goes_ Tryd.func13 (by kernel_rfl) rfl #[.int .i64 ((rd_T47 l0_3 x16_1).f2)] (by rfl) rfl rfl mq ?_; with_reducible refine (spec_l1Num.calls k1 ((rd_T47 l0_3 x16_1).f2) t153 _ A18.out).mono ?_
               rintro e w31 ⟨rfl, hb⟩; refine ⟨_, rfl, ?_⟩; replace BK147 := zb BK147 hb; replace BK151 := zb BK151 hb; replace HB := sb hb; (try clear hb); refine hK.out _ _ cl (fun hHeld => ?_); clear hK K; refine norm_ (a' := ?_) ?_ ?_; rotate_left
               ·show Act.put _ (some 34) _ = _
                simp only [pw]; rfl
               refine pu_ 9 (some 35) ?_ #[I, I, I, I, I, I, I, I, I, I, O, I, I, O, O, O, O, O] rfl rfl (any_of HT_.out (by kernel_rfl)) (.inl ⟨by rfl, ?_⟩) ?_ ?_ ?_; rotate_left; (intro w'; go_simp; with_reducible rfl); rotate_left; (simp only [pw]; rfl); refine pu_ 10 (some 36) ?_ #[I, I, I, I, I, I, I, I, I, I, I, I, I, O, O, O, O, O] rfl rfl (any_of HT_.out (by kernel_rfl)) (.inl ⟨by rfl, ?_⟩) ?_ ?_ ?_; rotate_left; (intro w'; go_simp; with_reducible rfl); rotate_left; (simp only [pw]; rfl); refine one_ (i := 13) (N := some 39) #[I, I, I, I, I, I, I, I, I, I, I, I, I, I, O, O, O, O] rfl rfl (one_of HT_.out (by kernel_rfl)) (by decide) (fun K hK => ?_); refine goes_ Tryd.func14 (by kernel_rfl) rfl #[.agg #[.int .i64 ((rd_T47 l0_3 x16_1).f3.f0), .int .i64 ((rd_T47 l0_3 x16_1).f3.f1)]] (by rfl) rfl rfl mq ?_; with_reducible refine (spec_paLetter.calls ((rd_T47 l0_3 x16_1).f3.f0) ((rd_T47 l0_3 x16_1).f3.f1) t154 _ A21.out).mono ?_
               rintro e w32 ⟨rfl, hb⟩; refine ⟨_, rfl, ?_⟩; replace BK147 := zb BK147 hb; replace BK151 := zb BK151 hb; replace HB := sb hb; (try clear hb); refine hK.out _ _ cl (fun hHeld => ?_); clear hK K; refine norm_ (a' := ?_) ?_ ?_; rotate_left
               ·show Act.put _ (some 39) _ = _
                simp only [pw]; rfl
               refine pu_ 14 (some 40) ?_ #[I, I, I, I, I, I, I, I, I, I, I, I, I, I, I, O, O, O] rfl rfl (any_of HT_.out (by kernel_rfl)) (.inl ⟨by rfl, ?_⟩) ?_ ?_ ?_; rotate_left; (intro w'; go_simp; with_reducible rfl); rotate_left; (simp only [pw]; rfl); refine pu_ 15 (some 41) ?_ #[I, I, I, I, I, I, I, I, I, I, I, I, I, I, I, I, O, O] rfl rfl (any_of HT_.out (by kernel_rfl)) (.inl ⟨by rfl, ?_⟩) ?_ ?_ ?_; rotate_left; (intro w'; go_simp; with_reducible rfl); rotate_left; (simp only [pw]; rfl); refine pu_ 16 (some 42) ?_ #[I, I, I, I, I, I, I, I, I, I, I, I, I, I, I, I, I, O] rfl rfl (any_of HT_.out (by kernel_rfl)) (.inl ⟨by rfl, ?_⟩) ?_ ?_ ?_; rotate_left; (intro w'; go_simp; with_reducible rfl); rotate_left; (simp only [pw]; rfl); refine pu_ 17 (some 4) ?_ #[I, I, I, I, I, I, I, I, I, I, I, I, I, I, I, I, I, I] rfl rfl (any_of HT_.out (by kernel_rfl)) (.inl ⟨by rfl, ?_⟩) ?_ ?_ ?_; rotate_left; (intro w'; go_simp; with_reducible rfl); rotate_left; (simp only [pw]; rfl); refine done_ (done_of HT_.out (by kernel_rfl)) ?_; try go_wp2
               go_roundg k1
               case measure => have := HK1.out; omega
               case rel => exact ⟨(x4_1 ++ (((((((⟨#[112, 117, 116, 32]⟩ : ByteArray) ++ t152) ++ (⟨#[32]⟩ : ByteArray)) ++ t153) ++ (⟨#[32]⟩ : ByteArray)) ++ t154) ++ (⟨#[10]⟩ : ByteArray))), (wrap64 (x16_1 + 1)), sq, sq, H', ⟨by have := HK1.out; omega⟩, ⟨zq BK147⟩, ⟨bq⟩⟩
              rw [if_neg c24] at H; exact absurd H (by simp)
             rw [if_neg c23] at H; exact absurd H (by simp)
            rw [if_neg c22] at H; exact absurd H (by simp)
           rw [if_neg c20] at H; exact absurd H (by simp)
          rw [if_neg c19] at H; exact absurd H (by simp)
         rw [if_neg c17] at H; exact absurd H (by simp)
        rw [if_neg c16] at H; exact absurd H (by simp)
       rw [if_neg c14] at H; have c14b0 : (((rd_T47 l0_3 x16_1).f0) == 1) = false := beq_eq_false_iff_ne.mpr c14; have c14b1 : (((rd_T47 l0_3 x16_1).f0) != 1) = true := bne_iff_ne.mpr c14; by_cases c33 : ((rd_T47 l0_3 x16_1).f0) = 2
       ·rw [if_pos c33] at H; have c33b0 : (((rd_T47 l0_3 x16_1).f0) == 2) = true := beq_iff_eq.mpr c33; have c33b1 : (((rd_T47 l0_3 x16_1).f0) != 2) = false := bne_eq_false_iff_eq.mpr c33; clear c33; obtain ⟨t155, A34, H⟩ := bindq H; try dsimp only at H
        by_cases c35 : 7 + t155.size ≤ 9223372036854775807
        ·rw [if_pos c35] at H; have c35b0 := eq_true c35; have c35b1 : decide (7 + t155.size ≤ 9223372036854775807) = true := decide_eq_true c35; try have c35b2 : (9223372036854775807 < 7 + t155.size) = False := eq_false (Nat.not_lt.2 c35)
         by_cases c36 : ((⟨#[109, 97, 114, 98, 108, 101, 32]⟩ : ByteArray) ++ t155).size + 1 ≤ 9223372036854775807
         ·rw [if_pos c36] at H; have c36b0 := eq_true c36; have c36b1 : decide (((⟨#[109, 97, 114, 98, 108, 101, 32]⟩ : ByteArray) ++ t155).size + 1 ≤ 9223372036854775807) = true := decide_eq_true c36; try have c36b2 : (9223372036854775807 < ((⟨#[109, 97, 114, 98, 108, 101, 32]⟩ : ByteArray) ++ t155).size + 1) = False := eq_false (Nat.not_lt.2 c36)
          have c36b9 : (9223372036854775807 < 7 + t155.size + 1) = False := eq_false (Nat.not_lt.2 (by have h_ := c36; simp only [ByteArray.size_append] at h_; exact h_)); by_cases c37 : x4_1.size + (((⟨#[109, 97, 114, 98, 108, 101, 32]⟩ : ByteArray) ++ t155) ++ (⟨#[10]⟩ : ByteArray)).size ≤ 9223372036854775807
          ·rw [if_pos c37] at H; have c37b0 := eq_true c37; have c37b1 : decide (x4_1.size + (((⟨#[109, 97, 114, 98, 108, 101, 32]⟩ : ByteArray) ++ t155) ++ (⟨#[10]⟩ : ByteArray)).size ≤ 9223372036854775807) = true := decide_eq_true c37; try have c37b2 : (9223372036854775807 < x4_1.size + (((⟨#[109, 97, 114, 98, 108, 101, 32]⟩ : ByteArray) ++ t155) ++ (⟨#[10]⟩ : ByteArray)).size) = False := eq_false (Nat.not_lt.2 c37)
           have c37b9 : (9223372036854775807 < x4_1.size + (7 + t155.size + 1)) = False := eq_false (Nat.not_lt.2 (by have h_ := c37; simp only [ByteArray.size_append] at h_; exact h_)); have H' := am H; clear H; have p150 : 0 ≤ (x16_1 : Int) := of_decide_eq_true aq; have q150 : x16_1 < (l0_3.length : Int) := of_decide_eq_true aq; obtain ⟨ad150, e150, hx150_0, hx150_1, hx150_2, hx150_3, hx150_4⟩ := at_T47 HR0_3.out x16_1 p150 q150
           cases e150
           replace hx150_0 := (HB.out.cell (World.block_lt_of_cell? w _ hx150_0)).trans hx150_0; replace hx150_1 := (HB.out.cell (World.block_lt_of_cell? w _ hx150_1)).trans hx150_1; replace hx150_2 := (HB.out.cell (World.block_lt_of_cell? w _ hx150_2)).trans hx150_2; replace hx150_3 := (HB.out.cell (World.block_lt_of_cell? w _ hx150_3)).trans hx150_3; replace hx150_4 := (HB.out.cell (World.block_lt_of_cell? w _ hx150_4)).trans hx150_4; replace p150 := eq_true p150; replace q150 := eq_true q150; go_wp2_with (first | ((with_reducible refine gate_dst (N := 6) rfl ?_); refine box_event ?hg (N := 6) ?hd (cs := #[.int .i64 0, .int .i64 0, .int .i64 0, .int .i64 0, .int .i64 0]) (t := 47) ?hr ?_; (case hd | hg => rfl); (case hr => go_simp; try rfl); intro gb151 hg w38 hbox hb; have BK151 := am (hbox); have GW151 := am (gq hg); have GE151 := am (gq hg); replace HB := sb hb; have ⟨NB147_151, NB151_147⟩ := nn hg BK147; replace BK147 := zb BK147 hb; clear hb hbox hg; have hnb39 := NB151_147.out; have hnc39 := NB147_151.out; have ⟨b400, b401, b402, b403, b404, d400, d401, d402, d403, d404⟩ := bc5 BK151) | ((with_reducible refine gate_callee (f := 13) rfl ?_); refine goesL_ (some 48) rfl rfl Tryd.func13 (by kernel_rfl) rfl #[.int .i64 ((rd_T47 l0_3 x16_1).f2)] rfl mq ?_; (with_reducible refine (spec_l1Num.calls k1 ((rd_T47 l0_3 x16_1).f2) t155 _ A34.out).mono ?_); rintro e w41 ⟨rfl, hb⟩; refine ⟨_, rfl, ?_⟩; replace BK147 := zw (.cells #[.int .i64 a0_0, .int .i64 a0_1, .slice A0_2 l0_2.length c0_2, .slice (some ad150) l0_3.length c0_3, .slice A0_4 l0_4.length c0_4] 36 (0, 0)) BK147 hb; replace BK151 := zw (.cells #[.int .i64 ((rd_T47 l0_3 x16_1).f0), .int .i64 ((rd_T47 l0_3 x16_1).f1), .int .i64 ((rd_T47 l0_3 x16_1).f2), .int .i64 ((rd_T47 l0_3 x16_1).f3.f0), .int .i64 ((rd_T47 l0_3 x16_1).f3.f1)] 47 (0, 0)) BK151 hb; replace HB := sb hb; (try clear hb)))
           go_roundg k1
           case measure => have := HK1.out; omega
           case rel => exact ⟨(x4_1 ++ (((⟨#[109, 97, 114, 98, 108, 101, 32]⟩ : ByteArray) ++ t155) ++ (⟨#[10]⟩ : ByteArray))), (wrap64 (x16_1 + 1)), sq, sq, H', ⟨by have := HK1.out; omega⟩, ⟨zq BK147⟩, ⟨bq⟩⟩
          rw [if_neg c37] at H; exact absurd H (by simp)
         rw [if_neg c36] at H; exact absurd H (by simp)
        rw [if_neg c35] at H; exact absurd H (by simp)
       rw [if_neg c33] at H; have c33b0 : (((rd_T47 l0_3 x16_1).f0) == 2) = false := beq_eq_false_iff_ne.mpr c33; have c33b1 : (((rd_T47 l0_3 x16_1).f0) != 2) = true := bne_iff_ne.mpr c33; by_cases c42 : x4_1.size + 6 ≤ 9223372036854775807
       ·rw [if_pos c42] at H; have c42b0 := eq_true c42; have c42b1 : decide (x4_1.size + 6 ≤ 9223372036854775807) = true := decide_eq_true c42; try have c42b2 : (9223372036854775807 < x4_1.size + 6) = False := eq_false (Nat.not_lt.2 c42)
        have H' := am H; clear H; have p150 : 0 ≤ (x16_1 : Int) := of_decide_eq_true aq; have q150 : x16_1 < (l0_3.length : Int) := of_decide_eq_true aq; obtain ⟨ad150, e150, hx150_0, hx150_1, hx150_2, hx150_3, hx150_4⟩ := at_T47 HR0_3.out x16_1 p150 q150
        cases e150
        replace hx150_0 := (HB.out.cell (World.block_lt_of_cell? w _ hx150_0)).trans hx150_0; replace hx150_1 := (HB.out.cell (World.block_lt_of_cell? w _ hx150_1)).trans hx150_1; replace hx150_2 := (HB.out.cell (World.block_lt_of_cell? w _ hx150_2)).trans hx150_2; replace hx150_3 := (HB.out.cell (World.block_lt_of_cell? w _ hx150_3)).trans hx150_3; replace hx150_4 := (HB.out.cell (World.block_lt_of_cell? w _ hx150_4)).trans hx150_4; replace p150 := eq_true p150; replace q150 := eq_true q150; go_wp2_with (first | ((with_reducible refine gate_dst (N := 6) rfl ?_); refine box_event ?hg (N := 6) ?hd (cs := #[.int .i64 0, .int .i64 0, .int .i64 0, .int .i64 0, .int .i64 0]) (t := 47) ?hr ?_; (case hd | hg => rfl); (case hr => go_simp; try rfl); intro gb151 hg w43 hbox hb; have BK151 := am (hbox); have GW151 := am (gq hg); have GE151 := am (gq hg); replace HB := sb hb; have ⟨NB147_151, NB151_147⟩ := nn hg BK147; replace BK147 := zb BK147 hb; clear hb hbox hg; have hnb44 := NB151_147.out; have hnc44 := NB147_151.out; have ⟨b450, b451, b452, b453, b454, d450, d451, d452, d453, d454⟩ := bc5 BK151))
        go_roundg k1
        case measure => have := HK1.out; omega
        case rel => exact ⟨(x4_1 ++ (⟨#[114, 101, 115, 101, 116, 10]⟩ : ByteArray)), (wrap64 (x16_1 + 1)), sq, sq, H', ⟨by have := HK1.out; omega⟩, ⟨zp BK147⟩, ⟨bq⟩⟩
       rw [if_neg c42] at H; exact absurd H (by simp)
      rw [if_neg c13] at H; exact absurd H (by simp)
     rw [if_neg c12] at H; exact absurd H (by simp)
    rw [if_neg c11] at H; have c11b0 : decide (x16_1 < (l0_3.length : Int)) = false := decide_eq_false c11; clear c11; simp only [Option.some.injEq, Prod.mk.injEq] at H; obtain ⟨rfl, rfl⟩ := H
    go_wp2
    go_ret2
    exact ⟨eq_, bq⟩
 replace c3 := Bool.eq_false_iff.mpr c3; subst c3; rw [if_neg (show ¬ (false = true) by decide)] at H; try dsimp only at H
 simp only [Option.some.injEq, Prod.mk.injEq] at H; obtain ⟨rfl, rfl⟩ := H
 go_enter Tryd.func5, Tryd.ntmps5
 go_wp2_with (first | ((with_reducible refine gate_dst (N := 1) rfl ?_); refine box_event ?hg (N := 1) ?hd (cs := #[.int .i64 a0_0, .int .i64 a0_1, .slice A0_2 l0_2.length c0_2, .slice A0_3 l0_3.length c0_3, .slice A0_4 l0_4.length c0_4]) (t := 36) ?hr ?_; (case hd | hg => rfl); (case hr => go_simp; try rfl); intro gb147 hg w46 hbox hb; have BK147 := am (hbox); have GW147 := am (gq hg); have GE147 := am (gq hg); replace HB := sb hb; clear hb hbox hg; have ⟨b470, b471, b472, b473, b474, d470, d471, d472, d473, d474⟩ := bc5 BK147) | ((with_reducible refine gate_callee (f := 11) rfl ?_); refine goesL_ (some 8) rfl rfl Tryd.func11 (by kernel_rfl) rfl #[.agg #[.int .i64 a0_0, .int .i64 a0_1, .slice A0_2 l0_2.length c0_2, .slice A0_3 l0_3.length c0_3, .slice A0_4 l0_4.length c0_4]] rfl mq ?_; (with_reducible refine (spec_seGood.calls k a0_0 a0_1 _ _ l0_2 _ _ l0_3 _ _ l0_4 false _ ?s1 ?s2 ?s3 ?s4 ?s5 ?s6 A2.out).mono ?_); (case s1 => exact cq (Kd.C_below HR0_2.out HB.out)); (case s2 => exact HC0_2.out); (case s3 => exact cq (Kd.C_below HR0_3.out HB.out)); (case s4 => exact HC0_3.out); (case s5 => exact cq (Kd.C_below HR0_4.out HB.out)); (case s6 => exact HC0_4.out); rintro e w48 ⟨rfl, hb⟩; refine ⟨_, rfl, ?_⟩; replace BK147 := zb BK147 hb; replace HB := sb hb; (try clear hb)))
 go_ret2
 exact ⟨eq_, bq⟩


def laws_toCell.f (a0_0 : Int) (a0_1 : Int) : Option (Int × Int) := some (a0_0, a0_1)
theorem laws_toCell.calls (a0_0 : Int) (a0_1 : Int) (r1 : Int) (r2 : Int) (w : World) (h : laws_toCell.f a0_0 a0_1 = some (r1, r2)) :
  Calls Tryd.prog 41 #[.agg #[.int .i64 a0_0, .int .i64 a0_1]] w fun e w' => e = .returned (.agg #[.int .i64 r1, .int .i64 r2]) ∧ Below w.heap.size w w' := by
 have hu66 := Tryd.underlying66; have hu45 := Tryd.underlying45; have HB := am (Below.refl w.heap.size w); have H := h; clear h
 unfold laws_toCell.f at H
 simp only [Option.some.injEq, Prod.mk.injEq] at H; obtain ⟨rfl, rfl⟩ := H
 go_enter Tryd.func41, Tryd.ntmps41
 go_wp2_with (first | ((with_reducible refine gate_dst (N := 1) rfl ?_); refine box_event ?hg (N := 1) ?hd (cs := #[.int .i64 a0_0, .int .i64 a0_1]) (t := 66) ?hr ?_; (case hd | hg => rfl); (case hr => go_simp; try rfl); intro gb156 hg w2 hbox hb; have BK156 := am (hbox); have GW156 := am (gq hg); have GE156 := am (gq hg); replace HB := sb hb; clear hb hbox hg) | ((with_reducible refine gate_dst (N := 2) rfl ?_); refine box_event ?hg (N := 2) ?hd (cs := #[.int .i64 0, .int .i64 0]) (t := 45) ?hr ?_; (case hd | hg => rfl); (case hr => go_simp; try rfl); intro gb157 hg w3 hbox hb; have BK157 := am (hbox); have GW157 := am (gq hg); have GE157 := am (gq hg); replace HB := sb hb; have ⟨NB156_157, NB157_156⟩ := nn hg BK156; replace BK156 := zb BK156 hb; clear hb hbox hg) | ((with_reducible refine gate_dst (N := 3) rfl ?_); refine box_event ?hg (N := 3) ?hd (cs := #[.int .i64 0, .int .i64 0]) (t := 45) ?hr ?_; (case hd | hg => rfl); (case hr => go_simp; try rfl); intro gb158 hg w4 hbox hb; have BK158 := am (hbox); have GW158 := am (gq hg); have GE158 := am (gq hg); replace HB := sb hb; have ⟨NB156_158, NB158_156⟩ := nn hg BK156; replace BK156 := zb BK156 hb; have ⟨NB157_158, NB158_157⟩ := nn hg BK157; replace BK157 := zb BK157 hb; clear hb hbox hg; have hnb5 := NB156_157.out; have hnc5 := NB157_156.out; have hnb6 := NB156_158.out; have hnc6 := NB158_156.out; have ⟨b70, b71, d70, d71⟩ := bc2 BK156; have hnb8 := NB158_157.out; have hnc8 := NB157_158.out; have ⟨b90, b91, d90, d91⟩ := bc2 BK158; have ⟨b100, b101, d100, d101⟩ := bc2 BK157))
 refine bodyPost_ret (results_cell_row rfl _ _ gb157 45 #[.int .i64 a0_0, .int .i64 a0_1] (0, 0) _ rfl (zp BK157) Tryd.underlying45 rfl (by kernel_rfl)) rfl ?_; exact ⟨eq_, bq⟩


def laws_toCellS.l0 : Nat → List (S66) → List (S45) → Int → Option ((List (S45)))
 | 0, _, _, _ => none
 | k + 1, x0, x3, x4 => if x4 < (x0.length : Int) then (if 0 ≤ x4 then ((laws_toCell.f ((rd_T66 x0 x4).f0) ((rd_T66 x0 x4).f1)).bind fun bt163 => (if x4 < (x3.length : Int) then (laws_toCellS.l0 k x0 (x3.set (x4 : Int).toNat (⟨bt163.1, bt163.2⟩ : S45)) (wrap64 (x4 + 1))) else (none))) else (none)) else (some x3)
def laws_toCellS.f (k : Nat) (l0 : List (S66)) : Option ((List (S45))) := if 0 ≤ (l0.length : Int) then (if ((l0.length : Int) : Int).toNat ≤ 17592186044416 then (laws_toCellS.l0 k l0 (List.replicate ((l0.length : Int) : Int).toNat z45) 0) else (none)) else (none)
theorem laws_toCellS.calls (k : Nat) (A0 : Option Addr) (c0 : Nat) (l0 : List (S66)) (r : List (S45)) (w : World) (hr0 : Kd.C k66 w A0 l0.length l0) (hc0 : l0.length ≤ c0) (h : laws_toCellS.f k l0 = some r) :
  Calls Tryd.prog 28 #[.slice A0 l0.length c0] w fun e w' => ∃ v0_ : Value, e = .returned (v0_) ∧ Kd.R k45 45 w' w.heap.size (fun _ => True) v0_ r ∧ Below w.heap.size w w' := by
 have hu66 := Tryd.underlying66; have hu45 := Tryd.underlying45; have HR0 := am hr0; have HC0 := am hc0; clear hr0 hc0; have HB := am (Below.refl w.heap.size w); have H := h; clear h
 unfold laws_toCellS.f at H
 by_cases c2 : 0 ≤ (l0.length : Int)
 ·rw [if_pos c2] at H; have c2b0 := eq_true c2; have c2b1 : decide (0 ≤ (l0.length : Int)) = true := decide_eq_true c2; clear c2; by_cases c3 : ((l0.length : Int) : Int).toNat ≤ 17592186044416
  ·rw [if_pos c3] at H; have c3b0 := eq_true c3; have c3b1 : decide (((l0.length : Int) : Int).toNat ≤ 17592186044416) = true := decide_eq_true c3; clear c3; obtain ⟨y159, hy159⟩ : ∃ y_ : List (S45), y_ = (List.replicate ((l0.length : Int) : Int).toNat z45) := ⟨_, rfl⟩; replace H : (laws_toCellS.l0 k l0 y159 0) = some r := yq hy159 H; have Ny159 := am hy159; clear hy159; have H' := am H; clear H
   go_enter Tryd.func28, Tryd.ntmps28
   go_wp2_with (first | ((with_reducible refine gate_dst (N := 7) rfl ?_); refine Kd.R_make k45 _ 45 rfl (N := 7) rfl 31 _ _ rfl (l0.length : Int) rfl rfl Tryd.underlying31 (.agg #[(.int .i64 0), (.int .i64 0)]) 16 info45 rfl (by decide) (by omega) z45 (ok := fun _ => True) (okp := fun _ => True) (k45_mkM _ _ _ z45 ) (fun _ hk => hk) trivial (of_decide_eq_true aq) (Nat.le_trans (Nat.mul_le_mul_right _ (of_decide_eq_true aq : (l0.length : Int).toNat ≤ 17592186044416)) (by omega)) (Below.refl _ _) (Nat.le_refl _) ?_; intro v160 w4 ho5 hb hg_ hnew_; clear hg_ hnew_; (first | rw [← Ny159.out] at ho5 | (simp only [Int.reduceToNat] at ho5; rw [← Ny159.out] at ho5)); have HO161 := rl ho5; replace HB := sb hb; clear hb ho5))
   go_loopg [4] k (fun kq v4 w' => ∃ (x3_1 : List (S45)) (x4_1 : Int), v4 = .int .i64 x4_1 ∧ Aside0 (laws_toCellS.l0 kq l0 x3_1 x4_1 = some r) ∧ Aside0 (kq ≤ k) ∧ Aside0 (Kd.R k45 45 w' w.heap.size (fun _ => True) v160 x3_1) ∧ Aside0 (Below w.heap.size w w'))
   case atStart => exact ⟨(y159), (0), sq, H', ⟨Nat.le_refl _⟩, ⟨rq HO161⟩, ⟨bq⟩⟩
   case round =>
    clear H'; try clear c2b0
    try clear c2b1
    try clear c3b0
    try clear c3b1
    obtain ⟨x3_1, x4_1, rfl, HA, HK1, HO_3, HB⟩ := hrel
    cases gk with
    | zero => exact absurd HA.out (by simp [laws_toCellS.l0])
    | succ k1 =>
     have H := HA.out; clear HA; simp only [laws_toCellS.l0] at H; by_cases c6 : x4_1 < (l0.length : Int)
     ·rw [if_pos c6] at H; have c6b0 : decide (x4_1 < (l0.length : Int)) = true := decide_eq_true c6; clear c6; by_cases c7 : 0 ≤ x4_1
      ·rw [if_pos c7] at H; have c7b0 : decide (0 ≤ x4_1) = true := decide_eq_true c7; clear c7; obtain ⟨⟨t163, t164⟩, A8, H⟩ := bindq H; try dsimp only at H
       by_cases c9 : x4_1 < (x3_1.length : Int)
       ·rw [if_pos c9] at H; have c9b0 : decide (x4_1 < (x3_1.length : Int)) = true := decide_eq_true c9; clear c9; obtain ⟨y165, hy165⟩ : ∃ y_ : List (S45), y_ = (x3_1.set (x4_1 : Int).toNat (⟨t163, t164⟩ : S45)) := ⟨_, rfl⟩; replace H : (laws_toCellS.l0 k1 l0 y165 (wrap64 (x4_1 + 1))) = some r := yq hy165 H; have Ny165 := am hy165; clear hy165; have H' := am H; clear H; have p162 : 0 ≤ (x4_1 : Int) := of_decide_eq_true aq; have q162 : x4_1 < (l0.length : Int) := of_decide_eq_true aq; obtain ⟨ad162, e162, hx162_0, hx162_1⟩ := at_T66 HR0.out x4_1 p162 q162
        cases e162
        replace hx162_0 := (HB.out.cell (World.block_lt_of_cell? w _ hx162_0)).trans hx162_0; replace hx162_1 := (HB.out.cell (World.block_lt_of_cell? w _ hx162_1)).trans hx162_1; replace p162 := eq_true p162; replace q162 := eq_true q162; go_wp2_with (first | ((with_reducible refine gate_callee (f := 41) rfl ?_); refine goesL_ (some 20) rfl rfl Tryd.func41 (by kernel_rfl) rfl #[.agg #[.int .i64 ((rd_T66 l0 x4_1).f0), .int .i64 ((rd_T66 l0 x4_1).f1)]] rfl mq ?_; (with_reducible refine (laws_toCell.calls ((rd_T66 l0 x4_1).f0) ((rd_T66 l0 x4_1).f1) t163 t164 _ A8.out).mono ?_); rintro e w11 ⟨rfl, hb⟩; refine ⟨_, rfl, ?_⟩; replace HO_3 := rb HO_3 hb; replace HB := sb hb; (try clear hb); have p10 : 0 ≤ (x4_1 : Int) := of_decide_eq_true aq; have q10 : (x4_1 : Int) < ((x3_1.length : Int) : Int) := of_decide_eq_true aq; obtain ⟨go10, co10, eo10, gb10, gl10, cl10, HG10⟩ := Kd.R_form HO_3.out (by omega); (first | cases eo10 | (injection eo10 with ea_ en_ ec_; (first | subst ea_ | (injection ea_ with ea_; subst ea_)); subst ec_; clear en_)); have GB10 := am gb10; have GG10 := am HG10; clear gb10 gl10 HG10; obtain ⟨ce10, hcl10, hM10, hcc10, hfr10⟩ := Kd.R_elem HO_3.out z45 (x4_1 : Int) p10 q10; obtain rfl := k45_openM hM10; have hx10_0 : w11.cell? ⟨go10, (x4_1 : Int).toNat * 2, none⟩ = some (.int .i64 ((rd_T45 x3_1 x4_1).f0)) := hcc10 0 _ rfl; have hx10_1 : w11.cell? ⟨go10, (x4_1 : Int).toNat * 2 + 1, none⟩ = some (.int .i64 ((rd_T45 x3_1 x4_1).f1)) := hcc10 1 _ rfl; have hf10_0 : w11.frozen? ⟨go10, (x4_1 : Int).toNat * 2, none⟩ = false := hfr10 0; have hf10_1 : w11.frozen? ⟨go10, (x4_1 : Int).toNat * 2 + 1, none⟩ = false := hfr10 1; skip; replace p10 := eq_true p10; replace q10 := eq_true q10; have HX12 := am (show Kd.R k45 45 w11 w.heap.size (fun _ => True) (.slice (some ⟨go10, 0, none⟩) x3_1.length co10) x3_1 from (rq HO_3)); obtain ⟨ce12, hcl12, hM12, hcc12, hfr12⟩ := Kd.R_elem HX12.out z45 (x4_1 : Int) (of_decide_eq_true aq) (by have h_ : (x4_1 : Int) < ((x3_1.length : Int) : Int) := of_decide_eq_true aq; first | exact h_ | (have e_ := (Kd.R_reads' HO_3.out).1; omega) | simpa using h_); obtain rfl := k45_openM hM12; have HP12 := Kd.R_seg HX12.out (x4_1 : Int) (of_decide_eq_true aq) (by have h_ : (x4_1 : Int) < ((x3_1.length : Int) : Int) := of_decide_eq_true aq; first | exact h_ | (have e_ := (Kd.R_reads' HO_3.out).1; omega) | simpa using h_) (seg := [.int .i64 t163, .int .i64 t164]) (j := 0) hcl12 hcc12 (show 2 ≤ 2 from by decide) (x' := (⟨t163, t164⟩ : S45)) (k45_mkM _ _ _ (⟨t163, t164⟩ : S45) ) (fun _ hk => hk); have hx12_0 := hcc12 0 _ rfl; (try simp only [show (k45).sz = 2 from rfl, Nat.mul_one, Nat.add_zero] at hx12_0); have hf12_0 := hfr12 0; (try simp only [show (k45).sz = 2 from rfl, Nat.mul_one, Nat.add_zero] at hf12_0); have hx12_1 := hcc12 1 _ rfl; (try simp only [show (k45).sz = 2 from rfl, Nat.mul_one, Nat.add_zero] at hx12_1); have hf12_1 := hfr12 1; (try simp only [show (k45).sz = 2 from rfl, Nat.mul_one, Nat.add_zero] at hf12_1); skip) | ((with_reducible refine gate_store (t := 45) (p := 21) rfl ?_); refine store_event (t := 45) (p := 21) (v := ?vo_w13) (w1 := ((w11.setCell ⟨go10, (x4_1 : Int).toNat * 2, none⟩ (.int .i64 t163)).setCell ⟨go10, (x4_1 : Int).toNat * 2 + 1, none⟩ (.int .i64 t164))) ?hg ?ho ?hn ?hr ?_; (case ho => rfl); (case hg => rfl); (case hn => rfl); (case hr => go_simp; try rfl); intro w13 hw; have hg : w11.grownBy w13 (some go10) := (by rw [hw]; exact HP12.2); have hp_ : Kd.R k45 45 w13 w.heap.size (fun _ => True) (.slice (some ⟨go10, 0, none⟩) x3_1.length co10) y165 := (by rw [hw, Ny165.out]; exact HP12.1); clear HP12; replace HO_3 := am (hp_); replace HB := am ((by rw [hw]; exact below_set (below_set (HB.out) GB10.out) GB10.out : Below w.heap.size w w13)); clear hg hw hp_))
        go_roundg k1
        case measure => have := HK1.out; omega
        case rel => exact ⟨(y165), (wrap64 (x4_1 + 1)), sq, H', ⟨by have := HK1.out; omega⟩, ⟨rq HO_3⟩, ⟨bq⟩⟩
       rw [if_neg c9] at H; exact absurd H (by simp)
      rw [if_neg c7] at H; exact absurd H (by simp)
     rw [if_neg c6] at H; have c6b0 : decide (x4_1 < (l0.length : Int)) = false := decide_eq_false c6; clear c6; obtain rfl := Option.some.inj H
     go_wp2
     go_ret
     exact ⟨_, eq_, rq HO_3, bq⟩
  rw [if_neg c3] at H; exact absurd H (by simp)
 rw [if_neg c2] at H; exact absurd H (by simp)


def laws_toBoard.f (k : Nat) (a0_0 : Int) (a0_1 : Int) (l0_2 : List (S66)) : Option (Int × Int × (List (S45))) := (laws_toCellS.f k l0_2).bind fun t169 => (some (a0_0, a0_1, t169))
theorem laws_toBoard.calls (k : Nat) (a0_0 : Int) (a0_1 : Int) (A0_2 : Option Addr) (c0_2 : Nat) (l0_2 : List (S66)) (r1 : Int) (r2 : Int) (r3 : List (S45)) (w : World) (hr0_2 : Kd.C k66 w A0_2 l0_2.length l0_2) (hc0_2 : l0_2.length ≤ c0_2) (h : laws_toBoard.f k a0_0 a0_1 l0_2 = some (r1, r2, r3)) :
  Calls Tryd.prog 15 #[.agg #[.int .i64 a0_0, .int .i64 a0_1, .slice A0_2 l0_2.length c0_2]] w fun e w' => ∃ v2_ : Value, e = .returned (.agg #[.int .i64 r1, .int .i64 r2, v2_]) ∧ Kd.R k45 45 w' w.heap.size (fun _ => True) v2_ r3 ∧ Below w.heap.size w w' := by
 have hu24 := Tryd.underlying24; have hu33 := Tryd.underlying33; have HR0_2 := am hr0_2; have HC0_2 := am hc0_2; clear hr0_2 hc0_2; have HB := am (Below.refl w.heap.size w); have H := h; clear h
 unfold laws_toBoard.f at H
 obtain ⟨t169, A2, H⟩ := bindq H; try dsimp only at H
 simp only [Option.some.injEq, Prod.mk.injEq] at H; obtain ⟨rfl, rfl, rfl⟩ := H
 go_enter Tryd.func15, Tryd.ntmps15
 go_wp2_with (first | ((with_reducible refine gate_dst (N := 1) rfl ?_); refine box_event ?hg (N := 1) ?hd (cs := #[.int .i64 a0_0, .int .i64 a0_1, .slice A0_2 l0_2.length c0_2]) (t := 24) ?hr ?_; (case hd | hg => rfl); (case hr => go_simp; try rfl); intro gb166 hg w3 hbox hb; have BK166 := am (hbox); have GW166 := am (gq hg); have GE166 := am (gq hg); replace HB := sb hb; clear hb hbox hg) | ((with_reducible refine gate_dst (N := 2) rfl ?_); refine box_event ?hg (N := 2) ?hd (cs := #[.int .i64 0, .int .i64 0, .slice none 0 0]) (t := 33) ?hr ?_; (case hd | hg => rfl); (case hr => go_simp; try rfl); intro gb167 hg w4 hbox hb; have BK167 := am (hbox); have GW167 := am (gq hg); have GE167 := am (gq hg); replace HB := sb hb; have ⟨NB166_167, NB167_166⟩ := nn hg BK166; replace BK166 := zb BK166 hb; clear hb hbox hg) | ((with_reducible refine gate_dst (N := 3) rfl ?_); refine box_event ?hg (N := 3) ?hd (cs := #[.int .i64 0, .int .i64 0, .slice none 0 0]) (t := 33) ?hr ?_; (case hd | hg => rfl); (case hr => go_simp; try rfl); intro gb168 hg w5 hbox hb; have BK168 := am (hbox); have GW168 := am (gq hg); have GE168 := am (gq hg); replace HB := sb hb; have ⟨NB166_168, NB168_166⟩ := nn hg BK166; replace BK166 := zb BK166 hb; have ⟨NB167_168, NB168_167⟩ := nn hg BK167; replace BK167 := zb BK167 hb; clear hb hbox hg; have hnb6 := NB166_167.out; have hnc6 := NB167_166.out; have hnb7 := NB166_168.out; have hnc7 := NB168_166.out; have ⟨b80, b81, b82, d80, d81, d82⟩ := bc3 BK166; have hnb9 := NB168_167.out; have hnc9 := NB167_168.out; have ⟨b100, b101, b102, d100, d101, d102⟩ := bc3 BK168) | ((with_reducible refine gate_callee (f := 28) rfl ?_); refine goesL_ (some 12) rfl rfl Tryd.func28 (by kernel_rfl) rfl #[.slice A0_2 l0_2.length c0_2] rfl mq ?_; (with_reducible refine (laws_toCellS.calls k _ _ l0_2 t169 _ ?s1 ?s2 A2.out).mono ?_); (case s1 => exact Kd.C_below HR0_2.out bq); (case s2 => exact HC0_2.out); rintro e w11 ⟨v170, rfl, ho0, hb⟩; refine ⟨_, rfl, ?_⟩; have HO171 := rl ho0; replace BK166 := zw (.cells #[.int .i64 a0_0, .int .i64 a0_1, .slice A0_2 l0_2.length c0_2] 24 (0, 0)) BK166 hb; replace BK167 := zw (.cells #[.int .i64 0, .int .i64 0, .slice none 0 0] 33 (0, 0)) BK167 hb; replace BK168 := zw (.cells #[.int .i64 a0_0, .int .i64 a0_1, .slice none 0 0] 33 (0, 0)) BK168 hb; replace HB := sb hb; (try clear hb ho0); obtain ⟨Ao12, co12, eo12⟩ := Kd.R_slice HO171.out; subst eo12; have ⟨b130, b131, b132, d130, d131, d132⟩ := bc3 BK168; have ⟨b140, b141, b142, d140, d141, d142⟩ := bc3 BK167))
 refine bodyPost_ret (results_cell_row rfl _ _ gb167 33 #[.int .i64 a0_0, .int .i64 a0_1, .slice Ao12 t169.length co12] (0, 0) _ rfl (zp BK167) Tryd.underlying33 rfl (by kernel_rfl)) rfl ?_; exact ⟨_, eq_, by (with_reducible repeat (first | apply Kd.R_alloc | apply Kd.R_drewN | apply Kd.R_drew)); exact Kd.R_mono (Kd.R_far (p := ⟨gb167, 2, none⟩) (Kd.R_far (p := ⟨gb167, 1, none⟩) (Kd.R_far (p := ⟨gb167, 0, none⟩) (Kd.R_far (p := ⟨gb168, 2, none⟩) (Kd.R_types (Kd.R_types HO171.out BK168.out (by decide)) BK167.out (by decide)) (fun _ hk => hk.1.2) (.slice Ao12 t169.length co12)) (fun _ hk => hk.2) (.int .i64 a0_0)) (fun _ hk => hk.2) (.int .i64 a0_1)) (fun _ hk => hk.2) (.slice Ao12 t169.length co12)) (fun _ hk => trivial), bq⟩


def laws_toSessionAct.f (a0_0 : Int) (a0_1 : Int) (a0_2 : Int) (a0_3 : Int) (a0_4 : Int) : Option (Int × Int × Int × Int × Int) := (laws_toCell.f a0_3 a0_4).bind fun bt175 => (some (a0_0, a0_1, a0_2, bt175.1, bt175.2))
theorem laws_toSessionAct.calls (a0_0 : Int) (a0_1 : Int) (a0_2 : Int) (a0_3 : Int) (a0_4 : Int) (r1 : Int) (r2 : Int) (r3 : Int) (r4 : Int) (r5 : Int) (w : World) (h : laws_toSessionAct.f a0_0 a0_1 a0_2 a0_3 a0_4 = some (r1, r2, r3, r4, r5)) :
  Calls Tryd.prog 29 #[.agg #[.int .i64 a0_0, .int .i64 a0_1, .int .i64 a0_2, .int .i64 a0_3, .int .i64 a0_4]] w fun e w' => e = .returned (.agg #[.int .i64 r1, .int .i64 r2, .int .i64 r3, .int .i64 r4, .int .i64 r5]) ∧ Below w.heap.size w w' := by
 have hu68 := Tryd.underlying68; have hu47 := Tryd.underlying47; have hu66 := Tryd.underlying66; have hu45 := Tryd.underlying45; have HB := am (Below.refl w.heap.size w); have H := h; clear h
 unfold laws_toSessionAct.f at H
 obtain ⟨⟨t175, t176⟩, A2, H⟩ := bindq H; try dsimp only at H
 simp only [Option.some.injEq, Prod.mk.injEq] at H; obtain ⟨rfl, rfl, rfl, rfl, rfl⟩ := H
 go_enter Tryd.func29, Tryd.ntmps29
 go_wp2_with (first | ((with_reducible refine gate_dst (N := 1) rfl ?_); refine box_event ?hg (N := 1) ?hd (cs := #[.int .i64 a0_0, .int .i64 a0_1, .int .i64 a0_2, .int .i64 a0_3, .int .i64 a0_4]) (t := 68) ?hr ?_; (case hd | hg => rfl); (case hr => go_simp; try rfl); intro gb172 hg w3 hbox hb; have BK172 := am (hbox); have GW172 := am (gq hg); have GE172 := am (gq hg); replace HB := sb hb; clear hb hbox hg) | ((with_reducible refine gate_dst (N := 2) rfl ?_); refine box_event ?hg (N := 2) ?hd (cs := #[.int .i64 0, .int .i64 0, .int .i64 0, .int .i64 0, .int .i64 0]) (t := 47) ?hr ?_; (case hd | hg => rfl); (case hr => go_simp; try rfl); intro gb173 hg w4 hbox hb; have BK173 := am (hbox); have GW173 := am (gq hg); have GE173 := am (gq hg); replace HB := sb hb; have ⟨NB172_173, NB173_172⟩ := nn hg BK172; replace BK172 := zb BK172 hb; clear hb hbox hg) | ((with_reducible refine gate_dst (N := 3) rfl ?_); refine box_event ?hg (N := 3) ?hd (cs := #[.int .i64 0, .int .i64 0, .int .i64 0, .int .i64 0, .int .i64 0]) (t := 47) ?hr ?_; (case hd | hg => rfl); (case hr => go_simp; try rfl); intro gb174 hg w5 hbox hb; have BK174 := am (hbox); have GW174 := am (gq hg); have GE174 := am (gq hg); replace HB := sb hb; have ⟨NB172_174, NB174_172⟩ := nn hg BK172; replace BK172 := zb BK172 hb; have ⟨NB173_174, NB174_173⟩ := nn hg BK173; replace BK173 := zb BK173 hb; clear hb hbox hg; have hnb6 := NB172_173.out; have hnc6 := NB173_172.out; have hnb7 := NB172_174.out; have hnc7 := NB174_172.out; have ⟨b80, b81, b82, b83, b84, d80, d81, d82, d83, d84⟩ := bc5 BK172; have hnb9 := NB174_173.out; have hnc9 := NB173_174.out; have ⟨b100, b101, b102, b103, b104, d100, d101, d102, d103, d104⟩ := bc5 BK174) | ((with_reducible refine gate_callee (f := 41) rfl ?_); refine goesL_ (some 15) rfl rfl Tryd.func41 (by kernel_rfl) rfl #[.agg #[.int .i64 a0_3, .int .i64 a0_4]] rfl mq ?_; (with_reducible refine (laws_toCell.calls a0_3 a0_4 t175 t176 _ A2.out).mono ?_); rintro e w11 ⟨rfl, hb⟩; refine ⟨_, rfl, ?_⟩; replace BK172 := zw (.cells #[.int .i64 a0_0, .int .i64 a0_1, .int .i64 a0_2, .int .i64 a0_3, .int .i64 a0_4] 68 (0, 0)) BK172 hb; replace BK173 := zw (.cells #[.int .i64 0, .int .i64 0, .int .i64 0, .int .i64 0, .int .i64 0] 47 (0, 0)) BK173 hb; replace BK174 := zw (.cells #[.int .i64 a0_0, .int .i64 a0_1, .int .i64 a0_2, .int .i64 0, .int .i64 0] 47 (0, 0)) BK174 hb; replace HB := sb hb; (try clear hb); have ⟨b120, b121, b122, b123, b124, d120, d121, d122, d123, d124⟩ := bc5 BK174; have ⟨b130, b131, b132, b133, b134, d130, d131, d132, d133, d134⟩ := bc5 BK173))
 refine bodyPost_ret (results_cell_row rfl _ _ gb173 47 #[.int .i64 a0_0, .int .i64 a0_1, .int .i64 a0_2, .int .i64 t175, .int .i64 t176] (0, 0) _ rfl (zp BK173) Tryd.underlying47 rfl (by kernel_rfl)) rfl ?_; exact ⟨eq_, bq⟩




section
attribute [local go_sem high] eqA45
def laws_toSessionActS.l0 : Nat → List (S68) → List (S47) → Int → Option ((List (S47)))
 | 0, _, _, _ => none
 | k + 1, x0, x3, x4 => if x4 < (x0.length : Int) then (if 0 ≤ x4 then ((laws_toSessionAct.f ((rd_T68 x0 x4).f0) ((rd_T68 x0 x4).f1) ((rd_T68 x0 x4).f2) ((rd_T68 x0 x4).f3.f0) ((rd_T68 x0 x4).f3.f1)).bind fun bt181 => (if x4 < (x3.length : Int) then (laws_toSessionActS.l0 k x0 (x3.set (x4 : Int).toNat (⟨bt181.1, bt181.2.1, bt181.2.2.1, (⟨bt181.2.2.2.1, bt181.2.2.2.2⟩ : S45)⟩ : S47)) (wrap64 (x4 + 1))) else (none))) else (none)) else (some x3)
def laws_toSessionActS.f (k : Nat) (l0 : List (S68)) : Option ((List (S47))) := if 0 ≤ (l0.length : Int) then (if ((l0.length : Int) : Int).toNat ≤ 7036874417766 then (laws_toSessionActS.l0 k l0 (List.replicate ((l0.length : Int) : Int).toNat z47) 0) else (none)) else (none)
theorem laws_toSessionActS.calls (k : Nat) (A0 : Option Addr) (c0 : Nat) (l0 : List (S68)) (r : List (S47)) (w : World) (hr0 : Kd.C k68 w A0 l0.length l0) (hc0 : l0.length ≤ c0) (h : laws_toSessionActS.f k l0 = some r) :
  Calls Tryd.prog 16 #[.slice A0 l0.length c0] w fun e w' => ∃ v0_ : Value, e = .returned (v0_) ∧ Kd.R k47 47 w' w.heap.size (fun _ => True) v0_ r ∧ Below w.heap.size w w' := by
 have hu68 := Tryd.underlying68; have hu47 := Tryd.underlying47; have HR0 := am hr0; have HC0 := am hc0; clear hr0 hc0; have HB := am (Below.refl w.heap.size w); have H := h; clear h
 unfold laws_toSessionActS.f at H
 by_cases c2 : 0 ≤ (l0.length : Int)
 ·rw [if_pos c2] at H; have c2b0 := eq_true c2; have c2b1 : decide (0 ≤ (l0.length : Int)) = true := decide_eq_true c2; clear c2; by_cases c3 : ((l0.length : Int) : Int).toNat ≤ 7036874417766
  ·rw [if_pos c3] at H; have c3b0 := eq_true c3; have c3b1 : decide (((l0.length : Int) : Int).toNat ≤ 7036874417766) = true := decide_eq_true c3; clear c3; obtain ⟨y177, hy177⟩ : ∃ y_ : List (S47), y_ = (List.replicate ((l0.length : Int) : Int).toNat z47) := ⟨_, rfl⟩; replace H : (laws_toSessionActS.l0 k l0 y177 0) = some r := yq hy177 H; have Ny177 := am hy177; clear hy177; have H' := am H; clear H
   go_enter Tryd.func16, Tryd.ntmps16
   go_wp2_with (first | ((with_reducible refine gate_dst (N := 7) rfl ?_); refine Kd.R_make k47 _ 47 rfl (N := 7) rfl 34 _ _ rfl (l0.length : Int) rfl rfl Tryd.underlying34 (.agg #[(.int .i64 0), (.int .i64 0), (.int .i64 0), (.int .i64 0), (.int .i64 0)]) 40 info47 rfl (by decide) (by omega) z47 (ok := fun _ => True) (okp := fun _ => True) (k47_mkM _ _ _ z47 ) (fun _ hk => hk) trivial (of_decide_eq_true aq) (Nat.le_trans (Nat.mul_le_mul_right _ (of_decide_eq_true aq : (l0.length : Int).toNat ≤ 7036874417766)) (by omega)) (Below.refl _ _) (Nat.le_refl _) ?_; intro v178 w4 ho5 hb hg_ hnew_; clear hg_ hnew_; (first | rw [← Ny177.out] at ho5 | (simp only [Int.reduceToNat] at ho5; rw [← Ny177.out] at ho5)); have HO179 := rl ho5; replace HB := sb hb; clear hb ho5))
   go_loopg [4] k (fun kq v4 w' => ∃ (x3_1 : List (S47)) (x4_1 : Int), v4 = .int .i64 x4_1 ∧ Aside0 (laws_toSessionActS.l0 kq l0 x3_1 x4_1 = some r) ∧ Aside0 (kq ≤ k) ∧ Aside0 (Kd.R k47 47 w' w.heap.size (fun _ => True) v178 x3_1) ∧ Aside0 (Below w.heap.size w w'))
   case atStart => exact ⟨(y177), (0), sq, H', ⟨Nat.le_refl _⟩, ⟨rq HO179⟩, ⟨bq⟩⟩
   case round =>
    clear H'; try clear c2b0
    try clear c2b1
    try clear c3b0
    try clear c3b1
    obtain ⟨x3_1, x4_1, rfl, HA, HK1, HO_3, HB⟩ := hrel
    cases gk with
    | zero => exact absurd HA.out (by simp [laws_toSessionActS.l0])
    | succ k1 =>
     have H := HA.out; clear HA; simp only [laws_toSessionActS.l0] at H; by_cases c6 : x4_1 < (l0.length : Int)
     ·rw [if_pos c6] at H; have c6b0 : decide (x4_1 < (l0.length : Int)) = true := decide_eq_true c6; clear c6; by_cases c7 : 0 ≤ x4_1
      ·rw [if_pos c7] at H; have c7b0 : decide (0 ≤ x4_1) = true := decide_eq_true c7; clear c7; obtain ⟨⟨t181, t182, t183, t184, t185⟩, A8, H⟩ := bindq H; try dsimp only at H
       by_cases c9 : x4_1 < (x3_1.length : Int)
       ·rw [if_pos c9] at H; have c9b0 : decide (x4_1 < (x3_1.length : Int)) = true := decide_eq_true c9; clear c9; obtain ⟨y186, hy186⟩ : ∃ y_ : List (S47), y_ = (x3_1.set (x4_1 : Int).toNat (⟨t181, t182, t183, (⟨t184, t185⟩ : S45)⟩ : S47)) := ⟨_, rfl⟩; replace H : (laws_toSessionActS.l0 k1 l0 y186 (wrap64 (x4_1 + 1))) = some r := yq hy186 H; have Ny186 := am hy186; clear hy186; have H' := am H; clear H; have p180 : 0 ≤ (x4_1 : Int) := of_decide_eq_true aq; have q180 : x4_1 < (l0.length : Int) := of_decide_eq_true aq; obtain ⟨ad180, e180, hx180_0, hx180_1, hx180_2, hx180_3, hx180_4⟩ := at_T68 HR0.out x4_1 p180 q180
        cases e180
        replace hx180_0 := (HB.out.cell (World.block_lt_of_cell? w _ hx180_0)).trans hx180_0; replace hx180_1 := (HB.out.cell (World.block_lt_of_cell? w _ hx180_1)).trans hx180_1; replace hx180_2 := (HB.out.cell (World.block_lt_of_cell? w _ hx180_2)).trans hx180_2; replace hx180_3 := (HB.out.cell (World.block_lt_of_cell? w _ hx180_3)).trans hx180_3; replace hx180_4 := (HB.out.cell (World.block_lt_of_cell? w _ hx180_4)).trans hx180_4; replace p180 := eq_true p180; replace q180 := eq_true q180; go_wp2_with (first | ((with_reducible refine gate_callee (f := 29) rfl ?_); refine goesL_ (some 20) rfl rfl Tryd.func29 (by kernel_rfl) rfl #[.agg #[.int .i64 ((rd_T68 l0 x4_1).f0), .int .i64 ((rd_T68 l0 x4_1).f1), .int .i64 ((rd_T68 l0 x4_1).f2), .int .i64 ((rd_T68 l0 x4_1).f3.f0), .int .i64 ((rd_T68 l0 x4_1).f3.f1)]] rfl mq ?_; (with_reducible refine (laws_toSessionAct.calls ((rd_T68 l0 x4_1).f0) ((rd_T68 l0 x4_1).f1) ((rd_T68 l0 x4_1).f2) ((rd_T68 l0 x4_1).f3.f0) ((rd_T68 l0 x4_1).f3.f1) t181 t182 t183 t184 t185 _ A8.out).mono ?_); rintro e w11 ⟨rfl, hb⟩; refine ⟨_, rfl, ?_⟩; replace HO_3 := rb HO_3 hb; replace HB := sb hb; (try clear hb); have p10 : 0 ≤ (x4_1 : Int) := of_decide_eq_true aq; have q10 : (x4_1 : Int) < ((x3_1.length : Int) : Int) := of_decide_eq_true aq; obtain ⟨go10, co10, eo10, gb10, gl10, cl10, HG10⟩ := Kd.R_form HO_3.out (by omega); (first | cases eo10 | (injection eo10 with ea_ en_ ec_; (first | subst ea_ | (injection ea_ with ea_; subst ea_)); subst ec_; clear en_)); have GB10 := am gb10; have GG10 := am HG10; clear gb10 gl10 HG10; obtain ⟨ce10, hcl10, hM10, hcc10, hfr10⟩ := Kd.R_elem HO_3.out z47 (x4_1 : Int) p10 q10; obtain rfl := k47_openM hM10; have hx10_0 : w11.cell? ⟨go10, (x4_1 : Int).toNat * 5, none⟩ = some (.int .i64 ((rd_T47 x3_1 x4_1).f0)) := hcc10 0 _ rfl; have hx10_1 : w11.cell? ⟨go10, (x4_1 : Int).toNat * 5 + 1, none⟩ = some (.int .i64 ((rd_T47 x3_1 x4_1).f1)) := hcc10 1 _ rfl; have hx10_2 : w11.cell? ⟨go10, (x4_1 : Int).toNat * 5 + 2, none⟩ = some (.int .i64 ((rd_T47 x3_1 x4_1).f2)) := hcc10 2 _ rfl; have hx10_3 : w11.cell? ⟨go10, (x4_1 : Int).toNat * 5 + 3, none⟩ = some (.int .i64 ((rd_T47 x3_1 x4_1).f3.f0)) := hcc10 3 _ rfl; have hx10_4 : w11.cell? ⟨go10, (x4_1 : Int).toNat * 5 + 4, none⟩ = some (.int .i64 ((rd_T47 x3_1 x4_1).f3.f1)) := hcc10 4 _ rfl; have hf10_0 : w11.frozen? ⟨go10, (x4_1 : Int).toNat * 5, none⟩ = false := hfr10 0; have hf10_1 : w11.frozen? ⟨go10, (x4_1 : Int).toNat * 5 + 1, none⟩ = false := hfr10 1; have hf10_2 : w11.frozen? ⟨go10, (x4_1 : Int).toNat * 5 + 2, none⟩ = false := hfr10 2; have hf10_3 : w11.frozen? ⟨go10, (x4_1 : Int).toNat * 5 + 3, none⟩ = false := hfr10 3; have hf10_4 : w11.frozen? ⟨go10, (x4_1 : Int).toNat * 5 + 4, none⟩ = false := hfr10 4; skip; replace p10 := eq_true p10; replace q10 := eq_true q10; have HX12 := am (show Kd.R k47 47 w11 w.heap.size (fun _ => True) (.slice (some ⟨go10, 0, none⟩) x3_1.length co10) x3_1 from (rq HO_3)); obtain ⟨ce12, hcl12, hM12, hcc12, hfr12⟩ := Kd.R_elem HX12.out z47 (x4_1 : Int) (of_decide_eq_true aq) (by have h_ : (x4_1 : Int) < ((x3_1.length : Int) : Int) := of_decide_eq_true aq; first | exact h_ | (have e_ := (Kd.R_reads' HO_3.out).1; omega) | simpa using h_); obtain rfl := k47_openM hM12; have HP12 := Kd.R_seg HX12.out (x4_1 : Int) (of_decide_eq_true aq) (by have h_ : (x4_1 : Int) < ((x3_1.length : Int) : Int) := of_decide_eq_true aq; first | exact h_ | (have e_ := (Kd.R_reads' HO_3.out).1; omega) | simpa using h_) (seg := [.int .i64 t181, .int .i64 t182, .int .i64 t183, .int .i64 t184, .int .i64 t185]) (j := 0) hcl12 hcc12 (show 5 ≤ 5 from by decide) (x' := (⟨t181, t182, t183, (⟨t184, t185⟩ : S45)⟩ : S47)) (k47_mkM _ _ _ (⟨t181, t182, t183, (⟨t184, t185⟩ : S45)⟩ : S47) ) (fun _ hk => hk); have hx12_0 := hcc12 0 _ rfl; (try simp only [show (k47).sz = 5 from rfl, Nat.mul_one, Nat.add_zero] at hx12_0); have hf12_0 := hfr12 0; (try simp only [show (k47).sz = 5 from rfl, Nat.mul_one, Nat.add_zero] at hf12_0); have hx12_1 := hcc12 1 _ rfl; (try simp only [show (k47).sz = 5 from rfl, Nat.mul_one, Nat.add_zero] at hx12_1); have hf12_1 := hfr12 1; (try simp only [show (k47).sz = 5 from rfl, Nat.mul_one, Nat.add_zero] at hf12_1); have hx12_2 := hcc12 2 _ rfl; (try simp only [show (k47).sz = 5 from rfl, Nat.mul_one, Nat.add_zero] at hx12_2); have hf12_2 := hfr12 2; (try simp only [show (k47).sz = 5 from rfl, Nat.mul_one, Nat.add_zero] at hf12_2); have hx12_3 := hcc12 3 _ rfl; (try simp only [show (k47).sz = 5 from rfl, Nat.mul_one, Nat.add_zero] at hx12_3); have hf12_3 := hfr12 3; (try simp only [show (k47).sz = 5 from rfl, Nat.mul_one, Nat.add_zero] at hf12_3); have hx12_4 := hcc12 4 _ rfl; (try simp only [show (k47).sz = 5 from rfl, Nat.mul_one, Nat.add_zero] at hx12_4); have hf12_4 := hfr12 4; (try simp only [show (k47).sz = 5 from rfl, Nat.mul_one, Nat.add_zero] at hf12_4); skip) | ((with_reducible refine gate_store (t := 47) (p := 21) rfl ?_); refine store_event (t := 47) (p := 21) (v := ?vo_w13) (w1 := (((((w11.setCell ⟨go10, (x4_1 : Int).toNat * 5, none⟩ (.int .i64 t181)).setCell ⟨go10, (x4_1 : Int).toNat * 5 + 1, none⟩ (.int .i64 t182)).setCell ⟨go10, (x4_1 : Int).toNat * 5 + 2, none⟩ (.int .i64 t183)).setCell ⟨go10, (x4_1 : Int).toNat * 5 + 3, none⟩ (.int .i64 t184)).setCell ⟨go10, (x4_1 : Int).toNat * 5 + 4, none⟩ (.int .i64 t185))) ?hg ?ho ?hn ?hr ?_; (case ho => rfl); (case hg => rfl); (case hn => rfl); (case hr => go_simp; try rfl); intro w13 hw; have hg : w11.grownBy w13 (some go10) := (by rw [hw]; exact HP12.2); have hp_ : Kd.R k47 47 w13 w.heap.size (fun _ => True) (.slice (some ⟨go10, 0, none⟩) x3_1.length co10) y186 := (by rw [hw, Ny186.out]; exact HP12.1); clear HP12; replace HO_3 := am (hp_); replace HB := am ((by rw [hw]; exact below_set (below_set (below_set (below_set (below_set (HB.out) GB10.out) GB10.out) GB10.out) GB10.out) GB10.out : Below w.heap.size w w13)); clear hg hw hp_))
        go_roundg k1
        case measure => have := HK1.out; omega
        case rel => exact ⟨(y186), (wrap64 (x4_1 + 1)), sq, H', ⟨by have := HK1.out; omega⟩, ⟨rq HO_3⟩, ⟨bq⟩⟩
       rw [if_neg c9] at H; exact absurd H (by simp)
      rw [if_neg c7] at H; exact absurd H (by simp)
     rw [if_neg c6] at H; have c6b0 : decide (x4_1 < (l0.length : Int)) = false := decide_eq_false c6; clear c6; obtain rfl := Option.some.inj H
     go_wp2
     go_ret
     exact ⟨_, eq_, rq HO_3, bq⟩
  rw [if_neg c3] at H; exact absurd H (by simp)
 rw [if_neg c2] at H; exact absurd H (by simp)



end

section
attribute [local go_sem high] eqA45
def laws_toSession.f (k : Nat) (a0_0 : Int) (a0_1 : Int) (l0_2 : List (S66)) (l0_3 : List (S68)) (l0_4 : List (S68)) : Option (Int × Int × (List (S45)) × (List (S47)) × (List (S47))) := (laws_toBoard.f k a0_0 a0_1 l0_2).bind fun bt190 => ((laws_toSessionActS.f k l0_3).bind fun t195 => ((laws_toSessionActS.f k l0_4).bind fun t198 => (some (bt190.1, bt190.2.1, bt190.2.2, t195, t198))))
theorem laws_toSession.calls (k : Nat) (a0_0 : Int) (a0_1 : Int) (A0_2 : Option Addr) (c0_2 : Nat) (l0_2 : List (S66)) (A0_3 : Option Addr) (c0_3 : Nat) (l0_3 : List (S68)) (A0_4 : Option Addr) (c0_4 : Nat) (l0_4 : List (S68)) (r1 : Int) (r2 : Int) (r3 : List (S45)) (r4 : List (S47)) (r5 : List (S47)) (w : World) (hr0_2 : Kd.C k66 w A0_2 l0_2.length l0_2) (hc0_2 : l0_2.length ≤ c0_2) (hr0_3 : Kd.C k68 w A0_3 l0_3.length l0_3) (hc0_3 : l0_3.length ≤ c0_3) (hr0_4 : Kd.C k68 w A0_4 l0_4.length l0_4) (hc0_4 : l0_4.length ≤ c0_4) (h : laws_toSession.f k a0_0 a0_1 l0_2 l0_3 l0_4 = some (r1, r2, r3, r4, r5)) :
  Calls Tryd.prog 6 #[.agg #[.int .i64 a0_0, .int .i64 a0_1, .slice A0_2 l0_2.length c0_2, .slice A0_3 l0_3.length c0_3, .slice A0_4 l0_4.length c0_4]] w fun e w' => ∃ v2_ v3_ v4_ : Value, e = .returned (.agg #[.int .i64 r1, .int .i64 r2, v2_, v3_, v4_]) ∧ Kd.R k45 45 w' w.heap.size (fun _ => True) v2_ r3 ∧ Kd.R k47 47 w' w.heap.size (fun k_ => some k_ ≠ (v4_ : Value).ownBlock) v3_ r4 ∧ Kd.R k47 47 w' w.heap.size (fun k_ => some k_ ≠ (v3_ : Value).ownBlock) v4_ r5 ∧ Below w.heap.size w w' := by
 have hu27 := Tryd.underlying27; have hu36 := Tryd.underlying36; have hu24 := Tryd.underlying24; have hu33 := Tryd.underlying33; have HR0_2 := am hr0_2; have HC0_2 := am hc0_2; clear hr0_2 hc0_2; have HR0_3 := am hr0_3; have HC0_3 := am hc0_3; clear hr0_3 hc0_3; have HR0_4 := am hr0_4; have HC0_4 := am hc0_4; clear hr0_4 hc0_4; have HB := am (Below.refl w.heap.size w); have H := h; clear h
 unfold laws_toSession.f at H
 obtain ⟨⟨t190, t191, t192⟩, A2, H⟩ := bindq H; try dsimp only at H
 obtain ⟨t195, A3, H⟩ := bindq H; try dsimp only at H
 obtain ⟨t198, A4, H⟩ := bindq H; try dsimp only at H
 simp only [Option.some.injEq, Prod.mk.injEq] at H; obtain ⟨rfl, rfl, rfl, rfl, rfl⟩ := H
 go_enter Tryd.func6, Tryd.ntmps6
 go_wp2_with (first | ((with_reducible refine gate_dst (N := 1) rfl ?_); refine box_event ?hg (N := 1) ?hd (cs := #[.int .i64 a0_0, .int .i64 a0_1, .slice A0_2 l0_2.length c0_2, .slice A0_3 l0_3.length c0_3, .slice A0_4 l0_4.length c0_4]) (t := 27) ?hr ?_; (case hd | hg => rfl); (case hr => go_simp; try rfl); intro gb187 hg w5 hbox hb; have BK187 := am (hbox); have GW187 := am (gq hg); have GE187 := am (gq hg); replace HB := sb hb; clear hb hbox hg) | ((with_reducible refine gate_dst (N := 2) rfl ?_); refine box_event ?hg (N := 2) ?hd (cs := #[.int .i64 0, .int .i64 0, .slice none 0 0, .slice none 0 0, .slice none 0 0]) (t := 36) ?hr ?_; (case hd | hg => rfl); (case hr => go_simp; try rfl); intro gb188 hg w6 hbox hb; have BK188 := am (hbox); have GW188 := am (gq hg); have GE188 := am (gq hg); replace HB := sb hb; have ⟨NB187_188, NB188_187⟩ := nn hg BK187; replace BK187 := zb BK187 hb; clear hb hbox hg) | ((with_reducible refine gate_dst (N := 3) rfl ?_); refine box_event ?hg (N := 3) ?hd (cs := #[.int .i64 0, .int .i64 0, .slice none 0 0, .slice none 0 0, .slice none 0 0]) (t := 36) ?hr ?_; (case hd | hg => rfl); (case hr => go_simp; try rfl); intro gb189 hg w7 hbox hb; have BK189 := am (hbox); have GW189 := am (gq hg); have GE189 := am (gq hg); replace HB := sb hb; have ⟨NB187_189, NB189_187⟩ := nn hg BK187; replace BK187 := zb BK187 hb; have ⟨NB188_189, NB189_188⟩ := nn hg BK188; replace BK188 := zb BK188 hb; clear hb hbox hg; have hnb8 := NB187_188.out; have hnc8 := NB188_187.out; have hnb9 := NB187_189.out; have hnc9 := NB189_187.out; have ⟨b100, b101, b102, b103, b104, d100, d101, d102, d103, d104⟩ := bc5 BK187) | ((with_reducible refine gate_callee (f := 15) rfl ?_); refine goesL_ (some 6) rfl rfl Tryd.func15 (by kernel_rfl) rfl #[.agg #[.int .i64 a0_0, .int .i64 a0_1, .slice A0_2 l0_2.length c0_2]] rfl mq ?_; (with_reducible refine (laws_toBoard.calls k a0_0 a0_1 _ _ l0_2 t190 t191 t192 _ ?s1 ?s2 A2.out).mono ?_); (case s1 => exact cq (Kd.C_below HR0_2.out HB.out)); (case s2 => exact HC0_2.out); rintro e w11 ⟨v193, rfl, ho0, hb⟩; refine ⟨_, rfl, ?_⟩; have HO194 := rl ho0; replace BK187 := zb BK187 hb; replace BK188 := zb BK188 hb; replace BK189 := zb BK189 hb; replace HB := sb hb; (try clear hb ho0); have hnb12 := NB189_188.out; have hnc12 := NB188_189.out; have ⟨b130, b131, b132, b133, b134, d130, d131, d132, d133, d134⟩ := bc5 BK189; obtain ⟨Ao14, co14, eo14⟩ := Kd.R_slice HO194.out; subst eo14; have ⟨b150, b151, b152, b153, b154, d150, d151, d152, d153, d154⟩ := bc5 BK187) | ((with_reducible refine gate_callee (f := 16) rfl ?_); refine goesL_ (some 10) rfl rfl Tryd.func16 (by kernel_rfl) rfl #[.slice A0_3 l0_3.length c0_3] rfl mq ?_; (with_reducible refine (laws_toSessionActS.calls k _ _ l0_3 t195 _ ?s1 ?s2 A3.out).mono ?_); (case s1 => exact Kd.C_below HR0_3.out bq); (case s2 => exact HC0_3.out); rintro e w16 ⟨v196, rfl, ho0, hb⟩; refine ⟨_, rfl, ?_⟩; replace HO194 := am (Kd.R_below (fq HO194 BK189) hb); have HO197 := rl ho0; replace BK187 := zw (.cells #[.int .i64 a0_0, .int .i64 a0_1, .slice A0_2 l0_2.length c0_2, .slice A0_3 l0_3.length c0_3, .slice A0_4 l0_4.length c0_4] 27 (0, 0)) BK187 hb; replace BK188 := zw (.cells #[.int .i64 0, .int .i64 0, .slice none 0 0, .slice none 0 0, .slice none 0 0] 36 (0, 0)) BK188 hb; replace BK189 := zw (.cells #[.int .i64 t190, .int .i64 t191, .slice Ao14 t192.length co14, .slice none 0 0, .slice none 0 0] 36 (0, 0)) BK189 hb; replace HB := sb hb; (try clear hb ho0); obtain ⟨Ao17, co17, eo17⟩ := Kd.R_slice HO197.out; subst eo17; have ⟨b180, b181, b182, b183, b184, d180, d181, d182, d183, d184⟩ := bc5 BK189; have ⟨b190, b191, b192, b193, b194, d190, d191, d192, d193, d194⟩ := bc5 BK187) | ((with_reducible refine gate_callee (f := 16) rfl ?_); refine goesL_ (some 14) rfl rfl Tryd.func16 (by kernel_rfl) rfl #[.slice A0_4 l0_4.length c0_4] rfl mq ?_; (with_reducible refine (laws_toSessionActS.calls k _ _ l0_4 t198 _ ?s1 ?s2 A4.out).mono ?_); (case s1 => exact Kd.C_below HR0_4.out bq); (case s2 => exact HC0_4.out); rintro e w20 ⟨v199, rfl, ho0, hb⟩; refine ⟨_, rfl, ?_⟩; replace HO194 := am (Kd.R_below (fq HO194 BK189) hb); have HO200 := rl (Kd.R_new' ho0 (Kd.R_lt (fq HO197 BK189))); replace HO197 := am (Kd.R_elder' (fq HO197 BK189) (Kd.R_base ho0) hb); replace BK187 := zw (.cells #[.int .i64 a0_0, .int .i64 a0_1, .slice A0_2 l0_2.length c0_2, .slice A0_3 l0_3.length c0_3, .slice A0_4 l0_4.length c0_4] 27 (0, 0)) BK187 hb; replace BK188 := zw (.cells #[.int .i64 0, .int .i64 0, .slice none 0 0, .slice none 0 0, .slice none 0 0] 36 (0, 0)) BK188 hb; replace BK189 := zw (.cells #[.int .i64 t190, .int .i64 t191, .slice Ao14 t192.length co14, .slice Ao17 t195.length co17, .slice none 0 0] 36 (0, 0)) BK189 hb; replace HB := sb hb; (try clear hb ho0); obtain ⟨Ao21, co21, eo21⟩ := Kd.R_slice HO200.out; subst eo21; have ⟨b220, b221, b222, b223, b224, d220, d221, d222, d223, d224⟩ := bc5 BK189; have ⟨b230, b231, b232, b233, b234, d230, d231, d232, d233, d234⟩ := bc5 BK188))
 refine bodyPost_ret (results_cell_row rfl _ _ gb188 36 #[.int .i64 t190, .int .i64 t191, .slice Ao14 t192.length co14, .slice Ao17 t195.length co17, .slice Ao21 t198.length co21] (0, 0) _ rfl (zp BK188) Tryd.underlying36 rfl (by kernel_rfl)) rfl ?_; exact ⟨_, _, _, eq_, by (with_reducible repeat (first | apply Kd.R_alloc | apply Kd.R_drewN | apply Kd.R_drew)); exact Kd.R_mono (Kd.R_far (p := ⟨gb188, 4, none⟩) (Kd.R_far (p := ⟨gb188, 3, none⟩) (Kd.R_far (p := ⟨gb188, 2, none⟩) (Kd.R_far (p := ⟨gb188, 1, none⟩) (Kd.R_far (p := ⟨gb188, 0, none⟩) (Kd.R_far (p := ⟨gb189, 4, none⟩) (Kd.R_types (Kd.R_types HO194.out BK189.out (by decide)) BK188.out (by decide)) (fun _ hk => hk.1.2) (.slice Ao21 t198.length co21)) (fun _ hk => hk.2) (.int .i64 t190)) (fun _ hk => hk.2) (.int .i64 t191)) (fun _ hk => hk.2) (.slice Ao14 t192.length co14)) (fun _ hk => hk.2) (.slice Ao17 t195.length co17)) (fun _ hk => hk.2) (.slice Ao21 t198.length co21)) (fun _ hk => trivial), by (with_reducible repeat (first | apply Kd.R_alloc | apply Kd.R_drewN | apply Kd.R_drew)); exact Kd.R_mono (Kd.R_far (p := ⟨gb188, 4, none⟩) (Kd.R_far (p := ⟨gb188, 3, none⟩) (Kd.R_far (p := ⟨gb188, 2, none⟩) (Kd.R_far (p := ⟨gb188, 1, none⟩) (Kd.R_far (p := ⟨gb188, 0, none⟩) (Kd.R_far (p := ⟨gb189, 4, none⟩) (Kd.R_types (Kd.R_types HO197.out BK189.out (by decide)) BK188.out (by decide)) (fun _ hk => hk.1.2) (.slice Ao21 t198.length co21)) (fun _ hk => hk.2) (.int .i64 t190)) (fun _ hk => hk.2) (.int .i64 t191)) (fun _ hk => hk.2) (.slice Ao14 t192.length co14)) (fun _ hk => hk.2) (.slice Ao17 t195.length co17)) (fun _ hk => hk.2) (.slice Ao21 t198.length co21)) (fun _ hk => hk.1.1.2), by (with_reducible repeat (first | apply Kd.R_alloc | apply Kd.R_drewN | apply Kd.R_drew)); exact Kd.R_mono (Kd.R_far (p := ⟨gb188, 4, none⟩) (Kd.R_far (p := ⟨gb188, 3, none⟩) (Kd.R_far (p := ⟨gb188, 2, none⟩) (Kd.R_far (p := ⟨gb188, 1, none⟩) (Kd.R_far (p := ⟨gb188, 0, none⟩) (Kd.R_far (p := ⟨gb189, 4, none⟩) (Kd.R_types (Kd.R_types HO200.out BK189.out (by decide)) BK188.out (by decide)) (fun _ hk => hk.1.2) (.slice Ao21 t198.length co21)) (fun _ hk => hk.2) (.int .i64 t190)) (fun _ hk => hk.2) (.int .i64 t191)) (fun _ hk => hk.2) (.slice Ao14 t192.length co14)) (fun _ hk => hk.2) (.slice Ao17 t195.length co17)) (fun _ hk => hk.2) (.slice Ao21 t198.length co21)) (fun _ hk => hk.1.1.2), bq⟩



end

section
attribute [local go_sem high] eqA45
def impl_IsCell.f (a0_0 : Int) (a0_1 : Int) : Option (Bool) := if a0_0 < 0 then (some false) else (if a0_0 > 7 then (some false) else (if a0_1 < 0 then (some false) else (if a0_1 > 1 then (some false) else (if a0_1 = 0 then (some true) else (if a0_0 = 3 then (some true) else (some (a0_0 == 6)))))))
theorem impl_IsCell.calls (a0_0 : Int) (a0_1 : Int) (r : Bool) (w : World) (h : impl_IsCell.f a0_0 a0_1 = some r) :
  Calls Tryd.prog 33 #[.agg #[.int .i64 a0_0, .int .i64 a0_1]] w fun e w' => e = .returned (.bool r) ∧ Below w.heap.size w w' := by
 have hu45 := Tryd.underlying45; have HB := am (Below.refl w.heap.size w); have H := h; clear h
 unfold impl_IsCell.f at H
 by_cases c2 : a0_0 < 0
 ·rw [if_pos c2] at H; have c2b0 : decide (a0_0 < 0) = true := decide_eq_true c2; clear c2; obtain rfl := Option.some.inj H
  go_enter Tryd.func33, Tryd.ntmps33
  go_wp2_with (first | ((with_reducible refine gate_dst (N := 1) rfl ?_); refine box_event ?hg (N := 1) ?hd (cs := #[.int .i64 a0_0, .int .i64 a0_1]) (t := 45) ?hr ?_; (case hd | hg => rfl); (case hr => go_simp; try rfl); intro gb201 hg w3 hbox hb; have BK201 := am (hbox); have GW201 := am (gq hg); have GE201 := am (gq hg); replace HB := sb hb; clear hb hbox hg; have ⟨b40, b41, d40, d41⟩ := bc2 BK201))
  go_ret
  exact ⟨eq_, bq⟩
 rw [if_neg c2] at H; have c2b0 : decide (a0_0 < 0) = false := decide_eq_false c2; clear c2; by_cases c5 : a0_0 > 7
 ·rw [if_pos c5] at H; have c5b0 : decide (7 < a0_0) = true := decide_eq_true c5; clear c5; obtain rfl := Option.some.inj H
  go_enter Tryd.func33, Tryd.ntmps33
  go_wp2_with (first | ((with_reducible refine gate_dst (N := 1) rfl ?_); refine box_event ?hg (N := 1) ?hd (cs := #[.int .i64 a0_0, .int .i64 a0_1]) (t := 45) ?hr ?_; (case hd | hg => rfl); (case hr => go_simp; try rfl); intro gb201 hg w6 hbox hb; have BK201 := am (hbox); have GW201 := am (gq hg); have GE201 := am (gq hg); replace HB := sb hb; clear hb hbox hg; have ⟨b70, b71, d70, d71⟩ := bc2 BK201))
  go_ret
  exact ⟨eq_, bq⟩
 rw [if_neg c5] at H; have c5b0 : decide (7 < a0_0) = false := decide_eq_false c5; clear c5; by_cases c8 : a0_1 < 0
 ·rw [if_pos c8] at H; have c8b0 : decide (a0_1 < 0) = true := decide_eq_true c8; clear c8; obtain rfl := Option.some.inj H
  go_enter Tryd.func33, Tryd.ntmps33
  go_wp2_with (first | ((with_reducible refine gate_dst (N := 1) rfl ?_); refine box_event ?hg (N := 1) ?hd (cs := #[.int .i64 a0_0, .int .i64 a0_1]) (t := 45) ?hr ?_; (case hd | hg => rfl); (case hr => go_simp; try rfl); intro gb201 hg w9 hbox hb; have BK201 := am (hbox); have GW201 := am (gq hg); have GE201 := am (gq hg); replace HB := sb hb; clear hb hbox hg; have ⟨b100, b101, d100, d101⟩ := bc2 BK201))
  go_ret
  exact ⟨eq_, bq⟩
 rw [if_neg c8] at H; have c8b0 : decide (a0_1 < 0) = false := decide_eq_false c8; clear c8; by_cases c11 : a0_1 > 1
 ·rw [if_pos c11] at H; have c11b0 : decide (1 < a0_1) = true := decide_eq_true c11; clear c11; obtain rfl := Option.some.inj H
  go_enter Tryd.func33, Tryd.ntmps33
  go_wp2_with (first | ((with_reducible refine gate_dst (N := 1) rfl ?_); refine box_event ?hg (N := 1) ?hd (cs := #[.int .i64 a0_0, .int .i64 a0_1]) (t := 45) ?hr ?_; (case hd | hg => rfl); (case hr => go_simp; try rfl); intro gb201 hg w12 hbox hb; have BK201 := am (hbox); have GW201 := am (gq hg); have GE201 := am (gq hg); replace HB := sb hb; clear hb hbox hg; have ⟨b130, b131, d130, d131⟩ := bc2 BK201))
  go_ret
  exact ⟨eq_, bq⟩
 rw [if_neg c11] at H; have c11b0 : decide (1 < a0_1) = false := decide_eq_false c11; clear c11; by_cases c14 : a0_1 = 0
 ·rw [if_pos c14] at H; have c14b0 : (a0_1 == 0) = true := beq_iff_eq.mpr c14; have c14b1 : (a0_1 != 0) = false := bne_eq_false_iff_eq.mpr c14; clear c14; obtain rfl := Option.some.inj H
  go_enter Tryd.func33, Tryd.ntmps33
  go_wp2_with (first | ((with_reducible refine gate_dst (N := 1) rfl ?_); refine box_event ?hg (N := 1) ?hd (cs := #[.int .i64 a0_0, .int .i64 a0_1]) (t := 45) ?hr ?_; (case hd | hg => rfl); (case hr => go_simp; try rfl); intro gb201 hg w15 hbox hb; have BK201 := am (hbox); have GW201 := am (gq hg); have GE201 := am (gq hg); replace HB := sb hb; clear hb hbox hg; have ⟨b160, b161, d160, d161⟩ := bc2 BK201))
  go_ret
  exact ⟨eq_, bq⟩
 rw [if_neg c14] at H; have c14b0 : (a0_1 == 0) = false := beq_eq_false_iff_ne.mpr c14; have c14b1 : (a0_1 != 0) = true := bne_iff_ne.mpr c14; by_cases c17 : a0_0 = 3
 ·rw [if_pos c17] at H; have c17b0 : (a0_0 == 3) = true := beq_iff_eq.mpr c17; have c17b1 : (a0_0 != 3) = false := bne_eq_false_iff_eq.mpr c17; clear c17; obtain rfl := Option.some.inj H
  go_enter Tryd.func33, Tryd.ntmps33
  go_wp2_with (first | ((with_reducible refine gate_dst (N := 1) rfl ?_); refine box_event ?hg (N := 1) ?hd (cs := #[.int .i64 a0_0, .int .i64 a0_1]) (t := 45) ?hr ?_; (case hd | hg => rfl); (case hr => go_simp; try rfl); intro gb201 hg w18 hbox hb; have BK201 := am (hbox); have GW201 := am (gq hg); have GE201 := am (gq hg); replace HB := sb hb; clear hb hbox hg; have ⟨b190, b191, d190, d191⟩ := bc2 BK201))
  go_ret
  exact ⟨eq_, bq⟩
 rw [if_neg c17] at H; have c17b0 : (a0_0 == 3) = false := beq_eq_false_iff_ne.mpr c17; have c17b1 : (a0_0 != 3) = true := bne_iff_ne.mpr c17; obtain rfl := Option.some.inj H
 go_enter Tryd.func33, Tryd.ntmps33
 go_wp2_with (first | ((with_reducible refine gate_dst (N := 1) rfl ?_); refine box_event ?hg (N := 1) ?hd (cs := #[.int .i64 a0_0, .int .i64 a0_1]) (t := 45) ?hr ?_; (case hd | hg => rfl); (case hr => go_simp; try rfl); intro gb201 hg w20 hbox hb; have BK201 := am (hbox); have GW201 := am (gq hg); have GE201 := am (gq hg); replace HB := sb hb; clear hb hbox hg; have ⟨b210, b211, d210, d211⟩ := bc2 BK201))
 go_ret
 exact ⟨eq_, bq⟩



end

section
attribute [local go_sem high] eqA45
def impl_validCells.l0 : Nat → List (S45) → Int → Int → Option (Bool)
 | 0, _, _, _ => none
 | k + 1, x8, x9, x10 => if x10 < x9 then (if 0 ≤ x10 then (if x10 < (x8.length : Int) then ((impl_IsCell.f ((rd_T45 x8 x10).f0) ((rd_T45 x8 x10).f1)).bind fun t204 => (if t204 = true then (impl_validCells.l0 k x8 x9 (wrap64 (x10 + 1))) else (some false))) else (none)) else (none)) else (some true)
def impl_validCells.f (k : Nat) (l0 : List (S45)) : Option (Bool) := if (l0.length : Int) > 90 then (some false) else (impl_validCells.l0 k l0 (l0.length : Int) 0)
theorem impl_validCells.calls (k : Nat) (A0 : Option Addr) (c0 : Nat) (l0 : List (S45)) (r : Bool) (w : World) (hr0 : Kd.C k45 w A0 l0.length l0) (hc0 : l0.length ≤ c0) (h : impl_validCells.f k l0 = some r) :
  Calls Tryd.prog 42 #[.slice A0 l0.length c0] w fun e w' => e = .returned (.bool r) ∧ Below w.heap.size w w' := by
 have hu45 := Tryd.underlying45; have HR0 := am hr0; have HC0 := am hc0; clear hr0 hc0; have HB := am (Below.refl w.heap.size w); have H := h; clear h
 unfold impl_validCells.f at H
 by_cases c2 : (l0.length : Int) > 90
 ·rw [if_pos c2] at H; have c2b0 : decide (90 < (l0.length : Int)) = true := decide_eq_true c2; have c2b1 : decide (90 < l0.length) = true := decide_eq_true (by omega); clear c2; obtain rfl := Option.some.inj H
  go_enter Tryd.func42, Tryd.ntmps42
  go_wp2
  go_ret
  exact ⟨eq_, bq⟩
 rw [if_neg c2] at H; have c2b0 : decide (90 < (l0.length : Int)) = false := decide_eq_false c2; have c2b1 : decide (90 < l0.length) = false := decide_eq_false (by omega); clear c2; have H' := am H; clear H
 go_enter Tryd.func42, Tryd.ntmps42
 go_wp2
 go_loopg [10] k (fun kq v10 w' => ∃ (x10_1 : Int), v10 = .int .i64 x10_1 ∧ Aside0 (impl_validCells.l0 kq l0 (l0.length : Int) x10_1 = some r) ∧ Aside0 (kq ≤ k) ∧ Aside0 (Below w.heap.size w w'))
 case atStart => exact ⟨(0), sq, H', ⟨Nat.le_refl _⟩, ⟨bq⟩⟩
 case round =>
  clear H'; try clear c2b0
  try clear c2b1
  obtain ⟨x10_1, rfl, HA, HK1, HB⟩ := hrel
  cases gk with
  | zero => exact absurd HA.out (by simp [impl_validCells.l0])
  | succ k1 =>
   have H := HA.out; clear HA; simp only [impl_validCells.l0] at H; by_cases c3 : x10_1 < (l0.length : Int)
   ·rw [if_pos c3] at H; have c3b0 : decide (x10_1 < (l0.length : Int)) = true := decide_eq_true c3; clear c3; by_cases c4 : 0 ≤ x10_1
    ·rw [if_pos c4] at H; have c4b0 : decide (0 ≤ x10_1) = true := decide_eq_true c4; clear c4; by_cases c5 : x10_1 < (l0.length : Int)
     ·rw [if_pos c5] at H; have c5b0 : decide (x10_1 < (l0.length : Int)) = true := decide_eq_true c5; clear c5; obtain ⟨t204, A6, H⟩ := bindq H; try dsimp only at H
      by_cases c7 : t204 = true
      ·subst c7; rw [if_pos rfl] at H; try dsimp only at H
       have H' := am H; clear H; have p202 : 0 ≤ (x10_1 : Int) := of_decide_eq_true aq; have q202 : x10_1 < (l0.length : Int) := of_decide_eq_true aq; obtain ⟨ad202, e202, hx202_0, hx202_1⟩ := at_T45 HR0.out x10_1 p202 q202
       cases e202
       replace hx202_0 := (HB.out.cell (World.block_lt_of_cell? w _ hx202_0)).trans hx202_0; replace hx202_1 := (HB.out.cell (World.block_lt_of_cell? w _ hx202_1)).trans hx202_1; replace p202 := eq_true p202; replace q202 := eq_true q202; go_wp2_with (first | ((with_reducible refine gate_dst (N := 4) rfl ?_); refine box_event ?hg (N := 4) ?hd (cs := #[.int .i64 0, .int .i64 0]) (t := 45) ?hr ?_; (case hd | hg => rfl); (case hr => go_simp; try rfl); intro gb203 hg w8 hbox hb; have BK203 := am (hbox); have GW203 := am (gq hg); have GE203 := am (gq hg); replace HB := sb hb; clear hb hbox hg; have ⟨b90, b91, d90, d91⟩ := bc2 BK203) | ((with_reducible refine gate_callee (f := 33) rfl ?_); refine goesL_ (some 15) rfl rfl Tryd.func33 (by kernel_rfl) rfl #[.agg #[.int .i64 ((rd_T45 l0 x10_1).f0), .int .i64 ((rd_T45 l0 x10_1).f1)]] rfl mq ?_; (with_reducible refine (impl_IsCell.calls ((rd_T45 l0 x10_1).f0) ((rd_T45 l0 x10_1).f1) true _ A6.out).mono ?_); rintro e w10 ⟨rfl, hb⟩; refine ⟨_, rfl, ?_⟩; replace BK203 := zw (.cells #[.int .i64 ((rd_T45 l0 x10_1).f0), .int .i64 ((rd_T45 l0 x10_1).f1)] 45 (0, 0)) BK203 hb; replace HB := sb hb; (try clear hb)))
       go_roundg k1
       case measure => have := HK1.out; omega
       case rel => exact ⟨(wrap64 (x10_1 + 1)), sq, H', ⟨by have := HK1.out; omega⟩, ⟨bq⟩⟩
      replace c7 := Bool.eq_false_iff.mpr c7; subst c7; rw [if_neg (show ¬ (false = true) by decide)] at H; try dsimp only at H
      obtain rfl := Option.some.inj H; have p202 : 0 ≤ (x10_1 : Int) := of_decide_eq_true aq; have q202 : x10_1 < (l0.length : Int) := of_decide_eq_true aq; obtain ⟨ad202, e202, hx202_0, hx202_1⟩ := at_T45 HR0.out x10_1 p202 q202
      cases e202
      replace hx202_0 := (HB.out.cell (World.block_lt_of_cell? w _ hx202_0)).trans hx202_0; replace hx202_1 := (HB.out.cell (World.block_lt_of_cell? w _ hx202_1)).trans hx202_1; replace p202 := eq_true p202; replace q202 := eq_true q202; go_wp2_with (first | ((with_reducible refine gate_dst (N := 4) rfl ?_); refine box_event ?hg (N := 4) ?hd (cs := #[.int .i64 0, .int .i64 0]) (t := 45) ?hr ?_; (case hd | hg => rfl); (case hr => go_simp; try rfl); intro gb203 hg w11 hbox hb; have BK203 := am (hbox); have GW203 := am (gq hg); have GE203 := am (gq hg); replace HB := sb hb; clear hb hbox hg; have ⟨b120, b121, d120, d121⟩ := bc2 BK203) | ((with_reducible refine gate_callee (f := 33) rfl ?_); refine goesL_ (some 15) rfl rfl Tryd.func33 (by kernel_rfl) rfl #[.agg #[.int .i64 ((rd_T45 l0 x10_1).f0), .int .i64 ((rd_T45 l0 x10_1).f1)]] rfl mq ?_; (with_reducible refine (impl_IsCell.calls ((rd_T45 l0 x10_1).f0) ((rd_T45 l0 x10_1).f1) false _ A6.out).mono ?_); rintro e w13 ⟨rfl, hb⟩; refine ⟨_, rfl, ?_⟩; replace BK203 := zw (.cells #[.int .i64 ((rd_T45 l0 x10_1).f0), .int .i64 ((rd_T45 l0 x10_1).f1)] 45 (0, 0)) BK203 hb; replace HB := sb hb; (try clear hb)))
      go_ret
      exact ⟨eq_, bq⟩
     rw [if_neg c5] at H; exact absurd H (by simp)
    rw [if_neg c4] at H; exact absurd H (by simp)
   rw [if_neg c3] at H; have c3b0 : decide (x10_1 < (l0.length : Int)) = false := decide_eq_false c3; clear c3; obtain rfl := Option.some.inj H
   go_wp2
   go_ret
   exact ⟨eq_, bq⟩



end

section
attribute [local go_sem high] eqA45
def impl_IsBoard.f (k : Nat) (a0_0 : Int) (a0_1 : Int) (l0_2 : List (S45)) : Option (Bool) := if a0_0 ≥ 1 then (if a0_0 ≤ 10 then (if a0_1 ≥ 1 then (if a0_1 ≤ 9 then (if (l0_2.length : Int) = (wrap64 (a0_0 * a0_1)) then ((impl_validCells.f k l0_2).bind fun t206 => (some t206)) else (some false)) else (some false)) else (some false)) else (some false)) else (some false)
theorem impl_IsBoard.calls (k : Nat) (a0_0 : Int) (a0_1 : Int) (A0_2 : Option Addr) (c0_2 : Nat) (l0_2 : List (S45)) (r : Bool) (w : World) (hr0_2 : Kd.C k45 w A0_2 l0_2.length l0_2) (hc0_2 : l0_2.length ≤ c0_2) (h : impl_IsBoard.f k a0_0 a0_1 l0_2 = some r) :
  Calls Tryd.prog 30 #[.agg #[.int .i64 a0_0, .int .i64 a0_1, .slice A0_2 l0_2.length c0_2]] w fun e w' => e = .returned (.bool r) ∧ Below w.heap.size w w' := by
 have hu33 := Tryd.underlying33; have HR0_2 := am hr0_2; have HC0_2 := am hc0_2; clear hr0_2 hc0_2; have HB := am (Below.refl w.heap.size w); have H := h; clear h
 unfold impl_IsBoard.f at H
 by_cases c2 : a0_0 ≥ 1
 ·rw [if_pos c2] at H; have c2b0 : decide (1 ≤ a0_0) = true := decide_eq_true c2; clear c2; by_cases c3 : a0_0 ≤ 10
  ·rw [if_pos c3] at H; have c3b0 : decide (a0_0 ≤ 10) = true := decide_eq_true c3; clear c3; by_cases c4 : a0_1 ≥ 1
   ·rw [if_pos c4] at H; have c4b0 : decide (1 ≤ a0_1) = true := decide_eq_true c4; clear c4; by_cases c5 : a0_1 ≤ 9
    ·rw [if_pos c5] at H; have c5b0 : decide (a0_1 ≤ 9) = true := decide_eq_true c5; clear c5; by_cases c6 : (l0_2.length : Int) = (wrap64 (a0_0 * a0_1))
     ·rw [if_pos c6] at H; have c6b0 : ((l0_2.length : Int) == (wrap64 (a0_0 * a0_1))) = true := beq_iff_eq.mpr c6; have c6b1 : ((l0_2.length : Int) != (wrap64 (a0_0 * a0_1))) = false := bne_eq_false_iff_eq.mpr c6; clear c6; obtain ⟨t206, A7, H⟩ := bindq H; try dsimp only at H
      obtain rfl := Option.some.inj H
      go_enter Tryd.func30, Tryd.ntmps30
      go_wp2_with (first | ((with_reducible refine gate_dst (N := 1) rfl ?_); (try (refine gate_guard (by rfl) ?_; dsimp only)); refine box_event ?hg (N := 1) ?hd (cs := #[.int .i64 a0_0, .int .i64 a0_1, .slice A0_2 l0_2.length c0_2]) (t := 33) ?hr ?_; (case hd | hg => rfl); (case hr => go_simp; try rfl); intro gb205 hg w8 hbox hb; have BK205 := am (hbox); have GW205 := am (gq hg); have GE205 := am (gq hg); replace HB := sb hb; clear hb hbox hg; have ⟨b90, b91, b92, d90, d91, d92⟩ := bc3 BK205) | (go_at_call 42; (with_reducible refine (impl_validCells.calls k _ _ l0_2 t206 _ ?s1 ?s2 A7.out).mono ?_); (case s1 => exact cq (Kd.C_below HR0_2.out HB.out)); (case s2 => exact HC0_2.out); rintro e w10 ⟨rfl, hb⟩; replace BK205 := zb BK205 hb; replace HB := sb hb; (try clear hb)))
      go_ret
      exact ⟨eq_, bq⟩
     rw [if_neg c6] at H; have c6b0 : ((l0_2.length : Int) == (wrap64 (a0_0 * a0_1))) = false := beq_eq_false_iff_ne.mpr c6; have c6b1 : ((l0_2.length : Int) != (wrap64 (a0_0 * a0_1))) = true := bne_iff_ne.mpr c6; obtain rfl := Option.some.inj H
     go_enter Tryd.func30, Tryd.ntmps30
     go_wp2_with (first | ((with_reducible refine gate_dst (N := 1) rfl ?_); (try (refine gate_guard (by rfl) ?_; dsimp only)); refine box_event ?hg (N := 1) ?hd (cs := #[.int .i64 a0_0, .int .i64 a0_1, .slice A0_2 l0_2.length c0_2]) (t := 33) ?hr ?_; (case hd | hg => rfl); (case hr => go_simp; try rfl); intro gb205 hg w11 hbox hb; have BK205 := am (hbox); have GW205 := am (gq hg); have GE205 := am (gq hg); replace HB := sb hb; clear hb hbox hg; have ⟨b120, b121, b122, d120, d121, d122⟩ := bc3 BK205))
     go_ret
     exact ⟨eq_, bq⟩
    rw [if_neg c5] at H; have c5b0 : decide (a0_1 ≤ 9) = false := decide_eq_false c5; clear c5; obtain rfl := Option.some.inj H
    go_enter Tryd.func30, Tryd.ntmps30
    go_wp2_with (first | ((with_reducible refine gate_dst (N := 1) rfl ?_); (try (refine gate_guard (by rfl) ?_; dsimp only)); refine box_event ?hg (N := 1) ?hd (cs := #[.int .i64 a0_0, .int .i64 a0_1, .slice A0_2 l0_2.length c0_2]) (t := 33) ?hr ?_; (case hd | hg => rfl); (case hr => go_simp; try rfl); intro gb205 hg w13 hbox hb; have BK205 := am (hbox); have GW205 := am (gq hg); have GE205 := am (gq hg); replace HB := sb hb; clear hb hbox hg; have ⟨b140, b141, b142, d140, d141, d142⟩ := bc3 BK205))
    go_ret
    exact ⟨eq_, bq⟩
   rw [if_neg c4] at H; have c4b0 : decide (1 ≤ a0_1) = false := decide_eq_false c4; clear c4; obtain rfl := Option.some.inj H
   go_enter Tryd.func30, Tryd.ntmps30
   go_wp2_with (first | ((with_reducible refine gate_dst (N := 1) rfl ?_); (try (refine gate_guard (by rfl) ?_; dsimp only)); refine box_event ?hg (N := 1) ?hd (cs := #[.int .i64 a0_0, .int .i64 a0_1, .slice A0_2 l0_2.length c0_2]) (t := 33) ?hr ?_; (case hd | hg => rfl); (case hr => go_simp; try rfl); intro gb205 hg w15 hbox hb; have BK205 := am (hbox); have GW205 := am (gq hg); have GE205 := am (gq hg); replace HB := sb hb; clear hb hbox hg; have ⟨b160, b161, b162, d160, d161, d162⟩ := bc3 BK205))
   go_ret
   exact ⟨eq_, bq⟩
  rw [if_neg c3] at H; have c3b0 : decide (a0_0 ≤ 10) = false := decide_eq_false c3; clear c3; obtain rfl := Option.some.inj H
  go_enter Tryd.func30, Tryd.ntmps30
  go_wp2_with (first | ((with_reducible refine gate_dst (N := 1) rfl ?_); (try (refine gate_guard (by rfl) ?_; dsimp only)); refine box_event ?hg (N := 1) ?hd (cs := #[.int .i64 a0_0, .int .i64 a0_1, .slice A0_2 l0_2.length c0_2]) (t := 33) ?hr ?_; (case hd | hg => rfl); (case hr => go_simp; try rfl); intro gb205 hg w17 hbox hb; have BK205 := am (hbox); have GW205 := am (gq hg); have GE205 := am (gq hg); replace HB := sb hb; clear hb hbox hg; have ⟨b180, b181, b182, d180, d181, d182⟩ := bc3 BK205))
  go_ret
  exact ⟨eq_, bq⟩
 rw [if_neg c2] at H; have c2b0 : decide (1 ≤ a0_0) = false := decide_eq_false c2; clear c2; obtain rfl := Option.some.inj H
 go_enter Tryd.func30, Tryd.ntmps30
 go_wp2_with (first | ((with_reducible refine gate_dst (N := 1) rfl ?_); (try (refine gate_guard (by rfl) ?_; dsimp only)); refine box_event ?hg (N := 1) ?hd (cs := #[.int .i64 a0_0, .int .i64 a0_1, .slice A0_2 l0_2.length c0_2]) (t := 33) ?hr ?_; (case hd | hg => rfl); (case hr => go_simp; try rfl); intro gb205 hg w19 hbox hb; have BK205 := am (hbox); have GW205 := am (gq hg); have GE205 := am (gq hg); replace HB := sb hb; clear hb hbox hg; have ⟨b200, b201, b202, d200, d201, d202⟩ := bc3 BK205))
 go_ret
 exact ⟨eq_, bq⟩



end

section
attribute [local go_sem high] eqA45
def impl_onBoard.f (k : Nat) (a0_0 : Int) (a0_1 : Int) (l0_2 : List (S45)) (a1 : Int) (a2 : Int) : Option (Bool) := (impl_IsBoard.f k a0_0 a0_1 l0_2).bind fun t208 => (if t208 = true then (if a1 ≥ 0 then (if a1 < a0_0 then (if a2 ≥ 0 then (some (decide (a2 < a0_1))) else (some false)) else (some false)) else (some false)) else (some false))
theorem impl_onBoard.calls (k : Nat) (a0_0 : Int) (a0_1 : Int) (A0_2 : Option Addr) (c0_2 : Nat) (l0_2 : List (S45)) (a1 : Int) (a2 : Int) (r : Bool) (w : World) (hr0_2 : Kd.C k45 w A0_2 l0_2.length l0_2) (hc0_2 : l0_2.length ≤ c0_2) (h : impl_onBoard.f k a0_0 a0_1 l0_2 a1 a2 = some r) :
  Calls Tryd.prog 43 #[.agg #[.int .i64 a0_0, .int .i64 a0_1, .slice A0_2 l0_2.length c0_2], .int .i64 a1, .int .i64 a2] w fun e w' => e = .returned (.bool r) ∧ Below w.heap.size w w' := by
 have hu33 := Tryd.underlying33; have HR0_2 := am hr0_2; have HC0_2 := am hc0_2; clear hr0_2 hc0_2; have HB := am (Below.refl w.heap.size w); have H := h; clear h
 unfold impl_onBoard.f at H
 obtain ⟨t208, A4, H⟩ := bindq H; try dsimp only at H
 by_cases c5 : t208 = true
 ·subst c5; rw [if_pos rfl] at H; try dsimp only at H
  by_cases c6 : a1 ≥ 0
  ·rw [if_pos c6] at H; have c6b0 : decide (0 ≤ a1) = true := decide_eq_true c6; clear c6; by_cases c7 : a1 < a0_0
   ·rw [if_pos c7] at H; have c7b0 : decide (a1 < a0_0) = true := decide_eq_true c7; clear c7; by_cases c8 : a2 ≥ 0
    ·rw [if_pos c8] at H; have c8b0 : decide (0 ≤ a2) = true := decide_eq_true c8; clear c8; obtain rfl := Option.some.inj H
     go_enter Tryd.func43, Tryd.ntmps43
     go_wp2_with (first | ((with_reducible refine gate_dst (N := 3) rfl ?_); refine box_event ?hg (N := 3) ?hd (cs := #[.int .i64 a0_0, .int .i64 a0_1, .slice A0_2 l0_2.length c0_2]) (t := 33) ?hr ?_; (case hd | hg => rfl); (case hr => go_simp; try rfl); intro gb207 hg w9 hbox hb; have BK207 := am (hbox); have GW207 := am (gq hg); have GE207 := am (gq hg); replace HB := sb hb; clear hb hbox hg; have ⟨b100, b101, b102, d100, d101, d102⟩ := bc3 BK207) | ((with_reducible refine gate_callee (f := 30) rfl ?_); refine goesL_ (some 8) rfl rfl Tryd.func30 (by kernel_rfl) rfl #[.agg #[.int .i64 a0_0, .int .i64 a0_1, .slice A0_2 l0_2.length c0_2]] rfl mq ?_; (with_reducible refine (impl_IsBoard.calls k a0_0 a0_1 _ _ l0_2 true _ ?s1 ?s2 A4.out).mono ?_); (case s1 => exact cq (Kd.C_below HR0_2.out HB.out)); (case s2 => exact HC0_2.out); rintro e w11 ⟨rfl, hb⟩; refine ⟨_, rfl, ?_⟩; replace BK207 := zb BK207 hb; replace HB := sb hb; (try clear hb); have ⟨b120, b121, b122, d120, d121, d122⟩ := bc3 BK207))
     go_ret
     exact ⟨eq_, bq⟩
    rw [if_neg c8] at H; have c8b0 : decide (0 ≤ a2) = false := decide_eq_false c8; clear c8; obtain rfl := Option.some.inj H
    go_enter Tryd.func43, Tryd.ntmps43
    go_wp2_with (first | ((with_reducible refine gate_dst (N := 3) rfl ?_); refine box_event ?hg (N := 3) ?hd (cs := #[.int .i64 a0_0, .int .i64 a0_1, .slice A0_2 l0_2.length c0_2]) (t := 33) ?hr ?_; (case hd | hg => rfl); (case hr => go_simp; try rfl); intro gb207 hg w13 hbox hb; have BK207 := am (hbox); have GW207 := am (gq hg); have GE207 := am (gq hg); replace HB := sb hb; clear hb hbox hg; have ⟨b140, b141, b142, d140, d141, d142⟩ := bc3 BK207) | ((with_reducible refine gate_callee (f := 30) rfl ?_); refine goesL_ (some 8) rfl rfl Tryd.func30 (by kernel_rfl) rfl #[.agg #[.int .i64 a0_0, .int .i64 a0_1, .slice A0_2 l0_2.length c0_2]] rfl mq ?_; (with_reducible refine (impl_IsBoard.calls k a0_0 a0_1 _ _ l0_2 true _ ?s1 ?s2 A4.out).mono ?_); (case s1 => exact cq (Kd.C_below HR0_2.out HB.out)); (case s2 => exact HC0_2.out); rintro e w15 ⟨rfl, hb⟩; refine ⟨_, rfl, ?_⟩; replace BK207 := zb BK207 hb; replace HB := sb hb; (try clear hb); have ⟨b160, b161, b162, d160, d161, d162⟩ := bc3 BK207))
    go_ret
    exact ⟨eq_, bq⟩
   rw [if_neg c7] at H; have c7b0 : decide (a1 < a0_0) = false := decide_eq_false c7; clear c7; obtain rfl := Option.some.inj H
   go_enter Tryd.func43, Tryd.ntmps43
   go_wp2_with (first | ((with_reducible refine gate_dst (N := 3) rfl ?_); refine box_event ?hg (N := 3) ?hd (cs := #[.int .i64 a0_0, .int .i64 a0_1, .slice A0_2 l0_2.length c0_2]) (t := 33) ?hr ?_; (case hd | hg => rfl); (case hr => go_simp; try rfl); intro gb207 hg w17 hbox hb; have BK207 := am (hbox); have GW207 := am (gq hg); have GE207 := am (gq hg); replace HB := sb hb; clear hb hbox hg; have ⟨b180, b181, b182, d180, d181, d182⟩ := bc3 BK207) | ((with_reducible refine gate_callee (f := 30) rfl ?_); refine goesL_ (some 8) rfl rfl Tryd.func30 (by kernel_rfl) rfl #[.agg #[.int .i64 a0_0, .int .i64 a0_1, .slice A0_2 l0_2.length c0_2]] rfl mq ?_; (with_reducible refine (impl_IsBoard.calls k a0_0 a0_1 _ _ l0_2 true _ ?s1 ?s2 A4.out).mono ?_); (case s1 => exact cq (Kd.C_below HR0_2.out HB.out)); (case s2 => exact HC0_2.out); rintro e w19 ⟨rfl, hb⟩; refine ⟨_, rfl, ?_⟩; replace BK207 := zb BK207 hb; replace HB := sb hb; (try clear hb); have ⟨b200, b201, b202, d200, d201, d202⟩ := bc3 BK207))
   go_ret
   exact ⟨eq_, bq⟩
  rw [if_neg c6] at H; have c6b0 : decide (0 ≤ a1) = false := decide_eq_false c6; clear c6; obtain rfl := Option.some.inj H
  go_enter Tryd.func43, Tryd.ntmps43
  go_wp2_with (first | ((with_reducible refine gate_dst (N := 3) rfl ?_); refine box_event ?hg (N := 3) ?hd (cs := #[.int .i64 a0_0, .int .i64 a0_1, .slice A0_2 l0_2.length c0_2]) (t := 33) ?hr ?_; (case hd | hg => rfl); (case hr => go_simp; try rfl); intro gb207 hg w21 hbox hb; have BK207 := am (hbox); have GW207 := am (gq hg); have GE207 := am (gq hg); replace HB := sb hb; clear hb hbox hg; have ⟨b220, b221, b222, d220, d221, d222⟩ := bc3 BK207) | ((with_reducible refine gate_callee (f := 30) rfl ?_); refine goesL_ (some 8) rfl rfl Tryd.func30 (by kernel_rfl) rfl #[.agg #[.int .i64 a0_0, .int .i64 a0_1, .slice A0_2 l0_2.length c0_2]] rfl mq ?_; (with_reducible refine (impl_IsBoard.calls k a0_0 a0_1 _ _ l0_2 true _ ?s1 ?s2 A4.out).mono ?_); (case s1 => exact cq (Kd.C_below HR0_2.out HB.out)); (case s2 => exact HC0_2.out); rintro e w23 ⟨rfl, hb⟩; refine ⟨_, rfl, ?_⟩; replace BK207 := zb BK207 hb; replace HB := sb hb; (try clear hb)))
  go_ret
  exact ⟨eq_, bq⟩
 replace c5 := Bool.eq_false_iff.mpr c5; subst c5; rw [if_neg (show ¬ (false = true) by decide)] at H; try dsimp only at H
 obtain rfl := Option.some.inj H
 go_enter Tryd.func43, Tryd.ntmps43
 go_wp2_with (first | ((with_reducible refine gate_dst (N := 3) rfl ?_); refine box_event ?hg (N := 3) ?hd (cs := #[.int .i64 a0_0, .int .i64 a0_1, .slice A0_2 l0_2.length c0_2]) (t := 33) ?hr ?_; (case hd | hg => rfl); (case hr => go_simp; try rfl); intro gb207 hg w24 hbox hb; have BK207 := am (hbox); have GW207 := am (gq hg); have GE207 := am (gq hg); replace HB := sb hb; clear hb hbox hg; have ⟨b250, b251, b252, d250, d251, d252⟩ := bc3 BK207) | ((with_reducible refine gate_callee (f := 30) rfl ?_); refine goesL_ (some 8) rfl rfl Tryd.func30 (by kernel_rfl) rfl #[.agg #[.int .i64 a0_0, .int .i64 a0_1, .slice A0_2 l0_2.length c0_2]] rfl mq ?_; (with_reducible refine (impl_IsBoard.calls k a0_0 a0_1 _ _ l0_2 false _ ?s1 ?s2 A4.out).mono ?_); (case s1 => exact cq (Kd.C_below HR0_2.out HB.out)); (case s2 => exact HC0_2.out); rintro e w26 ⟨rfl, hb⟩; refine ⟨_, rfl, ?_⟩; replace BK207 := zb BK207 hb; replace HB := sb hb; (try clear hb)))
 go_ret
 exact ⟨eq_, bq⟩



end

end Go.Proofs.YtkkgjljcgnegpaaDoor.Pall
