import Derived.Test.YtokigipkoeeddaaProg
import Derived.Below
import Derived.Deep.Draws
import Derived.Deep.AppendLies
import Derived.Maps.AppendAt
import Derived.OwnWalk
import Derived.Laws.BytesArg
import Derived.Laws.MakeOwn
import Derived.Laws.OwnMore
import Derived.Deep.OwnRows
import Derived.Tactics
import Derived.Lib.ConvBytes
import Derived.Laws.Slices
import Derived.WalkKit
import Derived.KernelRfl
import Derived.RowKit3
import Derived.Deep.LoopGhost
import Derived.Deep.QuietTactic
import Derived.BigQuiet
import Derived.WideLaws
import Derived.Deep.DeepCutAuto
import Derived.Deep.CutBlock
import Derived.Deep.RegionHeld3
import Derived.Laws.Rows
import Derived.Lib.AppendStr
import Derived.ArgAppend
import Derived.Laws.IdiomCopy
import Derived.OrdersHeld
import Derived.Laws.BitsLemmas
import Derived.RowKit
import Derived.Test.YtokigipkoeeddaaMWFnExactReturnParts
namespace Go.Proofs.Ytokigipkoeeddaa.Pall
open Go.RowKit Go.Proofs.YtokigipkoeeddaaW.PrintWords Go.Proofs.YtokigipkoeeddaaW.PrintLast Go.Proofs.YtokigipkoeeddaaW.PrintMore
attribute [local go_sem] max2_int min2_int max_two min_two max_three min_three max_four min_four   -- for this text's walks alone
set_option linter.unusedVariables false
set_option linter.unusedSimpArgs false
set_option maxHeartbeats 8000000
set_option maxRecDepth 100000



def errW : Option Int → Value
  | none => .nilIface
  | some c => .iface 0 (.int .i64 c)
theorem errW_none : errW none = .nilIface := rfl
theorem errW_some (c : Int) : errW (some c) = .iface 0 (.int .i64 c) := rfl

theorem info3 : (Try.prog.info? 3).map (fun i => (i.zero, i.size, i.bytes)) = some (some (.int .i64 0), 1, 8) := by kernel_rfl
theorem info41 : (Try.prog.info? 41).map (fun i => (i.zero, i.size, i.bytes)) = some (some (.agg #[(.int .i64 0), (.int .i64 0), (.int .i64 0), (.int .i64 0)]), 4, 32) := by kernel_rfl
structure S39 where
  f0 : Int
  f1 : Int
  f2 : Int
  f3 : Int
def z39 : S39 := ⟨(0 : Int), (0 : Int), (0 : Int), (0 : Int)⟩
def k39 : Kd S39 := Kd.iso (Kd.pair (Kd.int .i64) (Kd.pair (Kd.int .i64) (Kd.pair (Kd.int .i64) (Kd.int .i64)))) (fun x : S39 => (x.f0, x.f1, x.f2, x.f3))
theorem k39_open {w : World} {x : S39} {cs : List Value} (h : k39.K w x cs) : cs = [.int .i64 x.f0, .int .i64 x.f1, .int .i64 x.f2, .int .i64 x.f3] := by
  obtain ⟨_, _, rfl, rfl, ⟨_, _, rfl, rfl, ⟨_, _, rfl, rfl, rfl⟩⟩⟩ := h
  exact rfl
def rd_T39 (xs : List S39) (i : Int) : S39 := xs.getD i.toNat z39
theorem at_T39 {w : World} {A : Option Addr} {n : Nat} {xs : List S39} (h : Kd.C k39 w A n xs) (i : Int) (h0 : 0 ≤ i) (h1 : i < n) : ∃ ad , A = some ad ∧ w.cell? (ad.add (i.toNat * 4)) = some (.int .i64 (rd_T39 xs i).f0) ∧ w.cell? ⟨(ad.add (i.toNat * 4)).block, (ad.add (i.toNat * 4)).off + 1, none⟩ = some (.int .i64 (rd_T39 xs i).f1) ∧ w.cell? ⟨(ad.add (i.toNat * 4)).block, (ad.add (i.toNat * 4)).off + 2, none⟩ = some (.int .i64 (rd_T39 xs i).f2) ∧ w.cell? ⟨(ad.add (i.toNat * 4)).block, (ad.add (i.toNat * 4)).off + 3, none⟩ = some (.int .i64 (rd_T39 xs i).f3) := by
  obtain ⟨ad, c, e, _, hK, hc0⟩ := Kd.C_get h z39 i h0 h1
  have hc : ∀ j u, c[j]? = some u → w.cell? (ad.add (i.toNat * 4 + j)) = some u := hc0
  obtain rfl := k39_open hK
  exact ⟨ad, e, hc 0 _ rfl, by rw [← add_field _ _ 1 (by omega)]; exact hc 1 _ rfl, by rw [← add_field _ _ 2 (by omega)]; exact hc 2 _ rfl, by rw [← add_field _ _ 3 (by omega)]; exact hc 3 _ rfl⟩

structure S41 where
  f0 : Int
  f1 : Int
  f2 : Int
  f3 : Int
def z41 : S41 := ⟨(0 : Int), (0 : Int), (0 : Int), (0 : Int)⟩
def k41 : Kd S41 := Kd.iso (Kd.pair (Kd.int .i64) (Kd.pair (Kd.int .i64) (Kd.pair (Kd.int .i64) (Kd.int .i64)))) (fun x : S41 => (x.f0, x.f1, x.f2, x.f3))
theorem k41_open {w : World} {x : S41} {cs : List Value} (h : k41.K w x cs) : cs = [.int .i64 x.f0, .int .i64 x.f1, .int .i64 x.f2, .int .i64 x.f3] := by
  obtain ⟨_, _, rfl, rfl, ⟨_, _, rfl, rfl, ⟨_, _, rfl, rfl, rfl⟩⟩⟩ := h
  exact rfl
theorem k41_openM {w : World} {base : Nat} {ok : Nat → Prop} {x : S41} {cs : List Value} (h : k41.M w base ok x cs) : cs = [.int .i64 x.f0, .int .i64 x.f1, .int .i64 x.f2, .int .i64 x.f3] := by
  obtain ⟨_, _, rfl, rfl, ⟨_, _, rfl, rfl, ⟨_, _, rfl, rfl, rfl⟩⟩⟩ := h
  exact rfl
theorem k41_mkM (w : World) (base : Nat) (ok : Nat → Prop) (x : S41)  : k41.M w base ok x [.int .i64 x.f0, .int .i64 x.f1, .int .i64 x.f2, .int .i64 x.f3] := ⟨[.int .i64 x.f0], [.int .i64 x.f1, .int .i64 x.f2, .int .i64 x.f3], rfl, rfl, ⟨[.int .i64 x.f1], [.int .i64 x.f2, .int .i64 x.f3], rfl, rfl, ⟨[.int .i64 x.f2], [.int .i64 x.f3], rfl, rfl, rfl⟩⟩⟩
def rd_T41 (xs : List S41) (i : Int) : S41 := xs.getD i.toNat z41
theorem at_T41 {w : World} {A : Option Addr} {n : Nat} {xs : List S41} (h : Kd.C k41 w A n xs) (i : Int) (h0 : 0 ≤ i) (h1 : i < n) : ∃ ad , A = some ad ∧ w.cell? (ad.add (i.toNat * 4)) = some (.int .i64 (rd_T41 xs i).f0) ∧ w.cell? ⟨(ad.add (i.toNat * 4)).block, (ad.add (i.toNat * 4)).off + 1, none⟩ = some (.int .i64 (rd_T41 xs i).f1) ∧ w.cell? ⟨(ad.add (i.toNat * 4)).block, (ad.add (i.toNat * 4)).off + 2, none⟩ = some (.int .i64 (rd_T41 xs i).f2) ∧ w.cell? ⟨(ad.add (i.toNat * 4)).block, (ad.add (i.toNat * 4)).off + 3, none⟩ = some (.int .i64 (rd_T41 xs i).f3) := by
  obtain ⟨ad, c, e, _, hK, hc0⟩ := Kd.C_get h z41 i h0 h1
  have hc : ∀ j u, c[j]? = some u → w.cell? (ad.add (i.toNat * 4 + j)) = some u := hc0
  obtain rfl := k41_open hK
  exact ⟨ad, e, hc 0 _ rfl, by rw [← add_field _ _ 1 (by omega)]; exact hc 1 _ rfl, by rw [← add_field _ _ 2 (by omega)]; exact hc 2 _ rfl, by rw [← add_field _ _ 3 (by omega)]; exact hc 3 _ rfl⟩



theorem bq {B : Nat} {w w' : World} (h : Below B w w' := by repeat (first | (with_reducible first | exact HB.out | apply below_alloc | apply pw_below_drewN | apply below_drew1 | refine below_set ?_ (Aside0.out (by assumption))) | exact HB.out)) : Below B w w' := h
theorem hkq {P : Prop} (h : P := by repeat (first | (with_reducible first | exact HK.out | apply Kept.alloc | apply Kept.drewN | apply Kept.drew) | exact HK.out)) : P := h
theorem rq {P Q : Prop} (H : Aside0 P) (h : P → Q := by intro h_; (with_reducible repeat (first | apply Kd.R_alloc | apply Kd.R_drewN | apply Kd.R_drew)); exact h_) : Q := h H.out
theorem zq {P Q : Prop} (H : Aside0 P) (h : P → Q := by intro h_; (with_reducible repeat (first | refine blk_drewN ?_ _ | refine blk_drew ?_ | refine blk_alloc ?_ _)); exact h_) : Q := h H.out
theorem cq {P Q : Prop} (H : P) (h : P → Q := by intro h_; repeat (first | exact h_ | (with_reducible refine Kd.C_alloc ?_ _) | (with_reducible refine Kd.C_drewN ?_ _) | (with_reducible refine Kd.C_drew ?_))) : Q := h H
theorem gq {B : Nat} {w w' : World} {g : Nat} (hg : g = w'.heap.size) (h : Below B w w' := by repeat (first | (with_reducible first | exact HB.out | apply below_alloc | apply pw_below_drewN | apply below_drew1 | refine below_set ?_ (Aside0.out (by assumption))) | exact HB.out)) (hB : B = w.heap.size := by rfl) : B ≤ g := by subst hB; subst hg; exact below_size h
theorem eq_ {P : Prop} (h : P := by first | rfl | (simp [errW_none, errW_some] <;> rfl) | (simp [*, errW_none, errW_some] <;> rfl)) : P := h
theorem sq {P : Prop} (h : P := by first | rfl | (simp; done) | (simp [*]; done)) : P := h
theorem aq {P : Prop} (h : P := by first | (with_reducible assumption) | assumption) : P := h
theorem mq {P : Prop} (h : P := by (try simp only [List.map_toArray, List.map_cons, List.map_nil]); first | done | rfl | (simp only [List.length_drop, List.length_take]; rfl)) : P := h
theorem bindq {α β : Type} {o : Option α} {f : α → Option β} {r : β} (h : o.bind f = some r) : ∃ a, Aside0 (o = some a) ∧ f a = some r := by
  obtain ⟨a, h1, h2⟩ := Option.bind_eq_some_iff.mp h
  exact ⟨a, ⟨h1⟩, h2⟩
theorem rb {α : Type} {d : Kd α} {e base : Nat} {ok : Nat → Prop} {W W' w' : World} {v : Value} {xs : List α} (H : Aside0 (Kd.R d e W base ok v xs)) (hb : Below W'.heap.size W' w') (h : Kd.R d e W base ok v xs → Kd.R d e W' base ok v xs := by intro h_; (with_reducible repeat (first | apply Kd.R_alloc | apply Kd.R_drewN | apply Kd.R_drew)); exact h_) : Aside0 (Kd.R d e w' base ok v xs) := ⟨Kd.R_below (h H.out) hb⟩
theorem sb {w W w' : World} (hb : Below W.heap.size W w') (h : Below w.heap.size w W := by repeat (first | (with_reducible first | exact HB.out | apply below_alloc | apply pw_below_drewN | apply below_drew1 | refine below_set ?_ (Aside0.out (by assumption))) | exact HB.out)) : Aside0 (Below w.heap.size w w') := ⟨below_step h hb⟩
theorem rl {α : Type} {d : Kd α} {e : Nat} {ok : Nat → Prop} {w W W' : World} {v : Value} {xs : List α} (ho : Kd.R d e W' W.heap.size ok v xs) (h : Below w.heap.size w W := by repeat (first | (with_reducible first | exact HB.out | apply below_alloc | apply pw_below_drewN | apply below_drew1 | refine below_set ?_ (Aside0.out (by assumption))) | exact HB.out)) : Aside0 (Kd.R d e W' w.heap.size ok v xs) := ⟨Kd.R_lower ho (below_size h)⟩
theorem nl {W W' : World} {g g' : Nat} {o : Obj} (hg : g' = W'.heap.size) (H : Aside0 (W.heap[g]? = some o)) (h : W.heap[g]? = some o → W'.heap[g]? = some o := by intro h_; (with_reducible repeat (first | refine blk_drewN ?_ _ | refine blk_drew ?_ | refine blk_alloc ?_ _)); exact h_) : Aside0 (g ≠ g') := ⟨by rw [hg]; exact Nat.ne_of_lt (blk_lt (h H.out))⟩
theorem ng {W W' : World} {g g' : Nat} {o : Obj} (hg : g' = W'.heap.size) (H : Aside0 (W.heap[g]? = some o)) (h : W.heap[g]? = some o → W'.heap[g]? = some o := by intro h_; (with_reducible repeat (first | refine blk_drewN ?_ _ | refine blk_drew ?_ | refine blk_alloc ?_ _)); exact h_) : Aside0 (g' ≠ g) := ⟨by rw [hg]; exact Nat.ne_of_gt (blk_lt (h H.out))⟩
theorem rq1 {α : Type} {d : Kd α} {e base : Nat} {ok : Nat → Prop} {W : World} {A : Option Addr} {n c : Nat} {xs : List α} (H : Aside0 (Kd.R d e W base ok (.slice A n c) xs)) : n ≤ c := (Kd.R_reads' H.out).2.1
theorem cr {α : Type} {d : Kd α} {e base : Nat} {ok : Nat → Prop} {W : World} {A : Option Addr} {n c : Nat} {xs : List α} {Q : Prop} (H : Aside0 (Kd.R d e W base ok (.slice A n c) xs)) (h : Kd.C d W A xs.length xs → Q := by intro h_; repeat (first | exact h_ | (with_reducible refine Kd.C_alloc ?_ _) | (with_reducible refine Kd.C_drewN ?_ _) | (with_reducible refine Kd.C_drew ?_))) : Q := h (Kd.R_reads' H.out).2.2
theorem ff {α : Type} {d : Kd α} {e base t g : Nat} {ok : Nat → Prop} {W W' : World} {v : Value} {xs : List α} {cs : Array Value} (H : Aside0 (Kd.R d e W base ok v xs)) (B : Aside0 (W.heap[g]? = some (.cells cs t (0, 0)))) (hne : ∀ q, q ∈ e :: d.E → q ≠ t := by decide) (h : Kd.R d e W base (fun k => ok k ∧ k ≠ g) v xs → Kd.R d e W' base (fun k => ok k ∧ k ≠ g) v xs := by intro h_; (repeat (first | (with_reducible exact h_) | (with_reducible first | apply Kd.R_alloc | apply Kd.R_drewN | apply Kd.R_drew) | (with_reducible refine Kd.R_far ?_ (fun _ hk => hk.2) _))); all_goals exact h_) : Kd.R d e W' base (fun k => ok k ∧ k ≠ g) v xs := h (Kd.R_types H.out B.out hne)
theorem fq {α : Type} {d : Kd α} {e base t g : Nat} {ok : Nat → Prop} {W W' : World} {v : Value} {xs : List α} {cs : Array Value} (H : Aside0 (Kd.R d e W base ok v xs)) (B : Aside0 (W.heap[g]? = some (.cells cs t (0, 0)))) (hne : ∀ q, q ∈ e :: d.E → q ≠ t := by decide) (h : Kd.R d e W base (fun k => ok k ∧ k ≠ g) v xs → Kd.R d e W' base (fun k => ok k ∧ k ≠ g) v xs := by intro h_; (repeat (first | (with_reducible exact h_) | (with_reducible first | apply Kd.R_alloc | apply Kd.R_drewN | apply Kd.R_drew) | (with_reducible refine Kd.R_far ?_ (fun _ hk => hk.2) _))); all_goals exact h_) : Kd.R d e W' base ok v xs := Kd.R_mono (h (Kd.R_types H.out B.out hne)) (fun _ h_ => h_.1)
theorem zp {P Q : Prop} (H : Aside0 P) (h : P → Q := by intro h_; (repeat (first | (with_reducible exact h_) | (with_reducible first | refine blk_drewN ?_ _ | refine blk_drew ?_ | refine blk_alloc ?_ _) | (with_reducible refine (Below.heap_setCell _ _ _ _ (Aside0.out (by assumption))).trans ?_) | (with_reducible apply blk_put))); all_goals (first | rfl | exact h_)) : Q := h H.out
theorem rm {α : Type} {d : Kd α} {e base : Nat} {ok ok' : Nat → Prop} {W W' : World} {v : Value} {xs : List α} (H : Aside0 (Kd.R d e W base ok v xs)) (hok : ∀ k, ok k → ok' k := by intro _ hk; first | exact trivial | exact hk | simp only [hk, ne_eq, not_false_eq_true, and_self]) (h : Kd.R d e W base ok' v xs → Kd.R d e W' base ok' v xs := by intro h_; (with_reducible repeat (first | apply Kd.R_alloc | apply Kd.R_drewN | apply Kd.R_drew)); exact h_) : Kd.R d e W' base ok' v xs := h (Kd.R_mono H.out hok)
theorem cf {α : Type} {d : Kd α} {e base t g n c : Nat} {ok : Nat → Prop} {W W' : World} {A : Option Addr} {xs : List α} {cs : Array Value} (H : Aside0 (Kd.R d e W base ok (.slice A n c) xs)) (B : Aside0 (W.heap[g]? = some (.cells cs t (0, 0)))) (hne : ∀ q, q ∈ e :: d.E → q ≠ t := by decide) (h : Kd.R d e W base (fun k => ok k ∧ k ≠ g) (.slice A n c) xs → Kd.R d e W' base (fun k => ok k ∧ k ≠ g) (.slice A n c) xs := by intro h_; (repeat (first | (with_reducible exact h_) | (with_reducible first | apply Kd.R_alloc | apply Kd.R_drewN | apply Kd.R_drew) | (with_reducible refine Kd.R_far ?_ (fun _ hk => hk.2) _))); all_goals exact h_) : Kd.C d W' A xs.length xs := (Kd.R_reads' (h (Kd.R_types H.out B.out hne))).2.2
theorem cl {P : Prop} (h : P := by (repeat' apply And.intro) <;> exact (blk_cell (Aside0.out (by assumption)) _).trans rfl) : P := h
theorem chf {P Q : Prop} (hH : P) (h : P → Q := by intro h_; (repeat' apply And.intro) <;> (repeat (with_reducible refine (cell_far (Aside0.out (by assumption)) _).trans ?_)) <;> simp only [h_]) : Q := h hH
theorem am {p : Prop} (h : p) : Aside0 p := ⟨h⟩
theorem lw {α : Type} {d : Kd α} {e base : Nat} {ok : Nat → Prop} {W W' : World} {v : Value} {xs : List α} (H : Aside0 (Kd.R d e W base ok v xs)) (h : Kd.R d e W base ok v xs → Kd.R d e W' base ok v xs := by intro h_; (with_reducible repeat (first | apply Kd.R_alloc | apply Kd.R_drewN | apply Kd.R_drew)); exact h_) : ∀ k, v.ownBlock = some k → k < W'.heap.size := Kd.R_lt (h H.out)
theorem goesQ {P : Program} {ops : Array Oper} {Q : Exit → Act → World → Prop} {rest : List Oper} {oi : Oper} {a : Act} {w : World} (N : Option Tmp) {f : FuncId} {fn : Func} (hf : P.funcs[f]? = some fn) (args : Array Value) (h : Calls P f args w fun e w' => ∃ v, e = .returned v ∧ wpList P ops Q rest (a.put N v) w') {ar_ : Array Operand} {ts : Array TypeId} (hd : oi.dst = N := by exact rfl) (hg : oi.guard = none := by exact rfl) (hname : (fn.name == "runtime.NumGoroutine") = false := by kernel_rfl) (hb : fn.body.isSome = true := by exact rfl) (hop : oi.op = .call { callee := .value (.func f), args := ar_, argTypes := ts } := by exact rfl) (hargs : ar_.map a.eval = args := by (try simp only [List.map_toArray, List.map_cons, List.map_nil]); first | done | rfl | (simp only [List.length_drop, List.length_take]; rfl)) : wpList P ops Q (oi :: rest) a w := goesL_ N hd hg hf hname hb args hop hargs h
theorem zb {W W' w' : World} {g : Nat} {o : Obj} (H : Aside0 (W.heap[g]? = some o)) (hb : Below W'.heap.size W' w') (h : W.heap[g]? = some o → W'.heap[g]? = some o := by intro h_; (with_reducible repeat (first | refine blk_drewN ?_ _ | refine blk_drew ?_ | refine blk_alloc ?_ _)); exact h_) : Aside0 (w'.heap[g]? = some o) := ⟨blk_below (h H.out) hb⟩
abbrev I : Bool := true
abbrev O : Bool := false
theorem pu_ {P : Program} {md : Region.Mode} {ops : Array Oper} {Q : Exit → Act → World → Prop} {S : World → Prop} {ds : List Nat} {oi : Oper} {fuel : Nat} {l : Array Bool} {a : Act} {w : World} (i : Nat) (N : Option Tmp) (v : Value) (l' : Array Bool) (hi : ops[i]? = some oi) (hN : oi.dst = N) (hc : anyB md ops l l' i = true) (hy : Yields P ops oi v a) (a' : Act) (ha : a.put N v = a') (h : wpAnyLast P md ops Q S ds fuel l' a' w) (hQ : ∀ c a w, Q (.panic c) (a.put oi.dst v) w → Q (.panic c) a w := by exact fun _ _ _ h => h) : wpAnyLast P md ops Q S ds (fuel + 1) l a w := pure_ l' hi hN hc hQ hy ha h
theorem tk_ {P : Program} {md : Region.Mode} {ops : Array Oper} {Q : Exit → Act → World → Prop} {S : World → Prop} {ds : List Nat} {oi : Oper} {fuel : Nat} {l : Array Bool} {a : Act} {w : World} (i : Nat) (N : Option Tmp) (v : Value) (l' : Array Bool) (hi : ops[i]? = some oi) (hN : oi.dst = N) (hc : takeB md ops ds l l' i = true) (hy : YieldsIf P ops S oi v a) (hS : S w) (a' : Act) (ha : a.put N v = a') (h : wpAnyLast P md ops Q S ds fuel l' a' w) (hQ : ∀ c a w, Q (.panic c) (a.put oi.dst v) w → Q (.panic c) a w := by exact fun _ _ _ h => h) : wpAnyLast P md ops Q S ds (fuel + 1) l a w := take_ l' hi hN hc hQ hy hS ha h
theorem zw {W W' w' : World} {g : Nat} {o : Obj} (o' : Obj) (H : Aside0 (W.heap[g]? = some o)) (hb : Below W'.heap.size W' w') (h : W.heap[g]? = some o → W'.heap[g]? = some o' := by intro h_; (repeat (first | (with_reducible exact h_) | (with_reducible first | refine blk_drewN ?_ _ | refine blk_drew ?_ | refine blk_alloc ?_ _) | (with_reducible refine (Below.heap_setCell _ _ _ _ (Aside0.out (by assumption))).trans ?_) | (with_reducible apply blk_put))); all_goals (first | rfl | exact h_)) : Aside0 (w'.heap[g]? = some o') := ⟨blk_below (h H.out) hb⟩
theorem zg {W W' w' : World} {g : Nat} {o : Obj} {row : Option Nat} (H : Aside0 (W.heap[g]? = some o)) (hg : W'.grownBy w' row) (hne : some g ≠ row) (h : W.heap[g]? = some o → W'.heap[g]? = some o := by intro h_; (with_reducible repeat (first | refine blk_drewN ?_ _ | refine blk_drew ?_ | refine blk_alloc ?_ _)); exact h_) : Aside0 (w'.heap[g]? = some o) := ⟨blk_grown (h H.out) hg hne⟩
theorem nn {W W' : World} {g g' : Nat} {o : Obj} (hg : g' = W'.heap.size) (H : Aside0 (W.heap[g]? = some o)) (h : W.heap[g]? = some o → W'.heap[g]? = some o := by intro h_; (with_reducible repeat (first | refine blk_drewN ?_ _ | refine blk_drew ?_ | refine blk_alloc ?_ _)); exact h_) : Aside0 (g ≠ g') ∧ Aside0 (g' ≠ g) := ⟨nl hg H h, ng hg H h⟩
theorem hks {P : Prop} (h : P := by repeat (first | (with_reducible first | exact HK.out | apply Kept.alloc | apply Kept.drewN | apply Kept.drew | refine Kept.setCell ?_ (.inr (Aside0.out (by assumption))) _) | exact HK.out)) : P := h
theorem yq {P Q : Prop} {α : Type} {y t : α} (e : y = t) (H : P) (h : P → y = t → Q := by intro H hy; first | (rw [hy]; with_reducible exact H) | (have H2_ := (Option.bind_some _ _).symm.trans H; rw [hy]; with_reducible exact H2_) | (have H2_ := (Option.bind_some _ _).symm.trans H; with_reducible exact H2_) | with_reducible exact H | (rw [hy]; exact H) | exact H) : Q := h H e
theorem pw : (∀ (a : Act) (d : Tmp) (v : Value), a.put (some d) v = ⟨a.tmps.setIfInBounds d v, a.defers⟩) ∧ (∀ (a : Act) (v : Value), a.put none v = a) ∧ (∀ (l : List Value) (i : Nat) (a : Value), l.toArray.setIfInBounds i a = (l.set i a).toArray) ∧ (∀ (x : Value) (xs : List Value) (a : Value), (x :: xs).set 0 a = a :: xs) ∧ (∀ (x : Value) (xs : List Value) (i : Nat) (a : Value), (x :: xs).set (i + 1) a = x :: xs.set i a) ∧ (∀ n : Int, IntKind.i64.wrap n = Go.RowKit.wrap64 n) ∧ (∀ n : Int, IntKind.i32.wrap n = Go.RowKit.wrap32 n) := ⟨fun _ _ _ => rfl, fun _ _ => rfl, fun _ _ _ => List.setIfInBounds_toArray _ _ _, fun _ _ _ => rfl, fun _ _ _ _ => rfl, i64_w, i32_w⟩
theorem bc2 {w : World} {g t : Nat} {a0 a1 : Value} (h : Aside0 (w.heap[g]? = some (.cells #[a0, a1] t (0, 0)))) : w.cell? ⟨g, 0, none⟩ = some a0 ∧ w.cell? ⟨g, 1, none⟩ = some a1 ∧ w.frozen? ⟨g, 0, none⟩ = false ∧ w.frozen? ⟨g, 1, none⟩ = false := ⟨(blk_cell h.out 0).trans rfl, (blk_cell h.out 1).trans rfl, blk_frozen h.out 0, blk_frozen h.out 1⟩
theorem bc4 {w : World} {g t : Nat} {a0 a1 a2 a3 : Value} (h : Aside0 (w.heap[g]? = some (.cells #[a0, a1, a2, a3] t (0, 0)))) : w.cell? ⟨g, 0, none⟩ = some a0 ∧ w.cell? ⟨g, 1, none⟩ = some a1 ∧ w.cell? ⟨g, 2, none⟩ = some a2 ∧ w.cell? ⟨g, 3, none⟩ = some a3 ∧ w.frozen? ⟨g, 0, none⟩ = false ∧ w.frozen? ⟨g, 1, none⟩ = false ∧ w.frozen? ⟨g, 2, none⟩ = false ∧ w.frozen? ⟨g, 3, none⟩ = false := ⟨(blk_cell h.out 0).trans rfl, (blk_cell h.out 1).trans rfl, (blk_cell h.out 2).trans rfl, (blk_cell h.out 3).trans rfl, blk_frozen h.out 0, blk_frozen h.out 1, blk_frozen h.out 2, blk_frozen h.out 3⟩

def laws_szIntS.f (l0 : List Int) (a1 : Int) : Option (Int) := if (wrap64 (a1 - (l0.length : Int))) < 0 then (some (-1)) else (some (wrap64 (a1 - (l0.length : Int))))
theorem laws_szIntS.calls (A0 : Option Addr) (c0 : Nat) (l0 : List Int) (a1 : Int) (r : Int) (w : World) (hr0 : Kd.C (Kd.int .i64) w A0 l0.length l0) (hc0 : l0.length ≤ c0) (h : laws_szIntS.f l0 a1 = some r) :
  Calls Try.prog 21 #[.slice A0 l0.length c0, .int .i64 a1] w fun e w' => e = .returned (.int .i64 r) ∧ Drawn0 w w' := by
 have HR0 := am hr0; have HC0 := am hc0; clear hr0 hc0; have H := h; clear h
 unfold laws_szIntS.f at H
 by_cases c3 : (wrap64 (a1 - (l0.length : Int))) < 0
 ·rw [if_pos c3] at H; have c3b0 : decide ((wrap64 (a1 - (l0.length : Int))) < 0) = true := decide_eq_true c3; clear c3; obtain rfl := Option.some.inj H
  go_enter Try.func21, Try.ntmps21
  go_wp2
  go_ret
  exact ⟨sq, by repeat (first | exact Drawn0.refl _ | apply Drawn0.step)⟩
 rw [if_neg c3] at H; have c3b0 : decide ((wrap64 (a1 - (l0.length : Int))) < 0) = false := decide_eq_false c3; clear c3; obtain rfl := Option.some.inj H
 go_enter Try.func21, Try.ntmps21
 go_wp2
 go_ret
 exact ⟨sq, by repeat (first | exact Drawn0.refl _ | apply Drawn0.step)⟩


def laws_szLoanS.f (l0 : List (S39)) (a1 : Int) : Option (Int) := if (wrap64 (a1 - (l0.length : Int))) < 0 then (some (-1)) else (some (wrap64 (a1 - (l0.length : Int))))
theorem laws_szLoanS.calls (A0 : Option Addr) (c0 : Nat) (l0 : List (S39)) (a1 : Int) (r : Int) (w : World) (hr0 : Kd.C k39 w A0 l0.length l0) (hc0 : l0.length ≤ c0) (h : laws_szLoanS.f l0 a1 = some r) :
  Calls Try.prog 22 #[.slice A0 l0.length c0, .int .i64 a1] w fun e w' => e = .returned (.int .i64 r) ∧ Drawn0 w w' := by
 have HR0 := am hr0; have HC0 := am hc0; clear hr0 hc0; have H := h; clear h
 unfold laws_szLoanS.f at H
 by_cases c3 : (wrap64 (a1 - (l0.length : Int))) < 0
 ·rw [if_pos c3] at H; have c3b0 : decide ((wrap64 (a1 - (l0.length : Int))) < 0) = true := decide_eq_true c3; clear c3; obtain rfl := Option.some.inj H
  go_enter Try.func22, Try.ntmps22
  go_wp2
  go_ret
  exact ⟨sq, by repeat (first | exact Drawn0.refl _ | apply Drawn0.step)⟩
 rw [if_neg c3] at H; have c3b0 : decide ((wrap64 (a1 - (l0.length : Int))) < 0) = false := decide_eq_false c3; clear c3; obtain rfl := Option.some.inj H
 go_enter Try.func22, Try.ntmps22
 go_wp2
 go_ret
 exact ⟨sq, by repeat (first | exact Drawn0.refl _ | apply Drawn0.step)⟩


def laws_szShop.f (l0_0 : List Int) (l0_1 : List (S39)) (a1 : Int) : Option (Int) := (laws_szIntS.f l0_0 a1).bind fun t102 => (if t102 < 0 then (some (-1)) else ((laws_szLoanS.f l0_1 t102).bind fun t103 => (if t103 < 0 then (some (-1)) else (some t103))))
theorem laws_szShop.calls (A0_0 : Option Addr) (c0_0 : Nat) (l0_0 : List Int) (A0_1 : Option Addr) (c0_1 : Nat) (l0_1 : List (S39)) (a1 : Int) (r : Int) (w : World) (hr0_0 : Kd.C (Kd.int .i64) w A0_0 l0_0.length l0_0) (hc0_0 : l0_0.length ≤ c0_0) (hr0_1 : Kd.C k39 w A0_1 l0_1.length l0_1) (hc0_1 : l0_1.length ≤ c0_1) (h : laws_szShop.f l0_0 l0_1 a1 = some r) :
  Calls Try.prog 7 #[.agg #[.slice A0_0 l0_0.length c0_0, .slice A0_1 l0_1.length c0_1], .int .i64 a1] w fun e w' => e = .returned (.int .i64 r) ∧ Below w.heap.size w w' := by
 have hu25 := Try.underlying25; have HR0_0 := am hr0_0; have HC0_0 := am hc0_0; clear hr0_0 hc0_0; have HR0_1 := am hr0_1; have HC0_1 := am hc0_1; clear hr0_1 hc0_1; have HB := am (Below.refl w.heap.size w); have H := h; clear h
 unfold laws_szShop.f at H
 obtain ⟨t102, A3, H⟩ := bindq H; try dsimp only at H
 by_cases c4 : t102 < 0
 ·rw [if_pos c4] at H; have c4b0 : decide (t102 < 0) = true := decide_eq_true c4; clear c4; obtain rfl := Option.some.inj H
  go_enter Try.func7, Try.ntmps7
  go_wp2_with (first | ((with_reducible refine gate_dst (N := 2) rfl ?_); refine box_event ?hg (N := 2) ?hd (cs := #[.slice A0_0 l0_0.length c0_0, .slice A0_1 l0_1.length c0_1]) (t := 25) ?hr ?_; (case hd | hg => rfl); (case hr => go_simp; try rfl); intro gb101 hg w5 hbox hb; have BK101 := am (hbox); have GW101 := am (gq hg); have GE101 := am (gq hg); replace HB := sb hb; clear hb hbox hg; have ⟨b60, b61, d60, d61⟩ := bc2 BK101) | ((with_reducible refine gate_callee (f := 21) rfl ?_); refine goesQ (some 8) Try.func21 #[.slice A0_0 l0_0.length c0_0, .int .i64 a1] ?_; (with_reducible refine (laws_szIntS.calls _ _ l0_0 a1 t102 _ ?s1 ?s2 A3.out).mono ?_); (case s1 => exact cq (Kd.C_below HR0_0.out HB.out)); (case s2 => exact HC0_0.out); rintro e w' ⟨rfl, ⟨nd, rfl⟩⟩; refine ⟨_, rfl, ?_⟩))
  go_ret
  exact ⟨eq_, bq⟩
 rw [if_neg c4] at H; have c4b0 : decide (t102 < 0) = false := decide_eq_false c4; clear c4; obtain ⟨t103, A7, H⟩ := bindq H; try dsimp only at H
 by_cases c8 : t103 < 0
 ·rw [if_pos c8] at H; have c8b0 : decide (t103 < 0) = true := decide_eq_true c8; clear c8; obtain rfl := Option.some.inj H
  go_enter Try.func7, Try.ntmps7
  go_wp2_with (first | ((with_reducible refine gate_dst (N := 2) rfl ?_); refine box_event ?hg (N := 2) ?hd (cs := #[.slice A0_0 l0_0.length c0_0, .slice A0_1 l0_1.length c0_1]) (t := 25) ?hr ?_; (case hd | hg => rfl); (case hr => go_simp; try rfl); intro gb101 hg w9 hbox hb; have BK101 := am (hbox); have GW101 := am (gq hg); have GE101 := am (gq hg); replace HB := sb hb; clear hb hbox hg; have ⟨b100, b101, d100, d101⟩ := bc2 BK101) | ((with_reducible refine gate_callee (f := 21) rfl ?_); refine goesQ (some 8) Try.func21 #[.slice A0_0 l0_0.length c0_0, .int .i64 a1] ?_; (with_reducible refine (laws_szIntS.calls _ _ l0_0 a1 t102 _ ?s1 ?s2 A3.out).mono ?_); (case s1 => exact cq (Kd.C_below HR0_0.out HB.out)); (case s2 => exact HC0_0.out); rintro e w' ⟨rfl, ⟨nd, rfl⟩⟩; refine ⟨_, rfl, ?_⟩) | ((with_reducible refine gate_callee (f := 22) rfl ?_); refine goesQ (some 14) Try.func22 #[.slice A0_1 l0_1.length c0_1, .int .i64 t102] ?_; (with_reducible refine (laws_szLoanS.calls _ _ l0_1 t102 t103 _ ?s1 ?s2 A7.out).mono ?_); (case s1 => exact cq (Kd.C_below HR0_1.out bq)); (case s2 => exact HC0_1.out); rintro e w' ⟨rfl, ⟨nd, rfl⟩⟩; refine ⟨_, rfl, ?_⟩))
  go_ret
  exact ⟨eq_, bq⟩
 rw [if_neg c8] at H; have c8b0 : decide (t103 < 0) = false := decide_eq_false c8; clear c8; obtain rfl := Option.some.inj H
 go_enter Try.func7, Try.ntmps7
 go_wp2_with (first | ((with_reducible refine gate_dst (N := 2) rfl ?_); refine box_event ?hg (N := 2) ?hd (cs := #[.slice A0_0 l0_0.length c0_0, .slice A0_1 l0_1.length c0_1]) (t := 25) ?hr ?_; (case hd | hg => rfl); (case hr => go_simp; try rfl); intro gb101 hg w11 hbox hb; have BK101 := am (hbox); have GW101 := am (gq hg); have GE101 := am (gq hg); replace HB := sb hb; clear hb hbox hg; have ⟨b120, b121, d120, d121⟩ := bc2 BK101) | ((with_reducible refine gate_callee (f := 21) rfl ?_); refine goesQ (some 8) Try.func21 #[.slice A0_0 l0_0.length c0_0, .int .i64 a1] ?_; (with_reducible refine (laws_szIntS.calls _ _ l0_0 a1 t102 _ ?s1 ?s2 A3.out).mono ?_); (case s1 => exact cq (Kd.C_below HR0_0.out HB.out)); (case s2 => exact HC0_0.out); rintro e w' ⟨rfl, ⟨nd, rfl⟩⟩; refine ⟨_, rfl, ?_⟩) | ((with_reducible refine gate_callee (f := 22) rfl ?_); refine goesQ (some 14) Try.func22 #[.slice A0_1 l0_1.length c0_1, .int .i64 t102] ?_; (with_reducible refine (laws_szLoanS.calls _ _ l0_1 t102 t103 _ ?s1 ?s2 A7.out).mono ?_); (case s1 => exact cq (Kd.C_below HR0_1.out bq)); (case s2 => exact HC0_1.out); rintro e w' ⟨rfl, ⟨nd, rfl⟩⟩; refine ⟨_, rfl, ?_⟩))
 go_ret
 exact ⟨eq_, bq⟩


def laws_toIntS.l0 : Nat → List Int → List Int → Int → Option (List Int)
 | 0, _, _, _ => none
 | k + 1, x0, x3, x4 => if x4 < (x0.length : Int) then (if 0 ≤ x4 then (if x4 < (x3.length : Int) then (laws_toIntS.l0 k x0 (x3.set (x4 : Int).toNat (rd x0 x4)) (wrap64 (x4 + 1))) else (none)) else (none)) else (some x3)
def laws_toIntS.f (k : Nat) (l0 : List Int) : Option (List Int) := if 0 ≤ (l0.length : Int) then (if ((l0.length : Int) : Int).toNat ≤ 35184372088832 then (laws_toIntS.l0 k l0 (List.replicate ((l0.length : Int) : Int).toNat 0) 0) else (none)) else (none)
theorem laws_toIntS.calls (k : Nat) (A0 : Option Addr) (c0 : Nat) (l0 : List Int) (r : List Int) (w : World) (hr0 : Kd.C (Kd.int .i64) w A0 l0.length l0) (hc0 : l0.length ≤ c0) (h : laws_toIntS.f k l0 = some r) :
  Calls Try.prog 25 #[.slice A0 l0.length c0] w fun e w' => ∃ v0_ : Value, e = .returned (v0_) ∧ Kd.R (Kd.int .i64) 3 w' w.heap.size (fun _ => True) v0_ r ∧ Below w.heap.size w w' := by
 have HR0 := am hr0; have HC0 := am hc0; clear hr0 hc0; have HB := am (Below.refl w.heap.size w); have H := h; clear h
 unfold laws_toIntS.f at H
 by_cases c2 : 0 ≤ (l0.length : Int)
 ·rw [if_pos c2] at H; have c2b0 := eq_true c2; have c2b1 : decide (0 ≤ (l0.length : Int)) = true := decide_eq_true c2; clear c2; by_cases c3 : ((l0.length : Int) : Int).toNat ≤ 35184372088832
  ·rw [if_pos c3] at H; have c3b0 := eq_true c3; have c3b1 : decide (((l0.length : Int) : Int).toNat ≤ 35184372088832) = true := decide_eq_true c3; clear c3; obtain ⟨y104, hy104⟩ : ∃ y_ : List Int, y_ = (List.replicate ((l0.length : Int) : Int).toNat 0) := ⟨_, rfl⟩; replace H : (laws_toIntS.l0 k l0 y104 0) = some r := yq hy104 H; have Ny104 := am hy104; clear hy104; have H' := am H; clear H
   go_enter Try.func25, Try.ntmps25
   go_wp2_with (first | ((with_reducible refine gate_dst (N := 7) rfl ?_); refine Kd.R_make (Kd.int .i64) _ 3 rfl (N := 7) rfl 22 _ _ rfl (l0.length : Int) rfl rfl Try.underlying22 (.int .i64 0) 8 info3 rfl (by decide) (by omega) 0 (ok := fun _ => True) (okp := fun _ => True) rfl (fun _ hk => hk) trivial (of_decide_eq_true aq) (Nat.le_trans (Nat.mul_le_mul_right _ (of_decide_eq_true aq : (l0.length : Int).toNat ≤ 35184372088832)) (by omega)) (Below.refl _ _) (Nat.le_refl _) ?_; intro v105 w4 ho5 hb hg_ hnew_; clear hg_ hnew_; (first | rw [← Ny104.out] at ho5 | (simp only [Int.reduceToNat] at ho5; rw [← Ny104.out] at ho5)); have HO106 := rl ho5; replace HB := sb hb; clear hb ho5))
   go_loopg [4] k (fun kq v4 w' => ∃ (x3_1 : List Int) (x4_1 : Int), v4 = .int .i64 x4_1 ∧ Aside0 (laws_toIntS.l0 kq l0 x3_1 x4_1 = some r) ∧ Aside0 (kq ≤ k) ∧ Aside0 (Kd.R (Kd.int .i64) 3 w' w.heap.size (fun _ => True) v105 x3_1) ∧ Aside0 (Below w.heap.size w w'))
   case atStart => exact ⟨(y104), (0), sq, H', ⟨Nat.le_refl _⟩, ⟨rq HO106⟩, ⟨bq⟩⟩
   case round =>
    clear H'; try clear c2b0
    try clear c2b1
    try clear c3b0
    try clear c3b1
    obtain ⟨x3_1, x4_1, rfl, HA, HK1, HO_3, HB⟩ := hrel
    cases gk with
    | zero => exact absurd HA.out (by simp [laws_toIntS.l0])
    | succ k1 =>
     have H := HA.out; clear HA; simp only [laws_toIntS.l0] at H; by_cases c6 : x4_1 < (l0.length : Int)
     ·rw [if_pos c6] at H; have c6b0 : decide (x4_1 < (l0.length : Int)) = true := decide_eq_true c6; clear c6; by_cases c7 : 0 ≤ x4_1
      ·rw [if_pos c7] at H; have c7b0 : decide (0 ≤ x4_1) = true := decide_eq_true c7; clear c7; by_cases c8 : x4_1 < (x3_1.length : Int)
       ·rw [if_pos c8] at H; have c8b0 : decide (x4_1 < (x3_1.length : Int)) = true := decide_eq_true c8; clear c8; obtain ⟨y108, hy108⟩ : ∃ y_ : List Int, y_ = (x3_1.set (x4_1 : Int).toNat (rd l0 x4_1)) := ⟨_, rfl⟩; replace H : (laws_toIntS.l0 k1 l0 y108 (wrap64 (x4_1 + 1))) = some r := yq hy108 H; have Ny108 := am hy108; clear hy108; have H' := am H; clear H; have p107 : 0 ≤ (x4_1 : Int) := of_decide_eq_true aq; have q107 : x4_1 < (l0.length : Int) := of_decide_eq_true aq; obtain ⟨ad107, e107, hx107_0⟩ := Kd.at_int HR0.out x4_1 p107 q107
        cases e107
        replace hx107_0 := (HB.out.cell (World.block_lt_of_cell? w _ hx107_0)).trans hx107_0; replace p107 := eq_true p107; replace q107 := eq_true q107; have p9 : 0 ≤ (x4_1 : Int) := of_decide_eq_true aq; have q9 : (x4_1 : Int) < ((x3_1.length : Int) : Int) := of_decide_eq_true aq; obtain ⟨go9, co9, eo9, gb9, gl9, cl9, HG9⟩ := Kd.R_form HO_3.out (by omega); (first | cases eo9 | (injection eo9 with ea_ en_ ec_; (first | subst ea_ | (injection ea_ with ea_; subst ea_)); subst ec_; clear en_)); have GB9 := am gb9; have GG9 := am HG9; clear gb9 gl9 HG9; obtain ⟨hx9_0, hf9_0⟩ := Kd.R_celln 0 HO_3.out (x4_1 : Int) p9 q9; replace p9 := eq_true p9; replace q9 := eq_true q9; have HP10 := Kd.R_putg HO_3.out (x4_1 : Int) (rd l0 x4_1); go_wp2_with (first | ((with_reducible refine gate_store (t := 3) (p := 20) rfl ?_); refine store_event (t := 3) (p := 20) (v := ?vo_w11) (w1 := (wr.setCell ⟨go9, (x4_1 : Int).toNat, none⟩ (.int .i64 (rd l0 x4_1)))) ?hg ?ho ?hn ?hr ?_; (case ho => rfl); (case hg => rfl); (case hn => rfl); (case hr => go_simp; try rfl); intro w11 hw; have hg : wr.grownBy w11 (some go9) := (by rw [hw]; exact HP10.2); have hp_ : Kd.R (Kd.int .i64) 3 w11 w.heap.size (fun _ => True) (.slice (some ⟨go9, 0, none⟩) x3_1.length co9) y108 := (by rw [hw, Ny108.out]; exact HP10.1); clear HP10; replace HO_3 := am (hp_); replace HB := am ((by rw [hw]; exact below_set (HB.out) GB9.out : Below w.heap.size w w11)); clear hg hw hp_))
        go_roundg k1
        case measure => have := HK1.out; omega
        case rel => exact ⟨(y108), (wrap64 (x4_1 + 1)), sq, H', ⟨by have := HK1.out; omega⟩, ⟨rq HO_3⟩, ⟨bq⟩⟩
       rw [if_neg c8] at H; exact absurd H (by simp)
      rw [if_neg c7] at H; exact absurd H (by simp)
     rw [if_neg c6] at H; have c6b0 : decide (x4_1 < (l0.length : Int)) = false := decide_eq_false c6; clear c6; obtain rfl := Option.some.inj H
     go_wp2
     go_ret
     exact ⟨_, eq_, rq HO_3, bq⟩
  rw [if_neg c3] at H; exact absurd H (by simp)
 rw [if_neg c2] at H; exact absurd H (by simp)


def laws_toLoan.f (a0_0 : Int) (a0_1 : Int) (a0_2 : Int) (a0_3 : Int) : Option (Int × Int × Int × Int) := some (a0_0, a0_1, a0_2, a0_3)
theorem laws_toLoan.calls (a0_0 : Int) (a0_1 : Int) (a0_2 : Int) (a0_3 : Int) (r1 : Int) (r2 : Int) (r3 : Int) (r4 : Int) (w : World) (h : laws_toLoan.f a0_0 a0_1 a0_2 a0_3 = some (r1, r2, r3, r4)) :
  Calls Try.prog 17 #[.agg #[.int .i64 a0_0, .int .i64 a0_1, .int .i64 a0_2, .int .i64 a0_3]] w fun e w' => e = .returned (.agg #[.int .i64 r1, .int .i64 r2, .int .i64 r3, .int .i64 r4]) ∧ Below w.heap.size w w' := by
 have hu39 := Try.underlying39; have hu41 := Try.underlying41; have HB := am (Below.refl w.heap.size w); have H := h; clear h
 unfold laws_toLoan.f at H
 simp only [Option.some.injEq, Prod.mk.injEq] at H; obtain ⟨rfl, rfl, rfl, rfl⟩ := H
 go_enter Try.func17, Try.ntmps17
 go_wp2_with (first | ((with_reducible refine gate_dst (N := 1) rfl ?_); refine box_event ?hg (N := 1) ?hd (cs := #[.int .i64 a0_0, .int .i64 a0_1, .int .i64 a0_2, .int .i64 a0_3]) (t := 39) ?hr ?_; (case hd | hg => rfl); (case hr => go_simp; try rfl); intro gb109 hg w2 hbox hb; have BK109 := am (hbox); have GW109 := am (gq hg); have GE109 := am (gq hg); replace HB := sb hb; clear hb hbox hg) | ((with_reducible refine gate_dst (N := 2) rfl ?_); refine box_event ?hg (N := 2) ?hd (cs := #[.int .i64 0, .int .i64 0, .int .i64 0, .int .i64 0]) (t := 41) ?hr ?_; (case hd | hg => rfl); (case hr => go_simp; try rfl); intro gb110 hg w3 hbox hb; have BK110 := am (hbox); have GW110 := am (gq hg); have GE110 := am (gq hg); replace HB := sb hb; have ⟨NB109_110, NB110_109⟩ := nn hg BK109; replace BK109 := zb BK109 hb; clear hb hbox hg) | ((with_reducible refine gate_dst (N := 3) rfl ?_); refine box_event ?hg (N := 3) ?hd (cs := #[.int .i64 0, .int .i64 0, .int .i64 0, .int .i64 0]) (t := 41) ?hr ?_; (case hd | hg => rfl); (case hr => go_simp; try rfl); intro gb111 hg w4 hbox hb; have BK111 := am (hbox); have GW111 := am (gq hg); have GE111 := am (gq hg); replace HB := sb hb; have ⟨NB109_111, NB111_109⟩ := nn hg BK109; replace BK109 := zb BK109 hb; have ⟨NB110_111, NB111_110⟩ := nn hg BK110; replace BK110 := zb BK110 hb; clear hb hbox hg; have hnb5 := NB109_110.out; have hnc5 := NB110_109.out; have hnb6 := NB109_111.out; have hnc6 := NB111_109.out; have ⟨b70, b71, b72, b73, d70, d71, d72, d73⟩ := bc4 BK109; have hnb8 := NB111_110.out; have hnc8 := NB110_111.out; have ⟨b90, b91, b92, b93, d90, d91, d92, d93⟩ := bc4 BK111; have ⟨b100, b101, b102, b103, d100, d101, d102, d103⟩ := bc4 BK110))
 refine bodyPost_ret (results_cell_row rfl _ _ gb110 41 #[.int .i64 a0_0, .int .i64 a0_1, .int .i64 a0_2, .int .i64 a0_3] (0, 0) _ rfl (zp BK110) Try.underlying41 rfl (by kernel_rfl)) rfl ?_; exact ⟨eq_, bq⟩


def laws_toLoanS.l0 : Nat → List (S39) → List (S41) → Int → Option ((List (S41)))
 | 0, _, _, _ => none
 | k + 1, x0, x3, x4 => if x4 < (x0.length : Int) then (if 0 ≤ x4 then ((laws_toLoan.f ((rd_T39 x0 x4).f0) ((rd_T39 x0 x4).f1) ((rd_T39 x0 x4).f2) ((rd_T39 x0 x4).f3)).bind fun bt116 => (if x4 < (x3.length : Int) then (laws_toLoanS.l0 k x0 (x3.set (x4 : Int).toNat (⟨bt116.1, bt116.2.1, bt116.2.2.1, bt116.2.2.2⟩ : S41)) (wrap64 (x4 + 1))) else (none))) else (none)) else (some x3)
def laws_toLoanS.f (k : Nat) (l0 : List (S39)) : Option ((List (S41))) := if 0 ≤ (l0.length : Int) then (if ((l0.length : Int) : Int).toNat ≤ 8796093022208 then (laws_toLoanS.l0 k l0 (List.replicate ((l0.length : Int) : Int).toNat z41) 0) else (none)) else (none)
theorem laws_toLoanS.calls (k : Nat) (A0 : Option Addr) (c0 : Nat) (l0 : List (S39)) (r : List (S41)) (w : World) (hr0 : Kd.C k39 w A0 l0.length l0) (hc0 : l0.length ≤ c0) (h : laws_toLoanS.f k l0 = some r) :
  Calls Try.prog 26 #[.slice A0 l0.length c0] w fun e w' => ∃ v0_ : Value, e = .returned (v0_) ∧ Kd.R k41 41 w' w.heap.size (fun _ => True) v0_ r ∧ Below w.heap.size w w' := by
 have hu39 := Try.underlying39; have hu41 := Try.underlying41; have HR0 := am hr0; have HC0 := am hc0; clear hr0 hc0; have HB := am (Below.refl w.heap.size w); have H := h; clear h
 unfold laws_toLoanS.f at H
 by_cases c2 : 0 ≤ (l0.length : Int)
 ·rw [if_pos c2] at H; have c2b0 := eq_true c2; have c2b1 : decide (0 ≤ (l0.length : Int)) = true := decide_eq_true c2; clear c2; by_cases c3 : ((l0.length : Int) : Int).toNat ≤ 8796093022208
  ·rw [if_pos c3] at H; have c3b0 := eq_true c3; have c3b1 : decide (((l0.length : Int) : Int).toNat ≤ 8796093022208) = true := decide_eq_true c3; clear c3; obtain ⟨y112, hy112⟩ : ∃ y_ : List (S41), y_ = (List.replicate ((l0.length : Int) : Int).toNat z41) := ⟨_, rfl⟩; replace H : (laws_toLoanS.l0 k l0 y112 0) = some r := yq hy112 H; have Ny112 := am hy112; clear hy112; have H' := am H; clear H
   go_enter Try.func26, Try.ntmps26
   go_wp2_with (first | ((with_reducible refine gate_dst (N := 7) rfl ?_); refine Kd.R_make k41 _ 41 rfl (N := 7) rfl 27 _ _ rfl (l0.length : Int) rfl rfl Try.underlying27 (.agg #[(.int .i64 0), (.int .i64 0), (.int .i64 0), (.int .i64 0)]) 32 info41 rfl (by decide) (by omega) z41 (ok := fun _ => True) (okp := fun _ => True) (k41_mkM _ _ _ z41 ) (fun _ hk => hk) trivial (of_decide_eq_true aq) (Nat.le_trans (Nat.mul_le_mul_right _ (of_decide_eq_true aq : (l0.length : Int).toNat ≤ 8796093022208)) (by omega)) (Below.refl _ _) (Nat.le_refl _) ?_; intro v113 w4 ho5 hb hg_ hnew_; clear hg_ hnew_; (first | rw [← Ny112.out] at ho5 | (simp only [Int.reduceToNat] at ho5; rw [← Ny112.out] at ho5)); have HO114 := rl ho5; replace HB := sb hb; clear hb ho5))
   go_loopg [4] k (fun kq v4 w' => ∃ (x3_1 : List (S41)) (x4_1 : Int), v4 = .int .i64 x4_1 ∧ Aside0 (laws_toLoanS.l0 kq l0 x3_1 x4_1 = some r) ∧ Aside0 (kq ≤ k) ∧ Aside0 (Kd.R k41 41 w' w.heap.size (fun _ => True) v113 x3_1) ∧ Aside0 (Below w.heap.size w w'))
   case atStart => exact ⟨(y112), (0), sq, H', ⟨Nat.le_refl _⟩, ⟨rq HO114⟩, ⟨bq⟩⟩
   case round =>
    clear H'; try clear c2b0
    try clear c2b1
    try clear c3b0
    try clear c3b1
    obtain ⟨x3_1, x4_1, rfl, HA, HK1, HO_3, HB⟩ := hrel
    cases gk with
    | zero => exact absurd HA.out (by simp [laws_toLoanS.l0])
    | succ k1 =>
     have H := HA.out; clear HA; simp only [laws_toLoanS.l0] at H; by_cases c6 : x4_1 < (l0.length : Int)
     ·rw [if_pos c6] at H; have c6b0 : decide (x4_1 < (l0.length : Int)) = true := decide_eq_true c6; clear c6; by_cases c7 : 0 ≤ x4_1
      ·rw [if_pos c7] at H; have c7b0 : decide (0 ≤ x4_1) = true := decide_eq_true c7; clear c7; obtain ⟨⟨t116, t117, t118, t119⟩, A8, H⟩ := bindq H; try dsimp only at H
       by_cases c9 : x4_1 < (x3_1.length : Int)
       ·rw [if_pos c9] at H; have c9b0 : decide (x4_1 < (x3_1.length : Int)) = true := decide_eq_true c9; clear c9; obtain ⟨y120, hy120⟩ : ∃ y_ : List (S41), y_ = (x3_1.set (x4_1 : Int).toNat (⟨t116, t117, t118, t119⟩ : S41)) := ⟨_, rfl⟩; replace H : (laws_toLoanS.l0 k1 l0 y120 (wrap64 (x4_1 + 1))) = some r := yq hy120 H; have Ny120 := am hy120; clear hy120; have H' := am H; clear H; have p115 : 0 ≤ (x4_1 : Int) := of_decide_eq_true aq; have q115 : x4_1 < (l0.length : Int) := of_decide_eq_true aq; obtain ⟨ad115, e115, hx115_0, hx115_1, hx115_2, hx115_3⟩ := at_T39 HR0.out x4_1 p115 q115
        cases e115
        replace hx115_0 := (HB.out.cell (World.block_lt_of_cell? w _ hx115_0)).trans hx115_0; replace hx115_1 := (HB.out.cell (World.block_lt_of_cell? w _ hx115_1)).trans hx115_1; replace hx115_2 := (HB.out.cell (World.block_lt_of_cell? w _ hx115_2)).trans hx115_2; replace hx115_3 := (HB.out.cell (World.block_lt_of_cell? w _ hx115_3)).trans hx115_3; replace p115 := eq_true p115; replace q115 := eq_true q115; go_wp2_with (first | ((with_reducible refine gate_callee (f := 17) rfl ?_); refine goesQ (some 20) Try.func17 #[.agg #[.int .i64 ((rd_T39 l0 x4_1).f0), .int .i64 ((rd_T39 l0 x4_1).f1), .int .i64 ((rd_T39 l0 x4_1).f2), .int .i64 ((rd_T39 l0 x4_1).f3)]] ?_; (with_reducible refine (laws_toLoan.calls ((rd_T39 l0 x4_1).f0) ((rd_T39 l0 x4_1).f1) ((rd_T39 l0 x4_1).f2) ((rd_T39 l0 x4_1).f3) t116 t117 t118 t119 _ A8.out).mono ?_); rintro e w11 ⟨rfl, hb⟩; refine ⟨_, rfl, ?_⟩; replace HO_3 := rb HO_3 hb; replace HB := sb hb; (try clear hb); have p10 : 0 ≤ (x4_1 : Int) := of_decide_eq_true aq; have q10 : (x4_1 : Int) < ((x3_1.length : Int) : Int) := of_decide_eq_true aq; obtain ⟨go10, co10, eo10, gb10, gl10, cl10, HG10⟩ := Kd.R_form HO_3.out (by omega); (first | cases eo10 | (injection eo10 with ea_ en_ ec_; (first | subst ea_ | (injection ea_ with ea_; subst ea_)); subst ec_; clear en_)); have GB10 := am gb10; have GG10 := am HG10; clear gb10 gl10 HG10; obtain ⟨ce10, hcl10, hM10, hcc10, hfr10⟩ := Kd.R_elem HO_3.out z41 (x4_1 : Int) p10 q10; obtain rfl := k41_openM hM10; have hx10_0 : w11.cell? ⟨go10, (x4_1 : Int).toNat * 4, none⟩ = some (.int .i64 ((rd_T41 x3_1 x4_1).f0)) := hcc10 0 _ rfl; have hx10_1 : w11.cell? ⟨go10, (x4_1 : Int).toNat * 4 + 1, none⟩ = some (.int .i64 ((rd_T41 x3_1 x4_1).f1)) := hcc10 1 _ rfl; have hx10_2 : w11.cell? ⟨go10, (x4_1 : Int).toNat * 4 + 2, none⟩ = some (.int .i64 ((rd_T41 x3_1 x4_1).f2)) := hcc10 2 _ rfl; have hx10_3 : w11.cell? ⟨go10, (x4_1 : Int).toNat * 4 + 3, none⟩ = some (.int .i64 ((rd_T41 x3_1 x4_1).f3)) := hcc10 3 _ rfl; have hf10_0 : w11.frozen? ⟨go10, (x4_1 : Int).toNat * 4, none⟩ = false := hfr10 0; have hf10_1 : w11.frozen? ⟨go10, (x4_1 : Int).toNat * 4 + 1, none⟩ = false := hfr10 1; have hf10_2 : w11.frozen? ⟨go10, (x4_1 : Int).toNat * 4 + 2, none⟩ = false := hfr10 2; have hf10_3 : w11.frozen? ⟨go10, (x4_1 : Int).toNat * 4 + 3, none⟩ = false := hfr10 3; clear hcl10 hcc10 hfr10 hM10; replace p10 := eq_true p10; replace q10 := eq_true q10; have HX12 := am (show Kd.R k41 41 w11 w.heap.size (fun _ => True) (.slice (some ⟨go10, 0, none⟩) x3_1.length co10) x3_1 from (rq HO_3)); obtain ⟨ce12, hcl12, hM12, hcc12, hfr12⟩ := Kd.R_elem HX12.out z41 (x4_1 : Int) (of_decide_eq_true aq) (by have h_ : (x4_1 : Int) < ((x3_1.length : Int) : Int) := of_decide_eq_true aq; first | exact h_ | (have e_ := (Kd.R_reads' HO_3.out).1; omega) | simpa using h_); obtain rfl := k41_openM hM12; have HP12 := Kd.R_seg HX12.out (x4_1 : Int) (of_decide_eq_true aq) (by have h_ : (x4_1 : Int) < ((x3_1.length : Int) : Int) := of_decide_eq_true aq; first | exact h_ | (have e_ := (Kd.R_reads' HO_3.out).1; omega) | simpa using h_) (seg := [.int .i64 t116, .int .i64 t117, .int .i64 t118, .int .i64 t119]) (j := 0) hcl12 hcc12 (show 4 ≤ 4 from by decide) (x' := (⟨t116, t117, t118, t119⟩ : S41)) (k41_mkM _ _ _ (⟨t116, t117, t118, t119⟩ : S41) ) (fun _ hk => hk); have hx12_0 := hcc12 0 _ rfl; (try simp only [show (k41).sz = 4 from rfl, Nat.mul_one, Nat.add_zero] at hx12_0); have hf12_0 := hfr12 0; (try simp only [show (k41).sz = 4 from rfl, Nat.mul_one, Nat.add_zero] at hf12_0); have hx12_1 := hcc12 1 _ rfl; (try simp only [show (k41).sz = 4 from rfl, Nat.mul_one, Nat.add_zero] at hx12_1); have hf12_1 := hfr12 1; (try simp only [show (k41).sz = 4 from rfl, Nat.mul_one, Nat.add_zero] at hf12_1); have hx12_2 := hcc12 2 _ rfl; (try simp only [show (k41).sz = 4 from rfl, Nat.mul_one, Nat.add_zero] at hx12_2); have hf12_2 := hfr12 2; (try simp only [show (k41).sz = 4 from rfl, Nat.mul_one, Nat.add_zero] at hf12_2); have hx12_3 := hcc12 3 _ rfl; (try simp only [show (k41).sz = 4 from rfl, Nat.mul_one, Nat.add_zero] at hx12_3); have hf12_3 := hfr12 3; (try simp only [show (k41).sz = 4 from rfl, Nat.mul_one, Nat.add_zero] at hf12_3); clear hcl12 hcc12 hfr12 hM12) | ((with_reducible refine gate_store (t := 41) (p := 21) rfl ?_); refine store_event (t := 41) (p := 21) (v := ?vo_w13) (w1 := ((((w11.setCell ⟨go10, (x4_1 : Int).toNat * 4, none⟩ (.int .i64 t116)).setCell ⟨go10, (x4_1 : Int).toNat * 4 + 1, none⟩ (.int .i64 t117)).setCell ⟨go10, (x4_1 : Int).toNat * 4 + 2, none⟩ (.int .i64 t118)).setCell ⟨go10, (x4_1 : Int).toNat * 4 + 3, none⟩ (.int .i64 t119))) ?hg ?ho ?hn ?hr ?_; (case ho => rfl); (case hg => rfl); (case hn => rfl); (case hr => go_simp; try rfl); intro w13 hw; have hg : w11.grownBy w13 (some go10) := (by rw [hw]; exact HP12.2); have hp_ : Kd.R k41 41 w13 w.heap.size (fun _ => True) (.slice (some ⟨go10, 0, none⟩) x3_1.length co10) y120 := (by rw [hw, Ny120.out]; exact HP12.1); clear HP12; replace HO_3 := am (hp_); replace HB := am ((by rw [hw]; exact below_set (below_set (below_set (below_set (HB.out) GB10.out) GB10.out) GB10.out) GB10.out : Below w.heap.size w w13)); clear hg hw hp_))
        go_roundg k1
        case measure => have := HK1.out; omega
        case rel => exact ⟨(y120), (wrap64 (x4_1 + 1)), sq, H', ⟨by have := HK1.out; omega⟩, ⟨rq HO_3⟩, ⟨bq⟩⟩
       rw [if_neg c9] at H; exact absurd H (by simp)
      rw [if_neg c7] at H; exact absurd H (by simp)
     rw [if_neg c6] at H; have c6b0 : decide (x4_1 < (l0.length : Int)) = false := decide_eq_false c6; clear c6; obtain rfl := Option.some.inj H
     go_wp2
     go_ret
     exact ⟨_, eq_, rq HO_3, bq⟩
  rw [if_neg c3] at H; exact absurd H (by simp)
 rw [if_neg c2] at H; exact absurd H (by simp)


def laws_toShop.f (k : Nat) (l0_0 : List Int) (l0_1 : List (S39)) : Option (List Int × (List (S41))) := (laws_toIntS.f k l0_0).bind fun t124 => ((laws_toLoanS.f k l0_1).bind fun t127 => (some (t124, t127)))
theorem laws_toShop.calls (k : Nat) (A0_0 : Option Addr) (c0_0 : Nat) (l0_0 : List Int) (A0_1 : Option Addr) (c0_1 : Nat) (l0_1 : List (S39)) (r1 : List Int) (r2 : List (S41)) (w : World) (hr0_0 : Kd.C (Kd.int .i64) w A0_0 l0_0.length l0_0) (hc0_0 : l0_0.length ≤ c0_0) (hr0_1 : Kd.C k39 w A0_1 l0_1.length l0_1) (hc0_1 : l0_1.length ≤ c0_1) (h : laws_toShop.f k l0_0 l0_1 = some (r1, r2)) :
  Calls Try.prog 9 #[.agg #[.slice A0_0 l0_0.length c0_0, .slice A0_1 l0_1.length c0_1]] w fun e w' => ∃ v0_ v1_ : Value, e = .returned (.agg #[v0_, v1_]) ∧ Kd.R (Kd.int .i64) 3 w' w.heap.size (fun _ => True) v0_ r1 ∧ Kd.R k41 41 w' w.heap.size (fun _ => True) v1_ r2 ∧ Below w.heap.size w w' := by
 have hu25 := Try.underlying25; have hu29 := Try.underlying29; have HR0_0 := am hr0_0; have HC0_0 := am hc0_0; clear hr0_0 hc0_0; have HR0_1 := am hr0_1; have HC0_1 := am hc0_1; clear hr0_1 hc0_1; have HB := am (Below.refl w.heap.size w); have H := h; clear h
 unfold laws_toShop.f at H
 obtain ⟨t124, A2, H⟩ := bindq H; try dsimp only at H
 obtain ⟨t127, A3, H⟩ := bindq H; try dsimp only at H
 simp only [Option.some.injEq, Prod.mk.injEq] at H; obtain ⟨rfl, rfl⟩ := H
 go_enter Try.func9, Try.ntmps9
 go_wp2_with (first | ((with_reducible refine gate_dst (N := 1) rfl ?_); refine box_event ?hg (N := 1) ?hd (cs := #[.slice A0_0 l0_0.length c0_0, .slice A0_1 l0_1.length c0_1]) (t := 25) ?hr ?_; (case hd | hg => rfl); (case hr => go_simp; try rfl); intro gb121 hg w4 hbox hb; have BK121 := am (hbox); have GW121 := am (gq hg); have GE121 := am (gq hg); replace HB := sb hb; clear hb hbox hg) | ((with_reducible refine gate_dst (N := 2) rfl ?_); refine box_event ?hg (N := 2) ?hd (cs := #[.slice none 0 0, .slice none 0 0]) (t := 29) ?hr ?_; (case hd | hg => rfl); (case hr => go_simp; try rfl); intro gb122 hg w5 hbox hb; have BK122 := am (hbox); have GW122 := am (gq hg); have GE122 := am (gq hg); replace HB := sb hb; have ⟨NB121_122, NB122_121⟩ := nn hg BK121; replace BK121 := zb BK121 hb; clear hb hbox hg) | ((with_reducible refine gate_dst (N := 3) rfl ?_); refine box_event ?hg (N := 3) ?hd (cs := #[.slice none 0 0, .slice none 0 0]) (t := 29) ?hr ?_; (case hd | hg => rfl); (case hr => go_simp; try rfl); intro gb123 hg w6 hbox hb; have BK123 := am (hbox); have GW123 := am (gq hg); have GE123 := am (gq hg); replace HB := sb hb; have ⟨NB121_123, NB123_121⟩ := nn hg BK121; replace BK121 := zb BK121 hb; have ⟨NB122_123, NB123_122⟩ := nn hg BK122; replace BK122 := zb BK122 hb; clear hb hbox hg; have hnb7 := NB121_122.out; have hnc7 := NB122_121.out; have hnb8 := NB121_123.out; have hnc8 := NB123_121.out; have ⟨b90, b91, d90, d91⟩ := bc2 BK121) | ((with_reducible refine gate_callee (f := 25) rfl ?_); refine goesQ (some 6) Try.func25 #[.slice A0_0 l0_0.length c0_0] ?_; (with_reducible refine (laws_toIntS.calls k _ _ l0_0 t124 _ ?s1 ?s2 A2.out).mono ?_); (case s1 => exact cq (Kd.C_below HR0_0.out HB.out)); (case s2 => exact HC0_0.out); rintro e w10 ⟨v125, rfl, ho0, hb⟩; refine ⟨_, rfl, ?_⟩; have HO126 := rl ho0; replace BK121 := zb BK121 hb; replace BK122 := zb BK122 hb; replace BK123 := zb BK123 hb; replace HB := sb hb; (try clear hb ho0); obtain ⟨Ao11, co11, eo11⟩ := Kd.R_slice HO126.out; subst eo11; have hnb12 := NB123_122.out; have hnc12 := NB122_123.out; have ⟨b130, b131, d130, d131⟩ := bc2 BK123; have ⟨b140, b141, d140, d141⟩ := bc2 BK121) | ((with_reducible refine gate_callee (f := 26) rfl ?_); refine goesQ (some 10) Try.func26 #[.slice A0_1 l0_1.length c0_1] ?_; (with_reducible refine (laws_toLoanS.calls k _ _ l0_1 t127 _ ?s1 ?s2 A3.out).mono ?_); (case s1 => exact Kd.C_below HR0_1.out bq); (case s2 => exact HC0_1.out); rintro e w15 ⟨v128, rfl, ho0, hb⟩; refine ⟨_, rfl, ?_⟩; replace HO126 := am (Kd.R_below (fq HO126 BK123) hb); have HO129 := rl ho0; replace BK121 := zw (.cells #[.slice A0_0 l0_0.length c0_0, .slice A0_1 l0_1.length c0_1] 25 (0, 0)) BK121 hb; replace BK122 := zw (.cells #[.slice none 0 0, .slice none 0 0] 29 (0, 0)) BK122 hb; replace BK123 := zw (.cells #[.slice Ao11 t124.length co11, .slice none 0 0] 29 (0, 0)) BK123 hb; replace HB := sb hb; (try clear hb ho0); obtain ⟨Ao16, co16, eo16⟩ := Kd.R_slice HO129.out; subst eo16; have ⟨b170, b171, d170, d171⟩ := bc2 BK123; have ⟨b180, b181, d180, d181⟩ := bc2 BK122))
 refine bodyPost_ret (results_cell_row rfl _ _ gb122 29 #[.slice Ao11 t124.length co11, .slice Ao16 t127.length co16] (0, 0) _ rfl (zp BK122) Try.underlying29 rfl (by kernel_rfl)) rfl ?_; exact ⟨_, _, eq_, by (with_reducible repeat (first | apply Kd.R_alloc | apply Kd.R_drewN | apply Kd.R_drew)); exact Kd.R_mono (Kd.R_far (p := ⟨gb122, 1, none⟩) (Kd.R_far (p := ⟨gb122, 0, none⟩) (Kd.R_far (p := ⟨gb123, 1, none⟩) (Kd.R_types (Kd.R_types HO126.out BK123.out (by decide)) BK122.out (by decide)) (fun _ hk => hk.1.2) (.slice Ao16 t127.length co16)) (fun _ hk => hk.2) (.slice Ao11 t124.length co11)) (fun _ hk => hk.2) (.slice Ao16 t127.length co16)) (fun _ hk => trivial), by (with_reducible repeat (first | apply Kd.R_alloc | apply Kd.R_drewN | apply Kd.R_drew)); exact Kd.R_mono (Kd.R_far (p := ⟨gb122, 1, none⟩) (Kd.R_far (p := ⟨gb122, 0, none⟩) (Kd.R_far (p := ⟨gb123, 1, none⟩) (Kd.R_types (Kd.R_types HO129.out BK123.out (by decide)) BK122.out (by decide)) (fun _ hk => hk.1.2) (.slice Ao16 t127.length co16)) (fun _ hk => hk.2) (.slice Ao11 t124.length co11)) (fun _ hk => hk.2) (.slice Ao16 t127.length co16)) (fun _ hk => trivial), bq⟩


def laws_eqIntS.l0 : Nat → List Int → List Int → Int → Option (Bool)
 | 0, _, _, _ => none
 | k + 1, x0, x1, x5 => if x5 < (x0.length : Int) then (if 0 ≤ x5 then (if x5 < (x1.length : Int) then (if (rd x0 x5) = (rd x1 x5) then (laws_eqIntS.l0 k x0 x1 (wrap64 (x5 + 1))) else (some false)) else (none)) else (none)) else (some true)
def laws_eqIntS.f (k : Nat) (l0 : List Int) (l1 : List Int) : Option (Bool) := if (l0.length : Int) = (l1.length : Int) then (laws_eqIntS.l0 k l0 l1 0) else (some false)
theorem laws_eqIntS.calls (k : Nat) (A0 : Option Addr) (c0 : Nat) (l0 : List Int) (A1 : Option Addr) (c1 : Nat) (l1 : List Int) (r : Bool) (w : World) (hr0 : Kd.C (Kd.int .i64) w A0 l0.length l0) (hc0 : l0.length ≤ c0) (hr1 : Kd.C (Kd.int .i64) w A1 l1.length l1) (hc1 : l1.length ≤ c1) (h : laws_eqIntS.f k l0 l1 = some r) :
  Calls Try.prog 29 #[.slice A0 l0.length c0, .slice A1 l1.length c1] w fun e w' => e = .returned (.bool r) ∧ Drawn0 w w' := by
 have HR0 := am hr0; have HC0 := am hc0; clear hr0 hc0; have HR1 := am hr1; have HC1 := am hc1; clear hr1 hc1; have H := h; clear h
 unfold laws_eqIntS.f at H
 by_cases c3 : (l0.length : Int) = (l1.length : Int)
 ·rw [if_pos c3] at H; have c3b0 : ((l0.length : Int) == (l1.length : Int)) = true := beq_iff_eq.mpr c3; have c3b1 : ((l0.length : Int) != (l1.length : Int)) = false := bne_eq_false_iff_eq.mpr c3; have c3b2 : (l0.length == l1.length) = true := by first | simpa using c3 | (simp at c3 ⊢; omega)
  clear c3; have H' := am H; clear H
  go_enter Try.func29, Try.ntmps29
  go_wp2
  repeat (go_quiet (fail); try go_wp2)
  go_loopg [5] k (fun kq v5 w' => ∃ (x5_1 : Int), v5 = .int .i64 x5_1 ∧ Aside0 (laws_eqIntS.l0 kq l0 l1 x5_1 = some r) ∧ Aside0 (kq ≤ k) ∧ Drawn0 w w')
  case atStart => exact ⟨(0), sq, H', ⟨Nat.le_refl _⟩, by repeat (first | exact Drawn0.refl _ | apply Drawn0.step)⟩
  case round =>
   clear H'; try clear c3b0
   try clear c3b1
   try clear c3b2
   obtain ⟨x5_1, rfl, HA, HK1, ⟨m1, rfl⟩⟩ := hrel
   cases gk with
   | zero => exact absurd HA.out (by simp [laws_eqIntS.l0])
   | succ k1 =>
    have H := HA.out; clear HA; simp only [laws_eqIntS.l0] at H; by_cases c4 : x5_1 < (l0.length : Int)
    ·rw [if_pos c4] at H; have c4b0 : decide (x5_1 < (l0.length : Int)) = true := decide_eq_true c4; clear c4; by_cases c5 : 0 ≤ x5_1
     ·rw [if_pos c5] at H; have c5b0 : decide (0 ≤ x5_1) = true := decide_eq_true c5; clear c5; by_cases c6 : x5_1 < (l1.length : Int)
      ·rw [if_pos c6] at H; have c6b0 : decide (x5_1 < (l1.length : Int)) = true := decide_eq_true c6; clear c6; by_cases c7 : (rd l0 x5_1) = (rd l1 x5_1)
       ·rw [if_pos c7] at H; have c7b0 : ((rd l0 x5_1) == (rd l1 x5_1)) = true := beq_iff_eq.mpr c7; have c7b1 : ((rd l0 x5_1) != (rd l1 x5_1)) = false := bne_eq_false_iff_eq.mpr c7; clear c7; have H' := am H; clear H; have p130 : 0 ≤ (x5_1 : Int) := of_decide_eq_true aq; have q130 : x5_1 < (l0.length : Int) := of_decide_eq_true aq; obtain ⟨ad130, e130, hx130_0⟩ := Kd.at_int HR0.out x5_1 p130 q130
        cases e130
        replace p130 := eq_true p130; replace q130 := eq_true q130; have p131 : 0 ≤ (x5_1 : Int) := of_decide_eq_true aq; have q131 : x5_1 < (l1.length : Int) := of_decide_eq_true aq; obtain ⟨ad131, e131, hx131_0⟩ := Kd.at_int HR1.out x5_1 p131 q131
        cases e131
        replace p131 := eq_true p131; replace q131 := eq_true q131
        go_wp2
        repeat (go_quiet (fail); try go_wp2)
        go_roundg k1
        case measure => have := HK1.out; omega
        case rel => exact ⟨(wrap64 (x5_1 + 1)), sq, H', ⟨by have := HK1.out; omega⟩, by repeat (first | exact Drawn0.refl _ | apply Drawn0.step)⟩
       rw [if_neg c7] at H; have c7b0 : ((rd l0 x5_1) == (rd l1 x5_1)) = false := beq_eq_false_iff_ne.mpr c7; have c7b1 : ((rd l0 x5_1) != (rd l1 x5_1)) = true := bne_iff_ne.mpr c7; obtain rfl := Option.some.inj H; have p130 : 0 ≤ (x5_1 : Int) := of_decide_eq_true aq; have q130 : x5_1 < (l0.length : Int) := of_decide_eq_true aq; obtain ⟨ad130, e130, hx130_0⟩ := Kd.at_int HR0.out x5_1 p130 q130
       cases e130
       replace p130 := eq_true p130; replace q130 := eq_true q130; have p131 : 0 ≤ (x5_1 : Int) := of_decide_eq_true aq; have q131 : x5_1 < (l1.length : Int) := of_decide_eq_true aq; obtain ⟨ad131, e131, hx131_0⟩ := Kd.at_int HR1.out x5_1 p131 q131
       cases e131
       replace p131 := eq_true p131; replace q131 := eq_true q131
       go_wp2
       repeat (go_quiet (fail); try go_wp2)
       go_ret
       exact ⟨sq, by repeat (first | exact Drawn0.refl _ | apply Drawn0.step)⟩
      rw [if_neg c6] at H; exact absurd H (by simp)
     rw [if_neg c5] at H; exact absurd H (by simp)
    rw [if_neg c4] at H; have c4b0 : decide (x5_1 < (l0.length : Int)) = false := decide_eq_false c4; clear c4; obtain rfl := Option.some.inj H
    go_wp2
    repeat (go_quiet (fail); try go_wp2)
    go_ret
    exact ⟨sq, by repeat (first | exact Drawn0.refl _ | apply Drawn0.step)⟩
 rw [if_neg c3] at H; have c3b0 : ((l0.length : Int) == (l1.length : Int)) = false := beq_eq_false_iff_ne.mpr c3; have c3b1 : ((l0.length : Int) != (l1.length : Int)) = true := bne_iff_ne.mpr c3; have c3b2 : (l0.length == l1.length) = false := by first | simpa using c3 | (simp at c3 ⊢; omega)
 obtain rfl := Option.some.inj H
 go_enter Try.func29, Try.ntmps29
 go_wp2
 repeat (go_quiet (fail); try go_wp2)
 go_ret
 exact ⟨sq, by repeat (first | exact Drawn0.refl _ | apply Drawn0.step)⟩


def laws_eqLoan.f (a0_0 : Int) (a0_1 : Int) (a0_2 : Int) (a0_3 : Int) (a1_0 : Int) (a1_1 : Int) (a1_2 : Int) (a1_3 : Int) : Option (Bool) := if a0_0 = a1_0 then (if a0_1 = a1_1 then (if a0_2 = a1_2 then (if a0_3 = a1_3 then (some true) else (some false)) else (some false)) else (some false)) else (some false)
theorem laws_eqLoan.calls (a0_0 : Int) (a0_1 : Int) (a0_2 : Int) (a0_3 : Int) (a1_0 : Int) (a1_1 : Int) (a1_2 : Int) (a1_3 : Int) (r : Bool) (w : World) (h : laws_eqLoan.f a0_0 a0_1 a0_2 a0_3 a1_0 a1_1 a1_2 a1_3 = some r) :
  Calls Try.prog 52 #[.agg #[.int .i64 a0_0, .int .i64 a0_1, .int .i64 a0_2, .int .i64 a0_3], .agg #[.int .i64 a1_0, .int .i64 a1_1, .int .i64 a1_2, .int .i64 a1_3]] w fun e w' => e = .returned (.bool r) ∧ Below w.heap.size w w' := by
 have hu41 := Try.underlying41; have HB := am (Below.refl w.heap.size w); have H := h; clear h
 unfold laws_eqLoan.f at H
 by_cases c3 : a0_0 = a1_0
 ·rw [if_pos c3] at H; have c3b0 : (a0_0 == a1_0) = true := beq_iff_eq.mpr c3; have c3b1 : (a0_0 != a1_0) = false := bne_eq_false_iff_eq.mpr c3; clear c3; by_cases c4 : a0_1 = a1_1
  ·rw [if_pos c4] at H; have c4b0 : (a0_1 == a1_1) = true := beq_iff_eq.mpr c4; have c4b1 : (a0_1 != a1_1) = false := bne_eq_false_iff_eq.mpr c4; clear c4; by_cases c5 : a0_2 = a1_2
   ·rw [if_pos c5] at H; have c5b0 : (a0_2 == a1_2) = true := beq_iff_eq.mpr c5; have c5b1 : (a0_2 != a1_2) = false := bne_eq_false_iff_eq.mpr c5; clear c5; by_cases c6 : a0_3 = a1_3
    ·rw [if_pos c6] at H; have c6b0 : (a0_3 == a1_3) = true := beq_iff_eq.mpr c6; have c6b1 : (a0_3 != a1_3) = false := bne_eq_false_iff_eq.mpr c6; clear c6; obtain rfl := Option.some.inj H
     go_enter Try.func52, Try.ntmps52
     go_wp2_with (first | ((with_reducible refine gate_dst (N := 2) rfl ?_); refine box_event ?hg (N := 2) ?hd (cs := #[.int .i64 a0_0, .int .i64 a0_1, .int .i64 a0_2, .int .i64 a0_3]) (t := 41) ?hr ?_; (case hd | hg => rfl); (case hr => go_simp; try rfl); intro gb132 hg w7 hbox hb; have BK132 := am (hbox); have GW132 := am (gq hg); have GE132 := am (gq hg); replace HB := sb hb; clear hb hbox hg) | ((with_reducible refine gate_dst (N := 3) rfl ?_); refine box_event ?hg (N := 3) ?hd (cs := #[.int .i64 a1_0, .int .i64 a1_1, .int .i64 a1_2, .int .i64 a1_3]) (t := 41) ?hr ?_; (case hd | hg => rfl); (case hr => go_simp; try rfl); intro gb133 hg w8 hbox hb; have BK133 := am (hbox); have GW133 := am (gq hg); have GE133 := am (gq hg); replace HB := sb hb; have ⟨NB132_133, NB133_132⟩ := nn hg BK132; replace BK132 := zb BK132 hb; clear hb hbox hg; have hnb9 := NB132_133.out; have hnc9 := NB133_132.out; have ⟨b100, b101, b102, b103, d100, d101, d102, d103⟩ := bc4 BK132; have ⟨b110, b111, b112, b113, d110, d111, d112, d113⟩ := bc4 BK133))
     go_ret
     exact ⟨eq_, bq⟩
    rw [if_neg c6] at H; have c6b0 : (a0_3 == a1_3) = false := beq_eq_false_iff_ne.mpr c6; have c6b1 : (a0_3 != a1_3) = true := bne_iff_ne.mpr c6; obtain rfl := Option.some.inj H
    go_enter Try.func52, Try.ntmps52
    go_wp2_with (first | ((with_reducible refine gate_dst (N := 2) rfl ?_); refine box_event ?hg (N := 2) ?hd (cs := #[.int .i64 a0_0, .int .i64 a0_1, .int .i64 a0_2, .int .i64 a0_3]) (t := 41) ?hr ?_; (case hd | hg => rfl); (case hr => go_simp; try rfl); intro gb132 hg w12 hbox hb; have BK132 := am (hbox); have GW132 := am (gq hg); have GE132 := am (gq hg); replace HB := sb hb; clear hb hbox hg) | ((with_reducible refine gate_dst (N := 3) rfl ?_); refine box_event ?hg (N := 3) ?hd (cs := #[.int .i64 a1_0, .int .i64 a1_1, .int .i64 a1_2, .int .i64 a1_3]) (t := 41) ?hr ?_; (case hd | hg => rfl); (case hr => go_simp; try rfl); intro gb133 hg w13 hbox hb; have BK133 := am (hbox); have GW133 := am (gq hg); have GE133 := am (gq hg); replace HB := sb hb; have ⟨NB132_133, NB133_132⟩ := nn hg BK132; replace BK132 := zb BK132 hb; clear hb hbox hg; have hnb14 := NB132_133.out; have hnc14 := NB133_132.out; have ⟨b150, b151, b152, b153, d150, d151, d152, d153⟩ := bc4 BK132; have ⟨b160, b161, b162, b163, d160, d161, d162, d163⟩ := bc4 BK133))
    go_ret
    exact ⟨eq_, bq⟩
   rw [if_neg c5] at H; have c5b0 : (a0_2 == a1_2) = false := beq_eq_false_iff_ne.mpr c5; have c5b1 : (a0_2 != a1_2) = true := bne_iff_ne.mpr c5; obtain rfl := Option.some.inj H
   go_enter Try.func52, Try.ntmps52
   go_wp2_with (first | ((with_reducible refine gate_dst (N := 2) rfl ?_); refine box_event ?hg (N := 2) ?hd (cs := #[.int .i64 a0_0, .int .i64 a0_1, .int .i64 a0_2, .int .i64 a0_3]) (t := 41) ?hr ?_; (case hd | hg => rfl); (case hr => go_simp; try rfl); intro gb132 hg w17 hbox hb; have BK132 := am (hbox); have GW132 := am (gq hg); have GE132 := am (gq hg); replace HB := sb hb; clear hb hbox hg) | ((with_reducible refine gate_dst (N := 3) rfl ?_); refine box_event ?hg (N := 3) ?hd (cs := #[.int .i64 a1_0, .int .i64 a1_1, .int .i64 a1_2, .int .i64 a1_3]) (t := 41) ?hr ?_; (case hd | hg => rfl); (case hr => go_simp; try rfl); intro gb133 hg w18 hbox hb; have BK133 := am (hbox); have GW133 := am (gq hg); have GE133 := am (gq hg); replace HB := sb hb; have ⟨NB132_133, NB133_132⟩ := nn hg BK132; replace BK132 := zb BK132 hb; clear hb hbox hg; have hnb19 := NB132_133.out; have hnc19 := NB133_132.out; have ⟨b200, b201, b202, b203, d200, d201, d202, d203⟩ := bc4 BK132; have ⟨b210, b211, b212, b213, d210, d211, d212, d213⟩ := bc4 BK133))
   go_ret
   exact ⟨eq_, bq⟩
  rw [if_neg c4] at H; have c4b0 : (a0_1 == a1_1) = false := beq_eq_false_iff_ne.mpr c4; have c4b1 : (a0_1 != a1_1) = true := bne_iff_ne.mpr c4; obtain rfl := Option.some.inj H
  go_enter Try.func52, Try.ntmps52
  go_wp2_with (first | ((with_reducible refine gate_dst (N := 2) rfl ?_); refine box_event ?hg (N := 2) ?hd (cs := #[.int .i64 a0_0, .int .i64 a0_1, .int .i64 a0_2, .int .i64 a0_3]) (t := 41) ?hr ?_; (case hd | hg => rfl); (case hr => go_simp; try rfl); intro gb132 hg w22 hbox hb; have BK132 := am (hbox); have GW132 := am (gq hg); have GE132 := am (gq hg); replace HB := sb hb; clear hb hbox hg) | ((with_reducible refine gate_dst (N := 3) rfl ?_); refine box_event ?hg (N := 3) ?hd (cs := #[.int .i64 a1_0, .int .i64 a1_1, .int .i64 a1_2, .int .i64 a1_3]) (t := 41) ?hr ?_; (case hd | hg => rfl); (case hr => go_simp; try rfl); intro gb133 hg w23 hbox hb; have BK133 := am (hbox); have GW133 := am (gq hg); have GE133 := am (gq hg); replace HB := sb hb; have ⟨NB132_133, NB133_132⟩ := nn hg BK132; replace BK132 := zb BK132 hb; clear hb hbox hg; have hnb24 := NB132_133.out; have hnc24 := NB133_132.out; have ⟨b250, b251, b252, b253, d250, d251, d252, d253⟩ := bc4 BK132; have ⟨b260, b261, b262, b263, d260, d261, d262, d263⟩ := bc4 BK133))
  go_ret
  exact ⟨eq_, bq⟩
 rw [if_neg c3] at H; have c3b0 : (a0_0 == a1_0) = false := beq_eq_false_iff_ne.mpr c3; have c3b1 : (a0_0 != a1_0) = true := bne_iff_ne.mpr c3; obtain rfl := Option.some.inj H
 go_enter Try.func52, Try.ntmps52
 go_wp2_with (first | ((with_reducible refine gate_dst (N := 2) rfl ?_); refine box_event ?hg (N := 2) ?hd (cs := #[.int .i64 a0_0, .int .i64 a0_1, .int .i64 a0_2, .int .i64 a0_3]) (t := 41) ?hr ?_; (case hd | hg => rfl); (case hr => go_simp; try rfl); intro gb132 hg w27 hbox hb; have BK132 := am (hbox); have GW132 := am (gq hg); have GE132 := am (gq hg); replace HB := sb hb; clear hb hbox hg) | ((with_reducible refine gate_dst (N := 3) rfl ?_); refine box_event ?hg (N := 3) ?hd (cs := #[.int .i64 a1_0, .int .i64 a1_1, .int .i64 a1_2, .int .i64 a1_3]) (t := 41) ?hr ?_; (case hd | hg => rfl); (case hr => go_simp; try rfl); intro gb133 hg w28 hbox hb; have BK133 := am (hbox); have GW133 := am (gq hg); have GE133 := am (gq hg); replace HB := sb hb; have ⟨NB132_133, NB133_132⟩ := nn hg BK132; replace BK132 := zb BK132 hb; clear hb hbox hg; have hnb29 := NB132_133.out; have hnc29 := NB133_132.out; have ⟨b300, b301, b302, b303, d300, d301, d302, d303⟩ := bc4 BK132; have ⟨b310, b311, b312, b313, d310, d311, d312, d313⟩ := bc4 BK133))
 go_ret
 exact ⟨eq_, bq⟩



def laws_eqLoanS.l0 : Nat → List (S41) → List (S41) → Int → Option (Bool)
 | 0, _, _, _ => none
 | k + 1, x0, x1, x5 => if x5 < (x0.length : Int) then (if 0 ≤ x5 then (if x5 < (x1.length : Int) then ((laws_eqLoan.f ((rd_T41 x0 x5).f0) ((rd_T41 x0 x5).f1) ((rd_T41 x0 x5).f2) ((rd_T41 x0 x5).f3) ((rd_T41 x1 x5).f0) ((rd_T41 x1 x5).f1) ((rd_T41 x1 x5).f2) ((rd_T41 x1 x5).f3)).bind fun t136 => (if t136 = true then (laws_eqLoanS.l0 k x0 x1 (wrap64 (x5 + 1))) else (some false))) else (none)) else (none)) else (some true)
def laws_eqLoanS.f (k : Nat) (l0 : List (S41)) (l1 : List (S41)) : Option (Bool) := if (l0.length : Int) = (l1.length : Int) then (laws_eqLoanS.l0 k l0 l1 0) else (some false)
def laws_eqLoanS.T6 : Bool × List (List Nat × List Nat) := (true, [([], []), ([], []), ([0, 1], [0, 1]), ([2], [2]), ([], []), ([], []), ([4, 5], [4, 5]), ([6], [6]), ([3, 7], [3, 7]), ([8], [8])])
def laws_eqLoanS.B6 : List Nat := [0, 0, 3, 7, 0, 0, 48, 112, 255, 511]
theorem laws_eqLoanS.tab6 : rtab .any (opsOf Try.f30 6) = laws_eqLoanS.T6 := by kernel_rfl
theorem laws_eqLoanS.bits6 : waitsOk laws_eqLoanS.T6.2 laws_eqLoanS.B6 = true := by kernel_rfl
theorem laws_eqLoanS.calls (k : Nat) (A0 : Option Addr) (c0 : Nat) (l0 : List (S41)) (A1 : Option Addr) (c1 : Nat) (l1 : List (S41)) (r : Bool) (w : World) (hr0 : Kd.C k41 w A0 l0.length l0) (hc0 : l0.length ≤ c0) (hr1 : Kd.C k41 w A1 l1.length l1) (hc1 : l1.length ≤ c1) (h : laws_eqLoanS.f k l0 l1 = some r) :
  Calls Try.prog 30 #[.slice A0 l0.length c0, .slice A1 l1.length c1] w fun e w' => e = .returned (.bool r) ∧ Below w.heap.size w w' := by
 have hu41 := Try.underlying41; have HR0 := am hr0; have HC0 := am hc0; clear hr0 hc0; have HR1 := am hr1; have HC1 := am hc1; clear hr1 hc1; have HB := am (Below.refl w.heap.size w); have H := h; clear h
 unfold laws_eqLoanS.f at H
 by_cases c3 : (l0.length : Int) = (l1.length : Int)
 ·rw [if_pos c3] at H; have c3b0 : ((l0.length : Int) == (l1.length : Int)) = true := beq_iff_eq.mpr c3; have c3b1 : ((l0.length : Int) != (l1.length : Int)) = false := bne_eq_false_iff_eq.mpr c3; have c3b2 : (l0.length == l1.length) = true := by first | simpa using c3 | (simp at c3 ⊢; omega)
  clear c3; have H' := am H; clear H
  go_enter Try.func30, Try.ntmps30
  go_wp2
  go_loopg [5] k (fun kq v5 w' => ∃ (x5_1 : Int), v5 = .int .i64 x5_1 ∧ Aside0 (laws_eqLoanS.l0 kq l0 l1 x5_1 = some r) ∧ Aside0 (kq ≤ k) ∧ Aside0 (Below w.heap.size w w'))
  case atStart => exact ⟨(0), sq, H', ⟨Nat.le_refl _⟩, ⟨bq⟩⟩
  case round =>
   clear H'; try clear c3b0
   try clear c3b1
   try clear c3b2
   obtain ⟨x5_1, rfl, HA, HK1, HB⟩ := hrel
   cases gk with
   | zero => exact absurd HA.out (by simp [laws_eqLoanS.l0])
   | succ k1 =>
    have H := HA.out; clear HA; simp only [laws_eqLoanS.l0] at H; by_cases c4 : x5_1 < (l0.length : Int)
    ·rw [if_pos c4] at H; have c4b0 : decide (x5_1 < (l0.length : Int)) = true := decide_eq_true c4; clear c4; by_cases c5 : 0 ≤ x5_1
     ·rw [if_pos c5] at H; have c5b0 : decide (0 ≤ x5_1) = true := decide_eq_true c5; clear c5; by_cases c6 : x5_1 < (l1.length : Int)
      ·rw [if_pos c6] at H; have c6b0 : decide (x5_1 < (l1.length : Int)) = true := decide_eq_true c6; clear c6; obtain ⟨t136, A7, H⟩ := bindq H; try dsimp only at H
       by_cases c8 : t136 = true
       ·subst c8; rw [if_pos rfl] at H; try dsimp only at H
        have H' := am H; clear H; try go_wp2
        have n0_ := am (below_drew1 HB.out); clear HB; have HB := n0_; clear n0_; have p134 : 0 ≤ (x5_1 : Int) := of_decide_eq_true aq; have q134 : x5_1 < (l0.length : Int) := of_decide_eq_true aq; obtain ⟨ad134, e134, hx134_0, hx134_1, hx134_2, hx134_3⟩ := at_T41 HR0.out x5_1 p134 q134; have hw134_3 := hx134_3; have hw134_2 := hx134_2; have hw134_1 := hx134_1; have hw134_0 := hx134_0
        cases e134
        replace hx134_0 := (HB.out.cell (World.block_lt_of_cell? w _ hx134_0)).trans hx134_0; replace hx134_1 := (HB.out.cell (World.block_lt_of_cell? w _ hx134_1)).trans hx134_1; replace hx134_2 := (HB.out.cell (World.block_lt_of_cell? w _ hx134_2)).trans hx134_2; replace hx134_3 := (HB.out.cell (World.block_lt_of_cell? w _ hx134_3)).trans hx134_3; replace p134 := eq_true p134; replace q134 := eq_true q134; have p135 : 0 ≤ (x5_1 : Int) := of_decide_eq_true aq; have q135 : x5_1 < (l1.length : Int) := of_decide_eq_true aq; obtain ⟨ad135, e135, hx135_0, hx135_1, hx135_2, hx135_3⟩ := at_T41 HR1.out x5_1 p135 q135; have hw135_3 := hx135_3; have hw135_2 := hx135_2; have hw135_1 := hx135_1; have hw135_0 := hx135_0
        cases e135
        replace hx135_0 := (HB.out.cell (World.block_lt_of_cell? w _ hx135_0)).trans hx135_0; replace hx135_1 := (HB.out.cell (World.block_lt_of_cell? w _ hx135_1)).trans hx135_1; replace hx135_2 := (HB.out.cell (World.block_lt_of_cell? w _ hx135_2)).trans hx135_2; replace hx135_3 := (HB.out.cell (World.block_lt_of_cell? w _ hx135_3)).trans hx135_3; replace p135 := eq_true p135; replace q135 := eq_true q135; refine start_ (n := 10) (S := fun w' => w'.cell? (ad134.add ((x5_1).toNat * 4)) = some (.int .i64 ((rd_T41 l0 x5_1).f0)) ∧ w'.cell? ⟨(ad134.add ((x5_1).toNat * 4)).block, (ad134.add ((x5_1).toNat * 4)).off + 1, none⟩ = some (.int .i64 ((rd_T41 l0 x5_1).f1)) ∧ w'.cell? ⟨(ad134.add ((x5_1).toNat * 4)).block, (ad134.add ((x5_1).toNat * 4)).off + 2, none⟩ = some (.int .i64 ((rd_T41 l0 x5_1).f2)) ∧ w'.cell? ⟨(ad134.add ((x5_1).toNat * 4)).block, (ad134.add ((x5_1).toNat * 4)).off + 3, none⟩ = some (.int .i64 ((rd_T41 l0 x5_1).f3)) ∧ w'.cell? (ad135.add ((x5_1).toNat * 4)) = some (.int .i64 ((rd_T41 l1 x5_1).f0)) ∧ w'.cell? ⟨(ad135.add ((x5_1).toNat * 4)).block, (ad135.add ((x5_1).toNat * 4)).off + 1, none⟩ = some (.int .i64 ((rd_T41 l1 x5_1).f1)) ∧ w'.cell? ⟨(ad135.add ((x5_1).toNat * 4)).block, (ad135.add ((x5_1).toNat * 4)).off + 2, none⟩ = some (.int .i64 ((rd_T41 l1 x5_1).f2)) ∧ w'.cell? ⟨(ad135.add ((x5_1).toNat * 4)).block, (ad135.add ((x5_1).toNat * 4)).off + 3, none⟩ = some (.int .i64 ((rd_T41 l1 x5_1).f3))) (ds := []) #[O, O, O, O, O, O, O, O, O, O] (by kernel_rfl) rfl rfl ⟨((HB.out.cell (World.block_lt_of_cell? w _ hw134_0)).trans hw134_0), ((HB.out.cell (World.block_lt_of_cell? w _ hw134_1)).trans hw134_1), ((HB.out.cell (World.block_lt_of_cell? w _ hw134_2)).trans hw134_2), ((HB.out.cell (World.block_lt_of_cell? w _ hw134_3)).trans hw134_3), ((HB.out.cell (World.block_lt_of_cell? w _ hw135_0)).trans hw135_0), ((HB.out.cell (World.block_lt_of_cell? w _ hw135_1)).trans hw135_1), ((HB.out.cell (World.block_lt_of_cell? w _ hw135_2)).trans hw135_2), ((HB.out.cell (World.block_lt_of_cell? w _ hw135_3)).trans hw135_3)⟩ (fun hHeld => ?_); refine with_tabW laws_eqLoanS.tab6 laws_eqLoanS.bits6 (fun HT_ HW_ => ?_); generalize wr.drew = w9 at HB hx134_0 hx134_1 hx134_2 hx134_3 hx135_0 hx135_1 hx135_2 hx135_3 hHeld ⊢; refine pu_ 0 (some 17) ?_ #[I, O, O, O, O, O, O, O, O, O] rfl rfl (any_of HT_.out (by kernel_rfl)) (.inl ⟨by rfl, ?_⟩) ?_ ?_ ?_; rotate_left; (intro w'; go_simp; with_reducible rfl); rotate_left; (simp only [pw]; rfl); refine pu_ 1 (some 18) ?_ #[I, I, O, O, O, O, O, O, O, O] rfl rfl (any_of HT_.out (by kernel_rfl)) (.inl ⟨by rfl, ?_⟩) ?_ ?_ ?_; rotate_left; (intro w'; go_simp; with_reducible rfl); rotate_left; (simp only [pw]; rfl); refine pu_ 2 (some 19) ?_ #[I, I, I, O, O, O, O, O, O, O] rfl rfl (any_of HT_.out (by kernel_rfl)) (.inl ⟨by rfl, ?_⟩) ?_ ?_ ?_; rotate_left; (intro w'; go_simp; with_reducible rfl); rotate_left; (simp only [pw]; rfl); refine pu_ 4 (some 21) ?_ #[I, I, I, O, I, O, O, O, O, O] rfl rfl (any_of HT_.out (by kernel_rfl)) (.inl ⟨by rfl, ?_⟩) ?_ ?_ ?_; rotate_left; (intro w'; go_simp; with_reducible rfl); rotate_left; (simp only [pw]; rfl); refine pu_ 5 (some 22) ?_ #[I, I, I, O, I, I, O, O, O, O] rfl rfl (any_of HT_.out (by kernel_rfl)) (.inl ⟨by rfl, ?_⟩) ?_ ?_ ?_; rotate_left; (intro w'; go_simp; with_reducible rfl); rotate_left; (simp only [pw]; rfl); refine pu_ 6 (some 23) ?_ #[I, I, I, O, I, I, I, O, O, O] rfl rfl (any_of HT_.out (by kernel_rfl)) (.inl ⟨by rfl, ?_⟩) ?_ ?_ ?_; rotate_left; (intro w'; go_simp; with_reducible rfl); rotate_left; (simp only [pw]; rfl); refine tk_ 3 (some 20) ?_ #[I, I, I, I, I, I, I, O, O, O] rfl rfl (take_ofW HT_.out HW_.out (by kernel_rfl)) (.inl ⟨by rfl, ?_⟩) hHeld ?_ ?_ ?_; rotate_left; (rintro w' ⟨s0, s1, s2, s3, s4, s5, s6, s7⟩; go_simp; with_reducible rfl); rotate_left; (simp only [pw]; rfl); refine tk_ 7 (some 24) ?_ #[I, I, I, I, I, I, I, I, O, O] rfl rfl (take_ofW HT_.out HW_.out (by kernel_rfl)) (.inl ⟨by rfl, ?_⟩) hHeld ?_ ?_ ?_; rotate_left; (rintro w' ⟨s0, s1, s2, s3, s4, s5, s6, s7⟩; go_simp; with_reducible rfl); rotate_left; (simp only [pw]; rfl); refine one_ (i := 8) (N := some 25) #[I, I, I, I, I, I, I, I, I, O] rfl rfl (one_of HT_.out (by kernel_rfl)) (by decide) (fun K hK => ?_); refine goes_ Try.func52 (by kernel_rfl) rfl #[.agg #[.int .i64 ((rd_T41 l0 x5_1).f0), .int .i64 ((rd_T41 l0 x5_1).f1), .int .i64 ((rd_T41 l0 x5_1).f2), .int .i64 ((rd_T41 l0 x5_1).f3)], .agg #[.int .i64 ((rd_T41 l1 x5_1).f0), .int .i64 ((rd_T41 l1 x5_1).f1), .int .i64 ((rd_T41 l1 x5_1).f2), .int .i64 ((rd_T41 l1 x5_1).f3)]] (by rfl) rfl rfl mq ?_; with_reducible refine (laws_eqLoan.calls ((rd_T41 l0 x5_1).f0) ((rd_T41 l0 x5_1).f1) ((rd_T41 l0 x5_1).f2) ((rd_T41 l0 x5_1).f3) ((rd_T41 l1 x5_1).f0) ((rd_T41 l1 x5_1).f1) ((rd_T41 l1 x5_1).f2) ((rd_T41 l1 x5_1).f3) true _ A7.out).mono ?_
        rintro e w10 ⟨rfl, hb⟩; refine ⟨_, rfl, ?_⟩; have n0_ := sb hb; clear HB; have HB := n0_; clear n0_; (try clear hb); refine hK.out _ _ ⟨((HB.out.cell (World.block_lt_of_cell? w _ hw134_0)).trans hw134_0), ((HB.out.cell (World.block_lt_of_cell? w _ hw134_1)).trans hw134_1), ((HB.out.cell (World.block_lt_of_cell? w _ hw134_2)).trans hw134_2), ((HB.out.cell (World.block_lt_of_cell? w _ hw134_3)).trans hw134_3), ((HB.out.cell (World.block_lt_of_cell? w _ hw135_0)).trans hw135_0), ((HB.out.cell (World.block_lt_of_cell? w _ hw135_1)).trans hw135_1), ((HB.out.cell (World.block_lt_of_cell? w _ hw135_2)).trans hw135_2), ((HB.out.cell (World.block_lt_of_cell? w _ hw135_3)).trans hw135_3)⟩ (fun hHeld => ?_); clear hK K; refine norm_ (a' := ?_) ?_ ?_; rotate_left
        ·show Act.put _ (some 25) _ = _
         simp only [pw]; rfl
        refine pu_ 9 (some 26) ?_ #[I, I, I, I, I, I, I, I, I, I] rfl rfl (any_of HT_.out (by kernel_rfl)) (.inl ⟨by rfl, ?_⟩) ?_ ?_ ?_; rotate_left; (intro w'; go_simp; with_reducible rfl); rotate_left; (simp only [pw]; rfl); refine done_ (done_of HT_.out (by kernel_rfl)) ?_; try go_wp2
        go_roundg k1
        case measure => have := HK1.out; omega
        case rel => exact ⟨(wrap64 (x5_1 + 1)), sq, H', ⟨by have := HK1.out; omega⟩, ⟨bq⟩⟩
       replace c8 := Bool.eq_false_iff.mpr c8; subst c8; rw [if_neg (show ¬ (false = true) by decide)] at H; try dsimp only at H
       obtain rfl := Option.some.inj H; try go_wp2
       have n0_ := am (below_drew1 HB.out); clear HB; have HB := n0_; clear n0_; have p134 : 0 ≤ (x5_1 : Int) := of_decide_eq_true aq; have q134 : x5_1 < (l0.length : Int) := of_decide_eq_true aq; obtain ⟨ad134, e134, hx134_0, hx134_1, hx134_2, hx134_3⟩ := at_T41 HR0.out x5_1 p134 q134; have hw134_3 := hx134_3; have hw134_2 := hx134_2; have hw134_1 := hx134_1; have hw134_0 := hx134_0
       cases e134
       replace hx134_0 := (HB.out.cell (World.block_lt_of_cell? w _ hx134_0)).trans hx134_0; replace hx134_1 := (HB.out.cell (World.block_lt_of_cell? w _ hx134_1)).trans hx134_1; replace hx134_2 := (HB.out.cell (World.block_lt_of_cell? w _ hx134_2)).trans hx134_2; replace hx134_3 := (HB.out.cell (World.block_lt_of_cell? w _ hx134_3)).trans hx134_3; replace p134 := eq_true p134; replace q134 := eq_true q134; have p135 : 0 ≤ (x5_1 : Int) := of_decide_eq_true aq; have q135 : x5_1 < (l1.length : Int) := of_decide_eq_true aq; obtain ⟨ad135, e135, hx135_0, hx135_1, hx135_2, hx135_3⟩ := at_T41 HR1.out x5_1 p135 q135; have hw135_3 := hx135_3; have hw135_2 := hx135_2; have hw135_1 := hx135_1; have hw135_0 := hx135_0
       cases e135
       replace hx135_0 := (HB.out.cell (World.block_lt_of_cell? w _ hx135_0)).trans hx135_0; replace hx135_1 := (HB.out.cell (World.block_lt_of_cell? w _ hx135_1)).trans hx135_1; replace hx135_2 := (HB.out.cell (World.block_lt_of_cell? w _ hx135_2)).trans hx135_2; replace hx135_3 := (HB.out.cell (World.block_lt_of_cell? w _ hx135_3)).trans hx135_3; replace p135 := eq_true p135; replace q135 := eq_true q135; refine start_ (n := 10) (S := fun w' => w'.cell? (ad134.add ((x5_1).toNat * 4)) = some (.int .i64 ((rd_T41 l0 x5_1).f0)) ∧ w'.cell? ⟨(ad134.add ((x5_1).toNat * 4)).block, (ad134.add ((x5_1).toNat * 4)).off + 1, none⟩ = some (.int .i64 ((rd_T41 l0 x5_1).f1)) ∧ w'.cell? ⟨(ad134.add ((x5_1).toNat * 4)).block, (ad134.add ((x5_1).toNat * 4)).off + 2, none⟩ = some (.int .i64 ((rd_T41 l0 x5_1).f2)) ∧ w'.cell? ⟨(ad134.add ((x5_1).toNat * 4)).block, (ad134.add ((x5_1).toNat * 4)).off + 3, none⟩ = some (.int .i64 ((rd_T41 l0 x5_1).f3)) ∧ w'.cell? (ad135.add ((x5_1).toNat * 4)) = some (.int .i64 ((rd_T41 l1 x5_1).f0)) ∧ w'.cell? ⟨(ad135.add ((x5_1).toNat * 4)).block, (ad135.add ((x5_1).toNat * 4)).off + 1, none⟩ = some (.int .i64 ((rd_T41 l1 x5_1).f1)) ∧ w'.cell? ⟨(ad135.add ((x5_1).toNat * 4)).block, (ad135.add ((x5_1).toNat * 4)).off + 2, none⟩ = some (.int .i64 ((rd_T41 l1 x5_1).f2)) ∧ w'.cell? ⟨(ad135.add ((x5_1).toNat * 4)).block, (ad135.add ((x5_1).toNat * 4)).off + 3, none⟩ = some (.int .i64 ((rd_T41 l1 x5_1).f3))) (ds := []) #[O, O, O, O, O, O, O, O, O, O] (by kernel_rfl) rfl rfl ⟨((HB.out.cell (World.block_lt_of_cell? w _ hw134_0)).trans hw134_0), ((HB.out.cell (World.block_lt_of_cell? w _ hw134_1)).trans hw134_1), ((HB.out.cell (World.block_lt_of_cell? w _ hw134_2)).trans hw134_2), ((HB.out.cell (World.block_lt_of_cell? w _ hw134_3)).trans hw134_3), ((HB.out.cell (World.block_lt_of_cell? w _ hw135_0)).trans hw135_0), ((HB.out.cell (World.block_lt_of_cell? w _ hw135_1)).trans hw135_1), ((HB.out.cell (World.block_lt_of_cell? w _ hw135_2)).trans hw135_2), ((HB.out.cell (World.block_lt_of_cell? w _ hw135_3)).trans hw135_3)⟩ (fun hHeld => ?_); refine with_tabW laws_eqLoanS.tab6 laws_eqLoanS.bits6 (fun HT_ HW_ => ?_); generalize wr.drew = w11 at HB hx134_0 hx134_1 hx134_2 hx134_3 hx135_0 hx135_1 hx135_2 hx135_3 hHeld ⊢; refine pu_ 0 (some 17) ?_ #[I, O, O, O, O, O, O, O, O, O] rfl rfl (any_of HT_.out (by kernel_rfl)) (.inl ⟨by rfl, ?_⟩) ?_ ?_ ?_; rotate_left; (intro w'; go_simp; with_reducible rfl); rotate_left; (simp only [pw]; rfl); refine pu_ 1 (some 18) ?_ #[I, I, O, O, O, O, O, O, O, O] rfl rfl (any_of HT_.out (by kernel_rfl)) (.inl ⟨by rfl, ?_⟩) ?_ ?_ ?_; rotate_left; (intro w'; go_simp; with_reducible rfl); rotate_left; (simp only [pw]; rfl); refine pu_ 2 (some 19) ?_ #[I, I, I, O, O, O, O, O, O, O] rfl rfl (any_of HT_.out (by kernel_rfl)) (.inl ⟨by rfl, ?_⟩) ?_ ?_ ?_; rotate_left; (intro w'; go_simp; with_reducible rfl); rotate_left; (simp only [pw]; rfl); refine pu_ 4 (some 21) ?_ #[I, I, I, O, I, O, O, O, O, O] rfl rfl (any_of HT_.out (by kernel_rfl)) (.inl ⟨by rfl, ?_⟩) ?_ ?_ ?_; rotate_left; (intro w'; go_simp; with_reducible rfl); rotate_left; (simp only [pw]; rfl); refine pu_ 5 (some 22) ?_ #[I, I, I, O, I, I, O, O, O, O] rfl rfl (any_of HT_.out (by kernel_rfl)) (.inl ⟨by rfl, ?_⟩) ?_ ?_ ?_; rotate_left; (intro w'; go_simp; with_reducible rfl); rotate_left; (simp only [pw]; rfl); refine pu_ 6 (some 23) ?_ #[I, I, I, O, I, I, I, O, O, O] rfl rfl (any_of HT_.out (by kernel_rfl)) (.inl ⟨by rfl, ?_⟩) ?_ ?_ ?_; rotate_left; (intro w'; go_simp; with_reducible rfl); rotate_left; (simp only [pw]; rfl); refine tk_ 3 (some 20) ?_ #[I, I, I, I, I, I, I, O, O, O] rfl rfl (take_ofW HT_.out HW_.out (by kernel_rfl)) (.inl ⟨by rfl, ?_⟩) hHeld ?_ ?_ ?_; rotate_left; (rintro w' ⟨s0, s1, s2, s3, s4, s5, s6, s7⟩; go_simp; with_reducible rfl); rotate_left; (simp only [pw]; rfl); refine tk_ 7 (some 24) ?_ #[I, I, I, I, I, I, I, I, O, O] rfl rfl (take_ofW HT_.out HW_.out (by kernel_rfl)) (.inl ⟨by rfl, ?_⟩) hHeld ?_ ?_ ?_; rotate_left; (rintro w' ⟨s0, s1, s2, s3, s4, s5, s6, s7⟩; go_simp; with_reducible rfl); rotate_left; (simp only [pw]; rfl); refine one_ (i := 8) (N := some 25) #[I, I, I, I, I, I, I, I, I, O] rfl rfl (one_of HT_.out (by kernel_rfl)) (by decide) (fun K hK => ?_); refine goes_ Try.func52 (by kernel_rfl) rfl #[.agg #[.int .i64 ((rd_T41 l0 x5_1).f0), .int .i64 ((rd_T41 l0 x5_1).f1), .int .i64 ((rd_T41 l0 x5_1).f2), .int .i64 ((rd_T41 l0 x5_1).f3)], .agg #[.int .i64 ((rd_T41 l1 x5_1).f0), .int .i64 ((rd_T41 l1 x5_1).f1), .int .i64 ((rd_T41 l1 x5_1).f2), .int .i64 ((rd_T41 l1 x5_1).f3)]] (by rfl) rfl rfl mq ?_; with_reducible refine (laws_eqLoan.calls ((rd_T41 l0 x5_1).f0) ((rd_T41 l0 x5_1).f1) ((rd_T41 l0 x5_1).f2) ((rd_T41 l0 x5_1).f3) ((rd_T41 l1 x5_1).f0) ((rd_T41 l1 x5_1).f1) ((rd_T41 l1 x5_1).f2) ((rd_T41 l1 x5_1).f3) false _ A7.out).mono ?_
       rintro e w12 ⟨rfl, hb⟩; refine ⟨_, rfl, ?_⟩; have n0_ := sb hb; clear HB; have HB := n0_; clear n0_; (try clear hb); refine hK.out _ _ ⟨((HB.out.cell (World.block_lt_of_cell? w _ hw134_0)).trans hw134_0), ((HB.out.cell (World.block_lt_of_cell? w _ hw134_1)).trans hw134_1), ((HB.out.cell (World.block_lt_of_cell? w _ hw134_2)).trans hw134_2), ((HB.out.cell (World.block_lt_of_cell? w _ hw134_3)).trans hw134_3), ((HB.out.cell (World.block_lt_of_cell? w _ hw135_0)).trans hw135_0), ((HB.out.cell (World.block_lt_of_cell? w _ hw135_1)).trans hw135_1), ((HB.out.cell (World.block_lt_of_cell? w _ hw135_2)).trans hw135_2), ((HB.out.cell (World.block_lt_of_cell? w _ hw135_3)).trans hw135_3)⟩ (fun hHeld => ?_); clear hK K; refine norm_ (a' := ?_) ?_ ?_; rotate_left
       ·show Act.put _ (some 25) _ = _
        simp only [pw]; rfl
       refine pu_ 9 (some 26) ?_ #[I, I, I, I, I, I, I, I, I, I] rfl rfl (any_of HT_.out (by kernel_rfl)) (.inl ⟨by rfl, ?_⟩) ?_ ?_ ?_; rotate_left; (intro w'; go_simp; with_reducible rfl); rotate_left; (simp only [pw]; rfl); refine done_ (done_of HT_.out (by kernel_rfl)) ?_; try go_wp2
       go_ret
       exact ⟨eq_, bq⟩
      rw [if_neg c6] at H; exact absurd H (by simp)
     rw [if_neg c5] at H; exact absurd H (by simp)
    rw [if_neg c4] at H; have c4b0 : decide (x5_1 < (l0.length : Int)) = false := decide_eq_false c4; clear c4; obtain rfl := Option.some.inj H
    go_wp2
    go_ret
    exact ⟨eq_, bq⟩
 rw [if_neg c3] at H; have c3b0 : ((l0.length : Int) == (l1.length : Int)) = false := beq_eq_false_iff_ne.mpr c3; have c3b1 : ((l0.length : Int) != (l1.length : Int)) = true := bne_iff_ne.mpr c3; have c3b2 : (l0.length == l1.length) = false := by first | simpa using c3 | (simp at c3 ⊢; omega)
 obtain rfl := Option.some.inj H
 go_enter Try.func30, Try.ntmps30
 go_wp2
 go_ret
 exact ⟨eq_, bq⟩


def laws_eqShop.f (k : Nat) (l0_0 : List Int) (l0_1 : List (S41)) (l1_0 : List Int) (l1_1 : List (S41)) : Option (Bool) := (laws_eqIntS.f k l0_0 l1_0).bind fun t139 => (if t139 = true then ((laws_eqLoanS.f k l0_1 l1_1).bind fun t140 => (if t140 = true then (some true) else (some false))) else (some false))
theorem laws_eqShop.calls (k : Nat) (A0_0 : Option Addr) (c0_0 : Nat) (l0_0 : List Int) (A0_1 : Option Addr) (c0_1 : Nat) (l0_1 : List (S41)) (A1_0 : Option Addr) (c1_0 : Nat) (l1_0 : List Int) (A1_1 : Option Addr) (c1_1 : Nat) (l1_1 : List (S41)) (r : Bool) (w : World) (hr0_0 : Kd.C (Kd.int .i64) w A0_0 l0_0.length l0_0) (hc0_0 : l0_0.length ≤ c0_0) (hr0_1 : Kd.C k41 w A0_1 l0_1.length l0_1) (hc0_1 : l0_1.length ≤ c0_1) (hr1_0 : Kd.C (Kd.int .i64) w A1_0 l1_0.length l1_0) (hc1_0 : l1_0.length ≤ c1_0) (hr1_1 : Kd.C k41 w A1_1 l1_1.length l1_1) (hc1_1 : l1_1.length ≤ c1_1) (h : laws_eqShop.f k l0_0 l0_1 l1_0 l1_1 = some r) :
  Calls Try.prog 11 #[.agg #[.slice A0_0 l0_0.length c0_0, .slice A0_1 l0_1.length c0_1], .agg #[.slice A1_0 l1_0.length c1_0, .slice A1_1 l1_1.length c1_1]] w fun e w' => e = .returned (.bool r) ∧ Below w.heap.size w w' := by
 have hu29 := Try.underlying29; have HR0_0 := am hr0_0; have HC0_0 := am hc0_0; clear hr0_0 hc0_0; have HR0_1 := am hr0_1; have HC0_1 := am hc0_1; clear hr0_1 hc0_1; have HR1_0 := am hr1_0; have HC1_0 := am hc1_0; clear hr1_0 hc1_0; have HR1_1 := am hr1_1; have HC1_1 := am hc1_1; clear hr1_1 hc1_1; have HB := am (Below.refl w.heap.size w); have H := h; clear h
 unfold laws_eqShop.f at H
 obtain ⟨t139, A3, H⟩ := bindq H; try dsimp only at H
 by_cases c4 : t139 = true
 ·subst c4; rw [if_pos rfl] at H; try dsimp only at H
  obtain ⟨t140, A5, H⟩ := bindq H; try dsimp only at H
  by_cases c6 : t140 = true
  ·subst c6; rw [if_pos rfl] at H; try dsimp only at H
   obtain rfl := Option.some.inj H
   go_enter Try.func11, Try.ntmps11
   go_wp2_with (first | ((with_reducible refine gate_dst (N := 2) rfl ?_); refine box_event ?hg (N := 2) ?hd (cs := #[.slice A0_0 l0_0.length c0_0, .slice A0_1 l0_1.length c0_1]) (t := 29) ?hr ?_; (case hd | hg => rfl); (case hr => go_simp; try rfl); intro gb137 hg w7 hbox hb; have BK137 := am (hbox); have GW137 := am (gq hg); have GE137 := am (gq hg); replace HB := sb hb; clear hb hbox hg) | ((with_reducible refine gate_dst (N := 3) rfl ?_); refine box_event ?hg (N := 3) ?hd (cs := #[.slice A1_0 l1_0.length c1_0, .slice A1_1 l1_1.length c1_1]) (t := 29) ?hr ?_; (case hd | hg => rfl); (case hr => go_simp; try rfl); intro gb138 hg w8 hbox hb; have BK138 := am (hbox); have GW138 := am (gq hg); have GE138 := am (gq hg); replace HB := sb hb; have ⟨NB137_138, NB138_137⟩ := nn hg BK137; replace BK137 := zb BK137 hb; clear hb hbox hg; have hnb9 := NB137_138.out; have hnc9 := NB138_137.out; have ⟨b100, b101, d100, d101⟩ := bc2 BK137; have ⟨b110, b111, d110, d111⟩ := bc2 BK138) | ((with_reducible refine gate_callee (f := 29) rfl ?_); refine goesQ (some 9) Try.func29 #[.slice A0_0 l0_0.length c0_0, .slice A1_0 l1_0.length c1_0] ?_; (with_reducible refine (laws_eqIntS.calls k _ _ l0_0 _ _ l1_0 true _ ?s1 ?s2 ?s3 ?s4 A3.out).mono ?_); (case s1 => exact cq (Kd.C_below HR0_0.out HB.out)); (case s2 => exact HC0_0.out); (case s3 => exact cq (Kd.C_below HR1_0.out HB.out)); (case s4 => exact HC1_0.out); rintro e w' ⟨rfl, ⟨nd, rfl⟩⟩; refine ⟨_, rfl, ?_⟩) | ((with_reducible refine gate_callee (f := 30) rfl ?_); refine goesQ (some 15) Try.func30 #[.slice A0_1 l0_1.length c0_1, .slice A1_1 l1_1.length c1_1] ?_; (with_reducible refine (laws_eqLoanS.calls k _ _ l0_1 _ _ l1_1 true _ ?s1 ?s2 ?s3 ?s4 A5.out).mono ?_); (case s1 => exact cq (Kd.C_below HR0_1.out bq)); (case s2 => exact HC0_1.out); (case s3 => exact cq (Kd.C_below HR1_1.out bq)); (case s4 => exact HC1_1.out); rintro e w12 ⟨rfl, hb⟩; refine ⟨_, rfl, ?_⟩; replace BK137 := zb BK137 hb; replace BK138 := zb BK138 hb; replace HB := sb hb; (try clear hb)))
   go_ret
   exact ⟨eq_, bq⟩
  replace c6 := Bool.eq_false_iff.mpr c6; subst c6; rw [if_neg (show ¬ (false = true) by decide)] at H; try dsimp only at H
  obtain rfl := Option.some.inj H
  go_enter Try.func11, Try.ntmps11
  go_wp2_with (first | ((with_reducible refine gate_dst (N := 2) rfl ?_); refine box_event ?hg (N := 2) ?hd (cs := #[.slice A0_0 l0_0.length c0_0, .slice A0_1 l0_1.length c0_1]) (t := 29) ?hr ?_; (case hd | hg => rfl); (case hr => go_simp; try rfl); intro gb137 hg w13 hbox hb; have BK137 := am (hbox); have GW137 := am (gq hg); have GE137 := am (gq hg); replace HB := sb hb; clear hb hbox hg) | ((with_reducible refine gate_dst (N := 3) rfl ?_); refine box_event ?hg (N := 3) ?hd (cs := #[.slice A1_0 l1_0.length c1_0, .slice A1_1 l1_1.length c1_1]) (t := 29) ?hr ?_; (case hd | hg => rfl); (case hr => go_simp; try rfl); intro gb138 hg w14 hbox hb; have BK138 := am (hbox); have GW138 := am (gq hg); have GE138 := am (gq hg); replace HB := sb hb; have ⟨NB137_138, NB138_137⟩ := nn hg BK137; replace BK137 := zb BK137 hb; clear hb hbox hg; have hnb15 := NB137_138.out; have hnc15 := NB138_137.out; have ⟨b160, b161, d160, d161⟩ := bc2 BK137; have ⟨b170, b171, d170, d171⟩ := bc2 BK138) | ((with_reducible refine gate_callee (f := 29) rfl ?_); refine goesQ (some 9) Try.func29 #[.slice A0_0 l0_0.length c0_0, .slice A1_0 l1_0.length c1_0] ?_; (with_reducible refine (laws_eqIntS.calls k _ _ l0_0 _ _ l1_0 true _ ?s1 ?s2 ?s3 ?s4 A3.out).mono ?_); (case s1 => exact cq (Kd.C_below HR0_0.out HB.out)); (case s2 => exact HC0_0.out); (case s3 => exact cq (Kd.C_below HR1_0.out HB.out)); (case s4 => exact HC1_0.out); rintro e w' ⟨rfl, ⟨nd, rfl⟩⟩; refine ⟨_, rfl, ?_⟩) | ((with_reducible refine gate_callee (f := 30) rfl ?_); refine goesQ (some 15) Try.func30 #[.slice A0_1 l0_1.length c0_1, .slice A1_1 l1_1.length c1_1] ?_; (with_reducible refine (laws_eqLoanS.calls k _ _ l0_1 _ _ l1_1 false _ ?s1 ?s2 ?s3 ?s4 A5.out).mono ?_); (case s1 => exact cq (Kd.C_below HR0_1.out bq)); (case s2 => exact HC0_1.out); (case s3 => exact cq (Kd.C_below HR1_1.out bq)); (case s4 => exact HC1_1.out); rintro e w18 ⟨rfl, hb⟩; refine ⟨_, rfl, ?_⟩; replace BK137 := zb BK137 hb; replace BK138 := zb BK138 hb; replace HB := sb hb; (try clear hb)))
  go_ret
  exact ⟨eq_, bq⟩
 replace c4 := Bool.eq_false_iff.mpr c4; subst c4; rw [if_neg (show ¬ (false = true) by decide)] at H; try dsimp only at H
 obtain rfl := Option.some.inj H
 go_enter Try.func11, Try.ntmps11
 go_wp2_with (first | ((with_reducible refine gate_dst (N := 2) rfl ?_); refine box_event ?hg (N := 2) ?hd (cs := #[.slice A0_0 l0_0.length c0_0, .slice A0_1 l0_1.length c0_1]) (t := 29) ?hr ?_; (case hd | hg => rfl); (case hr => go_simp; try rfl); intro gb137 hg w19 hbox hb; have BK137 := am (hbox); have GW137 := am (gq hg); have GE137 := am (gq hg); replace HB := sb hb; clear hb hbox hg) | ((with_reducible refine gate_dst (N := 3) rfl ?_); refine box_event ?hg (N := 3) ?hd (cs := #[.slice A1_0 l1_0.length c1_0, .slice A1_1 l1_1.length c1_1]) (t := 29) ?hr ?_; (case hd | hg => rfl); (case hr => go_simp; try rfl); intro gb138 hg w20 hbox hb; have BK138 := am (hbox); have GW138 := am (gq hg); have GE138 := am (gq hg); replace HB := sb hb; have ⟨NB137_138, NB138_137⟩ := nn hg BK137; replace BK137 := zb BK137 hb; clear hb hbox hg; have hnb21 := NB137_138.out; have hnc21 := NB138_137.out; have ⟨b220, b221, d220, d221⟩ := bc2 BK137; have ⟨b230, b231, d230, d231⟩ := bc2 BK138) | ((with_reducible refine gate_callee (f := 29) rfl ?_); refine goesQ (some 9) Try.func29 #[.slice A0_0 l0_0.length c0_0, .slice A1_0 l1_0.length c1_0] ?_; (with_reducible refine (laws_eqIntS.calls k _ _ l0_0 _ _ l1_0 false _ ?s1 ?s2 ?s3 ?s4 A3.out).mono ?_); (case s1 => exact cq (Kd.C_below HR0_0.out HB.out)); (case s2 => exact HC0_0.out); (case s3 => exact cq (Kd.C_below HR1_0.out HB.out)); (case s4 => exact HC1_0.out); rintro e w' ⟨rfl, ⟨nd, rfl⟩⟩; refine ⟨_, rfl, ?_⟩))
 go_ret
 exact ⟨eq_, bq⟩


def laws_markIntS.l0 : Nat → List Int → Int → Int → Option (Int × List Int)
 | 0, _, _, _ => none
 | k + 1, x0, x1, x5 => if x5 < (x0.length : Int) then (if 0 ≤ x5 then (laws_markIntS.l0 k (x0.set (x5 : Int).toNat x1) (wrap64 (x1 + 1)) (wrap64 (x5 + 1))) else (none)) else (some (x1, x0))
def laws_markIntS.f (k : Nat) (l0 : List Int) (a1 : Int) : Option (Int × List Int) := laws_markIntS.l0 k l0 a1 0
theorem laws_markIntS.calls (k : Nat) (P0_ : Nat → Prop) (u10_ : Value) (l0 : List Int) (a1 : Int) (r1 : Int) (r2 : List Int) (w0 w : World) (hB : Below w0.heap.size w0 w) (ho0 : Kd.R (Kd.int .i64) 3 w w0.heap.size P0_ u10_ l0) (h : laws_markIntS.f k l0 a1 = some (r1, r2)) :
  Calls Try.prog 31 #[u10_, .int .i64 a1] w fun e w' => e = .returned (.int .i64 r1) ∧ Kd.R (Kd.int .i64) 3 w' w0.heap.size (fun k_ => (P0_ k_ ∨ w.heap.size ≤ k_)) u10_ r2 ∧ Below w0.heap.size w0 w' ∧ Kept w w' (fun k_ => P0_ k_) := by
 have HO0 := am (show Kd.R (Kd.int .i64) 3 w w0.heap.size (fun k_ => (P0_ k_ ∨ w.heap.size ≤ k_)) u10_ l0 from Kd.R_mono ho0 (fun k_ hk => (.inl hk))); have HK := am (Kept.refl w (fun k_ => P0_ k_)); have HW0 := am hB.size; have HB := am hB; clear hB; have H := h; clear h
 unfold laws_markIntS.f at H
 have H' := am H; clear H
 go_enter Try.func31, Try.ntmps31
 go_wp2
 go_loopg [1, 5] k (fun kq v1 v5 w' => ∃ (x0_1 : List Int) (x1_1 : Int) (x5_1 : Int), v1 = .int .i64 x1_1 ∧ v5 = .int .i64 x5_1 ∧ Aside0 (laws_markIntS.l0 kq x0_1 x1_1 x5_1 = some (r1, r2)) ∧ Aside0 (kq ≤ k) ∧ Aside0 (Kd.R (Kd.int .i64) 3 w' w0.heap.size (fun k_ => (P0_ k_ ∨ w.heap.size ≤ k_)) u10_ x0_1) ∧ Aside0 (Kept w w' (fun k_ => P0_ k_)) ∧ Aside0 (Below w0.heap.size w0 w'))
 case atStart => exact ⟨(l0), (a1), (0), sq, sq, H', ⟨Nat.le_refl _⟩, ⟨rq HO0⟩, ⟨hkq⟩, ⟨bq⟩⟩
 case round =>
  clear H'; obtain ⟨x0_1, x1_1, x5_1, rfl, rfl, HA, HK1, HO_0, HK, HB⟩ := hrel
  cases gk with
  | zero => exact absurd HA.out (by simp [laws_markIntS.l0])
  | succ k1 =>
   have H := HA.out; clear HA; simp only [laws_markIntS.l0] at H; by_cases c3 : x5_1 < (x0_1.length : Int)
   ·rw [if_pos c3] at H; have c3b0 : decide (x5_1 < (x0_1.length : Int)) = true := decide_eq_true c3; clear c3; by_cases c4 : 0 ≤ x5_1
    ·rw [if_pos c4] at H; have c4b0 : decide (0 ≤ x5_1) = true := decide_eq_true c4; clear c4; obtain ⟨y141, hy141⟩ : ∃ y_ : List Int, y_ = (x0_1.set (x5_1 : Int).toNat x1_1) := ⟨_, rfl⟩; replace H : (laws_markIntS.l0 k1 y141 (wrap64 (x1_1 + 1)) (wrap64 (x5_1 + 1))) = some (r1, r2) := yq hy141 H; have Ny141 := am hy141; clear hy141; have H' := am H; clear H; obtain ⟨Ao6, co6, eo6⟩ := Kd.R_slice HO_0.out; subst eo6; have p5 : 0 ≤ (x5_1 : Int) := of_decide_eq_true aq; have q5 : (x5_1 : Int) < ((x0_1.length : Int) : Int) := of_decide_eq_true aq; obtain ⟨go5, co5, eo5, gb5, gl5, cl5, HG5⟩ := Kd.R_form HO_0.out (by omega); (first | cases eo5 | (injection eo5 with ea_ en_ ec_; (first | subst ea_ | (injection ea_ with ea_; subst ea_)); subst ec_; clear en_)); have GB5 := am gb5; have GG5 := am HG5; clear gb5 gl5 HG5; have HMgo5 := am (show (P0_ go5 ∨ w.heap.size ≤ go5) from (HO_0.out.1 _ rfl)); obtain ⟨hx5_0, hf5_0⟩ := Kd.R_celln 0 HO_0.out (x5_1 : Int) p5 q5; replace p5 := eq_true p5; replace q5 := eq_true q5; have HP7 := Kd.R_putg HO_0.out (x5_1 : Int) x1_1; go_wp2_with (first | ((with_reducible refine gate_store (t := 3) (p := 15) rfl ?_); refine store_event (t := 3) (p := 15) (v := ?vo_w8) (w1 := (wr.setCell ⟨go5, (x5_1 : Int).toNat, none⟩ (.int .i64 x1_1))) ?hg ?ho ?hn ?hr ?_; (case ho => rfl); (case hg => rfl); (case hn => rfl); (case hr => go_simp; try rfl); intro w8 hw; have hg : wr.grownBy w8 (some go5) := (by rw [hw]; exact HP7.2); have hp_ : Kd.R (Kd.int .i64) 3 w8 w0.heap.size (fun k_ => (P0_ k_ ∨ w.heap.size ≤ k_)) (.slice (some ⟨go5, 0, none⟩) x0_1.length co6) y141 := (by rw [hw, Ny141.out]; exact HP7.1); clear HP7; replace HB := am ((by rw [hw]; exact below_set (HB.out) GB5.out : Below w0.heap.size w0 w8)); replace HK := am (Kept.of_grown (S := (fun k_ => P0_ k_)) hg hkq (fun k_ e_ => (HO_0.out.1 k_ e_))); replace HO_0 := am (hp_); clear hg hw hp_))
     go_roundg k1
     case measure => have := HK1.out; omega
     case rel => exact ⟨(y141), (wrap64 (x1_1 + 1)), (wrap64 (x5_1 + 1)), sq, sq, H', ⟨by have := HK1.out; omega⟩, ⟨rq HO_0⟩, ⟨hkq⟩, ⟨bq⟩⟩
    rw [if_neg c4] at H; exact absurd H (by simp)
   rw [if_neg c3] at H; have c3b0 : decide (x5_1 < (x0_1.length : Int)) = false := decide_eq_false c3; clear c3; simp only [Option.some.injEq, Prod.mk.injEq] at H; obtain ⟨rfl, rfl⟩ := H; obtain ⟨Ao9, co9, eo9⟩ := Kd.R_slice HO_0.out; subst eo9
   go_wp2
   go_ret
   exact ⟨eq_, rq HO_0, bq, hkq⟩


def laws_markLoanS.l0 : Nat → List (S41) → Int → Int → Option (Int × (List (S41)))
 | 0, _, _, _ => none
 | k + 1, x0, x1, x5 => if x5 < (x0.length : Int) then (if 0 ≤ x5 then ((some (x0.set (x5 : Int).toNat (⟨x1, (rd_T41 x0 x5).f1, (rd_T41 x0 x5).f2, (rd_T41 x0 x5).f3⟩ : S41) : List (S41))).bind fun y142 => ((some (y142.set (x5 : Int).toNat (⟨(rd_T41 y142 x5).f0, wrap64 (x1 + 1), (rd_T41 y142 x5).f2, (rd_T41 y142 x5).f3⟩ : S41) : List (S41))).bind fun y143 => ((some (y143.set (x5 : Int).toNat (⟨(rd_T41 y143 x5).f0, (rd_T41 y143 x5).f1, wrap64 ((wrap64 (x1 + 1)) + 1), (rd_T41 y143 x5).f3⟩ : S41) : List (S41))).bind fun y144 => (laws_markLoanS.l0 k (y144.set (x5 : Int).toNat (⟨(rd_T41 y144 x5).f0, (rd_T41 y144 x5).f1, (rd_T41 y144 x5).f2, wrap64 ((wrap64 ((wrap64 (x1 + 1)) + 1)) + 1)⟩ : S41)) (wrap64 ((wrap64 ((wrap64 ((wrap64 (x1 + 1)) + 1)) + 1)) + 1)) (wrap64 (x5 + 1)))))) else (none)) else (some (x1, x0))
def laws_markLoanS.f (k : Nat) (l0 : List (S41)) (a1 : Int) : Option (Int × (List (S41))) := laws_markLoanS.l0 k l0 a1 0
theorem laws_markLoanS.calls (k : Nat) (P0_ : Nat → Prop) (u19_ : Value) (l0 : List (S41)) (a1 : Int) (r1 : Int) (r2 : List (S41)) (w0 w : World) (hB : Below w0.heap.size w0 w) (ho0 : Kd.R k41 41 w w0.heap.size P0_ u19_ l0) (h : laws_markLoanS.f k l0 a1 = some (r1, r2)) :
  Calls Try.prog 32 #[u19_, .int .i64 a1] w fun e w' => e = .returned (.int .i64 r1) ∧ Kd.R k41 41 w' w0.heap.size (fun k_ => (P0_ k_ ∨ w.heap.size ≤ k_)) u19_ r2 ∧ Below w0.heap.size w0 w' ∧ Kept w w' (fun k_ => P0_ k_) := by
 have HO0 := am (show Kd.R k41 41 w w0.heap.size (fun k_ => (P0_ k_ ∨ w.heap.size ≤ k_)) u19_ l0 from Kd.R_mono ho0 (fun k_ hk => (.inl hk))); have HK := am (Kept.refl w (fun k_ => P0_ k_)); have HW0 := am hB.size; have HB := am hB; clear hB; have H := h; clear h
 unfold laws_markLoanS.f at H
 have H' := am H; clear H
 go_enter Try.func32, Try.ntmps32
 go_wp2
 go_loopg [1, 5] k (fun kq v1 v5 w' => ∃ (x0_1 : List (S41)) (x1_1 : Int) (x5_1 : Int), v1 = .int .i64 x1_1 ∧ v5 = .int .i64 x5_1 ∧ Aside0 (laws_markLoanS.l0 kq x0_1 x1_1 x5_1 = some (r1, r2)) ∧ Aside0 (kq ≤ k) ∧ Aside0 (Kd.R k41 41 w' w0.heap.size (fun k_ => (P0_ k_ ∨ w.heap.size ≤ k_)) u19_ x0_1) ∧ Aside0 (Kept w w' (fun k_ => P0_ k_)) ∧ Aside0 (Below w0.heap.size w0 w'))
 case atStart => exact ⟨(l0), (a1), (0), sq, sq, H', ⟨Nat.le_refl _⟩, ⟨rq HO0⟩, ⟨hkq⟩, ⟨bq⟩⟩
 case round =>
  clear H'; obtain ⟨x0_1, x1_1, x5_1, rfl, rfl, HA, HK1, HO_0, HK, HB⟩ := hrel
  cases gk with
  | zero => exact absurd HA.out (by simp [laws_markLoanS.l0])
  | succ k1 =>
   have H := HA.out; clear HA; simp only [laws_markLoanS.l0] at H; by_cases c3 : x5_1 < (x0_1.length : Int)
   ·rw [if_pos c3] at H; have c3b0 : decide (x5_1 < (x0_1.length : Int)) = true := decide_eq_true c3; clear c3; by_cases c4 : 0 ≤ x5_1
    ·rw [if_pos c4] at H; have c4b0 : decide (0 ≤ x5_1) = true := decide_eq_true c4; clear c4; obtain ⟨y142, hy142⟩ : ∃ y_ : List (S41), y_ = (x0_1.set (x5_1 : Int).toNat (⟨x1_1, (rd_T41 x0_1 x5_1).f1, (rd_T41 x0_1 x5_1).f2, (rd_T41 x0_1 x5_1).f3⟩ : S41)) := ⟨_, rfl⟩; replace H : ((some (y142.set (x5_1 : Int).toNat (⟨(rd_T41 y142 x5_1).f0, wrap64 (x1_1 + 1), (rd_T41 y142 x5_1).f2, (rd_T41 y142 x5_1).f3⟩ : S41) : List (S41))).bind fun y143 => ((some (y143.set (x5_1 : Int).toNat (⟨(rd_T41 y143 x5_1).f0, (rd_T41 y143 x5_1).f1, wrap64 ((wrap64 (x1_1 + 1)) + 1), (rd_T41 y143 x5_1).f3⟩ : S41) : List (S41))).bind fun y144 => (laws_markLoanS.l0 k1 (y144.set (x5_1 : Int).toNat (⟨(rd_T41 y144 x5_1).f0, (rd_T41 y144 x5_1).f1, (rd_T41 y144 x5_1).f2, wrap64 ((wrap64 ((wrap64 (x1_1 + 1)) + 1)) + 1)⟩ : S41)) (wrap64 ((wrap64 ((wrap64 ((wrap64 (x1_1 + 1)) + 1)) + 1)) + 1)) (wrap64 (x5_1 + 1))))) = some (r1, r2) := yq hy142 H; have Ny142 := am hy142; clear hy142; obtain ⟨y143, hy143⟩ : ∃ y_ : List (S41), y_ = (y142.set (x5_1 : Int).toNat (⟨(rd_T41 y142 x5_1).f0, wrap64 (x1_1 + 1), (rd_T41 y142 x5_1).f2, (rd_T41 y142 x5_1).f3⟩ : S41)) := ⟨_, rfl⟩; replace H : ((some (y143.set (x5_1 : Int).toNat (⟨(rd_T41 y143 x5_1).f0, (rd_T41 y143 x5_1).f1, wrap64 ((wrap64 (x1_1 + 1)) + 1), (rd_T41 y143 x5_1).f3⟩ : S41) : List (S41))).bind fun y144 => (laws_markLoanS.l0 k1 (y144.set (x5_1 : Int).toNat (⟨(rd_T41 y144 x5_1).f0, (rd_T41 y144 x5_1).f1, (rd_T41 y144 x5_1).f2, wrap64 ((wrap64 ((wrap64 (x1_1 + 1)) + 1)) + 1)⟩ : S41)) (wrap64 ((wrap64 ((wrap64 ((wrap64 (x1_1 + 1)) + 1)) + 1)) + 1)) (wrap64 (x5_1 + 1)))) = some (r1, r2) := yq hy143 H; have Ny143 := am hy143; clear hy143; obtain ⟨y144, hy144⟩ : ∃ y_ : List (S41), y_ = (y143.set (x5_1 : Int).toNat (⟨(rd_T41 y143 x5_1).f0, (rd_T41 y143 x5_1).f1, wrap64 ((wrap64 (x1_1 + 1)) + 1), (rd_T41 y143 x5_1).f3⟩ : S41)) := ⟨_, rfl⟩; replace H : (laws_markLoanS.l0 k1 (y144.set (x5_1 : Int).toNat (⟨(rd_T41 y144 x5_1).f0, (rd_T41 y144 x5_1).f1, (rd_T41 y144 x5_1).f2, wrap64 ((wrap64 ((wrap64 (x1_1 + 1)) + 1)) + 1)⟩ : S41)) (wrap64 ((wrap64 ((wrap64 ((wrap64 (x1_1 + 1)) + 1)) + 1)) + 1)) (wrap64 (x5_1 + 1))) = some (r1, r2) := yq hy144 H; have Ny144 := am hy144; clear hy144; obtain ⟨y145, hy145⟩ : ∃ y_ : List (S41), y_ = (y144.set (x5_1 : Int).toNat (⟨(rd_T41 y144 x5_1).f0, (rd_T41 y144 x5_1).f1, (rd_T41 y144 x5_1).f2, wrap64 ((wrap64 ((wrap64 (x1_1 + 1)) + 1)) + 1)⟩ : S41)) := ⟨_, rfl⟩; replace H : (laws_markLoanS.l0 k1 y145 (wrap64 ((wrap64 ((wrap64 ((wrap64 (x1_1 + 1)) + 1)) + 1)) + 1)) (wrap64 (x5_1 + 1))) = some (r1, r2) := yq hy145 H; have Ny145 := am hy145; clear hy145; have H' := am H; clear H; obtain ⟨Ao9, co9, eo9⟩ := Kd.R_slice HO_0.out; subst eo9; have p5 : 0 ≤ (x5_1 : Int) := of_decide_eq_true aq; have q5 : (x5_1 : Int) < ((x0_1.length : Int) : Int) := of_decide_eq_true aq; obtain ⟨go5, co5, eo5, gb5, gl5, cl5, HG5⟩ := Kd.R_form HO_0.out (by omega); (first | cases eo5 | (injection eo5 with ea_ en_ ec_; (first | subst ea_ | (injection ea_ with ea_; subst ea_)); subst ec_; clear en_)); have GB5 := am gb5; have GG5 := am HG5; clear gb5 gl5 HG5; have HMgo5 := am (show (P0_ go5 ∨ w.heap.size ≤ go5) from (HO_0.out.1 _ rfl)); obtain ⟨ce5, hcl5, hM5, hcc5, hfr5⟩ := Kd.R_elem HO_0.out z41 (x5_1 : Int) p5 q5; obtain rfl := k41_openM hM5; have hx5_0 : wr.cell? ⟨go5, (x5_1 : Int).toNat * 4, none⟩ = some (.int .i64 ((rd_T41 x0_1 x5_1).f0)) := hcc5 0 _ rfl; have hx5_1 : wr.cell? ⟨go5, (x5_1 : Int).toNat * 4 + 1, none⟩ = some (.int .i64 ((rd_T41 x0_1 x5_1).f1)) := hcc5 1 _ rfl; have hx5_2 : wr.cell? ⟨go5, (x5_1 : Int).toNat * 4 + 2, none⟩ = some (.int .i64 ((rd_T41 x0_1 x5_1).f2)) := hcc5 2 _ rfl; have hx5_3 : wr.cell? ⟨go5, (x5_1 : Int).toNat * 4 + 3, none⟩ = some (.int .i64 ((rd_T41 x0_1 x5_1).f3)) := hcc5 3 _ rfl; have hf5_0 : wr.frozen? ⟨go5, (x5_1 : Int).toNat * 4, none⟩ = false := hfr5 0; have hf5_1 : wr.frozen? ⟨go5, (x5_1 : Int).toNat * 4 + 1, none⟩ = false := hfr5 1; have hf5_2 : wr.frozen? ⟨go5, (x5_1 : Int).toNat * 4 + 2, none⟩ = false := hfr5 2; have hf5_3 : wr.frozen? ⟨go5, (x5_1 : Int).toNat * 4 + 3, none⟩ = false := hfr5 3; clear hcl5 hcc5 hfr5 hM5; replace p5 := eq_true p5; replace q5 := eq_true q5; have HX10 := am (show Kd.R k41 41 wr w0.heap.size (fun k_ => (P0_ k_ ∨ w.heap.size ≤ k_)) (.slice (some ⟨go5, 0, none⟩) x0_1.length co9) x0_1 from (rq HO_0)); obtain ⟨ce10, hcl10, hM10, hcc10, hfr10⟩ := Kd.R_elem HX10.out z41 (x5_1 : Int) (of_decide_eq_true aq) (by have h_ : (x5_1 : Int) < ((x0_1.length : Int) : Int) := of_decide_eq_true aq; first | exact h_ | (have e_ := (Kd.R_reads' HO_0.out).1; omega) | simpa using h_); obtain rfl := k41_openM hM10; have HP10 := Kd.R_seg HX10.out (x5_1 : Int) (of_decide_eq_true aq) (by have h_ : (x5_1 : Int) < ((x0_1.length : Int) : Int) := of_decide_eq_true aq; first | exact h_ | (have e_ := (Kd.R_reads' HO_0.out).1; omega) | simpa using h_) (seg := [.int .i64 x1_1]) (j := 0) hcl10 hcc10 (show 1 ≤ 4 from by decide) (x' := (⟨x1_1, (rd_T41 x0_1 x5_1).f1, (rd_T41 x0_1 x5_1).f2, (rd_T41 x0_1 x5_1).f3⟩ : S41)) (k41_mkM _ _ _ (⟨x1_1, (rd_T41 x0_1 x5_1).f1, (rd_T41 x0_1 x5_1).f2, (rd_T41 x0_1 x5_1).f3⟩ : S41) ) (fun _ hk => hk); have hx10_0 := hcc10 0 _ rfl; (try simp only [show (k41).sz = 4 from rfl, Nat.mul_one, Nat.add_zero] at hx10_0); have hf10_0 := hfr10 0; (try simp only [show (k41).sz = 4 from rfl, Nat.mul_one, Nat.add_zero] at hf10_0); clear hcl10 hcc10 hfr10 hM10; go_wp2_with (first | ((with_reducible refine gate_store (t := 3) (p := 16) rfl ?_); refine store_event (t := 3) (p := 16) (v := ?vo_w11) (w1 := (wr.setCell ⟨go5, (x5_1 : Int).toNat * 4, none⟩ (.int .i64 x1_1))) ?hg ?ho ?hn ?hr ?_; (case ho => rfl); (case hg => rfl); (case hn => rfl); (case hr => go_simp; try rfl); intro w11 hw; have hg : wr.grownBy w11 (some go5) := (by rw [hw]; exact HP10.2); have hp_ : Kd.R k41 41 w11 w0.heap.size (fun k_ => (P0_ k_ ∨ w.heap.size ≤ k_)) (.slice (some ⟨go5, 0, none⟩) x0_1.length co9) y142 := (by rw [hw, Ny142.out]; exact HP10.1); clear HP10; replace HB := am ((by rw [hw]; exact below_set (HB.out) GB5.out : Below w0.heap.size w0 w11)); replace HK := am (Kept.of_grown (S := (fun k_ => P0_ k_)) hg hkq (fun k_ e_ => (HO_0.out.1 k_ e_))); replace HO_0 := am (hp_); clear hg hw hp_; have p6 : 0 ≤ (x5_1 : Int) := of_decide_eq_true aq; have q6 : (x5_1 : Int) < ((x0_1.length : Int) : Int) := of_decide_eq_true aq; obtain ⟨ce6, hcl6, hM6, hcc6, hfr6⟩ := Kd.R_elem HO_0.out z41 (x5_1 : Int) p6 q6; obtain rfl := k41_openM hM6; have hx6_0 : w11.cell? ⟨go5, (x5_1 : Int).toNat * 4, none⟩ = some (.int .i64 ((rd_T41 y142 x5_1).f0)) := hcc6 0 _ rfl; have hx6_1 : w11.cell? ⟨go5, (x5_1 : Int).toNat * 4 + 1, none⟩ = some (.int .i64 ((rd_T41 y142 x5_1).f1)) := hcc6 1 _ rfl; have hx6_2 : w11.cell? ⟨go5, (x5_1 : Int).toNat * 4 + 2, none⟩ = some (.int .i64 ((rd_T41 y142 x5_1).f2)) := hcc6 2 _ rfl; have hx6_3 : w11.cell? ⟨go5, (x5_1 : Int).toNat * 4 + 3, none⟩ = some (.int .i64 ((rd_T41 y142 x5_1).f3)) := hcc6 3 _ rfl; have hf6_0 : w11.frozen? ⟨go5, (x5_1 : Int).toNat * 4, none⟩ = false := hfr6 0; have hf6_1 : w11.frozen? ⟨go5, (x5_1 : Int).toNat * 4 + 1, none⟩ = false := hfr6 1; have hf6_2 : w11.frozen? ⟨go5, (x5_1 : Int).toNat * 4 + 2, none⟩ = false := hfr6 2; have hf6_3 : w11.frozen? ⟨go5, (x5_1 : Int).toNat * 4 + 3, none⟩ = false := hfr6 3; clear hcl6 hcc6 hfr6 hM6; replace p6 := eq_true p6; replace q6 := eq_true q6; have HX12 := am (show Kd.R k41 41 w11 w0.heap.size (fun k_ => (P0_ k_ ∨ w.heap.size ≤ k_)) (.slice (some ⟨go5, 0, none⟩) x0_1.length co9) y142 from (rq HO_0)); obtain ⟨ce12, hcl12, hM12, hcc12, hfr12⟩ := Kd.R_elem HX12.out z41 (x5_1 : Int) (of_decide_eq_true aq) (by have h_ : (x5_1 : Int) < ((x0_1.length : Int) : Int) := of_decide_eq_true aq; first | exact h_ | (have e_ := (Kd.R_reads' HO_0.out).1; omega) | simpa using h_); obtain rfl := k41_openM hM12; have HP12 := Kd.R_seg HX12.out (x5_1 : Int) (of_decide_eq_true aq) (by have h_ : (x5_1 : Int) < ((x0_1.length : Int) : Int) := of_decide_eq_true aq; first | exact h_ | (have e_ := (Kd.R_reads' HO_0.out).1; omega) | simpa using h_) (seg := [.int .i64 (wrap64 (x1_1 + 1))]) (j := 1) hcl12 hcc12 (show 2 ≤ 4 from by decide) (x' := (⟨(rd_T41 y142 x5_1).f0, wrap64 (x1_1 + 1), (rd_T41 y142 x5_1).f2, (rd_T41 y142 x5_1).f3⟩ : S41)) (k41_mkM _ _ _ (⟨(rd_T41 y142 x5_1).f0, wrap64 (x1_1 + 1), (rd_T41 y142 x5_1).f2, (rd_T41 y142 x5_1).f3⟩ : S41) ) (fun _ hk => hk); have hx12_1 := hcc12 1 _ rfl; (try simp only [show (k41).sz = 4 from rfl, Nat.mul_one, Nat.add_zero] at hx12_1); have hf12_1 := hfr12 1; (try simp only [show (k41).sz = 4 from rfl, Nat.mul_one, Nat.add_zero] at hf12_1); clear hcl12 hcc12 hfr12 hM12) | ((with_reducible refine gate_store (t := 3) (p := 23) rfl ?_); refine store_event (t := 3) (p := 23) (v := ?vo_w13) (w1 := (w11.setCell ⟨go5, (x5_1 : Int).toNat * 4 + 1, none⟩ (.int .i64 (wrap64 (x1_1 + 1))))) ?hg ?ho ?hn ?hr ?_; (case ho => rfl); (case hg => rfl); (case hn => rfl); (case hr => go_simp; try rfl); intro w13 hw; have hg : w11.grownBy w13 (some go5) := (by rw [hw]; exact HP12.2); have hp_ : Kd.R k41 41 w13 w0.heap.size (fun k_ => (P0_ k_ ∨ w.heap.size ≤ k_)) (.slice (some ⟨go5, 0, none⟩) x0_1.length co9) y143 := (by rw [hw, Ny143.out]; exact HP12.1); clear HP12; replace HB := am ((by rw [hw]; exact below_set (HB.out) GB5.out : Below w0.heap.size w0 w13)); replace HK := am (Kept.of_grown (S := (fun k_ => P0_ k_)) hg hkq (fun k_ e_ => (HO_0.out.1 k_ e_))); replace HO_0 := am (hp_); clear hg hw hp_; have p7 : 0 ≤ (x5_1 : Int) := of_decide_eq_true aq; have q7 : (x5_1 : Int) < ((x0_1.length : Int) : Int) := of_decide_eq_true aq; obtain ⟨ce7, hcl7, hM7, hcc7, hfr7⟩ := Kd.R_elem HO_0.out z41 (x5_1 : Int) p7 q7; obtain rfl := k41_openM hM7; have hx7_0 : w13.cell? ⟨go5, (x5_1 : Int).toNat * 4, none⟩ = some (.int .i64 ((rd_T41 y143 x5_1).f0)) := hcc7 0 _ rfl; have hx7_1 : w13.cell? ⟨go5, (x5_1 : Int).toNat * 4 + 1, none⟩ = some (.int .i64 ((rd_T41 y143 x5_1).f1)) := hcc7 1 _ rfl; have hx7_2 : w13.cell? ⟨go5, (x5_1 : Int).toNat * 4 + 2, none⟩ = some (.int .i64 ((rd_T41 y143 x5_1).f2)) := hcc7 2 _ rfl; have hx7_3 : w13.cell? ⟨go5, (x5_1 : Int).toNat * 4 + 3, none⟩ = some (.int .i64 ((rd_T41 y143 x5_1).f3)) := hcc7 3 _ rfl; have hf7_0 : w13.frozen? ⟨go5, (x5_1 : Int).toNat * 4, none⟩ = false := hfr7 0; have hf7_1 : w13.frozen? ⟨go5, (x5_1 : Int).toNat * 4 + 1, none⟩ = false := hfr7 1; have hf7_2 : w13.frozen? ⟨go5, (x5_1 : Int).toNat * 4 + 2, none⟩ = false := hfr7 2; have hf7_3 : w13.frozen? ⟨go5, (x5_1 : Int).toNat * 4 + 3, none⟩ = false := hfr7 3; clear hcl7 hcc7 hfr7 hM7; replace p7 := eq_true p7; replace q7 := eq_true q7; have HX14 := am (show Kd.R k41 41 w13 w0.heap.size (fun k_ => (P0_ k_ ∨ w.heap.size ≤ k_)) (.slice (some ⟨go5, 0, none⟩) x0_1.length co9) y143 from (rq HO_0)); obtain ⟨ce14, hcl14, hM14, hcc14, hfr14⟩ := Kd.R_elem HX14.out z41 (x5_1 : Int) (of_decide_eq_true aq) (by have h_ : (x5_1 : Int) < ((x0_1.length : Int) : Int) := of_decide_eq_true aq; first | exact h_ | (have e_ := (Kd.R_reads' HO_0.out).1; omega) | simpa using h_); obtain rfl := k41_openM hM14; have HP14 := Kd.R_seg HX14.out (x5_1 : Int) (of_decide_eq_true aq) (by have h_ : (x5_1 : Int) < ((x0_1.length : Int) : Int) := of_decide_eq_true aq; first | exact h_ | (have e_ := (Kd.R_reads' HO_0.out).1; omega) | simpa using h_) (seg := [.int .i64 (wrap64 ((wrap64 (x1_1 + 1)) + 1))]) (j := 2) hcl14 hcc14 (show 3 ≤ 4 from by decide) (x' := (⟨(rd_T41 y143 x5_1).f0, (rd_T41 y143 x5_1).f1, wrap64 ((wrap64 (x1_1 + 1)) + 1), (rd_T41 y143 x5_1).f3⟩ : S41)) (k41_mkM _ _ _ (⟨(rd_T41 y143 x5_1).f0, (rd_T41 y143 x5_1).f1, wrap64 ((wrap64 (x1_1 + 1)) + 1), (rd_T41 y143 x5_1).f3⟩ : S41) ) (fun _ hk => hk); have hx14_2 := hcc14 2 _ rfl; (try simp only [show (k41).sz = 4 from rfl, Nat.mul_one, Nat.add_zero] at hx14_2); have hf14_2 := hfr14 2; (try simp only [show (k41).sz = 4 from rfl, Nat.mul_one, Nat.add_zero] at hf14_2); clear hcl14 hcc14 hfr14 hM14) | ((with_reducible refine gate_store (t := 3) (p := 30) rfl ?_); refine store_event (t := 3) (p := 30) (v := ?vo_w15) (w1 := (w13.setCell ⟨go5, (x5_1 : Int).toNat * 4 + 2, none⟩ (.int .i64 (wrap64 ((wrap64 (x1_1 + 1)) + 1))))) ?hg ?ho ?hn ?hr ?_; (case ho => rfl); (case hg => rfl); (case hn => rfl); (case hr => go_simp; try rfl); intro w15 hw; have hg : w13.grownBy w15 (some go5) := (by rw [hw]; exact HP14.2); have hp_ : Kd.R k41 41 w15 w0.heap.size (fun k_ => (P0_ k_ ∨ w.heap.size ≤ k_)) (.slice (some ⟨go5, 0, none⟩) x0_1.length co9) y144 := (by rw [hw, Ny144.out]; exact HP14.1); clear HP14; replace HB := am ((by rw [hw]; exact below_set (HB.out) GB5.out : Below w0.heap.size w0 w15)); replace HK := am (Kept.of_grown (S := (fun k_ => P0_ k_)) hg hkq (fun k_ e_ => (HO_0.out.1 k_ e_))); replace HO_0 := am (hp_); clear hg hw hp_; have p8 : 0 ≤ (x5_1 : Int) := of_decide_eq_true aq; have q8 : (x5_1 : Int) < ((x0_1.length : Int) : Int) := of_decide_eq_true aq; obtain ⟨ce8, hcl8, hM8, hcc8, hfr8⟩ := Kd.R_elem HO_0.out z41 (x5_1 : Int) p8 q8; obtain rfl := k41_openM hM8; have hx8_0 : w15.cell? ⟨go5, (x5_1 : Int).toNat * 4, none⟩ = some (.int .i64 ((rd_T41 y144 x5_1).f0)) := hcc8 0 _ rfl; have hx8_1 : w15.cell? ⟨go5, (x5_1 : Int).toNat * 4 + 1, none⟩ = some (.int .i64 ((rd_T41 y144 x5_1).f1)) := hcc8 1 _ rfl; have hx8_2 : w15.cell? ⟨go5, (x5_1 : Int).toNat * 4 + 2, none⟩ = some (.int .i64 ((rd_T41 y144 x5_1).f2)) := hcc8 2 _ rfl; have hx8_3 : w15.cell? ⟨go5, (x5_1 : Int).toNat * 4 + 3, none⟩ = some (.int .i64 ((rd_T41 y144 x5_1).f3)) := hcc8 3 _ rfl; have hf8_0 : w15.frozen? ⟨go5, (x5_1 : Int).toNat * 4, none⟩ = false := hfr8 0; have hf8_1 : w15.frozen? ⟨go5, (x5_1 : Int).toNat * 4 + 1, none⟩ = false := hfr8 1; have hf8_2 : w15.frozen? ⟨go5, (x5_1 : Int).toNat * 4 + 2, none⟩ = false := hfr8 2; have hf8_3 : w15.frozen? ⟨go5, (x5_1 : Int).toNat * 4 + 3, none⟩ = false := hfr8 3; clear hcl8 hcc8 hfr8 hM8; replace p8 := eq_true p8; replace q8 := eq_true q8; have HX16 := am (show Kd.R k41 41 w15 w0.heap.size (fun k_ => (P0_ k_ ∨ w.heap.size ≤ k_)) (.slice (some ⟨go5, 0, none⟩) x0_1.length co9) y144 from (rq HO_0)); obtain ⟨ce16, hcl16, hM16, hcc16, hfr16⟩ := Kd.R_elem HX16.out z41 (x5_1 : Int) (of_decide_eq_true aq) (by have h_ : (x5_1 : Int) < ((x0_1.length : Int) : Int) := of_decide_eq_true aq; first | exact h_ | (have e_ := (Kd.R_reads' HO_0.out).1; omega) | simpa using h_); obtain rfl := k41_openM hM16; have HP16 := Kd.R_seg HX16.out (x5_1 : Int) (of_decide_eq_true aq) (by have h_ : (x5_1 : Int) < ((x0_1.length : Int) : Int) := of_decide_eq_true aq; first | exact h_ | (have e_ := (Kd.R_reads' HO_0.out).1; omega) | simpa using h_) (seg := [.int .i64 (wrap64 ((wrap64 ((wrap64 (x1_1 + 1)) + 1)) + 1))]) (j := 3) hcl16 hcc16 (show 4 ≤ 4 from by decide) (x' := (⟨(rd_T41 y144 x5_1).f0, (rd_T41 y144 x5_1).f1, (rd_T41 y144 x5_1).f2, wrap64 ((wrap64 ((wrap64 (x1_1 + 1)) + 1)) + 1)⟩ : S41)) (k41_mkM _ _ _ (⟨(rd_T41 y144 x5_1).f0, (rd_T41 y144 x5_1).f1, (rd_T41 y144 x5_1).f2, wrap64 ((wrap64 ((wrap64 (x1_1 + 1)) + 1)) + 1)⟩ : S41) ) (fun _ hk => hk); have hx16_3 := hcc16 3 _ rfl; (try simp only [show (k41).sz = 4 from rfl, Nat.mul_one, Nat.add_zero] at hx16_3); have hf16_3 := hfr16 3; (try simp only [show (k41).sz = 4 from rfl, Nat.mul_one, Nat.add_zero] at hf16_3); clear hcl16 hcc16 hfr16 hM16) | ((with_reducible refine gate_store (t := 3) (p := 37) rfl ?_); refine store_event (t := 3) (p := 37) (v := ?vo_w17) (w1 := (w15.setCell ⟨go5, (x5_1 : Int).toNat * 4 + 3, none⟩ (.int .i64 (wrap64 ((wrap64 ((wrap64 (x1_1 + 1)) + 1)) + 1))))) ?hg ?ho ?hn ?hr ?_; (case ho => rfl); (case hg => rfl); (case hn => rfl); (case hr => go_simp; try rfl); intro w17 hw; have hg : w15.grownBy w17 (some go5) := (by rw [hw]; exact HP16.2); have hp_ : Kd.R k41 41 w17 w0.heap.size (fun k_ => (P0_ k_ ∨ w.heap.size ≤ k_)) (.slice (some ⟨go5, 0, none⟩) x0_1.length co9) y145 := (by rw [hw, Ny145.out]; exact HP16.1); clear HP16; replace HB := am ((by rw [hw]; exact below_set (HB.out) GB5.out : Below w0.heap.size w0 w17)); replace HK := am (Kept.of_grown (S := (fun k_ => P0_ k_)) hg hkq (fun k_ e_ => (HO_0.out.1 k_ e_))); replace HO_0 := am (hp_); clear hg hw hp_))
     go_roundg k1
     case measure => have := HK1.out; omega
     case rel => exact ⟨(y145), (wrap64 ((wrap64 ((wrap64 ((wrap64 (x1_1 + 1)) + 1)) + 1)) + 1)), (wrap64 (x5_1 + 1)), sq, sq, H', ⟨by have := HK1.out; omega⟩, ⟨rq HO_0⟩, ⟨hkq⟩, ⟨bq⟩⟩
    rw [if_neg c4] at H; exact absurd H (by simp)
   rw [if_neg c3] at H; have c3b0 : decide (x5_1 < (x0_1.length : Int)) = false := decide_eq_false c3; clear c3; simp only [Option.some.injEq, Prod.mk.injEq] at H; obtain ⟨rfl, rfl⟩ := H; obtain ⟨Ao18, co18, eo18⟩ := Kd.R_slice HO_0.out; subst eo18
   go_wp2
   go_ret
   exact ⟨eq_, rq HO_0, bq, hkq⟩


def laws_markShop.f (k : Nat) (l0_0 : List Int) (l0_1 : List (S41)) (a1 : Int) : Option (Int × List Int × (List (S41))) := (laws_markIntS.f k l0_0 a1).bind fun bt147 => ((laws_markLoanS.f k l0_1 bt147.1).bind fun bt149 => (some (bt149.1, bt147.2, bt149.2)))
theorem laws_markShop.calls (k : Nat) (P0_0_ : Nat → Prop) (u8_ : Value) (l0_0 : List Int) (P0_1_ : Nat → Prop) (u10_ : Value) (l0_1 : List (S41)) (a1 : Int) (r1 : Int) (r2 : List Int) (r3 : List (S41)) (w0 w : World) (hB : Below w0.heap.size w0 w) (ho0_0 : Kd.R (Kd.int .i64) 3 w w0.heap.size P0_0_ u8_ l0_0) (ho0_1 : Kd.R k41 41 w w0.heap.size P0_1_ u10_ l0_1) (h : laws_markShop.f k l0_0 l0_1 a1 = some (r1, r2, r3)) :
  Calls Try.prog 12 #[.agg #[u8_, u10_], .int .i64 a1] w fun e w' => e = .returned (.int .i64 r1) ∧ Kd.R (Kd.int .i64) 3 w' w0.heap.size (fun k_ => ((P0_0_ k_ ∨ P0_1_ k_) ∨ w.heap.size ≤ k_)) u8_ r2 ∧ Kd.R k41 41 w' w0.heap.size (fun k_ => ((P0_0_ k_ ∨ P0_1_ k_) ∨ w.heap.size ≤ k_)) u10_ r3 ∧ Below w0.heap.size w0 w' ∧ Kept w w' (fun k_ => P0_0_ k_ ∨ P0_1_ k_) := by
 have hu29 := Try.underlying29; have HO0_0 := am (show Kd.R (Kd.int .i64) 3 w w0.heap.size (fun k_ => ((P0_0_ k_ ∨ P0_1_ k_) ∨ w.heap.size ≤ k_)) u8_ l0_0 from Kd.R_mono ho0_0 (fun k_ hk => (.inl (.inl hk)))); have HO0_1 := am (show Kd.R k41 41 w w0.heap.size (fun k_ => ((P0_0_ k_ ∨ P0_1_ k_) ∨ w.heap.size ≤ k_)) u10_ l0_1 from Kd.R_mono ho0_1 (fun k_ hk => (.inl (.inr hk)))); have HK := am (Kept.refl w (fun k_ => P0_0_ k_ ∨ P0_1_ k_)); have HW0 := am hB.size; have HB := am hB; clear hB; have H := h; clear h
 unfold laws_markShop.f at H
 obtain ⟨⟨t147, t148⟩, A3, H⟩ := bindq H; try dsimp only at H
 obtain ⟨⟨t149, t150⟩, A4, H⟩ := bindq H; try dsimp only at H
 simp only [Option.some.injEq, Prod.mk.injEq] at H; obtain ⟨rfl, rfl, rfl⟩ := H; obtain ⟨Ao5, co5, eo5⟩ := Kd.R_slice HO0_0.out; subst eo5; obtain ⟨Ao6, co6, eo6⟩ := Kd.R_slice HO0_1.out; subst eo6
 go_enter Try.func12, Try.ntmps12
 go_wp2_with (first | ((with_reducible refine gate_dst (N := 2) rfl ?_); refine box_event ?hg (N := 2) ?hd (cs := #[.slice Ao5 l0_0.length co5, .slice Ao6 l0_1.length co6]) (t := 29) ?hr ?_; (case hd | hg => rfl); (case hr => go_simp; try rfl); intro gb146 hg w7 hbox hb; replace HO0_0 := rb HO0_0 hb; replace HO0_1 := rb HO0_1 hb; have BK146 := am (hbox); have GW146 := am ((by rw [hg]; exact (by first | exact HK.out.1 | exact (show Kept w _ (fun k_ => P0_0_ k_ ∨ P0_1_ k_) from hkq).1) : w.heap.size ≤ gb146)); replace HK := am (Kept.below (S := (fun k_ => P0_0_ k_ ∨ P0_1_ k_)) hkq hb); have GE146 := am ((by rw [hg]; exact (below_size bq) : w0.heap.size ≤ gb146)); replace HB := sb hb; clear hb hbox hg; have ⟨b80, b81, d80, d81⟩ := bc2 BK146) | ((with_reducible refine gate_callee (f := 31) rfl ?_); refine goesQ (some 8) Try.func31 #[.slice Ao5 l0_0.length co5, .int .i64 a1] ?_; (with_reducible refine (laws_markIntS.calls k (fun k_ => some k_ = (.slice Ao5 l0_0.length co5 : Value).ownBlock) (.slice Ao5 l0_0.length co5) l0_0 a1 t147 t148 w0 _ ?s1 ?s2 A3.out).mono ?_); (case s1 => repeat (first | (with_reducible first | exact HB.out | apply below_alloc | apply pw_below_drewN | apply below_drew1 | refine below_set ?_ GE146.out) | exact HB.out)); (case s2 => exact Kd.R_tight rfl HO0_0.out); rintro e w9 ⟨rfl, hy0, hb, hkp⟩; refine ⟨_, rfl, ?_⟩; replace HO0_1 := am (Kd.R_mono (ok' := fun k_ => ((P0_0_ k_ ∨ P0_1_ k_) ∨ w.heap.size ≤ k_)) (Kd.R_keptB ((Kd.R_apart' HO0_1.out (Kd.R_typed HO0_0.out) (by decide))) hkp (fun k_ hk_ hs_ => (hk_.2) hs_)) (fun k_ hk_ => hk_.1.1)); replace BK146 := am (blk_kept (zq BK146) hkp (fun hs_ => (fun e_ => (Kd.R_ne HO0_0.out BK146.out (by decide)) e_) hs_)); replace HK := am (Kept.then_ (S := (fun k_ => P0_0_ k_ ∨ P0_1_ k_)) (hks) hkp (fun k_ hs_ => (fun e_ => (HO0_0.out.1 k_ e_.symm)) hs_)); replace HO0_0 := am (Kd.R_reok rfl hy0 (fun k_ e_ => HO0_0.out.1 k_ e_)); replace HB := am (hb); (try clear hb hkp hy0); have ⟨b100, b101, d100, d101⟩ := bc2 BK146) | ((with_reducible refine gate_callee (f := 32) rfl ?_); refine goesQ (some 12) Try.func32 #[.slice Ao6 l0_1.length co6, .int .i64 t147] ?_; (with_reducible refine (laws_markLoanS.calls k (fun k_ => some k_ = (.slice Ao6 l0_1.length co6 : Value).ownBlock) (.slice Ao6 l0_1.length co6) l0_1 t147 t149 t150 w0 _ ?s1 ?s2 A4.out).mono ?_); (case s1 => repeat (first | (with_reducible first | exact HB.out | apply below_alloc | apply pw_below_drewN | apply below_drew1 | refine below_set ?_ GE146.out) | exact HB.out)); (case s2 => exact Kd.R_tight rfl HO0_1.out); rintro e w11 ⟨rfl, hy0, hb, hkp⟩; refine ⟨_, rfl, ?_⟩; replace HO0_0 := am (Kd.R_mono (ok' := fun k_ => ((P0_0_ k_ ∨ P0_1_ k_) ∨ w.heap.size ≤ k_)) (Kd.R_keptB ((Kd.R_apart' HO0_0.out (Kd.R_typed HO0_1.out) (by decide))) hkp (fun k_ hk_ hs_ => (hk_.2) hs_)) (fun k_ hk_ => hk_.1.1)); replace BK146 := am (blk_kept (zq BK146) hkp (fun hs_ => (fun e_ => (Kd.R_ne HO0_1.out BK146.out (by decide)) e_) hs_)); replace HK := am (Kept.then_ (S := (fun k_ => P0_0_ k_ ∨ P0_1_ k_)) (hks) hkp (fun k_ hs_ => (fun e_ => (HO0_1.out.1 k_ e_.symm)) hs_)); replace HO0_1 := am (Kd.R_reok rfl hy0 (fun k_ e_ => HO0_1.out.1 k_ e_)); replace HB := am (hb); (try clear hb hkp hy0)))
 go_ret
 exact ⟨eq_, rq HO0_0, rq HO0_1, bq, hks⟩


def laws_heldIntS.l0 : Nat → List Int → Int → Int → Option (Int)
 | 0, _, _, _ => none
 | k + 1, x0, x1, x5 => if x5 < (x0.length : Int) then (if 0 ≤ x5 then (if (rd x0 x5) = x1 then (laws_heldIntS.l0 k x0 (wrap64 (x1 + 1)) (wrap64 (x5 + 1))) else (some (-1))) else (none)) else (some x1)
def laws_heldIntS.f (k : Nat) (l0 : List Int) (a1 : Int) : Option (Int) := laws_heldIntS.l0 k l0 a1 0
theorem laws_heldIntS.calls (k : Nat) (A0 : Option Addr) (c0 : Nat) (l0 : List Int) (a1 : Int) (r : Int) (w : World) (hr0 : Kd.C (Kd.int .i64) w A0 l0.length l0) (hc0 : l0.length ≤ c0) (h : laws_heldIntS.f k l0 a1 = some r) :
  Calls Try.prog 33 #[.slice A0 l0.length c0, .int .i64 a1] w fun e w' => e = .returned (.int .i64 r) ∧ Drawn0 w w' := by
 have HR0 := am hr0; have HC0 := am hc0; clear hr0 hc0; have H := h; clear h
 unfold laws_heldIntS.f at H
 have H' := am H; clear H
 go_enter Try.func33, Try.ntmps33
 go_wp2
 go_loopg [1, 5] k (fun kq v1 v5 w' => ∃ (x1_1 : Int) (x5_1 : Int), v1 = .int .i64 x1_1 ∧ v5 = .int .i64 x5_1 ∧ Aside0 (laws_heldIntS.l0 kq l0 x1_1 x5_1 = some r) ∧ Aside0 (kq ≤ k) ∧ Drawn0 w w')
 case atStart => exact ⟨(a1), (0), sq, sq, H', ⟨Nat.le_refl _⟩, by repeat (first | exact Drawn0.refl _ | apply Drawn0.step)⟩
 case round =>
  clear H'; obtain ⟨x1_1, x5_1, rfl, rfl, HA, HK1, ⟨m1, rfl⟩⟩ := hrel
  cases gk with
  | zero => exact absurd HA.out (by simp [laws_heldIntS.l0])
  | succ k1 =>
   have H := HA.out; clear HA; simp only [laws_heldIntS.l0] at H; by_cases c3 : x5_1 < (l0.length : Int)
   ·rw [if_pos c3] at H; have c3b0 : decide (x5_1 < (l0.length : Int)) = true := decide_eq_true c3; clear c3; by_cases c4 : 0 ≤ x5_1
    ·rw [if_pos c4] at H; have c4b0 : decide (0 ≤ x5_1) = true := decide_eq_true c4; clear c4; by_cases c5 : (rd l0 x5_1) = x1_1
     ·rw [if_pos c5] at H; have c5b0 : ((rd l0 x5_1) == x1_1) = true := beq_iff_eq.mpr c5; have c5b1 : ((rd l0 x5_1) != x1_1) = false := bne_eq_false_iff_eq.mpr c5; clear c5; have H' := am H; clear H; have p151 : 0 ≤ (x5_1 : Int) := of_decide_eq_true aq; have q151 : x5_1 < (l0.length : Int) := of_decide_eq_true aq; obtain ⟨ad151, e151, hx151_0⟩ := Kd.at_int HR0.out x5_1 p151 q151
      cases e151
      replace p151 := eq_true p151; replace q151 := eq_true q151
      go_wp2
      go_roundg k1
      case measure => have := HK1.out; omega
      case rel => exact ⟨(wrap64 (x1_1 + 1)), (wrap64 (x5_1 + 1)), sq, sq, H', ⟨by have := HK1.out; omega⟩, by repeat (first | exact Drawn0.refl _ | apply Drawn0.step)⟩
     rw [if_neg c5] at H; have c5b0 : ((rd l0 x5_1) == x1_1) = false := beq_eq_false_iff_ne.mpr c5; have c5b1 : ((rd l0 x5_1) != x1_1) = true := bne_iff_ne.mpr c5; obtain rfl := Option.some.inj H; have p151 : 0 ≤ (x5_1 : Int) := of_decide_eq_true aq; have q151 : x5_1 < (l0.length : Int) := of_decide_eq_true aq; obtain ⟨ad151, e151, hx151_0⟩ := Kd.at_int HR0.out x5_1 p151 q151
     cases e151
     replace p151 := eq_true p151; replace q151 := eq_true q151
     go_wp2
     go_ret
     exact ⟨sq, by repeat (first | exact Drawn0.refl _ | apply Drawn0.step)⟩
    rw [if_neg c4] at H; exact absurd H (by simp)
   rw [if_neg c3] at H; have c3b0 : decide (x5_1 < (l0.length : Int)) = false := decide_eq_false c3; clear c3; obtain rfl := Option.some.inj H
   go_wp2
   go_ret
   exact ⟨sq, by repeat (first | exact Drawn0.refl _ | apply Drawn0.step)⟩



def laws_heldLoanS.l0 : Nat → List (S41) → Int → Int → Option (Int)
 | 0, _, _, _ => none
 | k + 1, x0, x1, x5 => if x5 < (x0.length : Int) then (if 0 ≤ x5 then (if ((rd_T41 x0 x5).f0) = x1 then (if ((rd_T41 x0 x5).f1) = (wrap64 (x1 + 1)) then (if ((rd_T41 x0 x5).f2) = (wrap64 ((wrap64 (x1 + 1)) + 1)) then (if ((rd_T41 x0 x5).f3) = (wrap64 ((wrap64 ((wrap64 (x1 + 1)) + 1)) + 1)) then (laws_heldLoanS.l0 k x0 (wrap64 ((wrap64 ((wrap64 ((wrap64 (x1 + 1)) + 1)) + 1)) + 1)) (wrap64 (x5 + 1))) else (some (-1))) else (some (-1))) else (some (-1))) else (some (-1))) else (none)) else (some x1)
def laws_heldLoanS.f (k : Nat) (l0 : List (S41)) (a1 : Int) : Option (Int) := laws_heldLoanS.l0 k l0 a1 0
theorem laws_heldLoanS.calls (k : Nat) (A0 : Option Addr) (c0 : Nat) (l0 : List (S41)) (a1 : Int) (r : Int) (w : World) (hr0 : Kd.C k41 w A0 l0.length l0) (hc0 : l0.length ≤ c0) (h : laws_heldLoanS.f k l0 a1 = some r) :
  Calls Try.prog 34 #[.slice A0 l0.length c0, .int .i64 a1] w fun e w' => e = .returned (.int .i64 r) ∧ Drawn0 w w' := by
 have HR0 := am hr0; have HC0 := am hc0; clear hr0 hc0; have H := h; clear h
 unfold laws_heldLoanS.f at H
 have H' := am H; clear H
 go_enter Try.func34, Try.ntmps34
 go_wp2
 go_loopg [1, 5] k (fun kq v1 v5 w' => ∃ (x1_1 : Int) (x5_1 : Int), v1 = .int .i64 x1_1 ∧ v5 = .int .i64 x5_1 ∧ Aside0 (laws_heldLoanS.l0 kq l0 x1_1 x5_1 = some r) ∧ Aside0 (kq ≤ k) ∧ Drawn0 w w')
 case atStart => exact ⟨(a1), (0), sq, sq, H', ⟨Nat.le_refl _⟩, by repeat (first | exact Drawn0.refl _ | apply Drawn0.step)⟩
 case round =>
  clear H'; obtain ⟨x1_1, x5_1, rfl, rfl, HA, HK1, ⟨m1, rfl⟩⟩ := hrel
  cases gk with
  | zero => exact absurd HA.out (by simp [laws_heldLoanS.l0])
  | succ k1 =>
   have H := HA.out; clear HA; simp only [laws_heldLoanS.l0] at H; by_cases c3 : x5_1 < (l0.length : Int)
   ·rw [if_pos c3] at H; have c3b0 : decide (x5_1 < (l0.length : Int)) = true := decide_eq_true c3; clear c3; by_cases c4 : 0 ≤ x5_1
    ·rw [if_pos c4] at H; have c4b0 : decide (0 ≤ x5_1) = true := decide_eq_true c4; clear c4; by_cases c5 : ((rd_T41 l0 x5_1).f0) = x1_1
     ·rw [if_pos c5] at H; have c5b0 : (((rd_T41 l0 x5_1).f0) == x1_1) = true := beq_iff_eq.mpr c5; have c5b1 : (((rd_T41 l0 x5_1).f0) != x1_1) = false := bne_eq_false_iff_eq.mpr c5; clear c5; by_cases c6 : ((rd_T41 l0 x5_1).f1) = (wrap64 (x1_1 + 1))
      ·rw [if_pos c6] at H; have c6b0 : (((rd_T41 l0 x5_1).f1) == (wrap64 (x1_1 + 1))) = true := beq_iff_eq.mpr c6; have c6b1 : (((rd_T41 l0 x5_1).f1) != (wrap64 (x1_1 + 1))) = false := bne_eq_false_iff_eq.mpr c6; clear c6; by_cases c7 : ((rd_T41 l0 x5_1).f2) = (wrap64 ((wrap64 (x1_1 + 1)) + 1))
       ·rw [if_pos c7] at H; have c7b0 : (((rd_T41 l0 x5_1).f2) == (wrap64 ((wrap64 (x1_1 + 1)) + 1))) = true := beq_iff_eq.mpr c7; have c7b1 : (((rd_T41 l0 x5_1).f2) != (wrap64 ((wrap64 (x1_1 + 1)) + 1))) = false := bne_eq_false_iff_eq.mpr c7; clear c7; by_cases c8 : ((rd_T41 l0 x5_1).f3) = (wrap64 ((wrap64 ((wrap64 (x1_1 + 1)) + 1)) + 1))
        ·rw [if_pos c8] at H; have c8b0 : (((rd_T41 l0 x5_1).f3) == (wrap64 ((wrap64 ((wrap64 (x1_1 + 1)) + 1)) + 1))) = true := beq_iff_eq.mpr c8; have c8b1 : (((rd_T41 l0 x5_1).f3) != (wrap64 ((wrap64 ((wrap64 (x1_1 + 1)) + 1)) + 1))) = false := bne_eq_false_iff_eq.mpr c8; clear c8; have H' := am H; clear H; have p152 : 0 ≤ (x5_1 : Int) := of_decide_eq_true aq; have q152 : x5_1 < (l0.length : Int) := of_decide_eq_true aq; obtain ⟨ad152, e152, hx152_0, hx152_1, hx152_2, hx152_3⟩ := at_T41 HR0.out x5_1 p152 q152
         cases e152
         replace p152 := eq_true p152; replace q152 := eq_true q152; have p153 : 0 ≤ (x5_1 : Int) := of_decide_eq_true aq; have q153 : x5_1 < (l0.length : Int) := of_decide_eq_true aq; obtain ⟨ad153, e153, hx153_0, hx153_1, hx153_2, hx153_3⟩ := at_T41 HR0.out x5_1 p153 q153; obtain rfl : ad152 = ad153 := (by injection e153); replace p153 := eq_true p153; replace q153 := eq_true q153; have p154 : 0 ≤ (x5_1 : Int) := of_decide_eq_true aq; have q154 : x5_1 < (l0.length : Int) := of_decide_eq_true aq; obtain ⟨ad154, e154, hx154_0, hx154_1, hx154_2, hx154_3⟩ := at_T41 HR0.out x5_1 p154 q154; obtain rfl : ad152 = ad154 := (by injection e154); replace p154 := eq_true p154; replace q154 := eq_true q154; have p155 : 0 ≤ (x5_1 : Int) := of_decide_eq_true aq; have q155 : x5_1 < (l0.length : Int) := of_decide_eq_true aq; obtain ⟨ad155, e155, hx155_0, hx155_1, hx155_2, hx155_3⟩ := at_T41 HR0.out x5_1 p155 q155; obtain rfl : ad152 = ad155 := (by injection e155); replace p155 := eq_true p155; replace q155 := eq_true q155
         go_wp2
         go_roundg k1
         case measure => have := HK1.out; omega
         case rel => exact ⟨(wrap64 ((wrap64 ((wrap64 ((wrap64 (x1_1 + 1)) + 1)) + 1)) + 1)), (wrap64 (x5_1 + 1)), sq, sq, H', ⟨by have := HK1.out; omega⟩, by repeat (first | exact Drawn0.refl _ | apply Drawn0.step)⟩
        rw [if_neg c8] at H; have c8b0 : (((rd_T41 l0 x5_1).f3) == (wrap64 ((wrap64 ((wrap64 (x1_1 + 1)) + 1)) + 1))) = false := beq_eq_false_iff_ne.mpr c8; have c8b1 : (((rd_T41 l0 x5_1).f3) != (wrap64 ((wrap64 ((wrap64 (x1_1 + 1)) + 1)) + 1))) = true := bne_iff_ne.mpr c8; obtain rfl := Option.some.inj H; have p152 : 0 ≤ (x5_1 : Int) := of_decide_eq_true aq; have q152 : x5_1 < (l0.length : Int) := of_decide_eq_true aq; obtain ⟨ad152, e152, hx152_0, hx152_1, hx152_2, hx152_3⟩ := at_T41 HR0.out x5_1 p152 q152
        cases e152
        replace p152 := eq_true p152; replace q152 := eq_true q152; have p153 : 0 ≤ (x5_1 : Int) := of_decide_eq_true aq; have q153 : x5_1 < (l0.length : Int) := of_decide_eq_true aq; obtain ⟨ad153, e153, hx153_0, hx153_1, hx153_2, hx153_3⟩ := at_T41 HR0.out x5_1 p153 q153; obtain rfl : ad152 = ad153 := (by injection e153); replace p153 := eq_true p153; replace q153 := eq_true q153; have p154 : 0 ≤ (x5_1 : Int) := of_decide_eq_true aq; have q154 : x5_1 < (l0.length : Int) := of_decide_eq_true aq; obtain ⟨ad154, e154, hx154_0, hx154_1, hx154_2, hx154_3⟩ := at_T41 HR0.out x5_1 p154 q154; obtain rfl : ad152 = ad154 := (by injection e154); replace p154 := eq_true p154; replace q154 := eq_true q154; have p155 : 0 ≤ (x5_1 : Int) := of_decide_eq_true aq; have q155 : x5_1 < (l0.length : Int) := of_decide_eq_true aq; obtain ⟨ad155, e155, hx155_0, hx155_1, hx155_2, hx155_3⟩ := at_T41 HR0.out x5_1 p155 q155; obtain rfl : ad152 = ad155 := (by injection e155); replace p155 := eq_true p155; replace q155 := eq_true q155
        go_wp2
        go_ret
        exact ⟨sq, by repeat (first | exact Drawn0.refl _ | apply Drawn0.step)⟩
       rw [if_neg c7] at H; have c7b0 : (((rd_T41 l0 x5_1).f2) == (wrap64 ((wrap64 (x1_1 + 1)) + 1))) = false := beq_eq_false_iff_ne.mpr c7; have c7b1 : (((rd_T41 l0 x5_1).f2) != (wrap64 ((wrap64 (x1_1 + 1)) + 1))) = true := bne_iff_ne.mpr c7; obtain rfl := Option.some.inj H; have p152 : 0 ≤ (x5_1 : Int) := of_decide_eq_true aq; have q152 : x5_1 < (l0.length : Int) := of_decide_eq_true aq; obtain ⟨ad152, e152, hx152_0, hx152_1, hx152_2, hx152_3⟩ := at_T41 HR0.out x5_1 p152 q152
       cases e152
       replace p152 := eq_true p152; replace q152 := eq_true q152; have p153 : 0 ≤ (x5_1 : Int) := of_decide_eq_true aq; have q153 : x5_1 < (l0.length : Int) := of_decide_eq_true aq; obtain ⟨ad153, e153, hx153_0, hx153_1, hx153_2, hx153_3⟩ := at_T41 HR0.out x5_1 p153 q153; obtain rfl : ad152 = ad153 := (by injection e153); replace p153 := eq_true p153; replace q153 := eq_true q153; have p154 : 0 ≤ (x5_1 : Int) := of_decide_eq_true aq; have q154 : x5_1 < (l0.length : Int) := of_decide_eq_true aq; obtain ⟨ad154, e154, hx154_0, hx154_1, hx154_2, hx154_3⟩ := at_T41 HR0.out x5_1 p154 q154; obtain rfl : ad152 = ad154 := (by injection e154); replace p154 := eq_true p154; replace q154 := eq_true q154
       go_wp2
       go_ret
       exact ⟨sq, by repeat (first | exact Drawn0.refl _ | apply Drawn0.step)⟩
      rw [if_neg c6] at H; have c6b0 : (((rd_T41 l0 x5_1).f1) == (wrap64 (x1_1 + 1))) = false := beq_eq_false_iff_ne.mpr c6; have c6b1 : (((rd_T41 l0 x5_1).f1) != (wrap64 (x1_1 + 1))) = true := bne_iff_ne.mpr c6; obtain rfl := Option.some.inj H; have p152 : 0 ≤ (x5_1 : Int) := of_decide_eq_true aq; have q152 : x5_1 < (l0.length : Int) := of_decide_eq_true aq; obtain ⟨ad152, e152, hx152_0, hx152_1, hx152_2, hx152_3⟩ := at_T41 HR0.out x5_1 p152 q152
      cases e152
      replace p152 := eq_true p152; replace q152 := eq_true q152; have p153 : 0 ≤ (x5_1 : Int) := of_decide_eq_true aq; have q153 : x5_1 < (l0.length : Int) := of_decide_eq_true aq; obtain ⟨ad153, e153, hx153_0, hx153_1, hx153_2, hx153_3⟩ := at_T41 HR0.out x5_1 p153 q153; obtain rfl : ad152 = ad153 := (by injection e153); replace p153 := eq_true p153; replace q153 := eq_true q153
      go_wp2
      go_ret
      exact ⟨sq, by repeat (first | exact Drawn0.refl _ | apply Drawn0.step)⟩
     rw [if_neg c5] at H; have c5b0 : (((rd_T41 l0 x5_1).f0) == x1_1) = false := beq_eq_false_iff_ne.mpr c5; have c5b1 : (((rd_T41 l0 x5_1).f0) != x1_1) = true := bne_iff_ne.mpr c5; obtain rfl := Option.some.inj H; have p152 : 0 ≤ (x5_1 : Int) := of_decide_eq_true aq; have q152 : x5_1 < (l0.length : Int) := of_decide_eq_true aq; obtain ⟨ad152, e152, hx152_0, hx152_1, hx152_2, hx152_3⟩ := at_T41 HR0.out x5_1 p152 q152
     cases e152
     replace p152 := eq_true p152; replace q152 := eq_true q152
     go_wp2
     go_ret
     exact ⟨sq, by repeat (first | exact Drawn0.refl _ | apply Drawn0.step)⟩
    rw [if_neg c4] at H; exact absurd H (by simp)
   rw [if_neg c3] at H; have c3b0 : decide (x5_1 < (l0.length : Int)) = false := decide_eq_false c3; clear c3; obtain rfl := Option.some.inj H
   go_wp2
   go_ret
   exact ⟨sq, by repeat (first | exact Drawn0.refl _ | apply Drawn0.step)⟩


def laws_heldShop.f (k : Nat) (l0_0 : List Int) (l0_1 : List (S41)) (a1 : Int) : Option (Int) := (laws_heldIntS.f k l0_0 a1).bind fun t157 => (if t157 < 0 then (some (-1)) else ((laws_heldLoanS.f k l0_1 t157).bind fun t158 => (if t158 < 0 then (some (-1)) else (some t158))))
theorem laws_heldShop.calls (k : Nat) (A0_0 : Option Addr) (c0_0 : Nat) (l0_0 : List Int) (A0_1 : Option Addr) (c0_1 : Nat) (l0_1 : List (S41)) (a1 : Int) (r : Int) (w : World) (hr0_0 : Kd.C (Kd.int .i64) w A0_0 l0_0.length l0_0) (hc0_0 : l0_0.length ≤ c0_0) (hr0_1 : Kd.C k41 w A0_1 l0_1.length l0_1) (hc0_1 : l0_1.length ≤ c0_1) (h : laws_heldShop.f k l0_0 l0_1 a1 = some r) :
  Calls Try.prog 13 #[.agg #[.slice A0_0 l0_0.length c0_0, .slice A0_1 l0_1.length c0_1], .int .i64 a1] w fun e w' => e = .returned (.int .i64 r) ∧ Below w.heap.size w w' := by
 have hu29 := Try.underlying29; have HR0_0 := am hr0_0; have HC0_0 := am hc0_0; clear hr0_0 hc0_0; have HR0_1 := am hr0_1; have HC0_1 := am hc0_1; clear hr0_1 hc0_1; have HB := am (Below.refl w.heap.size w); have H := h; clear h
 unfold laws_heldShop.f at H
 obtain ⟨t157, A3, H⟩ := bindq H; try dsimp only at H
 by_cases c4 : t157 < 0
 ·rw [if_pos c4] at H; have c4b0 : decide (t157 < 0) = true := decide_eq_true c4; clear c4; obtain rfl := Option.some.inj H
  go_enter Try.func13, Try.ntmps13
  go_wp2_with (first | ((with_reducible refine gate_dst (N := 2) rfl ?_); refine box_event ?hg (N := 2) ?hd (cs := #[.slice A0_0 l0_0.length c0_0, .slice A0_1 l0_1.length c0_1]) (t := 29) ?hr ?_; (case hd | hg => rfl); (case hr => go_simp; try rfl); intro gb156 hg w5 hbox hb; have BK156 := am (hbox); have GW156 := am (gq hg); have GE156 := am (gq hg); replace HB := sb hb; clear hb hbox hg; have ⟨b60, b61, d60, d61⟩ := bc2 BK156) | ((with_reducible refine gate_callee (f := 33) rfl ?_); refine goesQ (some 8) Try.func33 #[.slice A0_0 l0_0.length c0_0, .int .i64 a1] ?_; (with_reducible refine (laws_heldIntS.calls k _ _ l0_0 a1 t157 _ ?s1 ?s2 A3.out).mono ?_); (case s1 => exact cq (Kd.C_below HR0_0.out HB.out)); (case s2 => exact HC0_0.out); rintro e w' ⟨rfl, ⟨nd, rfl⟩⟩; refine ⟨_, rfl, ?_⟩))
  go_ret
  exact ⟨eq_, bq⟩
 rw [if_neg c4] at H; have c4b0 : decide (t157 < 0) = false := decide_eq_false c4; clear c4; obtain ⟨t158, A7, H⟩ := bindq H; try dsimp only at H
 by_cases c8 : t158 < 0
 ·rw [if_pos c8] at H; have c8b0 : decide (t158 < 0) = true := decide_eq_true c8; clear c8; obtain rfl := Option.some.inj H
  go_enter Try.func13, Try.ntmps13
  go_wp2_with (first | ((with_reducible refine gate_dst (N := 2) rfl ?_); refine box_event ?hg (N := 2) ?hd (cs := #[.slice A0_0 l0_0.length c0_0, .slice A0_1 l0_1.length c0_1]) (t := 29) ?hr ?_; (case hd | hg => rfl); (case hr => go_simp; try rfl); intro gb156 hg w9 hbox hb; have BK156 := am (hbox); have GW156 := am (gq hg); have GE156 := am (gq hg); replace HB := sb hb; clear hb hbox hg; have ⟨b100, b101, d100, d101⟩ := bc2 BK156) | ((with_reducible refine gate_callee (f := 33) rfl ?_); refine goesQ (some 8) Try.func33 #[.slice A0_0 l0_0.length c0_0, .int .i64 a1] ?_; (with_reducible refine (laws_heldIntS.calls k _ _ l0_0 a1 t157 _ ?s1 ?s2 A3.out).mono ?_); (case s1 => exact cq (Kd.C_below HR0_0.out HB.out)); (case s2 => exact HC0_0.out); rintro e w' ⟨rfl, ⟨nd, rfl⟩⟩; refine ⟨_, rfl, ?_⟩) | ((with_reducible refine gate_callee (f := 34) rfl ?_); refine goesQ (some 14) Try.func34 #[.slice A0_1 l0_1.length c0_1, .int .i64 t157] ?_; (with_reducible refine (laws_heldLoanS.calls k _ _ l0_1 t157 t158 _ ?s1 ?s2 A7.out).mono ?_); (case s1 => exact cq (Kd.C_below HR0_1.out bq)); (case s2 => exact HC0_1.out); rintro e w' ⟨rfl, ⟨nd, rfl⟩⟩; refine ⟨_, rfl, ?_⟩))
  go_ret
  exact ⟨eq_, bq⟩
 rw [if_neg c8] at H; have c8b0 : decide (t158 < 0) = false := decide_eq_false c8; clear c8; obtain rfl := Option.some.inj H
 go_enter Try.func13, Try.ntmps13
 go_wp2_with (first | ((with_reducible refine gate_dst (N := 2) rfl ?_); refine box_event ?hg (N := 2) ?hd (cs := #[.slice A0_0 l0_0.length c0_0, .slice A0_1 l0_1.length c0_1]) (t := 29) ?hr ?_; (case hd | hg => rfl); (case hr => go_simp; try rfl); intro gb156 hg w11 hbox hb; have BK156 := am (hbox); have GW156 := am (gq hg); have GE156 := am (gq hg); replace HB := sb hb; clear hb hbox hg; have ⟨b120, b121, d120, d121⟩ := bc2 BK156) | ((with_reducible refine gate_callee (f := 33) rfl ?_); refine goesQ (some 8) Try.func33 #[.slice A0_0 l0_0.length c0_0, .int .i64 a1] ?_; (with_reducible refine (laws_heldIntS.calls k _ _ l0_0 a1 t157 _ ?s1 ?s2 A3.out).mono ?_); (case s1 => exact cq (Kd.C_below HR0_0.out HB.out)); (case s2 => exact HC0_0.out); rintro e w' ⟨rfl, ⟨nd, rfl⟩⟩; refine ⟨_, rfl, ?_⟩) | ((with_reducible refine gate_callee (f := 34) rfl ?_); refine goesQ (some 14) Try.func34 #[.slice A0_1 l0_1.length c0_1, .int .i64 t157] ?_; (with_reducible refine (laws_heldLoanS.calls k _ _ l0_1 t157 t158 _ ?s1 ?s2 A7.out).mono ?_); (case s1 => exact cq (Kd.C_below HR0_1.out bq)); (case s2 => exact HC0_1.out); rintro e w' ⟨rfl, ⟨nd, rfl⟩⟩; refine ⟨_, rfl, ?_⟩))
 go_ret
 exact ⟨eq_, bq⟩


def spec_l1Own.f (l0 : List Int) : Option (List Int) := (some (([] : List Int) : List Int)).bind fun y159 => (if y159.length + l0.length < 17592186044416 then (some (y159 ++ l0)) else (none))
theorem spec_l1Own.calls (A0 : Option Addr) (c0 : Nat) (l0 : List Int) (r : List Int) (w : World) (hr0 : Kd.C (Kd.int .i64) w A0 l0.length l0) (hc0 : l0.length ≤ c0) (h : spec_l1Own.f l0 = some r) :
  Calls Try.prog 51 #[.slice A0 l0.length c0] w fun e w' => ∃ v0_ : Value, e = .returned (v0_) ∧ Kd.R (Kd.int .i64) 3 w' w.heap.size (fun _ => True) v0_ r ∧ Below w.heap.size w w' := by
 have HR0 := am hr0; have HC0 := am hc0; clear hr0 hc0; have HB := am (Below.refl w.heap.size w); have H := h; clear h
 unfold spec_l1Own.f at H
 obtain ⟨y159, hy159⟩ : ∃ y_ : List Int, y_ = (([] : List Int)) := ⟨_, rfl⟩; replace H : (if y159.length + l0.length < 17592186044416 then (some (y159 ++ l0)) else (none)) = some r := yq hy159 H; have Ny159 := am hy159; clear hy159; by_cases c2 : y159.length + l0.length < 17592186044416
 ·rw [if_pos c2] at H; have LMc2 := am c2; clear c2; obtain ⟨y162, hy162⟩ : ∃ y_ : List Int, y_ = (y159 ++ l0) := ⟨_, rfl⟩; replace H : (some y162) = some r := yq hy162 H; have Ny162 := am hy162; clear hy162; obtain rfl := Option.some.inj H
  go_enter Try.func51, Try.ntmps51
  go_wp2_with (first | ((with_reducible refine gate_dst (N := 3) rfl ?_); refine Kd.R_lit (Kd.int .i64) _ 3 ?hg (N := 3) ?hd (xs := ([] : List Int)) (inner := []) (ok := fun _ => True) (okp := fun _ => True) ?hr ?hp (fun _ hk => hk) trivial (Below.refl _ _) (Nat.le_refl _) (by simp) ?_; (case hd | hg => rfl); (case hr => go_simp; try rfl); (case hp => exact (Reps.none _ _)); intro v160 w3 ho4 hb hg_ hnew_; clear hg_ hnew_; (first | rw [← Ny159.out] at ho4 | (simp only [Int.reduceToNat] at ho4; rw [← Ny159.out] at ho4)); have HO161 := rl ho4; replace HB := sb hb; clear hb ho4) | ((with_reducible refine gate_builtin (b := .append) (xs := #[.tmp 3, .tmp 4]) rfl ?_); at_builtin; refine Kd.R_append_rows (Kd.int .i64) (w0 := w) w.heap.size rfl (.tmp 3) (.tmp 4) 22 3 (.int .i64 0) 8 rfl Try.underlying22 info3 rfl (by decide) (by omega) v160 y159 l0 _ _ _ (fun _ => True) (fun _ => False) rfl rfl ?aO ?aR (fun _ _ h => h) (fun _ h => h.elim) ?aF ?aB ?aS ?aL ?_; (case aR => repeat (first | exact (Kd.C_below HR0.out HB.out) | (with_reducible refine Kd.C_alloc ?_ _) | (with_reducible refine Kd.C_drewN ?_ _) | (with_reducible refine Kd.C_drew ?_))); (case aB => exact bq); (case aF => exact (fun _ _ => trivial)); (case aO => exact (rq HO161)); (case aS => exact (below_size bq)); (case aL => have := LMc2.out; omega); intro v163 w5 ho hb hg hat; rw [← Ny162.out] at ho; have n0_ := am (hb); have n1_ := am (ho); clear HB; clear HO161; have HB := n0_; have HO164 := n1_; clear n0_ n1_; clear ho hb hg hat))
  go_ret
  exact ⟨_, eq_, rq HO164, bq⟩
 rw [if_neg c2] at H; exact absurd H (by simp)


def spec_psOwn.f (l0_0 : List Int) (l0_1 : List (S41)) : Option (List Int × (List (S41))) := (spec_l1Own.f l0_0).bind fun t167 => ((some (([] : List (S41)) : List (S41))).bind fun y170 => (if y170.length + l0_1.length < 4398046511104 then (some (t167, (y170 ++ l0_1))) else (none)))
def spec_psOwn.T1 : Bool × List (List Nat × List Nat) := (true, [([], []), ([0], [0]), ([1], [1]), ([], []), ([], []), ([4], [4]), ([3, 5, 2], [3, 5]), ([2, 6], [2, 6]), ([7, 6, 0, 1, 2, 3, 4, 5, 6, 7], [7])])
def spec_psOwn.B1 : List Nat := [0, 1, 3, 0, 0, 16, 63, 127, 255]
theorem spec_psOwn.tab1 : rtab .any (opsOf Try.f24 1) = spec_psOwn.T1 := by kernel_rfl
theorem spec_psOwn.bits1 : waitsOk spec_psOwn.T1.2 spec_psOwn.B1 = true := by kernel_rfl
theorem spec_psOwn.calls (A0_0 : Option Addr) (c0_0 : Nat) (l0_0 : List Int) (A0_1 : Option Addr) (c0_1 : Nat) (l0_1 : List (S41)) (r1 : List Int) (r2 : List (S41)) (w : World) (hr0_0 : Kd.C (Kd.int .i64) w A0_0 l0_0.length l0_0) (hc0_0 : l0_0.length ≤ c0_0) (hr0_1 : Kd.C k41 w A0_1 l0_1.length l0_1) (hc0_1 : l0_1.length ≤ c0_1) (h : spec_psOwn.f l0_0 l0_1 = some (r1, r2)) :
  Calls Try.prog 24 #[.agg #[.slice A0_0 l0_0.length c0_0, .slice A0_1 l0_1.length c0_1]] w fun e w' => ∃ v0_ v1_ : Value, e = .returned (.agg #[v0_, v1_]) ∧ Kd.R (Kd.int .i64) 3 w' w.heap.size (fun _ => True) v0_ r1 ∧ Kd.R k41 41 w' w.heap.size (fun _ => True) v1_ r2 ∧ Below w.heap.size w w' := by
 have hu29 := Try.underlying29; have HR0_0 := am hr0_0; have HC0_0 := am hc0_0; clear hr0_0 hc0_0; have HR0_1 := am hr0_1; have HC0_1 := am hc0_1; clear hr0_1 hc0_1; have HB := am (Below.refl w.heap.size w); have H := h; clear h
 unfold spec_psOwn.f at H
 obtain ⟨t167, A2, H⟩ := bindq H; try dsimp only at H
 obtain ⟨y170, hy170⟩ : ∃ y_ : List (S41), y_ = (([] : List (S41))) := ⟨_, rfl⟩; replace H : (if y170.length + l0_1.length < 4398046511104 then (some (t167, (y170 ++ l0_1))) else (none)) = some (r1, r2) := yq hy170 H; have Ny170 := am hy170; clear hy170; by_cases c3 : y170.length + l0_1.length < 4398046511104
 ·rw [if_pos c3] at H; have LMc3 := am c3; clear c3; obtain ⟨y173, hy173⟩ : ∃ y_ : List (S41), y_ = (y170 ++ l0_1) := ⟨_, rfl⟩; replace H : (some (t167, y173)) = some (r1, r2) := yq hy173 H; have Ny173 := am hy173; clear hy173; simp only [Option.some.injEq, Prod.mk.injEq] at H; obtain ⟨rfl, rfl⟩ := H
  go_enter Try.func24, Try.ntmps24
  try go_wp2_with (first | ((with_reducible refine gate_dst (N := 1) rfl ?_); refine box_event ?hg (N := 1) ?hd (cs := #[.slice A0_0 l0_0.length c0_0, .slice A0_1 l0_1.length c0_1]) (t := 29) ?hr ?_; (case hd | hg => rfl); (case hr => go_simp; try rfl); intro gb165 hg w4 hbox hb; have BK165 := am (hbox); have GW165 := am (gq hg); have GE165 := am (gq hg); replace HB := sb hb; clear hb hbox hg) | ((with_reducible refine gate_dst (N := 2) rfl ?_); refine box_event ?hg (N := 2) ?hd (cs := #[.slice none 0 0, .slice none 0 0]) (t := 29) ?hr ?_; (case hd | hg => rfl); (case hr => go_simp; try rfl); intro gb166 hg w5 hbox hb; have BK166 := am (hbox); have GW166 := am (gq hg); have GE166 := am (gq hg); replace HB := sb hb; have ⟨NB165_166, NB166_165⟩ := nn hg BK165; replace BK165 := zb BK165 hb; clear hb hbox hg))
  replace BK165 := am (blk_drew BK165.out); replace BK166 := am (blk_drew BK166.out); replace HB := am (below_drew1 HB.out); refine start_ (n := 9) (S := fun w' => w'.cell? ⟨gb165, 0, none⟩ = some (.slice A0_0 l0_0.length c0_0) ∧ w'.cell? ⟨gb165, 1, none⟩ = some (.slice A0_1 l0_1.length c0_1)) (ds := []) #[O, O, O, O, O, O, O, O, O] (by kernel_rfl) rfl rfl cl (fun hHeld => ?_); refine with_tabW spec_psOwn.tab1 spec_psOwn.bits1 (fun HT_ HW_ => ?_); generalize w5.drew = w6 at BK165 BK166 HB hHeld ⊢; refine pu_ 0 (some 3) ?_ #[I, O, O, O, O, O, O, O, O] rfl rfl (any_of HT_.out (by kernel_rfl)) (.inl ⟨by rfl, ?_⟩) ?_ ?_ ?_; rotate_left; (intro w'; go_simp; with_reducible rfl); rotate_left; (simp only [pw]; rfl); refine pu_ 4 (some 7) ?_ #[I, O, O, O, I, O, O, O, O] rfl rfl (any_of HT_.out (by kernel_rfl)) (.inl ⟨by rfl, ?_⟩) ?_ ?_ ?_; rotate_left; (intro w'; go_simp; with_reducible rfl); rotate_left; (simp only [pw]; rfl); refine tk_ 1 (some 4) ?_ #[I, I, O, O, I, O, O, O, O] rfl rfl (take_ofW HT_.out HW_.out (by kernel_rfl)) (.inl ⟨by rfl, ?_⟩) hHeld ?_ ?_ ?_; rotate_left; (rintro w' ⟨s0, s1⟩; go_simp; with_reducible rfl); rotate_left; (simp only [pw]; rfl); refine tk_ 5 (some 8) ?_ #[I, I, O, O, I, I, O, O, O] rfl rfl (take_ofW HT_.out HW_.out (by kernel_rfl)) (.inl ⟨by rfl, ?_⟩) hHeld ?_ ?_ ?_; rotate_left; (rintro w' ⟨s0, s1⟩; go_simp; with_reducible rfl); rotate_left; (simp only [pw]; rfl); refine join_ (σ := Value × Value) 3 #[I, I, I, I, I, I, O, O, O] (fun s_ => [(5, s_.1), (6, s_.2)]) (fun s_ w' => (w'.cell? ⟨gb165, 0, none⟩ = some (.slice A0_0 l0_0.length c0_0) ∧ w'.cell? ⟨gb165, 1, none⟩ = some (.slice A0_1 l0_1.length c0_1)) ∧ (Kd.R (Kd.int .i64) 3 w' w.heap.size (fun _ => True) s_.1 t167) ∧ (Kd.R k41 41 w' w.heap.size (fun _ => True) s_.2 y170) ∧ (w'.heap[gb165]? = some (.cells #[.slice A0_0 l0_0.length c0_0, .slice A0_1 l0_1.length c0_1] 29 (0, 0))) ∧ (w'.heap[gb166]? = some (.cells #[.slice none 0 0, .slice none 0 0] 29 (0, 0))) ∧ (Below w.heap.size w w')) ?_ ?_; rotate_left
  ·intro hCont; refine two_ (i := 2) (j := 3) (Ni := some 5) (Nj := some 6) #[I, I, I, O, I, I, O, O, O] #[I, I, O, I, I, I, O, O, O] rfl rfl rfl rfl (two_of HT_.out (by kernel_rfl)) (by decide) (by decide) (fun K hK => ?_) (fun K hK => ?_)
   ·skip
    refine goes_ Try.func51 (by kernel_rfl) rfl #[.slice A0_0 l0_0.length c0_0] (by rfl) rfl rfl mq ?_; with_reducible refine (spec_l1Own.calls _ _ l0_0 t167 _ ?s1 ?s2 A2.out).mono ?_
    (case s1 => exact cq (Kd.C_below HR0_0.out HB.out)); (case s2 => exact HC0_0.out); rintro e w7 ⟨v168, rfl, ho0, hb⟩; refine ⟨_, rfl, ?_⟩; have HO169 := rl ho0; replace BK165 := zb BK165 hb; replace BK166 := zb BK166 hb; replace HB := sb hb; (try clear hb ho0); refine hK.out _ _ cl (fun hHeld => ?_); clear hK K; refine norm_ (a' := ?_) ?_ ?_; rotate_left
    ·show Act.put _ (some 5) _ = _
     simp only [pw]; rfl
    refine one_ (i := 3) (N := some 6) #[I, I, I, I, I, I, O, O, O] rfl rfl (one_of HT_.out (by kernel_rfl)) (by decide) (fun K hK => ?_); refine Kd.R_lit_step k41 _ 41 ?hg (N := 6) ?hd (xs := ([] : List (S41))) (inner := []) (ok := fun _ => True) (okp := fun _ => True) ?hr ?hp (fun _ hk => hk) trivial (Below.refl _ _) (Nat.le_refl _) (by simp) ?_; (case hd | hg => rfl); (case hr => go_simp; try rfl); (case hp => exact (Reps.none _ _)); intro v171 w8 ho9 hb hg_ hnew_; clear hg_ hnew_; (first | rw [← Ny170.out] at ho9 | (simp only [Int.reduceToNat] at ho9; rw [← Ny170.out] at ho9)); replace HO169 := rb HO169 hb; have HO172 := rl ho9; replace BK165 := zb BK165 hb; replace BK166 := zb BK166 hb; replace HB := sb hb; clear hb ho9; refine hK.out _ _ cl (fun hHeld => ?_); clear hK K; refine norm_ (a' := ?_) ?_ ?_; rotate_left
    ·show Act.put _ (some 6) _ = _
     simp only [pw]; rfl
    exact norm_ (by simp only [putAll, Act.put, List.setIfInBounds_toArray, List.set_cons_zero, List.set_cons_succ]) (hCont (v168, v171) _ ⟨hHeld, (rq HO169), (rq HO172), (zq BK165), (zq BK166), bq⟩)
   skip
   refine Kd.R_lit_step k41 _ 41 ?hg (N := 6) ?hd (xs := ([] : List (S41))) (inner := []) (ok := fun _ => True) (okp := fun _ => True) ?hr ?hp (fun _ hk => hk) trivial (Below.refl _ _) (Nat.le_refl _) (by simp) ?_; (case hd | hg => rfl); (case hr => go_simp; try rfl); (case hp => exact (Reps.none _ _)); intro v171 w7 ho8 hb hg_ hnew_; clear hg_ hnew_; (first | rw [← Ny170.out] at ho8 | (simp only [Int.reduceToNat] at ho8; rw [← Ny170.out] at ho8)); have HO172 := rl ho8; replace BK165 := zb BK165 hb; replace BK166 := zb BK166 hb; replace HB := sb hb; clear hb ho8; refine hK.out _ _ cl (fun hHeld => ?_); clear hK K; refine norm_ (a' := ?_) ?_ ?_; rotate_left
   ·show Act.put _ (some 6) _ = _
    simp only [pw]; rfl
   refine one_ (i := 2) (N := some 5) #[I, I, I, I, I, I, O, O, O] rfl rfl (one_of HT_.out (by kernel_rfl)) (by decide) (fun K hK => ?_); refine goes_ Try.func51 (by kernel_rfl) rfl #[.slice A0_0 l0_0.length c0_0] (by rfl) rfl rfl mq ?_; with_reducible refine (spec_l1Own.calls _ _ l0_0 t167 _ ?s1 ?s2 A2.out).mono ?_
   (case s1 => exact cq (Kd.C_below HR0_0.out HB.out)); (case s2 => exact HC0_0.out); rintro e w9 ⟨v168, rfl, ho0, hb⟩; refine ⟨_, rfl, ?_⟩; replace HO172 := rb HO172 hb; have HO169 := rl ho0; replace BK165 := zb BK165 hb; replace BK166 := zb BK166 hb; replace HB := sb hb; (try clear hb ho0); refine hK.out _ _ cl (fun hHeld => ?_); clear hK K; refine norm_ (a' := ?_) ?_ ?_; rotate_left
   ·show Act.put _ (some 5) _ = _
    simp only [pw]; rfl
   exact norm_ (by simp only [putAll, Act.put, List.setIfInBounds_toArray, List.set_cons_zero, List.set_cons_succ]) (hCont (v168, v171) _ ⟨hHeld, (rq HO169), (rq HO172), (zq BK165), (zq BK166), bq⟩)
  rintro ⟨v168, v171⟩ w10 ⟨hS_, h0_, h1_, h2_, h3_, h4_⟩; have n0_ : Aside0 (Kd.R (Kd.int .i64) 3 w10 w.heap.size (fun _ => True) v168 t167) := ⟨h0_⟩; have n1_ : Aside0 (Kd.R k41 41 w10 w.heap.size (fun _ => True) v171 y170) := ⟨h1_⟩; have n2_ : Aside0 (w10.heap[gb165]? = some (.cells #[.slice A0_0 l0_0.length c0_0, .slice A0_1 l0_1.length c0_1] 29 (0, 0))) := ⟨h2_⟩; have n3_ : Aside0 (w10.heap[gb166]? = some (.cells #[.slice none 0 0, .slice none 0 0] 29 (0, 0))) := ⟨h3_⟩; have n4_ : Aside0 (Below w.heap.size w w10) := ⟨h4_⟩; clear BK165 BK166 HB h0_ h1_ h2_ h3_ h4_; have HO169 := n0_; have HO172 := n1_; have BK165 := n2_; have BK166 := n3_; have HB := n4_; clear n0_ n1_ n2_ n3_ n4_; have hHeld : w10.cell? ⟨gb165, 0, none⟩ = some (.slice A0_0 l0_0.length c0_0) ∧ w10.cell? ⟨gb165, 1, none⟩ = some (.slice A0_1 l0_1.length c0_1) := hS_; refine norm_ (a' := ?_) ?_ ?_; rotate_left; (simp only [putAll, Act.put, List.setIfInBounds_toArray, List.set_cons_zero, List.set_cons_succ]; rfl); refine one_ (i := 6) (N := some 9) #[I, I, I, I, I, I, I, O, O] rfl rfl (one_of HT_.out (by kernel_rfl)) (by decide) (fun K hK => ?_); refine Kd.R_append_rows_step k41 (w0 := w) w.heap.size (by rfl) (.tmp 6) (.tmp 8) 27 41 (.agg #[(.int .i64 0), (.int .i64 0), (.int .i64 0), (.int .i64 0)]) 32 rfl Try.underlying27 info41 rfl (by decide) (by omega) v171 y170 l0_1 _ _ _ (fun _ => True) (fun _ => False) rfl rfl ?aO ?aR (fun _ _ h => h) (fun _ h => h.elim) ?aF ?aB ?aS ?aL ?_; (case aR => repeat (first | exact (Kd.C_below HR0_1.out HB.out) | (with_reducible refine Kd.C_alloc ?_ _) | (with_reducible refine Kd.C_drewN ?_ _) | (with_reducible refine Kd.C_drew ?_))); (case aB => exact bq); (case aF => exact (fun _ _ => trivial)); (case aO => exact (rq HO172)); (case aS => exact (below_size bq)); (case aL => have := LMc3.out; omega); intro v174 w11 ho hb hg hat; rw [← Ny173.out] at ho; have n0_ := zg BK165 hg (Kd.R_ne HO172.out BK165.out (by decide)); have n1_ := zg BK166 hg (Kd.R_ne HO172.out BK166.out (by decide)); have n2_ := am (Kd.R_over' (rq HO169) (Kd.R_typed (rq HO172)) (by decide) hg); have n3_ := am (hb); have n4_ := am (ho); clear BK165 BK166 HO169 HB HO172; have BK165 := n0_; have BK166 := n1_; have HO169 := n2_; have HB := n3_; have HO175 := n4_; clear n0_ n1_ n2_ n3_ n4_ ho hb hg hat; obtain ⟨Ao12, co12, eo12⟩ := Kd.R_slice HO175.out; (first | subst eo12 | (injection eo12 with f1_ f2_ f3_; have f4_ := f1_.symm; have f5_ := f3_.symm; clear f1_ f2_ f3_; subst f4_; subst f5_)); obtain ⟨Ao13, co13, eo13⟩ := Kd.R_slice HO169.out; (first | subst eo13 | (injection eo13 with f1_ f2_ f3_; have f4_ := f1_.symm; have f5_ := f3_.symm; clear f1_ f2_ f3_; subst f4_; subst f5_)); refine hK.out _ _ cl (fun hHeld => ?_); clear hK K; refine norm_ (a' := ?_) ?_ ?_; rotate_left
  ·show Act.put _ (some 9) _ = _
   simp only [pw]; rfl
  refine pu_ 7 (some 10) ?_ #[I, I, I, I, I, I, I, I, O] rfl rfl (any_of HT_.out (by kernel_rfl)) (.inl ⟨by rfl, ?_⟩) ?_ ?_ ?_; rotate_left; (intro w'; go_simp; with_reducible rfl); rotate_left; (simp only [pw]; rfl); refine one_ (i := 8) (N := none) #[I, I, I, I, I, I, I, I, I] rfl rfl (one_of HT_.out (by kernel_rfl)) (by decide) (fun K hK => ?_); have hs14 : w11.cell? ⟨gb166, 0, none⟩ = some (.slice none 0 0) := (blk_cell BK166.out 0).trans rfl; have hfs14 := blk_frozen BK166.out 0; have hns14_0 := NB165_166.out; have hms14_0 := NB166_165.out; have hs15 : w11.cell? ⟨gb166, 1, none⟩ = some (.slice none 0 0) := (blk_cell BK166.out 1).trans rfl; have hfs15 := blk_frozen BK166.out 1; refine skip_ (w1 := ?_) (by rfl) rfl ?_ ?_; rotate_left; (go_simp; rfl); refine hK.out _ _ (chf hHeld) (fun hHeld => ?_); clear hK K; refine done_ (done_of HT_.out (by kernel_rfl)) ?_; try go_wp2
  refine bodyPost_ret (results_cell_row rfl _ _ gb166 29 #[.slice Ao13 t167.length co13, .slice Ao12 y173.length co12] (0, 0) _ rfl (zp BK166) Try.underlying29 rfl (by kernel_rfl)) rfl ?_; exact ⟨_, _, eq_, Kd.R_mono (ff HO169 BK166) (fun _ hk => trivial), Kd.R_mono (ff HO175 BK166) (fun _ hk => trivial), bq⟩
 rw [if_neg c3] at H; exact absurd H (by simp)


def spec_psSame.l0 : Nat → List (S41) → Int → Int → Int → Int → Int → Int → Option (Int)
 | 0, _, _, _, _, _, _, _ => none
 | k + 1, x8, x9, x10, x2, x4, x6, x5 => if x10 < x9 then (if 0 ≤ x10 then (if x10 < (x8.length : Int) then (if ((rd_T41 x8 x10).f0) = x2 then (if ((rd_T41 x8 x10).f1) = x4 then (if ((rd_T41 x8 x10).f3) = x5 then (some x10) else (spec_psSame.l0 k x8 x9 (wrap64 (x10 + 1)) x2 x4 x6 x5)) else (spec_psSame.l0 k x8 x9 (wrap64 (x10 + 1)) x2 x4 x6 x5)) else (spec_psSame.l0 k x8 x9 (wrap64 (x10 + 1)) x2 x4 x6 x5)) else (none)) else (none)) else (some (-1))
def spec_psSame.f (k : Nat) (l0_0 : List Int) (l0_1 : List (S41)) (a1_0 : Int) (a1_1 : Int) (a1_2 : Int) (a1_3 : Int) : Option (Int) := spec_psSame.l0 k l0_1 (l0_1.length : Int) 0 a1_0 a1_1 a1_2 a1_3
theorem spec_psSame.calls (k : Nat) (A0_0 : Option Addr) (c0_0 : Nat) (l0_0 : List Int) (A0_1 : Option Addr) (c0_1 : Nat) (l0_1 : List (S41)) (a1_0 : Int) (a1_1 : Int) (a1_2 : Int) (a1_3 : Int) (r : Int) (w : World) (hr0_0 : Kd.C (Kd.int .i64) w A0_0 l0_0.length l0_0) (hc0_0 : l0_0.length ≤ c0_0) (hr0_1 : Kd.C k41 w A0_1 l0_1.length l0_1) (hc0_1 : l0_1.length ≤ c0_1) (h : spec_psSame.f k l0_0 l0_1 a1_0 a1_1 a1_2 a1_3 = some r) :
  Calls Try.prog 36 #[.agg #[.slice A0_0 l0_0.length c0_0, .slice A0_1 l0_1.length c0_1], .agg #[.int .i64 a1_0, .int .i64 a1_1, .int .i64 a1_2, .int .i64 a1_3]] w fun e w' => e = .returned (.int .i64 r) ∧ Below w.heap.size w w' := by
 have hu29 := Try.underlying29; have hu41 := Try.underlying41; have HR0_0 := am hr0_0; have HC0_0 := am hc0_0; clear hr0_0 hc0_0; have HR0_1 := am hr0_1; have HC0_1 := am hc0_1; clear hr0_1 hc0_1; have HB := am (Below.refl w.heap.size w); have H := h; clear h
 unfold spec_psSame.f at H
 have H' := am H; clear H
 go_enter Try.func36, Try.ntmps36
 go_wp2_with (first | ((with_reducible refine gate_dst (N := 2) rfl ?_); refine box_event ?hg (N := 2) ?hd (cs := #[.slice A0_0 l0_0.length c0_0, .slice A0_1 l0_1.length c0_1]) (t := 29) ?hr ?_; (case hd | hg => rfl); (case hr => go_simp; try rfl); intro gb176 hg w3 hbox hb; have BK176 := am (hbox); have GW176 := am (gq hg); have GE176 := am (gq hg); replace HB := sb hb; clear hb hbox hg) | ((with_reducible refine gate_dst (N := 3) rfl ?_); refine box_event ?hg (N := 3) ?hd (cs := #[.int .i64 a1_0, .int .i64 a1_1, .int .i64 a1_2, .int .i64 a1_3]) (t := 41) ?hr ?_; (case hd | hg => rfl); (case hr => go_simp; try rfl); intro gb177 hg w4 hbox hb; have BK177 := am (hbox); have GW177 := am (gq hg); have GE177 := am (gq hg); replace HB := sb hb; have ⟨NB176_177, NB177_176⟩ := nn hg BK176; replace BK176 := zb BK176 hb; clear hb hbox hg; have hnb5 := NB176_177.out; have hnc5 := NB177_176.out; have ⟨b60, b61, d60, d61⟩ := bc2 BK176))
 go_loopg [10] k (fun kq v10 w' => ∃ (x10_1 : Int), v10 = .int .i64 x10_1 ∧ Aside0 (spec_psSame.l0 kq l0_1 (l0_1.length : Int) x10_1 a1_0 a1_1 a1_2 a1_3 = some r) ∧ Aside0 (kq ≤ k) ∧ Aside0 (w'.heap[gb176]? = some (.cells #[(.slice A0_0 l0_0.length c0_0), (.slice A0_1 l0_1.length c0_1)] 29 (0, 0))) ∧ Aside0 (w'.heap[gb177]? = some (.cells #[.int .i64 a1_0, .int .i64 a1_1, .int .i64 a1_2, .int .i64 a1_3] 41 (0, 0))) ∧ Aside0 (Below w.heap.size w w'))
 case atStart => exact ⟨(0), sq, H', ⟨Nat.le_refl _⟩, ⟨zq BK176⟩, ⟨zq BK177⟩, ⟨bq⟩⟩
 case round =>
  clear H'; try clear b60 b61 d60 d61
  obtain ⟨x10_1, rfl, HA, HK1, BK176, BK177, HB⟩ := hrel
  cases gk with
  | zero => exact absurd HA.out (by simp [spec_psSame.l0])
  | succ k1 =>
   have H := HA.out; clear HA; simp only [spec_psSame.l0] at H; by_cases c7 : x10_1 < (l0_1.length : Int)
   ·rw [if_pos c7] at H; have c7b0 : decide (x10_1 < (l0_1.length : Int)) = true := decide_eq_true c7; clear c7; by_cases c8 : 0 ≤ x10_1
    ·rw [if_pos c8] at H; have c8b0 : decide (0 ≤ x10_1) = true := decide_eq_true c8; clear c8; by_cases c9 : x10_1 < (l0_1.length : Int)
     ·rw [if_pos c9] at H; have c9b0 : decide (x10_1 < (l0_1.length : Int)) = true := decide_eq_true c9; clear c9; by_cases c10 : ((rd_T41 l0_1 x10_1).f0) = a1_0
      ·rw [if_pos c10] at H; have c10b0 : (((rd_T41 l0_1 x10_1).f0) == a1_0) = true := beq_iff_eq.mpr c10; have c10b1 : (((rd_T41 l0_1 x10_1).f0) != a1_0) = false := bne_eq_false_iff_eq.mpr c10; clear c10; by_cases c11 : ((rd_T41 l0_1 x10_1).f1) = a1_1
       ·rw [if_pos c11] at H; have c11b0 : (((rd_T41 l0_1 x10_1).f1) == a1_1) = true := beq_iff_eq.mpr c11; have c11b1 : (((rd_T41 l0_1 x10_1).f1) != a1_1) = false := bne_eq_false_iff_eq.mpr c11; clear c11; by_cases c12 : ((rd_T41 l0_1 x10_1).f3) = a1_3
        ·rw [if_pos c12] at H; have c12b0 : (((rd_T41 l0_1 x10_1).f3) == a1_3) = true := beq_iff_eq.mpr c12; have c12b1 : (((rd_T41 l0_1 x10_1).f3) != a1_3) = false := bne_eq_false_iff_eq.mpr c12; clear c12; obtain rfl := Option.some.inj H; have p178 : 0 ≤ (x10_1 : Int) := of_decide_eq_true aq; have q178 : x10_1 < (l0_1.length : Int) := of_decide_eq_true aq; obtain ⟨ad178, e178, hx178_0, hx178_1, hx178_2, hx178_3⟩ := at_T41 HR0_1.out x10_1 p178 q178
         cases e178
         replace hx178_0 := (HB.out.cell (World.block_lt_of_cell? w _ hx178_0)).trans hx178_0; replace hx178_1 := (HB.out.cell (World.block_lt_of_cell? w _ hx178_1)).trans hx178_1; replace hx178_2 := (HB.out.cell (World.block_lt_of_cell? w _ hx178_2)).trans hx178_2; replace hx178_3 := (HB.out.cell (World.block_lt_of_cell? w _ hx178_3)).trans hx178_3; replace p178 := eq_true p178; replace q178 := eq_true q178; go_wp2_with (first | ((with_reducible refine gate_dst (N := 6) rfl ?_); refine box_event ?hg (N := 6) ?hd (cs := #[.int .i64 0, .int .i64 0, .int .i64 0, .int .i64 0]) (t := 41) ?hr ?_; (case hd | hg => rfl); (case hr => go_simp; try rfl); intro gb179 hg w13 hbox hb; have BK179 := am (hbox); have GW179 := am (gq hg); have GE179 := am (gq hg); replace HB := sb hb; have ⟨NB176_179, NB179_176⟩ := nn hg BK176; replace BK176 := zb BK176 hb; have ⟨NB177_179, NB179_177⟩ := nn hg BK177; replace BK177 := zb BK177 hb; clear hb hbox hg; have hnb14 := NB179_176.out; have hnc14 := NB176_179.out; have hnb15 := NB179_177.out; have hnc15 := NB177_179.out; have ⟨b160, b161, b162, b163, d160, d161, d162, d163⟩ := bc4 BK179; have hnb17 := NB177_176.out; have hnc17 := NB176_177.out; have ⟨b180, b181, b182, b183, d180, d181, d182, d183⟩ := bc4 BK177))
         go_ret
         exact ⟨eq_, bq⟩
        rw [if_neg c12] at H; have c12b0 : (((rd_T41 l0_1 x10_1).f3) == a1_3) = false := beq_eq_false_iff_ne.mpr c12; have c12b1 : (((rd_T41 l0_1 x10_1).f3) != a1_3) = true := bne_iff_ne.mpr c12; have H' := am H; clear H; have p178 : 0 ≤ (x10_1 : Int) := of_decide_eq_true aq; have q178 : x10_1 < (l0_1.length : Int) := of_decide_eq_true aq; obtain ⟨ad178, e178, hx178_0, hx178_1, hx178_2, hx178_3⟩ := at_T41 HR0_1.out x10_1 p178 q178
        cases e178
        replace hx178_0 := (HB.out.cell (World.block_lt_of_cell? w _ hx178_0)).trans hx178_0; replace hx178_1 := (HB.out.cell (World.block_lt_of_cell? w _ hx178_1)).trans hx178_1; replace hx178_2 := (HB.out.cell (World.block_lt_of_cell? w _ hx178_2)).trans hx178_2; replace hx178_3 := (HB.out.cell (World.block_lt_of_cell? w _ hx178_3)).trans hx178_3; replace p178 := eq_true p178; replace q178 := eq_true q178; go_wp2_with (first | ((with_reducible refine gate_dst (N := 6) rfl ?_); refine box_event ?hg (N := 6) ?hd (cs := #[.int .i64 0, .int .i64 0, .int .i64 0, .int .i64 0]) (t := 41) ?hr ?_; (case hd | hg => rfl); (case hr => go_simp; try rfl); intro gb179 hg w19 hbox hb; have BK179 := am (hbox); have GW179 := am (gq hg); have GE179 := am (gq hg); replace HB := sb hb; have ⟨NB176_179, NB179_176⟩ := nn hg BK176; replace BK176 := zb BK176 hb; have ⟨NB177_179, NB179_177⟩ := nn hg BK177; replace BK177 := zb BK177 hb; clear hb hbox hg; have hnb20 := NB179_176.out; have hnc20 := NB176_179.out; have hnb21 := NB179_177.out; have hnc21 := NB177_179.out; have ⟨b220, b221, b222, b223, d220, d221, d222, d223⟩ := bc4 BK179; have hnb23 := NB177_176.out; have hnc23 := NB176_177.out; have ⟨b240, b241, b242, b243, d240, d241, d242, d243⟩ := bc4 BK177))
        go_roundg k1
        case measure => have := HK1.out; omega
        case rel => exact ⟨(wrap64 (x10_1 + 1)), sq, H', ⟨by have := HK1.out; omega⟩, ⟨zp BK176⟩, ⟨zp BK177⟩, ⟨bq⟩⟩
       rw [if_neg c11] at H; have c11b0 : (((rd_T41 l0_1 x10_1).f1) == a1_1) = false := beq_eq_false_iff_ne.mpr c11; have c11b1 : (((rd_T41 l0_1 x10_1).f1) != a1_1) = true := bne_iff_ne.mpr c11; have H' := am H; clear H; have p178 : 0 ≤ (x10_1 : Int) := of_decide_eq_true aq; have q178 : x10_1 < (l0_1.length : Int) := of_decide_eq_true aq; obtain ⟨ad178, e178, hx178_0, hx178_1, hx178_2, hx178_3⟩ := at_T41 HR0_1.out x10_1 p178 q178
       cases e178
       replace hx178_0 := (HB.out.cell (World.block_lt_of_cell? w _ hx178_0)).trans hx178_0; replace hx178_1 := (HB.out.cell (World.block_lt_of_cell? w _ hx178_1)).trans hx178_1; replace hx178_2 := (HB.out.cell (World.block_lt_of_cell? w _ hx178_2)).trans hx178_2; replace hx178_3 := (HB.out.cell (World.block_lt_of_cell? w _ hx178_3)).trans hx178_3; replace p178 := eq_true p178; replace q178 := eq_true q178; go_wp2_with (first | ((with_reducible refine gate_dst (N := 6) rfl ?_); refine box_event ?hg (N := 6) ?hd (cs := #[.int .i64 0, .int .i64 0, .int .i64 0, .int .i64 0]) (t := 41) ?hr ?_; (case hd | hg => rfl); (case hr => go_simp; try rfl); intro gb179 hg w25 hbox hb; have BK179 := am (hbox); have GW179 := am (gq hg); have GE179 := am (gq hg); replace HB := sb hb; have ⟨NB176_179, NB179_176⟩ := nn hg BK176; replace BK176 := zb BK176 hb; have ⟨NB177_179, NB179_177⟩ := nn hg BK177; replace BK177 := zb BK177 hb; clear hb hbox hg; have hnb26 := NB179_176.out; have hnc26 := NB176_179.out; have hnb27 := NB179_177.out; have hnc27 := NB177_179.out; have ⟨b280, b281, b282, b283, d280, d281, d282, d283⟩ := bc4 BK179; have hnb29 := NB177_176.out; have hnc29 := NB176_177.out; have ⟨b300, b301, b302, b303, d300, d301, d302, d303⟩ := bc4 BK177))
       go_roundg k1
       case measure => have := HK1.out; omega
       case rel => exact ⟨(wrap64 (x10_1 + 1)), sq, H', ⟨by have := HK1.out; omega⟩, ⟨zp BK176⟩, ⟨zp BK177⟩, ⟨bq⟩⟩
      rw [if_neg c10] at H; have c10b0 : (((rd_T41 l0_1 x10_1).f0) == a1_0) = false := beq_eq_false_iff_ne.mpr c10; have c10b1 : (((rd_T41 l0_1 x10_1).f0) != a1_0) = true := bne_iff_ne.mpr c10; have H' := am H; clear H; have p178 : 0 ≤ (x10_1 : Int) := of_decide_eq_true aq; have q178 : x10_1 < (l0_1.length : Int) := of_decide_eq_true aq; obtain ⟨ad178, e178, hx178_0, hx178_1, hx178_2, hx178_3⟩ := at_T41 HR0_1.out x10_1 p178 q178
      cases e178
      replace hx178_0 := (HB.out.cell (World.block_lt_of_cell? w _ hx178_0)).trans hx178_0; replace hx178_1 := (HB.out.cell (World.block_lt_of_cell? w _ hx178_1)).trans hx178_1; replace hx178_2 := (HB.out.cell (World.block_lt_of_cell? w _ hx178_2)).trans hx178_2; replace hx178_3 := (HB.out.cell (World.block_lt_of_cell? w _ hx178_3)).trans hx178_3; replace p178 := eq_true p178; replace q178 := eq_true q178; go_wp2_with (first | ((with_reducible refine gate_dst (N := 6) rfl ?_); refine box_event ?hg (N := 6) ?hd (cs := #[.int .i64 0, .int .i64 0, .int .i64 0, .int .i64 0]) (t := 41) ?hr ?_; (case hd | hg => rfl); (case hr => go_simp; try rfl); intro gb179 hg w31 hbox hb; have BK179 := am (hbox); have GW179 := am (gq hg); have GE179 := am (gq hg); replace HB := sb hb; have ⟨NB176_179, NB179_176⟩ := nn hg BK176; replace BK176 := zb BK176 hb; have ⟨NB177_179, NB179_177⟩ := nn hg BK177; replace BK177 := zb BK177 hb; clear hb hbox hg; have hnb32 := NB179_176.out; have hnc32 := NB176_179.out; have hnb33 := NB179_177.out; have hnc33 := NB177_179.out; have ⟨b340, b341, b342, b343, d340, d341, d342, d343⟩ := bc4 BK179; have hnb35 := NB177_176.out; have hnc35 := NB176_177.out; have ⟨b360, b361, b362, b363, d360, d361, d362, d363⟩ := bc4 BK177))
      go_roundg k1
      case measure => have := HK1.out; omega
      case rel => exact ⟨(wrap64 (x10_1 + 1)), sq, H', ⟨by have := HK1.out; omega⟩, ⟨zp BK176⟩, ⟨zp BK177⟩, ⟨bq⟩⟩
     rw [if_neg c9] at H; exact absurd H (by simp)
    rw [if_neg c8] at H; exact absurd H (by simp)
   rw [if_neg c7] at H; have c7b0 : decide (x10_1 < (l0_1.length : Int)) = false := decide_eq_false c7; clear c7; obtain rfl := Option.some.inj H
   go_wp2
   go_ret
   exact ⟨eq_, bq⟩


def spec_l1In.f (a0 : Int) (a1 : Int) (a2 : Int) : Option (Bool) := if a0 ≥ a1 then (some (decide (a0 ≤ a2))) else (some false)
theorem spec_l1In.calls (a0 : Int) (a1 : Int) (a2 : Int) (r : Bool) (w : World) (h : spec_l1In.f a0 a1 a2 = some r) :
  Calls Try.prog 50 #[.int .i64 a0, .int .i64 a1, .int .i64 a2] w fun e w' => e = .returned (.bool r) ∧ Drawn0 w w' := by
 have H := h; clear h
 unfold spec_l1In.f at H
 by_cases c4 : a0 ≥ a1
 ·rw [if_pos c4] at H; have c4b0 : decide (a1 ≤ a0) = true := decide_eq_true c4; clear c4; obtain rfl := Option.some.inj H
  go_enter Try.func50, Try.ntmps50
  go_wp2
  go_ret
  exact ⟨sq, by repeat (first | exact Drawn0.refl _ | apply Drawn0.step)⟩
 rw [if_neg c4] at H; have c4b0 : decide (a1 ≤ a0) = false := decide_eq_false c4; clear c4; obtain rfl := Option.some.inj H
 go_enter Try.func50, Try.ntmps50
 go_wp2
 go_ret
 exact ⟨sq, by repeat (first | exact Drawn0.refl _ | apply Drawn0.step)⟩



def spec_psLoan.f (a0_0 : Int) (a0_1 : Int) (a0_2 : Int) (a0_3 : Int) : Option (Bool) := (spec_l1In.f a0_0 1 99).bind fun t181 => (if t181 = true then ((spec_l1In.f a0_1 1 7).bind fun t182 => (if t182 = true then ((spec_l1In.f a0_2 1 99).bind fun t183 => (if t183 = true then ((spec_l1In.f a0_3 0 999).bind fun t184 => (some t184)) else (some false))) else (some false))) else (some false))
theorem spec_psLoan.calls (a0_0 : Int) (a0_1 : Int) (a0_2 : Int) (a0_3 : Int) (r : Bool) (w : World) (h : spec_psLoan.f a0_0 a0_1 a0_2 a0_3 = some r) :
  Calls Try.prog 40 #[.agg #[.int .i64 a0_0, .int .i64 a0_1, .int .i64 a0_2, .int .i64 a0_3]] w fun e w' => e = .returned (.bool r) ∧ Below w.heap.size w w' := by
 have hu41 := Try.underlying41; have HB := am (Below.refl w.heap.size w); have H := h; clear h
 unfold spec_psLoan.f at H
 obtain ⟨t181, A2, H⟩ := bindq H; try dsimp only at H
 by_cases c3 : t181 = true
 ·subst c3; rw [if_pos rfl] at H; try dsimp only at H
  obtain ⟨t182, A4, H⟩ := bindq H; try dsimp only at H
  by_cases c5 : t182 = true
  ·subst c5; rw [if_pos rfl] at H; try dsimp only at H
   obtain ⟨t183, A6, H⟩ := bindq H; try dsimp only at H
   by_cases c7 : t183 = true
   ·subst c7; rw [if_pos rfl] at H; try dsimp only at H
    obtain ⟨t184, A8, H⟩ := bindq H; try dsimp only at H
    obtain rfl := Option.some.inj H
    go_enter Try.func40, Try.ntmps40
    go_wp2_with (first | ((with_reducible refine gate_dst (N := 1) rfl ?_); refine box_event ?hg (N := 1) ?hd (cs := #[.int .i64 a0_0, .int .i64 a0_1, .int .i64 a0_2, .int .i64 a0_3]) (t := 41) ?hr ?_; (case hd | hg => rfl); (case hr => go_simp; try rfl); intro gb180 hg w9 hbox hb; have BK180 := am (hbox); have GW180 := am (gq hg); have GE180 := am (gq hg); replace HB := sb hb; clear hb hbox hg; have ⟨b100, b101, b102, b103, d100, d101, d102, d103⟩ := bc4 BK180) | ((with_reducible refine gate_callee (f := 50) rfl ?_); refine goesQ (some 5) Try.func50 #[.int .i64 a0_0, .int .i64 1, .int .i64 99] ?_; (with_reducible refine (spec_l1In.calls a0_0 1 99 true _ A2.out).mono ?_); rintro e w' ⟨rfl, ⟨nd, rfl⟩⟩; refine ⟨_, rfl, ?_⟩) | (go_at_call 50; (with_reducible refine (spec_l1In.calls a0_1 1 7 true _ A4.out).mono ?_); rintro e w' ⟨rfl, ⟨nd, rfl⟩⟩) | (go_at_call 50; (with_reducible refine (spec_l1In.calls a0_2 1 99 true _ A6.out).mono ?_); rintro e w' ⟨rfl, ⟨nd, rfl⟩⟩) | (go_at_call 50; (with_reducible refine (spec_l1In.calls a0_3 0 999 t184 _ A8.out).mono ?_); rintro e w' ⟨rfl, ⟨nd, rfl⟩⟩))
    go_ret
    exact ⟨eq_, bq⟩
   replace c7 := Bool.eq_false_iff.mpr c7; subst c7; rw [if_neg (show ¬ (false = true) by decide)] at H; try dsimp only at H
   obtain rfl := Option.some.inj H
   go_enter Try.func40, Try.ntmps40
   go_wp2_with (first | ((with_reducible refine gate_dst (N := 1) rfl ?_); refine box_event ?hg (N := 1) ?hd (cs := #[.int .i64 a0_0, .int .i64 a0_1, .int .i64 a0_2, .int .i64 a0_3]) (t := 41) ?hr ?_; (case hd | hg => rfl); (case hr => go_simp; try rfl); intro gb180 hg w11 hbox hb; have BK180 := am (hbox); have GW180 := am (gq hg); have GE180 := am (gq hg); replace HB := sb hb; clear hb hbox hg; have ⟨b120, b121, b122, b123, d120, d121, d122, d123⟩ := bc4 BK180) | ((with_reducible refine gate_callee (f := 50) rfl ?_); refine goesQ (some 5) Try.func50 #[.int .i64 a0_0, .int .i64 1, .int .i64 99] ?_; (with_reducible refine (spec_l1In.calls a0_0 1 99 true _ A2.out).mono ?_); rintro e w' ⟨rfl, ⟨nd, rfl⟩⟩; refine ⟨_, rfl, ?_⟩) | (go_at_call 50; (with_reducible refine (spec_l1In.calls a0_1 1 7 true _ A4.out).mono ?_); rintro e w' ⟨rfl, ⟨nd, rfl⟩⟩) | (go_at_call 50; (with_reducible refine (spec_l1In.calls a0_2 1 99 false _ A6.out).mono ?_); rintro e w' ⟨rfl, ⟨nd, rfl⟩⟩))
   go_ret
   exact ⟨eq_, bq⟩
  replace c5 := Bool.eq_false_iff.mpr c5; subst c5; rw [if_neg (show ¬ (false = true) by decide)] at H; try dsimp only at H
  obtain rfl := Option.some.inj H
  go_enter Try.func40, Try.ntmps40
  go_wp2_with (first | ((with_reducible refine gate_dst (N := 1) rfl ?_); refine box_event ?hg (N := 1) ?hd (cs := #[.int .i64 a0_0, .int .i64 a0_1, .int .i64 a0_2, .int .i64 a0_3]) (t := 41) ?hr ?_; (case hd | hg => rfl); (case hr => go_simp; try rfl); intro gb180 hg w13 hbox hb; have BK180 := am (hbox); have GW180 := am (gq hg); have GE180 := am (gq hg); replace HB := sb hb; clear hb hbox hg; have ⟨b140, b141, b142, b143, d140, d141, d142, d143⟩ := bc4 BK180) | ((with_reducible refine gate_callee (f := 50) rfl ?_); refine goesQ (some 5) Try.func50 #[.int .i64 a0_0, .int .i64 1, .int .i64 99] ?_; (with_reducible refine (spec_l1In.calls a0_0 1 99 true _ A2.out).mono ?_); rintro e w' ⟨rfl, ⟨nd, rfl⟩⟩; refine ⟨_, rfl, ?_⟩) | (go_at_call 50; (with_reducible refine (spec_l1In.calls a0_1 1 7 false _ A4.out).mono ?_); rintro e w' ⟨rfl, ⟨nd, rfl⟩⟩))
  go_ret
  exact ⟨eq_, bq⟩
 replace c3 := Bool.eq_false_iff.mpr c3; subst c3; rw [if_neg (show ¬ (false = true) by decide)] at H; try dsimp only at H
 obtain rfl := Option.some.inj H
 go_enter Try.func40, Try.ntmps40
 go_wp2_with (first | ((with_reducible refine gate_dst (N := 1) rfl ?_); refine box_event ?hg (N := 1) ?hd (cs := #[.int .i64 a0_0, .int .i64 a0_1, .int .i64 a0_2, .int .i64 a0_3]) (t := 41) ?hr ?_; (case hd | hg => rfl); (case hr => go_simp; try rfl); intro gb180 hg w15 hbox hb; have BK180 := am (hbox); have GW180 := am (gq hg); have GE180 := am (gq hg); replace HB := sb hb; clear hb hbox hg; have ⟨b160, b161, b162, b163, d160, d161, d162, d163⟩ := bc4 BK180) | ((with_reducible refine gate_callee (f := 50) rfl ?_); refine goesQ (some 5) Try.func50 #[.int .i64 a0_0, .int .i64 1, .int .i64 99] ?_; (with_reducible refine (spec_l1In.calls a0_0 1 99 false _ A2.out).mono ?_); rintro e w' ⟨rfl, ⟨nd, rfl⟩⟩; refine ⟨_, rfl, ?_⟩))
 go_ret
 exact ⟨eq_, bq⟩


def spec_l1All.l0 : Nat → Int → Int → List Int → Int → Int → Option (Bool)
 | 0, _, _, _, _, _ => none
 | k + 1, x1, x2, x9, x10, x11 => if x11 < x10 then (if 0 ≤ x11 then (if x11 < (x9.length : Int) then ((spec_l1In.f (rd x9 x11) x1 x2).bind fun t186 => (if t186 = true then (spec_l1All.l0 k x1 x2 x9 x10 (wrap64 (x11 + 1))) else (some false))) else (none)) else (none)) else (some true)
def spec_l1All.f (k : Nat) (l0 : List Int) (a1 : Int) (a2 : Int) : Option (Bool) := spec_l1All.l0 k a1 a2 l0 (l0.length : Int) 0
theorem spec_l1All.calls (k : Nat) (A0 : Option Addr) (c0 : Nat) (l0 : List Int) (a1 : Int) (a2 : Int) (r : Bool) (w : World) (hr0 : Kd.C (Kd.int .i64) w A0 l0.length l0) (hc0 : l0.length ≤ c0) (h : spec_l1All.f k l0 a1 a2 = some r) :
  Calls Try.prog 53 #[.slice A0 l0.length c0, .int .i64 a1, .int .i64 a2] w fun e w' => e = .returned (.bool r) ∧ Drawn0 w w' := by
 have HR0 := am hr0; have HC0 := am hc0; clear hr0 hc0; have H := h; clear h
 unfold spec_l1All.f at H
 have H' := am H; clear H
 go_enter Try.func53, Try.ntmps53
 go_wp2
 go_loopg [11] k (fun kq v11 w' => ∃ (x11_1 : Int), v11 = .int .i64 x11_1 ∧ Aside0 (spec_l1All.l0 kq a1 a2 l0 (l0.length : Int) x11_1 = some r) ∧ Aside0 (kq ≤ k) ∧ Drawn0 w w')
 case atStart => exact ⟨(0), sq, H', ⟨Nat.le_refl _⟩, by repeat (first | exact Drawn0.refl _ | apply Drawn0.step)⟩
 case round =>
  clear H'; obtain ⟨x11_1, rfl, HA, HK1, ⟨m1, rfl⟩⟩ := hrel
  cases gk with
  | zero => exact absurd HA.out (by simp [spec_l1All.l0])
  | succ k1 =>
   have H := HA.out; clear HA; simp only [spec_l1All.l0] at H; by_cases c4 : x11_1 < (l0.length : Int)
   ·rw [if_pos c4] at H; have c4b0 : decide (x11_1 < (l0.length : Int)) = true := decide_eq_true c4; clear c4; by_cases c5 : 0 ≤ x11_1
    ·rw [if_pos c5] at H; have c5b0 : decide (0 ≤ x11_1) = true := decide_eq_true c5; clear c5; by_cases c6 : x11_1 < (l0.length : Int)
     ·rw [if_pos c6] at H; have c6b0 : decide (x11_1 < (l0.length : Int)) = true := decide_eq_true c6; clear c6; obtain ⟨t186, A7, H⟩ := bindq H; try dsimp only at H
      by_cases c8 : t186 = true
      ·subst c8; rw [if_pos rfl] at H; try dsimp only at H
       have H' := am H; clear H; have p185 : 0 ≤ (x11_1 : Int) := of_decide_eq_true aq; have q185 : x11_1 < (l0.length : Int) := of_decide_eq_true aq; obtain ⟨ad185, e185, hx185_0⟩ := Kd.at_int HR0.out x11_1 p185 q185
       cases e185
       replace p185 := eq_true p185; replace q185 := eq_true q185; go_wp2_with (first | ((with_reducible refine gate_callee (f := 50) rfl ?_); refine goesQ (some 18) Try.func50 #[.int .i64 (rd l0 x11_1), .int .i64 a1, .int .i64 a2] ?_; (with_reducible refine (spec_l1In.calls (rd l0 x11_1) a1 a2 true _ A7.out).mono ?_); rintro e w' ⟨rfl, ⟨nd, rfl⟩⟩; refine ⟨_, rfl, ?_⟩))
       go_roundg k1
       case measure => have := HK1.out; omega
       case rel => exact ⟨(wrap64 (x11_1 + 1)), sq, H', ⟨by have := HK1.out; omega⟩, by repeat (first | exact Drawn0.refl _ | apply Drawn0.step)⟩
      replace c8 := Bool.eq_false_iff.mpr c8; subst c8; rw [if_neg (show ¬ (false = true) by decide)] at H; try dsimp only at H
      obtain rfl := Option.some.inj H; have p185 : 0 ≤ (x11_1 : Int) := of_decide_eq_true aq; have q185 : x11_1 < (l0.length : Int) := of_decide_eq_true aq; obtain ⟨ad185, e185, hx185_0⟩ := Kd.at_int HR0.out x11_1 p185 q185
      cases e185
      replace p185 := eq_true p185; replace q185 := eq_true q185; go_wp2_with (first | ((with_reducible refine gate_callee (f := 50) rfl ?_); refine goesQ (some 18) Try.func50 #[.int .i64 (rd l0 x11_1), .int .i64 a1, .int .i64 a2] ?_; (with_reducible refine (spec_l1In.calls (rd l0 x11_1) a1 a2 false _ A7.out).mono ?_); rintro e w' ⟨rfl, ⟨nd, rfl⟩⟩; refine ⟨_, rfl, ?_⟩))
      go_ret
      exact ⟨sq, by repeat (first | exact Drawn0.refl _ | apply Drawn0.step)⟩
     rw [if_neg c6] at H; exact absurd H (by simp)
    rw [if_neg c5] at H; exact absurd H (by simp)
   rw [if_neg c4] at H; have c4b0 : decide (x11_1 < (l0.length : Int)) = false := decide_eq_false c4; clear c4; obtain rfl := Option.some.inj H
   go_wp2
   go_ret
   exact ⟨sq, by repeat (first | exact Drawn0.refl _ | apply Drawn0.step)⟩


def spec_psGood.l0 : Nat → List (S41) → Int → Int → List Int → List (S41) → Option (Bool)
 | 0, _, _, _, _, _ => none
 | k + 1, x6, x7, x8, x4, x5 => if x8 < x7 then (if 0 ≤ x8 then (if x8 < (x6.length : Int) then ((spec_psLoan.f ((rd_T41 x6 x8).f0) ((rd_T41 x6 x8).f1) ((rd_T41 x6 x8).f2) ((rd_T41 x6 x8).f3)).bind fun t192 => (if t192 = true then ((spec_psSame.f k x4 x5 ((rd_T41 x6 x8).f0) ((rd_T41 x6 x8).f1) ((rd_T41 x6 x8).f2) ((rd_T41 x6 x8).f3)).bind fun t193 => (if t193 = x8 then (spec_psGood.l0 k x6 x7 (wrap64 (x8 + 1)) x4 x5) else (some false))) else (some false))) else (none)) else (none)) else (if (x4.length : Int) = 8 then ((spec_l1All.f k x4 0 999).bind fun t188 => (if t188 = true then (if 0 < (x4.length : Int) then (if (rd x4 0) = 0 then (some (decide ((x5.length : Int) ≤ 20))) else (some false)) else (none)) else (some false))) else (some false))
def spec_psGood.f (k : Nat) (l0_0 : List Int) (l0_1 : List (S41)) : Option (Bool) := spec_psGood.l0 k l0_1 (l0_1.length : Int) 0 l0_0 l0_1
theorem spec_psGood.calls (k : Nat) (A0_0 : Option Addr) (c0_0 : Nat) (l0_0 : List Int) (A0_1 : Option Addr) (c0_1 : Nat) (l0_1 : List (S41)) (r : Bool) (w : World) (hr0_0 : Kd.C (Kd.int .i64) w A0_0 l0_0.length l0_0) (hc0_0 : l0_0.length ≤ c0_0) (hr0_1 : Kd.C k41 w A0_1 l0_1.length l0_1) (hc0_1 : l0_1.length ≤ c0_1) (h : spec_psGood.f k l0_0 l0_1 = some r) :
  Calls Try.prog 39 #[.agg #[.slice A0_0 l0_0.length c0_0, .slice A0_1 l0_1.length c0_1]] w fun e w' => e = .returned (.bool r) ∧ Below w.heap.size w w' := by
 have hu29 := Try.underlying29; have hu41 := Try.underlying41; have HR0_0 := am hr0_0; have HC0_0 := am hc0_0; clear hr0_0 hc0_0; have HR0_1 := am hr0_1; have HC0_1 := am hc0_1; clear hr0_1 hc0_1; have HB := am (Below.refl w.heap.size w); have H := h; clear h
 unfold spec_psGood.f at H
 have H' := am H; clear H
 go_enter Try.func39, Try.ntmps39
 go_wp2_with (first | ((with_reducible refine gate_dst (N := 1) rfl ?_); (try (refine gate_guard (by rfl) ?_; dsimp only)); refine box_event ?hg (N := 1) ?hd (cs := #[.slice A0_0 l0_0.length c0_0, .slice A0_1 l0_1.length c0_1]) (t := 29) ?hr ?_; (case hd | hg => rfl); (case hr => go_simp; try rfl); intro gb187 hg w2 hbox hb; have BK187 := am (hbox); have GW187 := am (gq hg); have GE187 := am (gq hg); replace HB := sb hb; clear hb hbox hg; have ⟨b30, b31, d30, d31⟩ := bc2 BK187))
 go_loopg [8] k (fun kq v8 w' => ∃ (x8_1 : Int), v8 = .int .i64 x8_1 ∧ Aside0 (spec_psGood.l0 kq l0_1 (l0_1.length : Int) x8_1 l0_0 l0_1 = some r) ∧ Aside0 (kq ≤ k) ∧ Aside0 (w'.heap[gb187]? = some (.cells #[(.slice A0_0 l0_0.length c0_0), (.slice A0_1 l0_1.length c0_1)] 29 (0, 0))) ∧ Aside0 (Below w.heap.size w w'))
 case atStart => exact ⟨(0), sq, H', ⟨Nat.le_refl _⟩, ⟨zq BK187⟩, ⟨bq⟩⟩
 case round =>
  clear H'; try clear b30 b31 d30 d31
  obtain ⟨x8_1, rfl, HA, HK1, BK187, HB⟩ := hrel
  cases gk with
  | zero => exact absurd HA.out (by simp [spec_psGood.l0])
  | succ k1 =>
   have H := HA.out; clear HA; simp only [spec_psGood.l0] at H; by_cases c4 : x8_1 < (l0_1.length : Int)
   ·rw [if_pos c4] at H; have c4b0 : decide (x8_1 < (l0_1.length : Int)) = true := decide_eq_true c4; clear c4; by_cases c5 : 0 ≤ x8_1
    ·rw [if_pos c5] at H; have c5b0 : decide (0 ≤ x8_1) = true := decide_eq_true c5; clear c5; by_cases c6 : x8_1 < (l0_1.length : Int)
     ·rw [if_pos c6] at H; have c6b0 : decide (x8_1 < (l0_1.length : Int)) = true := decide_eq_true c6; clear c6; obtain ⟨t192, A7, H⟩ := bindq H; try dsimp only at H
      by_cases c8 : t192 = true
      ·subst c8; rw [if_pos rfl] at H; try dsimp only at H
       obtain ⟨t193, A9, H⟩ := bindq H; try dsimp only at H
       by_cases c10 : t193 = x8_1
       ·rw [if_pos c10] at H; have c10b0 : (t193 == x8_1) = true := beq_iff_eq.mpr c10; have c10b1 : (t193 != x8_1) = false := bne_eq_false_iff_eq.mpr c10; clear c10; have H' := am H; clear H; have p190 : 0 ≤ (x8_1 : Int) := of_decide_eq_true aq; have q190 : x8_1 < (l0_1.length : Int) := of_decide_eq_true aq; obtain ⟨ad190, e190, hx190_0, hx190_1, hx190_2, hx190_3⟩ := at_T41 HR0_1.out x8_1 p190 q190
        cases e190
        replace hx190_0 := (HB.out.cell (World.block_lt_of_cell? w _ hx190_0)).trans hx190_0; replace hx190_1 := (HB.out.cell (World.block_lt_of_cell? w _ hx190_1)).trans hx190_1; replace hx190_2 := (HB.out.cell (World.block_lt_of_cell? w _ hx190_2)).trans hx190_2; replace hx190_3 := (HB.out.cell (World.block_lt_of_cell? w _ hx190_3)).trans hx190_3; replace p190 := eq_true p190; replace q190 := eq_true q190; go_wp2_with (first | ((with_reducible refine gate_dst (N := 4) rfl ?_); (try (refine gate_guard (by rfl) ?_; dsimp only)); refine box_event ?hg (N := 4) ?hd (cs := #[.int .i64 0, .int .i64 0, .int .i64 0, .int .i64 0]) (t := 41) ?hr ?_; (case hd | hg => rfl); (case hr => go_simp; try rfl); intro gb191 hg w11 hbox hb; have BK191 := am (hbox); have GW191 := am (gq hg); have GE191 := am (gq hg); replace HB := sb hb; have ⟨NB187_191, NB191_187⟩ := nn hg BK187; replace BK187 := zb BK187 hb; clear hb hbox hg; have hnb12 := NB191_187.out; have hnc12 := NB187_191.out; have ⟨b130, b131, b132, b133, d130, d131, d132, d133⟩ := bc4 BK191) | ((with_reducible refine gate_callee (f := 40) rfl ?_); refine goesQ (some 14) Try.func40 #[.agg #[.int .i64 ((rd_T41 l0_1 x8_1).f0), .int .i64 ((rd_T41 l0_1 x8_1).f1), .int .i64 ((rd_T41 l0_1 x8_1).f2), .int .i64 ((rd_T41 l0_1 x8_1).f3)]] ?_; (with_reducible refine (spec_psLoan.calls ((rd_T41 l0_1 x8_1).f0) ((rd_T41 l0_1 x8_1).f1) ((rd_T41 l0_1 x8_1).f2) ((rd_T41 l0_1 x8_1).f3) true _ A7.out).mono ?_); rintro e w14 ⟨rfl, hb⟩; refine ⟨_, rfl, ?_⟩; replace BK187 := zw (.cells #[.slice A0_0 l0_0.length c0_0, .slice (some ad190) l0_1.length c0_1] 29 (0, 0)) BK187 hb; replace BK191 := zw (.cells #[.int .i64 ((rd_T41 l0_1 x8_1).f0), .int .i64 ((rd_T41 l0_1 x8_1).f1), .int .i64 ((rd_T41 l0_1 x8_1).f2), .int .i64 ((rd_T41 l0_1 x8_1).f3)] 41 (0, 0)) BK191 hb; replace HB := sb hb; (try clear hb); have ⟨b150, b151, d150, d151⟩ := bc2 BK187; have ⟨b160, b161, b162, b163, d160, d161, d162, d163⟩ := bc4 BK191) | (go_at_call 36; (with_reducible refine (spec_psSame.calls k1 _ _ l0_0 _ _ l0_1 ((rd_T41 l0_1 x8_1).f0) ((rd_T41 l0_1 x8_1).f1) ((rd_T41 l0_1 x8_1).f2) ((rd_T41 l0_1 x8_1).f3) t193 _ ?s1 ?s2 ?s3 ?s4 A9.out).mono ?_); (case s1 => exact cq (Kd.C_below HR0_0.out HB.out)); (case s2 => exact HC0_0.out); (case s3 => exact cq (Kd.C_below HR0_1.out HB.out)); (case s4 => exact HC0_1.out); rintro e w17 ⟨rfl, hb⟩; replace BK187 := zb BK187 hb; replace BK191 := zb BK191 hb; replace HB := sb hb; (try clear hb)))
        go_roundg k1
        case measure => have := HK1.out; omega
        case rel => exact ⟨(wrap64 (x8_1 + 1)), sq, H', ⟨by have := HK1.out; omega⟩, ⟨zq BK187⟩, ⟨bq⟩⟩
       rw [if_neg c10] at H; have c10b0 : (t193 == x8_1) = false := beq_eq_false_iff_ne.mpr c10; have c10b1 : (t193 != x8_1) = true := bne_iff_ne.mpr c10; obtain rfl := Option.some.inj H; have p190 : 0 ≤ (x8_1 : Int) := of_decide_eq_true aq; have q190 : x8_1 < (l0_1.length : Int) := of_decide_eq_true aq; obtain ⟨ad190, e190, hx190_0, hx190_1, hx190_2, hx190_3⟩ := at_T41 HR0_1.out x8_1 p190 q190
       cases e190
       replace hx190_0 := (HB.out.cell (World.block_lt_of_cell? w _ hx190_0)).trans hx190_0; replace hx190_1 := (HB.out.cell (World.block_lt_of_cell? w _ hx190_1)).trans hx190_1; replace hx190_2 := (HB.out.cell (World.block_lt_of_cell? w _ hx190_2)).trans hx190_2; replace hx190_3 := (HB.out.cell (World.block_lt_of_cell? w _ hx190_3)).trans hx190_3; replace p190 := eq_true p190; replace q190 := eq_true q190; go_wp2_with (first | ((with_reducible refine gate_dst (N := 4) rfl ?_); (try (refine gate_guard (by rfl) ?_; dsimp only)); refine box_event ?hg (N := 4) ?hd (cs := #[.int .i64 0, .int .i64 0, .int .i64 0, .int .i64 0]) (t := 41) ?hr ?_; (case hd | hg => rfl); (case hr => go_simp; try rfl); intro gb191 hg w18 hbox hb; have BK191 := am (hbox); have GW191 := am (gq hg); have GE191 := am (gq hg); replace HB := sb hb; have ⟨NB187_191, NB191_187⟩ := nn hg BK187; replace BK187 := zb BK187 hb; clear hb hbox hg; have hnb19 := NB191_187.out; have hnc19 := NB187_191.out; have ⟨b200, b201, b202, b203, d200, d201, d202, d203⟩ := bc4 BK191) | ((with_reducible refine gate_callee (f := 40) rfl ?_); refine goesQ (some 14) Try.func40 #[.agg #[.int .i64 ((rd_T41 l0_1 x8_1).f0), .int .i64 ((rd_T41 l0_1 x8_1).f1), .int .i64 ((rd_T41 l0_1 x8_1).f2), .int .i64 ((rd_T41 l0_1 x8_1).f3)]] ?_; (with_reducible refine (spec_psLoan.calls ((rd_T41 l0_1 x8_1).f0) ((rd_T41 l0_1 x8_1).f1) ((rd_T41 l0_1 x8_1).f2) ((rd_T41 l0_1 x8_1).f3) true _ A7.out).mono ?_); rintro e w21 ⟨rfl, hb⟩; refine ⟨_, rfl, ?_⟩; replace BK187 := zw (.cells #[.slice A0_0 l0_0.length c0_0, .slice (some ad190) l0_1.length c0_1] 29 (0, 0)) BK187 hb; replace BK191 := zw (.cells #[.int .i64 ((rd_T41 l0_1 x8_1).f0), .int .i64 ((rd_T41 l0_1 x8_1).f1), .int .i64 ((rd_T41 l0_1 x8_1).f2), .int .i64 ((rd_T41 l0_1 x8_1).f3)] 41 (0, 0)) BK191 hb; replace HB := sb hb; (try clear hb); have ⟨b220, b221, d220, d221⟩ := bc2 BK187; have ⟨b230, b231, b232, b233, d230, d231, d232, d233⟩ := bc4 BK191) | (go_at_call 36; (with_reducible refine (spec_psSame.calls k1 _ _ l0_0 _ _ l0_1 ((rd_T41 l0_1 x8_1).f0) ((rd_T41 l0_1 x8_1).f1) ((rd_T41 l0_1 x8_1).f2) ((rd_T41 l0_1 x8_1).f3) t193 _ ?s1 ?s2 ?s3 ?s4 A9.out).mono ?_); (case s1 => exact cq (Kd.C_below HR0_0.out HB.out)); (case s2 => exact HC0_0.out); (case s3 => exact cq (Kd.C_below HR0_1.out HB.out)); (case s4 => exact HC0_1.out); rintro e w24 ⟨rfl, hb⟩; replace BK187 := zb BK187 hb; replace BK191 := zb BK191 hb; replace HB := sb hb; (try clear hb)))
       go_ret
       exact ⟨eq_, bq⟩
      replace c8 := Bool.eq_false_iff.mpr c8; subst c8; rw [if_neg (show ¬ (false = true) by decide)] at H; try dsimp only at H
      obtain rfl := Option.some.inj H; have p190 : 0 ≤ (x8_1 : Int) := of_decide_eq_true aq; have q190 : x8_1 < (l0_1.length : Int) := of_decide_eq_true aq; obtain ⟨ad190, e190, hx190_0, hx190_1, hx190_2, hx190_3⟩ := at_T41 HR0_1.out x8_1 p190 q190
      cases e190
      replace hx190_0 := (HB.out.cell (World.block_lt_of_cell? w _ hx190_0)).trans hx190_0; replace hx190_1 := (HB.out.cell (World.block_lt_of_cell? w _ hx190_1)).trans hx190_1; replace hx190_2 := (HB.out.cell (World.block_lt_of_cell? w _ hx190_2)).trans hx190_2; replace hx190_3 := (HB.out.cell (World.block_lt_of_cell? w _ hx190_3)).trans hx190_3; replace p190 := eq_true p190; replace q190 := eq_true q190; go_wp2_with (first | ((with_reducible refine gate_dst (N := 4) rfl ?_); (try (refine gate_guard (by rfl) ?_; dsimp only)); refine box_event ?hg (N := 4) ?hd (cs := #[.int .i64 0, .int .i64 0, .int .i64 0, .int .i64 0]) (t := 41) ?hr ?_; (case hd | hg => rfl); (case hr => go_simp; try rfl); intro gb191 hg w25 hbox hb; have BK191 := am (hbox); have GW191 := am (gq hg); have GE191 := am (gq hg); replace HB := sb hb; have ⟨NB187_191, NB191_187⟩ := nn hg BK187; replace BK187 := zb BK187 hb; clear hb hbox hg; have hnb26 := NB191_187.out; have hnc26 := NB187_191.out; have ⟨b270, b271, b272, b273, d270, d271, d272, d273⟩ := bc4 BK191) | ((with_reducible refine gate_callee (f := 40) rfl ?_); refine goesQ (some 14) Try.func40 #[.agg #[.int .i64 ((rd_T41 l0_1 x8_1).f0), .int .i64 ((rd_T41 l0_1 x8_1).f1), .int .i64 ((rd_T41 l0_1 x8_1).f2), .int .i64 ((rd_T41 l0_1 x8_1).f3)]] ?_; (with_reducible refine (spec_psLoan.calls ((rd_T41 l0_1 x8_1).f0) ((rd_T41 l0_1 x8_1).f1) ((rd_T41 l0_1 x8_1).f2) ((rd_T41 l0_1 x8_1).f3) false _ A7.out).mono ?_); rintro e w28 ⟨rfl, hb⟩; refine ⟨_, rfl, ?_⟩; replace BK187 := zw (.cells #[.slice A0_0 l0_0.length c0_0, .slice (some ad190) l0_1.length c0_1] 29 (0, 0)) BK187 hb; replace BK191 := zw (.cells #[.int .i64 ((rd_T41 l0_1 x8_1).f0), .int .i64 ((rd_T41 l0_1 x8_1).f1), .int .i64 ((rd_T41 l0_1 x8_1).f2), .int .i64 ((rd_T41 l0_1 x8_1).f3)] 41 (0, 0)) BK191 hb; replace HB := sb hb; (try clear hb)))
      go_ret
      exact ⟨eq_, bq⟩
     rw [if_neg c6] at H; exact absurd H (by simp)
    rw [if_neg c5] at H; exact absurd H (by simp)
   rw [if_neg c4] at H; have c4b0 : decide (x8_1 < (l0_1.length : Int)) = false := decide_eq_false c4; clear c4; by_cases c29 : (l0_0.length : Int) = 8
   ·rw [if_pos c29] at H; have c29b0 : ((l0_0.length : Int) == 8) = true := beq_iff_eq.mpr c29; have c29b1 : ((l0_0.length : Int) != 8) = false := bne_eq_false_iff_eq.mpr c29; clear c29; obtain ⟨t188, A30, H⟩ := bindq H; try dsimp only at H
    by_cases c31 : t188 = true
    ·subst c31; rw [if_pos rfl] at H; try dsimp only at H
     by_cases c32 : 0 < (l0_0.length : Int)
     ·rw [if_pos c32] at H; have c32b0 : decide (0 < (l0_0.length : Int)) = true := decide_eq_true c32; have c32b1 : decide (0 < l0_0.length) = true := decide_eq_true (by omega); clear c32; by_cases c33 : (rd l0_0 0) = 0
      ·rw [if_pos c33] at H; have c33b0 : ((rd l0_0 0) == 0) = true := beq_iff_eq.mpr c33; have c33b1 : ((rd l0_0 0) != 0) = false := bne_eq_false_iff_eq.mpr c33; clear c33; obtain rfl := Option.some.inj H; have ⟨b340, b341, d340, d341⟩ := bc2 BK187; go_wp2_with (first | (go_at_call 53; (with_reducible refine (spec_l1All.calls k1 _ _ l0_0 0 999 true _ ?s1 ?s2 A30.out).mono ?_); (case s1 => exact cq (Kd.C_below HR0_0.out HB.out)); (case s2 => exact HC0_0.out); rintro e w' ⟨rfl, ⟨nd, rfl⟩⟩; have p189 : 0 ≤ (0 : Int) := (by omega); have q189 : 0 < (l0_0.length : Int) := of_decide_eq_true aq; obtain ⟨ad189, e189, hx189_0⟩ := Kd.at_int HR0_0.out 0 p189 q189; cases e189; have qi189 : (0 < l0_0.length) = True := eq_true (by omega); (try rw [show ((0 : Int)).toNat = 0 from rfl] at hx189_0); (try rw [Addr.add_zero'] at hx189_0); replace hx189_0 := (HB.out.cell (World.block_lt_of_cell? w _ hx189_0)).trans hx189_0; replace p189 := eq_true p189; replace q189 := eq_true q189))
       go_ret
       exact ⟨eq_, bq⟩
      rw [if_neg c33] at H; have c33b0 : ((rd l0_0 0) == 0) = false := beq_eq_false_iff_ne.mpr c33; have c33b1 : ((rd l0_0 0) != 0) = true := bne_iff_ne.mpr c33; obtain rfl := Option.some.inj H; have ⟨b350, b351, d350, d351⟩ := bc2 BK187; go_wp2_with (first | (go_at_call 53; (with_reducible refine (spec_l1All.calls k1 _ _ l0_0 0 999 true _ ?s1 ?s2 A30.out).mono ?_); (case s1 => exact cq (Kd.C_below HR0_0.out HB.out)); (case s2 => exact HC0_0.out); rintro e w' ⟨rfl, ⟨nd, rfl⟩⟩; have p189 : 0 ≤ (0 : Int) := (by omega); have q189 : 0 < (l0_0.length : Int) := of_decide_eq_true aq; obtain ⟨ad189, e189, hx189_0⟩ := Kd.at_int HR0_0.out 0 p189 q189; cases e189; have qi189 : (0 < l0_0.length) = True := eq_true (by omega); (try rw [show ((0 : Int)).toNat = 0 from rfl] at hx189_0); (try rw [Addr.add_zero'] at hx189_0); replace hx189_0 := (HB.out.cell (World.block_lt_of_cell? w _ hx189_0)).trans hx189_0; replace p189 := eq_true p189; replace q189 := eq_true q189))
      go_ret
      exact ⟨eq_, bq⟩
     rw [if_neg c32] at H; exact absurd H (by simp)
    replace c31 := Bool.eq_false_iff.mpr c31; subst c31; rw [if_neg (show ¬ (false = true) by decide)] at H; try dsimp only at H
    obtain rfl := Option.some.inj H; have ⟨b360, b361, d360, d361⟩ := bc2 BK187; go_wp2_with (first | (go_at_call 53; (with_reducible refine (spec_l1All.calls k1 _ _ l0_0 0 999 false _ ?s1 ?s2 A30.out).mono ?_); (case s1 => exact cq (Kd.C_below HR0_0.out HB.out)); (case s2 => exact HC0_0.out); rintro e w' ⟨rfl, ⟨nd, rfl⟩⟩))
    go_ret
    exact ⟨eq_, bq⟩
   rw [if_neg c29] at H; have c29b0 : ((l0_0.length : Int) == 8) = false := beq_eq_false_iff_ne.mpr c29; have c29b1 : ((l0_0.length : Int) != 8) = true := bne_iff_ne.mpr c29; obtain rfl := Option.some.inj H; have ⟨b370, b371, d370, d371⟩ := bc2 BK187
   go_wp2
   go_ret
   exact ⟨eq_, bq⟩


def spec_psIf.f (k : Nat) (l0_0 : List Int) (l0_1 : List (S41)) : Option (List Int × (List (S41)) × Bool) := (spec_psGood.f k l0_0 l0_1).bind fun t196 => (if t196 = true then (some (l0_0, l0_1, true)) else (some (([] : List Int), ([] : List (S41)), false)))
theorem spec_psIf.calls (k : Nat) (P0_0_ : Nat → Prop) (u9_ : Value) (l0_0 : List Int) (P0_1_ : Nat → Prop) (u11_ : Value) (l0_1 : List (S41)) (r1 : List Int) (r2 : List (S41)) (r3 : Bool) (w0 w : World) (hB : Below w0.heap.size w0 w) (ho0_0 : Kd.R (Kd.int .i64) 3 w w0.heap.size P0_0_ u9_ l0_0) (ho0_1 : Kd.R k41 41 w w0.heap.size P0_1_ u11_ l0_1) (h : spec_psIf.f k l0_0 l0_1 = some (r1, r2, r3)) :
  Calls Try.prog 41 #[.agg #[u9_, u11_]] w fun e w' => ∃ v0_ v1_ : Value, e = .returned (.tuple #[.agg #[v0_, v1_], .bool r3]) ∧ Kd.R (Kd.int .i64) 3 w' w0.heap.size (fun k_ => ((P0_0_ k_ ∨ P0_1_ k_) ∨ w.heap.size ≤ k_)) v0_ r1 ∧ Kd.R k41 41 w' w0.heap.size (fun k_ => ((P0_0_ k_ ∨ P0_1_ k_) ∨ w.heap.size ≤ k_)) v1_ r2 ∧ Below w0.heap.size w0 w' ∧ Kept w w' (fun k_ => P0_0_ k_ ∨ P0_1_ k_) := by
 have hu29 := Try.underlying29; have HO0_0 := am (show Kd.R (Kd.int .i64) 3 w w0.heap.size (fun k_ => ((P0_0_ k_ ∨ P0_1_ k_) ∨ w.heap.size ≤ k_)) u9_ l0_0 from Kd.R_mono ho0_0 (fun k_ hk => (.inl (.inl hk)))); have HO0_1 := am (show Kd.R k41 41 w w0.heap.size (fun k_ => ((P0_0_ k_ ∨ P0_1_ k_) ∨ w.heap.size ≤ k_)) u11_ l0_1 from Kd.R_mono ho0_1 (fun k_ hk => (.inl (.inr hk)))); have HK := am (Kept.refl w (fun k_ => P0_0_ k_ ∨ P0_1_ k_)); have HW0 := am hB.size; have HB := am hB; clear hB; have H := h; clear h
 unfold spec_psIf.f at H
 obtain ⟨t196, A2, H⟩ := bindq H; try dsimp only at H
 by_cases c3 : t196 = true
 ·subst c3; rw [if_pos rfl] at H; try dsimp only at H
  simp only [Option.some.injEq, Prod.mk.injEq] at H; obtain ⟨rfl, rfl, rfl⟩ := H; obtain ⟨Ao4, co4, eo4⟩ := Kd.R_slice HO0_0.out; subst eo4; obtain ⟨Ao5, co5, eo5⟩ := Kd.R_slice HO0_1.out; subst eo5
  go_enter Try.func41, Try.ntmps41
  go_wp2_with (first | ((with_reducible refine gate_dst (N := 1) rfl ?_); refine box_event ?hg (N := 1) ?hd (cs := #[.slice Ao4 l0_0.length co4, .slice Ao5 l0_1.length co5]) (t := 29) ?hr ?_; (case hd | hg => rfl); (case hr => go_simp; try rfl); intro gb194 hg w6 hbox hb; replace HO0_0 := rb HO0_0 hb; replace HO0_1 := rb HO0_1 hb; have BK194 := am (hbox); have GW194 := am ((by rw [hg]; exact (by first | exact HK.out.1 | exact (show Kept w _ (fun k_ => P0_0_ k_ ∨ P0_1_ k_) from hkq).1) : w.heap.size ≤ gb194)); replace HK := am (Kept.below (S := (fun k_ => P0_0_ k_ ∨ P0_1_ k_)) hkq hb); have GE194 := am ((by rw [hg]; exact (below_size bq) : w0.heap.size ≤ gb194)); replace HB := sb hb; clear hb hbox hg) | ((with_reducible refine gate_dst (N := 2) rfl ?_); refine box_event ?hg (N := 2) ?hd (cs := #[.slice none 0 0, .slice none 0 0]) (t := 29) ?hr ?_; (case hd | hg => rfl); (case hr => go_simp; try rfl); intro gb195 hg w7 hbox hb; replace HO0_0 := rb HO0_0 hb; replace HO0_1 := rb HO0_1 hb; have BK195 := am (hbox); have GW195 := am ((by rw [hg]; exact (by first | exact HK.out.1 | exact (show Kept w _ (fun k_ => P0_0_ k_ ∨ P0_1_ k_) from hks).1) : w.heap.size ≤ gb195)); replace HK := am (Kept.below (S := (fun k_ => P0_0_ k_ ∨ P0_1_ k_)) (hks) hb); have GE195 := am ((by rw [hg]; exact (below_size bq) : w0.heap.size ≤ gb195)); replace HB := sb hb; have ⟨NB194_195, NB195_194⟩ := nn hg BK194; replace BK194 := zb BK194 hb; clear hb hbox hg; have hnb8 := NB194_195.out; have hnc8 := NB195_194.out; have ⟨b90, b91, d90, d91⟩ := bc2 BK194) | ((with_reducible refine gate_callee (f := 39) rfl ?_); refine goesQ (some 5) Try.func39 #[.agg #[.slice Ao4 l0_0.length co4, .slice Ao5 l0_1.length co5]] ?_; (with_reducible refine (spec_psGood.calls k _ _ l0_0 _ _ l0_1 true _ ?s1 ?s2 ?s3 ?s4 A2.out).mono ?_); (case s1 => exact cr HO0_0); (case s2 => exact rq1 HO0_0); (case s3 => exact cr HO0_1); (case s4 => exact rq1 HO0_1); rintro e w10 ⟨rfl, hb⟩; refine ⟨_, rfl, ?_⟩; replace HO0_0 := rb HO0_0 hb; replace HO0_1 := rb HO0_1 hb; replace BK194 := zb BK194 hb; replace BK195 := zb BK195 hb; replace HK := am (Kept.below (S := (fun k_ => P0_0_ k_ ∨ P0_1_ k_)) (hks) hb); replace HB := sb hb; (try clear hb); have ⟨b110, b111, d110, d111⟩ := bc2 BK194; have ⟨b120, b121, d120, d121⟩ := bc2 BK195))
  refine bodyPost_ret (results_ct rfl _ _ gb195 29 #[.slice Ao4 l0_0.length co4, .slice Ao5 l0_1.length co5] (0, 0) _ rfl (zp BK195) Try.underlying29 rfl (by kernel_rfl)) rfl ?_; exact ⟨_, _, eq_, Kd.R_mono (ff HO0_0 BK195) (fun _ hk => hk.1), Kd.R_mono (ff HO0_1 BK195) (fun _ hk => hk.1), bq, hks⟩
 replace c3 := Bool.eq_false_iff.mpr c3; subst c3; rw [if_neg (show ¬ (false = true) by decide)] at H; try dsimp only at H
 simp only [Option.some.injEq, Prod.mk.injEq] at H; obtain ⟨rfl, rfl, rfl⟩ := H; obtain ⟨Ao13, co13, eo13⟩ := Kd.R_slice HO0_0.out; subst eo13; obtain ⟨Ao14, co14, eo14⟩ := Kd.R_slice HO0_1.out; subst eo14
 go_enter Try.func41, Try.ntmps41
 go_wp2_with (first | ((with_reducible refine gate_dst (N := 1) rfl ?_); refine box_event ?hg (N := 1) ?hd (cs := #[.slice Ao13 l0_0.length co13, .slice Ao14 l0_1.length co14]) (t := 29) ?hr ?_; (case hd | hg => rfl); (case hr => go_simp; try rfl); intro gb194 hg w15 hbox hb; replace HO0_0 := rb HO0_0 hb; replace HO0_1 := rb HO0_1 hb; have BK194 := am (hbox); have GW194 := am ((by rw [hg]; exact (by first | exact HK.out.1 | exact (show Kept w _ (fun k_ => P0_0_ k_ ∨ P0_1_ k_) from hkq).1) : w.heap.size ≤ gb194)); replace HK := am (Kept.below (S := (fun k_ => P0_0_ k_ ∨ P0_1_ k_)) hkq hb); have GE194 := am ((by rw [hg]; exact (below_size bq) : w0.heap.size ≤ gb194)); replace HB := sb hb; clear hb hbox hg) | ((with_reducible refine gate_dst (N := 2) rfl ?_); refine box_event ?hg (N := 2) ?hd (cs := #[.slice none 0 0, .slice none 0 0]) (t := 29) ?hr ?_; (case hd | hg => rfl); (case hr => go_simp; try rfl); intro gb195 hg w16 hbox hb; replace HO0_0 := rb HO0_0 hb; replace HO0_1 := rb HO0_1 hb; have BK195 := am (hbox); have GW195 := am ((by rw [hg]; exact (by first | exact HK.out.1 | exact (show Kept w _ (fun k_ => P0_0_ k_ ∨ P0_1_ k_) from hks).1) : w.heap.size ≤ gb195)); replace HK := am (Kept.below (S := (fun k_ => P0_0_ k_ ∨ P0_1_ k_)) (hks) hb); have GE195 := am ((by rw [hg]; exact (below_size bq) : w0.heap.size ≤ gb195)); replace HB := sb hb; have ⟨NB194_195, NB195_194⟩ := nn hg BK194; replace BK194 := zb BK194 hb; clear hb hbox hg; have hnb17 := NB194_195.out; have hnc17 := NB195_194.out; have ⟨b180, b181, d180, d181⟩ := bc2 BK194) | ((with_reducible refine gate_callee (f := 39) rfl ?_); refine goesQ (some 5) Try.func39 #[.agg #[.slice Ao13 l0_0.length co13, .slice Ao14 l0_1.length co14]] ?_; (with_reducible refine (spec_psGood.calls k _ _ l0_0 _ _ l0_1 false _ ?s1 ?s2 ?s3 ?s4 A2.out).mono ?_); (case s1 => exact cr HO0_0); (case s2 => exact rq1 HO0_0); (case s3 => exact cr HO0_1); (case s4 => exact rq1 HO0_1); rintro e w19 ⟨rfl, hb⟩; refine ⟨_, rfl, ?_⟩; replace BK194 := zb BK194 hb; replace BK195 := zb BK195 hb; replace HK := am (Kept.below (S := (fun k_ => P0_0_ k_ ∨ P0_1_ k_)) (hks) hb); replace HB := sb hb; (try clear hb); have ⟨b200, b201, d200, d201⟩ := bc2 BK195))
 refine bodyPost_ret (results_ct rfl _ _ gb195 29 #[.slice none 0 0, .slice none 0 0] (0, 0) _ rfl (zp BK195) Try.underlying29 rfl (by kernel_rfl)) rfl ?_; exact ⟨_, _, eq_, by first | exact Kd.R_nil _ _ _ _ _ | exact Kd.N_nil _ _ _ _ _ | exact Kd.V_nil _ _ _ _ _ | exact Kd.Q_nil _ _ _ _ _ | exact Kd.S_nil _ _ _ _ _, by first | exact Kd.R_nil _ _ _ _ _ | exact Kd.N_nil _ _ _ _ _ | exact Kd.V_nil _ _ _ _ _ | exact Kd.Q_nil _ _ _ _ _ | exact Kd.S_nil _ _ _ _ _, bq, hks⟩


def spec_psMember.f (a0 : Int) : Option (Bool) := (spec_l1In.f a0 1 99).bind fun t197 => (some t197)
theorem spec_psMember.calls (a0 : Int) (r : Bool) (w : World) (h : spec_psMember.f a0 = some r) :
  Calls Try.prog 44 #[.int .i64 a0] w fun e w' => e = .returned (.bool r) ∧ Drawn0 w w' := by
 have H := h; clear h
 unfold spec_psMember.f at H
 obtain ⟨t197, A2, H⟩ := bindq H; try dsimp only at H
 obtain rfl := Option.some.inj H
 go_enter Try.func44, Try.ntmps44
 go_wp2_with (first | ((with_reducible refine gate_callee (f := 50) rfl ?_); refine goesQ (some 4) Try.func50 #[.int .i64 a0, .int .i64 1, .int .i64 99] ?_; (with_reducible refine (spec_l1In.calls a0 1 99 t197 _ A2.out).mono ?_); rintro e w' ⟨rfl, ⟨nd, rfl⟩⟩; refine ⟨_, rfl, ?_⟩))
 go_ret
 exact ⟨sq, by repeat (first | exact Drawn0.refl _ | apply Drawn0.step)⟩


def spec_psKind.f (a0 : Int) : Option (Bool) := (spec_l1In.f a0 1 7).bind fun t198 => (some t198)
theorem spec_psKind.calls (a0 : Int) (r : Bool) (w : World) (h : spec_psKind.f a0 = some r) :
  Calls Try.prog 45 #[.int .i64 a0] w fun e w' => e = .returned (.bool r) ∧ Drawn0 w w' := by
 have H := h; clear h
 unfold spec_psKind.f at H
 obtain ⟨t198, A2, H⟩ := bindq H; try dsimp only at H
 obtain rfl := Option.some.inj H
 go_enter Try.func45, Try.ntmps45
 go_wp2_with (first | ((with_reducible refine gate_callee (f := 50) rfl ?_); refine goesQ (some 4) Try.func50 #[.int .i64 a0, .int .i64 1, .int .i64 7] ?_; (with_reducible refine (spec_l1In.calls a0 1 7 t198 _ A2.out).mono ?_); rintro e w' ⟨rfl, ⟨nd, rfl⟩⟩; refine ⟨_, rfl, ?_⟩))
 go_ret
 exact ⟨sq, by repeat (first | exact Drawn0.refl _ | apply Drawn0.step)⟩


def spec_psCount.f (a0 : Int) : Option (Bool) := (spec_l1In.f a0 1 99).bind fun t199 => (some t199)
theorem spec_psCount.calls (a0 : Int) (r : Bool) (w : World) (h : spec_psCount.f a0 = some r) :
  Calls Try.prog 46 #[.int .i64 a0] w fun e w' => e = .returned (.bool r) ∧ Drawn0 w w' := by
 have H := h; clear h
 unfold spec_psCount.f at H
 obtain ⟨t199, A2, H⟩ := bindq H; try dsimp only at H
 obtain rfl := Option.some.inj H
 go_enter Try.func46, Try.ntmps46
 go_wp2_with (first | ((with_reducible refine gate_callee (f := 50) rfl ?_); refine goesQ (some 4) Try.func50 #[.int .i64 a0, .int .i64 1, .int .i64 99] ?_; (with_reducible refine (spec_l1In.calls a0 1 99 t199 _ A2.out).mono ?_); rintro e w' ⟨rfl, ⟨nd, rfl⟩⟩; refine ⟨_, rfl, ?_⟩))
 go_ret
 exact ⟨sq, by repeat (first | exact Drawn0.refl _ | apply Drawn0.step)⟩


def spec_l1Least.f (a0 : Int) (a1 : Int) : Option (Int) := if a0 < a1 then (some a0) else (some a1)
theorem spec_l1Least.calls (a0 : Int) (a1 : Int) (r : Int) (w : World) (h : spec_l1Least.f a0 a1 = some r) :
  Calls Try.prog 47 #[.int .i64 a0, .int .i64 a1] w fun e w' => e = .returned (.int .i64 r) ∧ Drawn0 w w' := by
 have H := h; clear h
 unfold spec_l1Least.f at H
 by_cases c3 : a0 < a1
 ·rw [if_pos c3] at H; have c3b0 : decide (a0 < a1) = true := decide_eq_true c3; clear c3; obtain rfl := Option.some.inj H
  go_enter Try.func47, Try.ntmps47
  go_wp2
  go_ret
  exact ⟨sq, by repeat (first | exact Drawn0.refl _ | apply Drawn0.step)⟩
 rw [if_neg c3] at H; have c3b0 : decide (a0 < a1) = false := decide_eq_false c3; clear c3; obtain rfl := Option.some.inj H
 go_enter Try.func47, Try.ntmps47
 go_wp2
 go_ret
 exact ⟨sq, by repeat (first | exact Drawn0.refl _ | apply Drawn0.step)⟩



mutual
def spec_ReturnParts.j0 : Nat → Int → Int → Int → Bool → List Int → List (S41) → Option (List Int × (List (S41)) × Bool)
 | 0, _, _, _, _, _, _ => none
 | k + 1, x1, x2, x3, x35, x4, x5 => if x35 = true then (some (([] : List Int), ([] : List (S41)), false)) else ((spec_psOwn.f x4 x5).bind fun bt206 => (if 0 ≤ x2 then (if x2 < (bt206.1.length : Int) then (spec_ReturnParts.l0 k x1 x2 x3 (bt206.1.set (x2 : Int).toNat (wrap64 ((rd bt206.1 x2) + x3))) bt206.2) else (none)) else (none)))
def spec_ReturnParts.l0 : Nat → Int → Int → Int → List Int → List (S41) → Option (List Int × (List (S41)) × Bool)
 | 0, _, _, _, _, _ => none
 | k + 1, x1, x2, x3, x5, x4 => if x3 > 0 then (spec_ReturnParts.l1 k x1 x2 x3 (-1) x4 (x4.length : Int) 0 x5 x4) else (spec_ReturnParts.l2 k ([] : List (S41)) x4 (x4.length : Int) 0 x5 x4)
def spec_ReturnParts.l1 : Nat → Int → Int → Int → Int → List (S41) → Int → Int → List Int → List (S41) → Option (List Int × (List (S41)) × Bool)
 | 0, _, _, _, _, _, _, _, _, _ => none
 | k + 1, x1, x2, x3, x11, x50, x51, x52, x5, x4 => if x52 < x51 then (if 0 ≤ x52 then (if x52 < (x50.length : Int) then (if ((rd_T41 x50 x52).f0) = x1 then (if ((rd_T41 x50 x52).f1) = x2 then (if ((rd_T41 x50 x52).f2) > 0 then (if x11 < 0 then (spec_ReturnParts.l1 k x1 x2 x3 x52 x50 x51 (wrap64 (x52 + 1)) x5 x4) else (if 0 ≤ x11 then (if x11 < (x4.length : Int) then (if ((rd_T41 x50 x52).f3) < ((rd_T41 x4 x11).f3) then (spec_ReturnParts.l1 k x1 x2 x3 x52 x50 x51 (wrap64 (x52 + 1)) x5 x4) else (spec_ReturnParts.l1 k x1 x2 x3 x11 x50 x51 (wrap64 (x52 + 1)) x5 x4)) else (none)) else (none))) else (spec_ReturnParts.l1 k x1 x2 x3 x11 x50 x51 (wrap64 (x52 + 1)) x5 x4)) else (spec_ReturnParts.l1 k x1 x2 x3 x11 x50 x51 (wrap64 (x52 + 1)) x5 x4)) else (spec_ReturnParts.l1 k x1 x2 x3 x11 x50 x51 (wrap64 (x52 + 1)) x5 x4)) else (none)) else (none)) else (if x11 < 0 then (some (([] : List Int), ([] : List (S41)), false)) else (if 0 ≤ x11 then (if x11 < (x4.length : Int) then ((spec_l1Least.f x3 ((rd_T41 x4 x11).f2)).bind fun t219 => (spec_ReturnParts.l0 k x1 x2 (wrap64 (x3 - t219)) x5 (x4.set (x11 : Int).toNat (⟨(rd_T41 x4 x11).f0, (rd_T41 x4 x11).f1, wrap64 (((rd_T41 x4 x11).f2) - t219), (rd_T41 x4 x11).f3⟩ : S41)))) else (none)) else (none)))
def spec_ReturnParts.l2 : Nat → List (S41) → List (S41) → Int → Int → List Int → List (S41) → Option (List Int × (List (S41)) × Bool)
 | 0, _, _, _, _, _, _ => none
 | k + 1, x15, x114, x115, x116, x4, x5 => if x116 < x115 then (if 0 ≤ x116 then (if x116 < (x114.length : Int) then (if ((rd_T41 x114 x116).f2) > 0 then (if x15.length < 4398046511104 then (spec_ReturnParts.l2 k (x15 ++ [(⟨(rd_T41 x114 x116).f0, (rd_T41 x114 x116).f1, (rd_T41 x114 x116).f2, (rd_T41 x114 x116).f3⟩ : S41)]) x114 x115 (wrap64 (x116 + 1)) x4 x5) else (none)) else (spec_ReturnParts.l2 k x15 x114 x115 (wrap64 (x116 + 1)) x4 x5)) else (none)) else (none)) else ((spec_psIf.f k x4 x15).bind fun bt227 => (some (bt227.1, bt227.2.1, bt227.2.2)))
end
def spec_ReturnParts.f (k : Nat) (l0_0 : List Int) (l0_1 : List (S41)) (a1 : Int) (a2 : Int) (a3 : Int) : Option (List Int × (List (S41)) × Bool) := (spec_psGood.f k l0_0 l0_1).bind fun t202 => (if t202 = true then ((spec_psMember.f a1).bind fun t203 => (if t203 = true then ((spec_psKind.f a2).bind fun t204 => (if t204 = true then ((spec_psCount.f a3).bind fun t205 => (spec_ReturnParts.j0 k a1 a2 a3 (!t205) l0_0 l0_1)) else (spec_ReturnParts.j0 k a1 a2 a3 true l0_0 l0_1))) else (spec_ReturnParts.j0 k a1 a2 a3 true l0_0 l0_1))) else (spec_ReturnParts.j0 k a1 a2 a3 true l0_0 l0_1))
end Go.Proofs.Ytokigipkoeeddaa.Pall
