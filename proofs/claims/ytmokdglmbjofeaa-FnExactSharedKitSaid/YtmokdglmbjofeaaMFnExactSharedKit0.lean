import Derived.Test.YtmokdglmbjofeaaProg
import Derived.Below
import Derived.Deep.Draws
import Derived.Deep.AppendLies
import Derived.Maps.AppendAt
import Derived.OwnWalk
import Derived.Laws.BytesArg
import Derived.Laws.MakeOwn
import Derived.Laws.OwnMore
import Derived.Deep.OwnRows
import Derived.Tactics
import Derived.Lib.ConvBytes
import Derived.Laws.Slices
import Derived.WalkKit
import Derived.KernelRfl
import Derived.RowKit3
import Derived.Deep.LoopGhost
import Derived.Deep.QuietTactic
import Derived.BigQuiet
import Derived.WideLaws
import Derived.Deep.DeepCutAuto
import Derived.Deep.CutBlock
import Derived.Deep.RegionHeld3
import Derived.Laws.Rows
import Derived.Lib.AppendStr
import Derived.ArgAppend
import Derived.Laws.IdiomCopy
import Derived.OrdersHeld
import Derived.Laws.BitsLemmas
import Derived.RowKit
import Derived.Test.YtmokdglmbjofeaaMWFnExactSharedKit
namespace Go.Proofs.Ytmokdglmbjofeaa.Pall
open Go.RowKit Go.Proofs.YtmokdglmbjofeaaW.PrintWords Go.Proofs.YtmokdglmbjofeaaW.PrintLast Go.Proofs.YtmokdglmbjofeaaW.PrintMore
attribute [local go_sem] max2_int min2_int max_two min_two max_three min_three max_four min_four   -- for this text's walks alone
set_option linter.unusedVariables false
set_option linter.unusedSimpArgs false
set_option maxHeartbeats 8000000
set_option maxRecDepth 100000



def errW : Option Int → Value
  | none => .nilIface
  | some c => .iface 0 (.int .i64 c)
theorem errW_none : errW none = .nilIface := rfl
theorem errW_some (c : Int) : errW (some c) = .iface 0 (.int .i64 c) := rfl

theorem info3 : (Try.prog.info? 3).map (fun i => (i.zero, i.size, i.bytes)) = some (some (.int .i64 0), 1, 8) := by kernel_rfl
theorem info51 : (Try.prog.info? 51).map (fun i => (i.zero, i.size, i.bytes)) = some (some (.agg #[(.int .i64 0), (.int .i64 0), (.slice none 0 0)]), 3, 40) := by kernel_rfl
theorem info71 : (Try.prog.info? 71).map (fun i => (i.zero, i.size, i.bytes)) = some (some (.agg #[(.int .i64 0), (.int .i64 0)]), 2, 16) := by kernel_rfl
structure S77 where
  f0 : Int
  f1 : Int
def z77 : S77 := ⟨(0 : Int), (0 : Int)⟩
def k77 : Kd S77 := Kd.iso (Kd.pair (Kd.int .i64) (Kd.int .i64)) (fun x : S77 => (x.f0, x.f1))
theorem k77_open {w : World} {x : S77} {cs : List Value} (h : k77.K w x cs) : cs = [.int .i64 x.f0, .int .i64 x.f1] := by
  obtain ⟨_, _, rfl, rfl, rfl⟩ := h
  exact rfl
def rd_T77 (xs : List S77) (i : Int) : S77 := xs.getD i.toNat z77
theorem at_T77 {w : World} {A : Option Addr} {n : Nat} {xs : List S77} (h : Kd.C k77 w A n xs) (i : Int) (h0 : 0 ≤ i) (h1 : i < n) : ∃ ad , A = some ad ∧ w.cell? (ad.add (i.toNat * 2)) = some (.int .i64 (rd_T77 xs i).f0) ∧ w.cell? ⟨(ad.add (i.toNat * 2)).block, (ad.add (i.toNat * 2)).off + 1, none⟩ = some (.int .i64 (rd_T77 xs i).f1) := by
  obtain ⟨ad, c, e, _, hK, hc0⟩ := Kd.C_get h z77 i h0 h1
  have hc : ∀ j u, c[j]? = some u → w.cell? (ad.add (i.toNat * 2 + j)) = some u := hc0
  obtain rfl := k77_open hK
  exact ⟨ad, e, hc 0 _ rfl, by rw [← add_field _ _ 1 (by omega)]; exact hc 1 _ rfl⟩

structure S47 where
  f0 : Int
  f1 : Int
  f2 : (List S77)
def z47 : S47 := ⟨(0 : Int), (0 : Int), ([] : List S77)⟩
def k47 : Kd S47 := Kd.iso (Kd.pair (Kd.int .i64) (Kd.pair (Kd.int .i64) (Kd.slice 77 k77))) (fun x : S47 => (x.f0, x.f1, x.f2))
theorem k47_open {w : World} {x : S47} {cs : List Value} (h : k47.K w x cs) : ∃ A2 c2, cs = [.int .i64 x.f0, .int .i64 x.f1, .slice A2 x.f2.length c2] ∧ x.f2.length ≤ c2 ∧ k77.C w A2 x.f2.length x.f2 := by
  obtain ⟨_, _, rfl, rfl, ⟨_, _, rfl, rfl, ⟨A2, c2, rfl, l2, g2⟩⟩⟩ := h
  exact ⟨A2, c2, rfl, l2, g2⟩
def rd_T47 (xs : List S47) (i : Int) : S47 := xs.getD i.toNat z47
theorem at_T47 {w : World} {A : Option Addr} {n : Nat} {xs : List S47} (h : Kd.C k47 w A n xs) (i : Int) (h0 : 0 ≤ i) (h1 : i < n) : ∃ ad A2 c2, A = some ad ∧ w.cell? (ad.add (i.toNat * 3)) = some (.int .i64 (rd_T47 xs i).f0) ∧ w.cell? ⟨(ad.add (i.toNat * 3)).block, (ad.add (i.toNat * 3)).off + 1, none⟩ = some (.int .i64 (rd_T47 xs i).f1) ∧ w.cell? ⟨(ad.add (i.toNat * 3)).block, (ad.add (i.toNat * 3)).off + 2, none⟩ = some (.slice A2 (rd_T47 xs i).f2.length c2) ∧ (rd_T47 xs i).f2.length ≤ c2 ∧ k77.C w A2 (rd_T47 xs i).f2.length (rd_T47 xs i).f2 := by
  obtain ⟨ad, c, e, _, hK, hc0⟩ := Kd.C_get h z47 i h0 h1
  have hc : ∀ j u, c[j]? = some u → w.cell? (ad.add (i.toNat * 3 + j)) = some u := hc0
  obtain ⟨A2, c2, rfl, l2, g2⟩ := k47_open hK
  exact ⟨ad, A2, c2, e, hc 0 _ rfl, by rw [← add_field _ _ 1 (by omega)]; exact hc 1 _ rfl, by rw [← add_field _ _ 2 (by omega)]; exact hc 2 _ rfl, l2, g2⟩

structure S71 where
  f0 : Int
  f1 : Int
def z71 : S71 := ⟨(0 : Int), (0 : Int)⟩
def k71 : Kd S71 := Kd.iso (Kd.pair (Kd.int .i64) (Kd.int .i64)) (fun x : S71 => (x.f0, x.f1))
theorem k71_open {w : World} {x : S71} {cs : List Value} (h : k71.K w x cs) : cs = [.int .i64 x.f0, .int .i64 x.f1] := by
  obtain ⟨_, _, rfl, rfl, rfl⟩ := h
  exact rfl
theorem k71_openM {w : World} {base : Nat} {ok : Nat → Prop} {x : S71} {cs : List Value} (h : k71.M w base ok x cs) : cs = [.int .i64 x.f0, .int .i64 x.f1] := by
  obtain ⟨_, _, rfl, rfl, rfl⟩ := h
  exact rfl
theorem k71_mkM (w : World) (base : Nat) (ok : Nat → Prop) (x : S71)  : k71.M w base ok x [.int .i64 x.f0, .int .i64 x.f1] := ⟨[.int .i64 x.f0], [.int .i64 x.f1], rfl, rfl, rfl⟩
def rd_T71 (xs : List S71) (i : Int) : S71 := xs.getD i.toNat z71
theorem at_T71 {w : World} {A : Option Addr} {n : Nat} {xs : List S71} (h : Kd.C k71 w A n xs) (i : Int) (h0 : 0 ≤ i) (h1 : i < n) : ∃ ad , A = some ad ∧ w.cell? (ad.add (i.toNat * 2)) = some (.int .i64 (rd_T71 xs i).f0) ∧ w.cell? ⟨(ad.add (i.toNat * 2)).block, (ad.add (i.toNat * 2)).off + 1, none⟩ = some (.int .i64 (rd_T71 xs i).f1) := by
  obtain ⟨ad, c, e, _, hK, hc0⟩ := Kd.C_get h z71 i h0 h1
  have hc : ∀ j u, c[j]? = some u → w.cell? (ad.add (i.toNat * 2 + j)) = some u := hc0
  obtain rfl := k71_open hK
  exact ⟨ad, e, hc 0 _ rfl, by rw [← add_field _ _ 1 (by omega)]; exact hc 1 _ rfl⟩

structure S51 where
  f0 : Int
  f1 : Int
  f2 : (List S71)
def z51 : S51 := ⟨(0 : Int), (0 : Int), ([] : List S71)⟩
def k51 : Kd S51 := Kd.iso (Kd.pair (Kd.int .i64) (Kd.pair (Kd.int .i64) (Kd.slice 71 k71))) (fun x : S51 => (x.f0, x.f1, x.f2))
theorem k51_open {w : World} {x : S51} {cs : List Value} (h : k51.K w x cs) : ∃ A2 c2, cs = [.int .i64 x.f0, .int .i64 x.f1, .slice A2 x.f2.length c2] ∧ x.f2.length ≤ c2 ∧ k71.C w A2 x.f2.length x.f2 := by
  obtain ⟨_, _, rfl, rfl, ⟨_, _, rfl, rfl, ⟨A2, c2, rfl, l2, g2⟩⟩⟩ := h
  exact ⟨A2, c2, rfl, l2, g2⟩
theorem k51_openM {w : World} {base : Nat} {ok : Nat → Prop} {x : S51} {cs : List Value} (h : k51.M w base ok x cs) : ∃ v2, cs = [.int .i64 x.f0, .int .i64 x.f1, v2] ∧ k71.R 71 w base ok v2 x.f2 := by
  obtain ⟨_, _, rfl, rfl, ⟨_, _, rfl, rfl, ⟨v2, rfl, g2⟩⟩⟩ := h
  exact ⟨v2, rfl, g2⟩
theorem k51_mkM (w : World) (base : Nat) (ok : Nat → Prop) (x : S51) {v2 : Value} (g2 : k71.R 71 w base ok v2 x.f2) : k51.M w base ok x [.int .i64 x.f0, .int .i64 x.f1, v2] := ⟨[.int .i64 x.f0], [.int .i64 x.f1, v2], rfl, rfl, ⟨[.int .i64 x.f1], [v2], rfl, rfl, ⟨v2, rfl, g2⟩⟩⟩
def rd_T51 (xs : List S51) (i : Int) : S51 := xs.getD i.toNat z51
theorem at_T51 {w : World} {A : Option Addr} {n : Nat} {xs : List S51} (h : Kd.C k51 w A n xs) (i : Int) (h0 : 0 ≤ i) (h1 : i < n) : ∃ ad A2 c2, A = some ad ∧ w.cell? (ad.add (i.toNat * 3)) = some (.int .i64 (rd_T51 xs i).f0) ∧ w.cell? ⟨(ad.add (i.toNat * 3)).block, (ad.add (i.toNat * 3)).off + 1, none⟩ = some (.int .i64 (rd_T51 xs i).f1) ∧ w.cell? ⟨(ad.add (i.toNat * 3)).block, (ad.add (i.toNat * 3)).off + 2, none⟩ = some (.slice A2 (rd_T51 xs i).f2.length c2) ∧ (rd_T51 xs i).f2.length ≤ c2 ∧ k71.C w A2 (rd_T51 xs i).f2.length (rd_T51 xs i).f2 := by
  obtain ⟨ad, c, e, _, hK, hc0⟩ := Kd.C_get h z51 i h0 h1
  have hc : ∀ j u, c[j]? = some u → w.cell? (ad.add (i.toNat * 3 + j)) = some u := hc0
  obtain ⟨A2, c2, rfl, l2, g2⟩ := k51_open hK
  exact ⟨ad, A2, c2, e, hc 0 _ rfl, by rw [← add_field _ _ 1 (by omega)]; exact hc 1 _ rfl, by rw [← add_field _ _ 2 (by omega)]; exact hc 2 _ rfl, l2, g2⟩



theorem bq {B : Nat} {w w' : World} (h : Below B w w' := by repeat (first | (with_reducible first | exact HB.out | apply below_alloc | apply pw_below_drewN | apply below_drew1 | refine below_set ?_ (Aside0.out (by assumption))) | exact HB.out)) : Below B w w' := h
theorem hkq {P : Prop} (h : P := by repeat (first | (with_reducible first | exact HK.out | apply Kept.alloc | apply Kept.drewN | apply Kept.drew) | exact HK.out)) : P := h
theorem rq {P Q : Prop} (H : Aside0 P) (h : P → Q := by intro h_; (with_reducible repeat (first | apply Kd.R_alloc | apply Kd.R_drewN | apply Kd.R_drew)); exact h_) : Q := h H.out
theorem zq {P Q : Prop} (H : Aside0 P) (h : P → Q := by intro h_; (with_reducible repeat (first | refine blk_drewN ?_ _ | refine blk_drew ?_ | refine blk_alloc ?_ _)); exact h_) : Q := h H.out
theorem cq {P Q : Prop} (H : P) (h : P → Q := by intro h_; repeat (first | exact h_ | (with_reducible refine Kd.C_alloc ?_ _) | (with_reducible refine Kd.C_drewN ?_ _) | (with_reducible refine Kd.C_drew ?_))) : Q := h H
theorem gq {B : Nat} {w w' : World} {g : Nat} (hg : g = w'.heap.size) (h : Below B w w' := by repeat (first | (with_reducible first | exact HB.out | apply below_alloc | apply pw_below_drewN | apply below_drew1 | refine below_set ?_ (Aside0.out (by assumption))) | exact HB.out)) (hB : B = w.heap.size := by rfl) : B ≤ g := by subst hB; subst hg; exact below_size h
theorem eq_ {P : Prop} (h : P := by first | rfl | (simp [errW_none, errW_some] <;> rfl) | (simp [*, errW_none, errW_some] <;> rfl)) : P := h
theorem sq {P : Prop} (h : P := by first | rfl | (simp; done) | (simp [*]; done)) : P := h
theorem aq {P : Prop} (h : P := by first | (with_reducible assumption) | assumption) : P := h
theorem mq {P : Prop} (h : P := by (try simp only [List.map_toArray, List.map_cons, List.map_nil]); first | done | rfl | (simp only [List.length_drop, List.length_take]; rfl)) : P := h
theorem bindq {α β : Type} {o : Option α} {f : α → Option β} {r : β} (h : o.bind f = some r) : ∃ a, Aside0 (o = some a) ∧ f a = some r := by
  obtain ⟨a, h1, h2⟩ := Option.bind_eq_some_iff.mp h
  exact ⟨a, ⟨h1⟩, h2⟩
theorem rb {α : Type} {d : Kd α} {e base : Nat} {ok : Nat → Prop} {W W' w' : World} {v : Value} {xs : List α} (H : Aside0 (Kd.R d e W base ok v xs)) (hb : Below W'.heap.size W' w') (h : Kd.R d e W base ok v xs → Kd.R d e W' base ok v xs := by intro h_; (with_reducible repeat (first | apply Kd.R_alloc | apply Kd.R_drewN | apply Kd.R_drew)); exact h_) : Aside0 (Kd.R d e w' base ok v xs) := ⟨Kd.R_below (h H.out) hb⟩
theorem sb {w W w' : World} (hb : Below W.heap.size W w') (h : Below w.heap.size w W := by repeat (first | (with_reducible first | exact HB.out | apply below_alloc | apply pw_below_drewN | apply below_drew1 | refine below_set ?_ (Aside0.out (by assumption))) | exact HB.out)) : Aside0 (Below w.heap.size w w') := ⟨below_step h hb⟩
theorem rl {α : Type} {d : Kd α} {e : Nat} {ok : Nat → Prop} {w W W' : World} {v : Value} {xs : List α} (ho : Kd.R d e W' W.heap.size ok v xs) (h : Below w.heap.size w W := by repeat (first | (with_reducible first | exact HB.out | apply below_alloc | apply pw_below_drewN | apply below_drew1 | refine below_set ?_ (Aside0.out (by assumption))) | exact HB.out)) : Aside0 (Kd.R d e W' w.heap.size ok v xs) := ⟨Kd.R_lower ho (below_size h)⟩
theorem nl {W W' : World} {g g' : Nat} {o : Obj} (hg : g' = W'.heap.size) (H : Aside0 (W.heap[g]? = some o)) (h : W.heap[g]? = some o → W'.heap[g]? = some o := by intro h_; (with_reducible repeat (first | refine blk_drewN ?_ _ | refine blk_drew ?_ | refine blk_alloc ?_ _)); exact h_) : Aside0 (g ≠ g') := ⟨by rw [hg]; exact Nat.ne_of_lt (blk_lt (h H.out))⟩
theorem ng {W W' : World} {g g' : Nat} {o : Obj} (hg : g' = W'.heap.size) (H : Aside0 (W.heap[g]? = some o)) (h : W.heap[g]? = some o → W'.heap[g]? = some o := by intro h_; (with_reducible repeat (first | refine blk_drewN ?_ _ | refine blk_drew ?_ | refine blk_alloc ?_ _)); exact h_) : Aside0 (g' ≠ g) := ⟨by rw [hg]; exact Nat.ne_of_gt (blk_lt (h H.out))⟩
theorem rq1 {α : Type} {d : Kd α} {e base : Nat} {ok : Nat → Prop} {W : World} {A : Option Addr} {n c : Nat} {xs : List α} (H : Aside0 (Kd.R d e W base ok (.slice A n c) xs)) : n ≤ c := (Kd.R_reads' H.out).2.1
theorem cr {α : Type} {d : Kd α} {e base : Nat} {ok : Nat → Prop} {W : World} {A : Option Addr} {n c : Nat} {xs : List α} {Q : Prop} (H : Aside0 (Kd.R d e W base ok (.slice A n c) xs)) (h : Kd.C d W A xs.length xs → Q := by intro h_; repeat (first | exact h_ | (with_reducible refine Kd.C_alloc ?_ _) | (with_reducible refine Kd.C_drewN ?_ _) | (with_reducible refine Kd.C_drew ?_))) : Q := h (Kd.R_reads' H.out).2.2
theorem ff {α : Type} {d : Kd α} {e base t g : Nat} {ok : Nat → Prop} {W W' : World} {v : Value} {xs : List α} {cs : Array Value} (H : Aside0 (Kd.R d e W base ok v xs)) (B : Aside0 (W.heap[g]? = some (.cells cs t (0, 0)))) (hne : ∀ q, q ∈ e :: d.E → q ≠ t := by decide) (h : Kd.R d e W base (fun k => ok k ∧ k ≠ g) v xs → Kd.R d e W' base (fun k => ok k ∧ k ≠ g) v xs := by intro h_; (repeat (first | (with_reducible exact h_) | (with_reducible first | apply Kd.R_alloc | apply Kd.R_drewN | apply Kd.R_drew) | (with_reducible refine Kd.R_far ?_ (fun _ hk => hk.2) _))); all_goals exact h_) : Kd.R d e W' base (fun k => ok k ∧ k ≠ g) v xs := h (Kd.R_types H.out B.out hne)
theorem fq {α : Type} {d : Kd α} {e base t g : Nat} {ok : Nat → Prop} {W W' : World} {v : Value} {xs : List α} {cs : Array Value} (H : Aside0 (Kd.R d e W base ok v xs)) (B : Aside0 (W.heap[g]? = some (.cells cs t (0, 0)))) (hne : ∀ q, q ∈ e :: d.E → q ≠ t := by decide) (h : Kd.R d e W base (fun k => ok k ∧ k ≠ g) v xs → Kd.R d e W' base (fun k => ok k ∧ k ≠ g) v xs := by intro h_; (repeat (first | (with_reducible exact h_) | (with_reducible first | apply Kd.R_alloc | apply Kd.R_drewN | apply Kd.R_drew) | (with_reducible refine Kd.R_far ?_ (fun _ hk => hk.2) _))); all_goals exact h_) : Kd.R d e W' base ok v xs := Kd.R_mono (h (Kd.R_types H.out B.out hne)) (fun _ h_ => h_.1)
theorem zp {P Q : Prop} (H : Aside0 P) (h : P → Q := by intro h_; (repeat (first | (with_reducible exact h_) | (with_reducible first | refine blk_drewN ?_ _ | refine blk_drew ?_ | refine blk_alloc ?_ _) | (with_reducible refine (Below.heap_setCell _ _ _ _ (Aside0.out (by assumption))).trans ?_) | (with_reducible apply blk_put))); all_goals (first | rfl | exact h_)) : Q := h H.out
theorem rm {α : Type} {d : Kd α} {e base : Nat} {ok ok' : Nat → Prop} {W W' : World} {v : Value} {xs : List α} (H : Aside0 (Kd.R d e W base ok v xs)) (hok : ∀ k, ok k → ok' k := by intro _ hk; first | exact trivial | exact hk | simp only [hk, ne_eq, not_false_eq_true, and_self]) (h : Kd.R d e W base ok' v xs → Kd.R d e W' base ok' v xs := by intro h_; (with_reducible repeat (first | apply Kd.R_alloc | apply Kd.R_drewN | apply Kd.R_drew)); exact h_) : Kd.R d e W' base ok' v xs := h (Kd.R_mono H.out hok)
theorem am {p : Prop} (h : p) : Aside0 p := ⟨h⟩
theorem lw {α : Type} {d : Kd α} {e base : Nat} {ok : Nat → Prop} {W W' : World} {v : Value} {xs : List α} (H : Aside0 (Kd.R d e W base ok v xs)) (h : Kd.R d e W base ok v xs → Kd.R d e W' base ok v xs := by intro h_; (with_reducible repeat (first | apply Kd.R_alloc | apply Kd.R_drewN | apply Kd.R_drew)); exact h_) : ∀ k, v.ownBlock = some k → k < W'.heap.size := Kd.R_lt (h H.out)
theorem goesQ {P : Program} {ops : Array Oper} {Q : Exit → Act → World → Prop} {rest : List Oper} {oi : Oper} {a : Act} {w : World} (N : Option Tmp) {f : FuncId} {fn : Func} (hf : P.funcs[f]? = some fn) (args : Array Value) (h : Calls P f args w fun e w' => ∃ v, e = .returned v ∧ wpList P ops Q rest (a.put N v) w') {ar_ : Array Operand} {ts : Array TypeId} (hd : oi.dst = N := by exact rfl) (hg : oi.guard = none := by exact rfl) (hname : (fn.name == "runtime.NumGoroutine") = false := by kernel_rfl) (hb : fn.body.isSome = true := by exact rfl) (hop : oi.op = .call { callee := .value (.func f), args := ar_, argTypes := ts } := by exact rfl) (hargs : ar_.map a.eval = args := by (try simp only [List.map_toArray, List.map_cons, List.map_nil]); first | done | rfl | (simp only [List.length_drop, List.length_take]; rfl)) : wpList P ops Q (oi :: rest) a w := goesL_ N hd hg hf hname hb args hop hargs h
theorem zb {W W' w' : World} {g : Nat} {o : Obj} (H : Aside0 (W.heap[g]? = some o)) (hb : Below W'.heap.size W' w') (h : W.heap[g]? = some o → W'.heap[g]? = some o := by intro h_; (with_reducible repeat (first | refine blk_drewN ?_ _ | refine blk_drew ?_ | refine blk_alloc ?_ _)); exact h_) : Aside0 (w'.heap[g]? = some o) := ⟨blk_below (h H.out) hb⟩
abbrev I : Bool := true
abbrev O : Bool := false
theorem pu_ {P : Program} {md : Region.Mode} {ops : Array Oper} {Q : Exit → Act → World → Prop} {S : World → Prop} {ds : List Nat} {oi : Oper} {fuel : Nat} {l : Array Bool} {a : Act} {w : World} (i : Nat) (N : Option Tmp) (v : Value) (l' : Array Bool) (hi : ops[i]? = some oi) (hN : oi.dst = N) (hc : anyB md ops l l' i = true) (hy : Yields P ops oi v a) (a' : Act) (ha : a.put N v = a') (h : wpAnyLast P md ops Q S ds fuel l' a' w) (hQ : ∀ c a w, Q (.panic c) (a.put oi.dst v) w → Q (.panic c) a w := by exact fun _ _ _ h => h) : wpAnyLast P md ops Q S ds (fuel + 1) l a w := pure_ l' hi hN hc hQ hy ha h
theorem tk_ {P : Program} {md : Region.Mode} {ops : Array Oper} {Q : Exit → Act → World → Prop} {S : World → Prop} {ds : List Nat} {oi : Oper} {fuel : Nat} {l : Array Bool} {a : Act} {w : World} (i : Nat) (N : Option Tmp) (v : Value) (l' : Array Bool) (hi : ops[i]? = some oi) (hN : oi.dst = N) (hc : takeB md ops ds l l' i = true) (hy : YieldsIf P ops S oi v a) (hS : S w) (a' : Act) (ha : a.put N v = a') (h : wpAnyLast P md ops Q S ds fuel l' a' w) (hQ : ∀ c a w, Q (.panic c) (a.put oi.dst v) w → Q (.panic c) a w := by exact fun _ _ _ h => h) : wpAnyLast P md ops Q S ds (fuel + 1) l a w := take_ l' hi hN hc hQ hy hS ha h
theorem zw {W W' w' : World} {g : Nat} {o : Obj} (o' : Obj) (H : Aside0 (W.heap[g]? = some o)) (hb : Below W'.heap.size W' w') (h : W.heap[g]? = some o → W'.heap[g]? = some o' := by intro h_; (repeat (first | (with_reducible exact h_) | (with_reducible first | refine blk_drewN ?_ _ | refine blk_drew ?_ | refine blk_alloc ?_ _) | (with_reducible refine (Below.heap_setCell _ _ _ _ (Aside0.out (by assumption))).trans ?_) | (with_reducible apply blk_put))); all_goals (first | rfl | exact h_)) : Aside0 (w'.heap[g]? = some o') := ⟨blk_below (h H.out) hb⟩
theorem zg {W W' w' : World} {g : Nat} {o : Obj} {row : Option Nat} (H : Aside0 (W.heap[g]? = some o)) (hg : W'.grownBy w' row) (hne : some g ≠ row) (h : W.heap[g]? = some o → W'.heap[g]? = some o := by intro h_; (with_reducible repeat (first | refine blk_drewN ?_ _ | refine blk_drew ?_ | refine blk_alloc ?_ _)); exact h_) : Aside0 (w'.heap[g]? = some o) := ⟨blk_grown (h H.out) hg hne⟩
theorem nn {W W' : World} {g g' : Nat} {o : Obj} (hg : g' = W'.heap.size) (H : Aside0 (W.heap[g]? = some o)) (h : W.heap[g]? = some o → W'.heap[g]? = some o := by intro h_; (with_reducible repeat (first | refine blk_drewN ?_ _ | refine blk_drew ?_ | refine blk_alloc ?_ _)); exact h_) : Aside0 (g ≠ g') ∧ Aside0 (g' ≠ g) := ⟨nl hg H h, ng hg H h⟩
theorem yq {P Q : Prop} {α : Type} {y t : α} (e : y = t) (H : P) (h : P → y = t → Q := by intro H hy; first | (rw [hy]; with_reducible exact H) | (have H2_ := (Option.bind_some _ _).symm.trans H; rw [hy]; with_reducible exact H2_) | (have H2_ := (Option.bind_some _ _).symm.trans H; with_reducible exact H2_) | with_reducible exact H | (rw [hy]; exact H) | exact H) : Q := h H e
theorem pw : (∀ (a : Act) (d : Tmp) (v : Value), a.put (some d) v = ⟨a.tmps.setIfInBounds d v, a.defers⟩) ∧ (∀ (a : Act) (v : Value), a.put none v = a) ∧ (∀ (l : List Value) (i : Nat) (a : Value), l.toArray.setIfInBounds i a = (l.set i a).toArray) ∧ (∀ (x : Value) (xs : List Value) (a : Value), (x :: xs).set 0 a = a :: xs) ∧ (∀ (x : Value) (xs : List Value) (i : Nat) (a : Value), (x :: xs).set (i + 1) a = x :: xs.set i a) ∧ (∀ n : Int, IntKind.i64.wrap n = Go.RowKit.wrap64 n) ∧ (∀ n : Int, IntKind.i32.wrap n = Go.RowKit.wrap32 n) := ⟨fun _ _ _ => rfl, fun _ _ => rfl, fun _ _ _ => List.setIfInBounds_toArray _ _ _, fun _ _ _ => rfl, fun _ _ _ _ => rfl, i64_w, i32_w⟩
theorem bc2 {w : World} {g t : Nat} {a0 a1 : Value} (h : Aside0 (w.heap[g]? = some (.cells #[a0, a1] t (0, 0)))) : w.cell? ⟨g, 0, none⟩ = some a0 ∧ w.cell? ⟨g, 1, none⟩ = some a1 ∧ w.frozen? ⟨g, 0, none⟩ = false ∧ w.frozen? ⟨g, 1, none⟩ = false := ⟨(blk_cell h.out 0).trans rfl, (blk_cell h.out 1).trans rfl, blk_frozen h.out 0, blk_frozen h.out 1⟩
theorem bc3 {w : World} {g t : Nat} {a0 a1 a2 : Value} (h : Aside0 (w.heap[g]? = some (.cells #[a0, a1, a2] t (0, 0)))) : w.cell? ⟨g, 0, none⟩ = some a0 ∧ w.cell? ⟨g, 1, none⟩ = some a1 ∧ w.cell? ⟨g, 2, none⟩ = some a2 ∧ w.frozen? ⟨g, 0, none⟩ = false ∧ w.frozen? ⟨g, 1, none⟩ = false ∧ w.frozen? ⟨g, 2, none⟩ = false := ⟨(blk_cell h.out 0).trans rfl, (blk_cell h.out 1).trans rfl, (blk_cell h.out 2).trans rfl, blk_frozen h.out 0, blk_frozen h.out 1, blk_frozen h.out 2⟩

def laws_szCellS.f (l0 : List (S77)) (a1 : Int) : Option (Int) := if (wrap64 (a1 - (l0.length : Int))) < 0 then (some (-1)) else (some (wrap64 (a1 - (l0.length : Int))))
theorem laws_szCellS.calls (A0 : Option Addr) (c0 : Nat) (l0 : List (S77)) (a1 : Int) (r : Int) (w : World) (hr0 : Kd.C k77 w A0 l0.length l0) (hc0 : l0.length ≤ c0) (h : laws_szCellS.f l0 a1 = some r) :
  Calls Try.prog 46 #[.slice A0 l0.length c0, .int .i64 a1] w fun e w' => e = .returned (.int .i64 r) ∧ Drawn0 w w' := by
 have HR0 := am hr0; have HC0 := am hc0; clear hr0 hc0; have H := h; clear h
 unfold laws_szCellS.f at H
 by_cases c3 : (wrap64 (a1 - (l0.length : Int))) < 0
 ·rw [if_pos c3] at H; have c3b0 : decide ((wrap64 (a1 - (l0.length : Int))) < 0) = true := decide_eq_true c3; clear c3; obtain rfl := Option.some.inj H
  go_enter Try.func46, Try.ntmps46
  go_wp2
  go_ret
  exact ⟨sq, by repeat (first | exact Drawn0.refl _ | apply Drawn0.step)⟩
 rw [if_neg c3] at H; have c3b0 : decide ((wrap64 (a1 - (l0.length : Int))) < 0) = false := decide_eq_false c3; clear c3; obtain rfl := Option.some.inj H
 go_enter Try.func46, Try.ntmps46
 go_wp2
 go_ret
 exact ⟨sq, by repeat (first | exact Drawn0.refl _ | apply Drawn0.step)⟩


def laws_szBoard.f (a0_0 : Int) (a0_1 : Int) (l0_2 : List (S77)) (a1 : Int) : Option (Int) := (laws_szCellS.f l0_2 a1).bind fun t102 => (if t102 < 0 then (some (-1)) else (some t102))
theorem laws_szBoard.calls (a0_0 : Int) (a0_1 : Int) (A0_2 : Option Addr) (c0_2 : Nat) (l0_2 : List (S77)) (a1 : Int) (r : Int) (w : World) (hr0_2 : Kd.C k77 w A0_2 l0_2.length l0_2) (hc0_2 : l0_2.length ≤ c0_2) (h : laws_szBoard.f a0_0 a0_1 l0_2 a1 = some r) :
  Calls Try.prog 27 #[.agg #[.int .i64 a0_0, .int .i64 a0_1, .slice A0_2 l0_2.length c0_2], .int .i64 a1] w fun e w' => e = .returned (.int .i64 r) ∧ Below w.heap.size w w' := by
 have hu47 := Try.underlying47; have HR0_2 := am hr0_2; have HC0_2 := am hc0_2; clear hr0_2 hc0_2; have HB := am (Below.refl w.heap.size w); have H := h; clear h
 unfold laws_szBoard.f at H
 obtain ⟨t102, A3, H⟩ := bindq H; try dsimp only at H
 by_cases c4 : t102 < 0
 ·rw [if_pos c4] at H; have c4b0 : decide (t102 < 0) = true := decide_eq_true c4; clear c4; obtain rfl := Option.some.inj H
  go_enter Try.func27, Try.ntmps27
  go_wp2_with (first | ((with_reducible refine gate_dst (N := 2) rfl ?_); refine box_event ?hg (N := 2) ?hd (cs := #[.int .i64 a0_0, .int .i64 a0_1, .slice A0_2 l0_2.length c0_2]) (t := 47) ?hr ?_; (case hd | hg => rfl); (case hr => go_simp; try rfl); intro gb101 hg w5 hbox hb; have BK101 := am (hbox); have GW101 := am (gq hg); have GE101 := am (gq hg); replace HB := sb hb; clear hb hbox hg; have ⟨b60, b61, b62, d60, d61, d62⟩ := bc3 BK101) | ((with_reducible refine gate_callee (f := 46) rfl ?_); refine goesQ (some 8) Try.func46 #[.slice A0_2 l0_2.length c0_2, .int .i64 a1] ?_; (with_reducible refine (laws_szCellS.calls _ _ l0_2 a1 t102 _ ?s1 ?s2 A3.out).mono ?_); (case s1 => exact cq (Kd.C_below HR0_2.out HB.out)); (case s2 => exact HC0_2.out); rintro e w' ⟨rfl, ⟨nd, rfl⟩⟩; refine ⟨_, rfl, ?_⟩))
  go_ret
  exact ⟨eq_, bq⟩
 rw [if_neg c4] at H; have c4b0 : decide (t102 < 0) = false := decide_eq_false c4; clear c4; obtain rfl := Option.some.inj H
 go_enter Try.func27, Try.ntmps27
 go_wp2_with (first | ((with_reducible refine gate_dst (N := 2) rfl ?_); refine box_event ?hg (N := 2) ?hd (cs := #[.int .i64 a0_0, .int .i64 a0_1, .slice A0_2 l0_2.length c0_2]) (t := 47) ?hr ?_; (case hd | hg => rfl); (case hr => go_simp; try rfl); intro gb101 hg w7 hbox hb; have BK101 := am (hbox); have GW101 := am (gq hg); have GE101 := am (gq hg); replace HB := sb hb; clear hb hbox hg; have ⟨b80, b81, b82, d80, d81, d82⟩ := bc3 BK101) | ((with_reducible refine gate_callee (f := 46) rfl ?_); refine goesQ (some 8) Try.func46 #[.slice A0_2 l0_2.length c0_2, .int .i64 a1] ?_; (with_reducible refine (laws_szCellS.calls _ _ l0_2 a1 t102 _ ?s1 ?s2 A3.out).mono ?_); (case s1 => exact cq (Kd.C_below HR0_2.out HB.out)); (case s2 => exact HC0_2.out); rintro e w' ⟨rfl, ⟨nd, rfl⟩⟩; refine ⟨_, rfl, ?_⟩))
 go_ret
 exact ⟨eq_, bq⟩


def laws_szBoardS.l0 : Nat → List (S47) → Int → Int → Option (Int)
 | 0, _, _, _ => none
 | k + 1, x0, x1, x5 => if x5 < (x0.length : Int) then (if 0 ≤ x5 then ((laws_szBoard.f ((rd_T47 x0 x5).f0) ((rd_T47 x0 x5).f1) ((rd_T47 x0 x5).f2) x1).bind fun t104 => (if t104 < 0 then (some (-1)) else (laws_szBoardS.l0 k x0 t104 (wrap64 (x5 + 1))))) else (none)) else (some x1)
def laws_szBoardS.f (k : Nat) (l0 : List (S47)) (a1 : Int) : Option (Int) := if (wrap64 (a1 - (l0.length : Int))) < 0 then (some (-1)) else (laws_szBoardS.l0 k l0 (wrap64 (a1 - (l0.length : Int))) 0)
theorem laws_szBoardS.calls (k : Nat) (A0 : Option Addr) (c0 : Nat) (l0 : List (S47)) (a1 : Int) (r : Int) (w : World) (hr0 : Kd.C k47 w A0 l0.length l0) (hc0 : l0.length ≤ c0) (h : laws_szBoardS.f k l0 a1 = some r) :
  Calls Try.prog 7 #[.slice A0 l0.length c0, .int .i64 a1] w fun e w' => e = .returned (.int .i64 r) ∧ Below w.heap.size w w' := by
 have hu47 := Try.underlying47; have HR0 := am hr0; have HC0 := am hc0; clear hr0 hc0; have HB := am (Below.refl w.heap.size w); have H := h; clear h
 unfold laws_szBoardS.f at H
 by_cases c3 : (wrap64 (a1 - (l0.length : Int))) < 0
 ·rw [if_pos c3] at H; have c3b0 : decide ((wrap64 (a1 - (l0.length : Int))) < 0) = true := decide_eq_true c3; clear c3; obtain rfl := Option.some.inj H
  go_enter Try.func7, Try.ntmps7
  go_wp2
  go_ret
  exact ⟨eq_, bq⟩
 rw [if_neg c3] at H; have c3b0 : decide ((wrap64 (a1 - (l0.length : Int))) < 0) = false := decide_eq_false c3; clear c3; have H' := am H; clear H
 go_enter Try.func7, Try.ntmps7
 go_wp2
 go_loopg [1, 5] k (fun kq v1 v5 w' => ∃ (x1_1 : Int) (x5_1 : Int), v1 = .int .i64 x1_1 ∧ v5 = .int .i64 x5_1 ∧ Aside0 (laws_szBoardS.l0 kq l0 x1_1 x5_1 = some r) ∧ Aside0 (kq ≤ k) ∧ Aside0 (Below w.heap.size w w'))
 case atStart => exact ⟨(wrap64 (a1 - (l0.length : Int))), (0), sq, sq, H', ⟨Nat.le_refl _⟩, ⟨bq⟩⟩
 case round =>
  clear H'; try clear c3b0
  obtain ⟨x1_1, x5_1, rfl, rfl, HA, HK1, HB⟩ := hrel
  cases gk with
  | zero => exact absurd HA.out (by simp [laws_szBoardS.l0])
  | succ k1 =>
   have H := HA.out; clear HA; simp only [laws_szBoardS.l0] at H; by_cases c4 : x5_1 < (l0.length : Int)
   ·rw [if_pos c4] at H; have c4b0 : decide (x5_1 < (l0.length : Int)) = true := decide_eq_true c4; clear c4; by_cases c5 : 0 ≤ x5_1
    ·rw [if_pos c5] at H; have c5b0 : decide (0 ≤ x5_1) = true := decide_eq_true c5; clear c5; obtain ⟨t104, A6, H⟩ := bindq H; try dsimp only at H
     by_cases c7 : t104 < 0
     ·rw [if_pos c7] at H; have c7b0 : decide (t104 < 0) = true := decide_eq_true c7; clear c7; obtain rfl := Option.some.inj H; have p103 : 0 ≤ (x5_1 : Int) := of_decide_eq_true aq; have q103 : x5_1 < (l0.length : Int) := of_decide_eq_true aq; obtain ⟨ad103, A103_2, c103_2, e103, hx103_0, hx103_1, hx103_2, hl103_2, hi103_2⟩ := at_T47 HR0.out x5_1 p103 q103
      cases e103
      replace hx103_0 := (HB.out.cell (World.block_lt_of_cell? w _ hx103_0)).trans hx103_0; replace hx103_1 := (HB.out.cell (World.block_lt_of_cell? w _ hx103_1)).trans hx103_1; replace hx103_2 := (HB.out.cell (World.block_lt_of_cell? w _ hx103_2)).trans hx103_2; have HR103_2 := am hi103_2; have HC103_2 := am hl103_2; clear hi103_2 hl103_2; replace p103 := eq_true p103; replace q103 := eq_true q103; go_wp2_with (first | ((with_reducible refine gate_callee (f := 27) rfl ?_); refine goesQ (some 23) Try.func27 #[.agg #[.int .i64 ((rd_T47 l0 x5_1).f0), .int .i64 ((rd_T47 l0 x5_1).f1), .slice A103_2 ((rd_T47 l0 x5_1).f2).length c103_2], .int .i64 x1_1] ?_; (with_reducible refine (laws_szBoard.calls ((rd_T47 l0 x5_1).f0) ((rd_T47 l0 x5_1).f1) _ _ ((rd_T47 l0 x5_1).f2) x1_1 t104 _ ?s1 ?s2 A6.out).mono ?_); (case s1 => exact cq (Kd.C_below HR103_2.out HB.out)); (case s2 => exact HC103_2.out); rintro e w8 ⟨rfl, hb⟩; refine ⟨_, rfl, ?_⟩; have n0_ := sb hb; clear HB; have HB := n0_; clear n0_; (try clear hb)))
      go_ret
      exact ⟨eq_, bq⟩
     rw [if_neg c7] at H; have c7b0 : decide (t104 < 0) = false := decide_eq_false c7; clear c7; have H' := am H; clear H; have p103 : 0 ≤ (x5_1 : Int) := of_decide_eq_true aq; have q103 : x5_1 < (l0.length : Int) := of_decide_eq_true aq; obtain ⟨ad103, A103_2, c103_2, e103, hx103_0, hx103_1, hx103_2, hl103_2, hi103_2⟩ := at_T47 HR0.out x5_1 p103 q103
     cases e103
     replace hx103_0 := (HB.out.cell (World.block_lt_of_cell? w _ hx103_0)).trans hx103_0; replace hx103_1 := (HB.out.cell (World.block_lt_of_cell? w _ hx103_1)).trans hx103_1; replace hx103_2 := (HB.out.cell (World.block_lt_of_cell? w _ hx103_2)).trans hx103_2; have HR103_2 := am hi103_2; have HC103_2 := am hl103_2; clear hi103_2 hl103_2; replace p103 := eq_true p103; replace q103 := eq_true q103; go_wp2_with (first | ((with_reducible refine gate_callee (f := 27) rfl ?_); refine goesQ (some 23) Try.func27 #[.agg #[.int .i64 ((rd_T47 l0 x5_1).f0), .int .i64 ((rd_T47 l0 x5_1).f1), .slice A103_2 ((rd_T47 l0 x5_1).f2).length c103_2], .int .i64 x1_1] ?_; (with_reducible refine (laws_szBoard.calls ((rd_T47 l0 x5_1).f0) ((rd_T47 l0 x5_1).f1) _ _ ((rd_T47 l0 x5_1).f2) x1_1 t104 _ ?s1 ?s2 A6.out).mono ?_); (case s1 => exact cq (Kd.C_below HR103_2.out HB.out)); (case s2 => exact HC103_2.out); rintro e w9 ⟨rfl, hb⟩; refine ⟨_, rfl, ?_⟩; have n0_ := sb hb; clear HB; have HB := n0_; clear n0_; (try clear hb)))
     go_roundg k1
     case measure => have := HK1.out; omega
     case rel => exact ⟨(t104), (wrap64 (x5_1 + 1)), sq, sq, H', ⟨by have := HK1.out; omega⟩, ⟨bq⟩⟩
    rw [if_neg c5] at H; exact absurd H (by simp)
   rw [if_neg c4] at H; have c4b0 : decide (x5_1 < (l0.length : Int)) = false := decide_eq_false c4; clear c4; obtain rfl := Option.some.inj H
   go_wp2
   go_ret
   exact ⟨eq_, bq⟩


def laws_toCell.f (a0_0 : Int) (a0_1 : Int) : Option (Int × Int) := some (a0_0, a0_1)
theorem laws_toCell.calls (a0_0 : Int) (a0_1 : Int) (r1 : Int) (r2 : Int) (w : World) (h : laws_toCell.f a0_0 a0_1 = some (r1, r2)) :
  Calls Try.prog 60 #[.agg #[.int .i64 a0_0, .int .i64 a0_1]] w fun e w' => e = .returned (.agg #[.int .i64 r1, .int .i64 r2]) ∧ Below w.heap.size w w' := by
 have hu77 := Try.underlying77; have hu71 := Try.underlying71; have HB := am (Below.refl w.heap.size w); have H := h; clear h
 unfold laws_toCell.f at H
 simp only [Option.some.injEq, Prod.mk.injEq] at H; obtain ⟨rfl, rfl⟩ := H
 go_enter Try.func60, Try.ntmps60
 go_wp2_with (first | ((with_reducible refine gate_dst (N := 1) rfl ?_); refine box_event ?hg (N := 1) ?hd (cs := #[.int .i64 a0_0, .int .i64 a0_1]) (t := 77) ?hr ?_; (case hd | hg => rfl); (case hr => go_simp; try rfl); intro gb146 hg w2 hbox hb; have BK146 := am (hbox); have GW146 := am (gq hg); have GE146 := am (gq hg); replace HB := sb hb; clear hb hbox hg) | ((with_reducible refine gate_dst (N := 2) rfl ?_); refine box_event ?hg (N := 2) ?hd (cs := #[.int .i64 0, .int .i64 0]) (t := 71) ?hr ?_; (case hd | hg => rfl); (case hr => go_simp; try rfl); intro gb147 hg w3 hbox hb; have BK147 := am (hbox); have GW147 := am (gq hg); have GE147 := am (gq hg); replace HB := sb hb; have ⟨NB146_147, NB147_146⟩ := nn hg BK146; replace BK146 := zb BK146 hb; clear hb hbox hg) | ((with_reducible refine gate_dst (N := 3) rfl ?_); refine box_event ?hg (N := 3) ?hd (cs := #[.int .i64 0, .int .i64 0]) (t := 71) ?hr ?_; (case hd | hg => rfl); (case hr => go_simp; try rfl); intro gb148 hg w4 hbox hb; have BK148 := am (hbox); have GW148 := am (gq hg); have GE148 := am (gq hg); replace HB := sb hb; have ⟨NB146_148, NB148_146⟩ := nn hg BK146; replace BK146 := zb BK146 hb; have ⟨NB147_148, NB148_147⟩ := nn hg BK147; replace BK147 := zb BK147 hb; clear hb hbox hg; have hnb5 := NB146_147.out; have hnc5 := NB147_146.out; have hnb6 := NB146_148.out; have hnc6 := NB148_146.out; have ⟨b70, b71, d70, d71⟩ := bc2 BK146; have hnb8 := NB148_147.out; have hnc8 := NB147_148.out; have ⟨b90, b91, d90, d91⟩ := bc2 BK148; have ⟨b100, b101, d100, d101⟩ := bc2 BK147))
 refine bodyPost_ret (results_cell_row rfl _ _ gb147 71 #[.int .i64 a0_0, .int .i64 a0_1] (0, 0) _ rfl (zp BK147) Try.underlying71 rfl (by kernel_rfl)) rfl ?_; exact ⟨eq_, bq⟩


def laws_toCellS.l0 : Nat → List (S77) → List (S71) → Int → Option ((List (S71)))
 | 0, _, _, _ => none
 | k + 1, x0, x3, x4 => if x4 < (x0.length : Int) then (if 0 ≤ x4 then ((laws_toCell.f ((rd_T77 x0 x4).f0) ((rd_T77 x0 x4).f1)).bind fun bt153 => (if x4 < (x3.length : Int) then (laws_toCellS.l0 k x0 (x3.set (x4 : Int).toNat (⟨bt153.1, bt153.2⟩ : S71)) (wrap64 (x4 + 1))) else (none))) else (none)) else (some x3)
def laws_toCellS.f (k : Nat) (l0 : List (S77)) : Option ((List (S71))) := if 0 ≤ (l0.length : Int) then (if ((l0.length : Int) : Int).toNat ≤ 17592186044416 then (laws_toCellS.l0 k l0 (List.replicate ((l0.length : Int) : Int).toNat z71) 0) else (none)) else (none)
theorem laws_toCellS.calls (k : Nat) (A0 : Option Addr) (c0 : Nat) (l0 : List (S77)) (r : List (S71)) (w : World) (hr0 : Kd.C k77 w A0 l0.length l0) (hc0 : l0.length ≤ c0) (h : laws_toCellS.f k l0 = some r) :
  Calls Try.prog 50 #[.slice A0 l0.length c0] w fun e w' => ∃ v0_ : Value, e = .returned (v0_) ∧ Kd.R k71 71 w' w.heap.size (fun _ => True) v0_ r ∧ Below w.heap.size w w' := by
 have hu77 := Try.underlying77; have hu71 := Try.underlying71; have HR0 := am hr0; have HC0 := am hc0; clear hr0 hc0; have HB := am (Below.refl w.heap.size w); have H := h; clear h
 unfold laws_toCellS.f at H
 by_cases c2 : 0 ≤ (l0.length : Int)
 ·rw [if_pos c2] at H; have c2b0 := eq_true c2; have c2b1 : decide (0 ≤ (l0.length : Int)) = true := decide_eq_true c2; clear c2; by_cases c3 : ((l0.length : Int) : Int).toNat ≤ 17592186044416
  ·rw [if_pos c3] at H; have c3b0 := eq_true c3; have c3b1 : decide (((l0.length : Int) : Int).toNat ≤ 17592186044416) = true := decide_eq_true c3; clear c3; obtain ⟨y149, hy149⟩ : ∃ y_ : List (S71), y_ = (List.replicate ((l0.length : Int) : Int).toNat z71) := ⟨_, rfl⟩; replace H : (laws_toCellS.l0 k l0 y149 0) = some r := yq hy149 H; have Ny149 := am hy149; clear hy149; have H' := am H; clear H
   go_enter Try.func50, Try.ntmps50
   go_wp2_with (first | ((with_reducible refine gate_dst (N := 7) rfl ?_); refine Kd.R_make k71 _ 71 rfl (N := 7) rfl 49 _ _ rfl (l0.length : Int) rfl rfl Try.underlying49 (.agg #[(.int .i64 0), (.int .i64 0)]) 16 info71 rfl (by decide) (by omega) z71 (ok := fun _ => True) (okp := fun _ => True) (k71_mkM _ _ _ z71 ) (fun _ hk => hk) trivial (of_decide_eq_true aq) (Nat.le_trans (Nat.mul_le_mul_right _ (of_decide_eq_true aq : (l0.length : Int).toNat ≤ 17592186044416)) (by omega)) (Below.refl _ _) (Nat.le_refl _) ?_; intro v150 w4 ho5 hb hg_ hnew_; clear hg_ hnew_; (first | rw [← Ny149.out] at ho5 | (simp only [Int.reduceToNat] at ho5; rw [← Ny149.out] at ho5)); have HO151 := rl ho5; replace HB := sb hb; clear hb ho5))
   go_loopg [4] k (fun kq v4 w' => ∃ (x3_1 : List (S71)) (x4_1 : Int), v4 = .int .i64 x4_1 ∧ Aside0 (laws_toCellS.l0 kq l0 x3_1 x4_1 = some r) ∧ Aside0 (kq ≤ k) ∧ Aside0 (Kd.R k71 71 w' w.heap.size (fun _ => True) v150 x3_1) ∧ Aside0 (Below w.heap.size w w'))
   case atStart => exact ⟨(y149), (0), sq, H', ⟨Nat.le_refl _⟩, ⟨rq HO151⟩, ⟨bq⟩⟩
   case round =>
    clear H'; try clear c2b0
    try clear c2b1
    try clear c3b0
    try clear c3b1
    obtain ⟨x3_1, x4_1, rfl, HA, HK1, HO_3, HB⟩ := hrel
    cases gk with
    | zero => exact absurd HA.out (by simp [laws_toCellS.l0])
    | succ k1 =>
     have H := HA.out; clear HA; simp only [laws_toCellS.l0] at H; by_cases c6 : x4_1 < (l0.length : Int)
     ·rw [if_pos c6] at H; have c6b0 : decide (x4_1 < (l0.length : Int)) = true := decide_eq_true c6; clear c6; by_cases c7 : 0 ≤ x4_1
      ·rw [if_pos c7] at H; have c7b0 : decide (0 ≤ x4_1) = true := decide_eq_true c7; clear c7; obtain ⟨⟨t153, t154⟩, A8, H⟩ := bindq H; try dsimp only at H
       by_cases c9 : x4_1 < (x3_1.length : Int)
       ·rw [if_pos c9] at H; have c9b0 : decide (x4_1 < (x3_1.length : Int)) = true := decide_eq_true c9; clear c9; obtain ⟨y155, hy155⟩ : ∃ y_ : List (S71), y_ = (x3_1.set (x4_1 : Int).toNat (⟨t153, t154⟩ : S71)) := ⟨_, rfl⟩; replace H : (laws_toCellS.l0 k1 l0 y155 (wrap64 (x4_1 + 1))) = some r := yq hy155 H; have Ny155 := am hy155; clear hy155; have H' := am H; clear H; have p152 : 0 ≤ (x4_1 : Int) := of_decide_eq_true aq; have q152 : x4_1 < (l0.length : Int) := of_decide_eq_true aq; obtain ⟨ad152, e152, hx152_0, hx152_1⟩ := at_T77 HR0.out x4_1 p152 q152
        cases e152
        replace hx152_0 := (HB.out.cell (World.block_lt_of_cell? w _ hx152_0)).trans hx152_0; replace hx152_1 := (HB.out.cell (World.block_lt_of_cell? w _ hx152_1)).trans hx152_1; replace p152 := eq_true p152; replace q152 := eq_true q152; go_wp2_with (first | ((with_reducible refine gate_callee (f := 60) rfl ?_); refine goesQ (some 20) Try.func60 #[.agg #[.int .i64 ((rd_T77 l0 x4_1).f0), .int .i64 ((rd_T77 l0 x4_1).f1)]] ?_; (with_reducible refine (laws_toCell.calls ((rd_T77 l0 x4_1).f0) ((rd_T77 l0 x4_1).f1) t153 t154 _ A8.out).mono ?_); rintro e w11 ⟨rfl, hb⟩; refine ⟨_, rfl, ?_⟩; replace HO_3 := rb HO_3 hb; replace HB := sb hb; (try clear hb); have p10 : 0 ≤ (x4_1 : Int) := of_decide_eq_true aq; have q10 : (x4_1 : Int) < ((x3_1.length : Int) : Int) := of_decide_eq_true aq; obtain ⟨go10, co10, eo10, gb10, gl10, cl10, HG10⟩ := Kd.R_form HO_3.out (by omega); (first | cases eo10 | (injection eo10 with ea_ en_ ec_; (first | subst ea_ | (injection ea_ with ea_; subst ea_)); subst ec_; clear en_)); have GB10 := am gb10; have GG10 := am HG10; clear gb10 gl10 HG10; obtain ⟨ce10, hcl10, hM10, hcc10, hfr10⟩ := Kd.R_elem HO_3.out z71 (x4_1 : Int) p10 q10; obtain rfl := k71_openM hM10; have hx10_0 : w11.cell? ⟨go10, (x4_1 : Int).toNat * 2, none⟩ = some (.int .i64 ((rd_T71 x3_1 x4_1).f0)) := hcc10 0 _ rfl; have hx10_1 : w11.cell? ⟨go10, (x4_1 : Int).toNat * 2 + 1, none⟩ = some (.int .i64 ((rd_T71 x3_1 x4_1).f1)) := hcc10 1 _ rfl; have hf10_0 : w11.frozen? ⟨go10, (x4_1 : Int).toNat * 2, none⟩ = false := hfr10 0; have hf10_1 : w11.frozen? ⟨go10, (x4_1 : Int).toNat * 2 + 1, none⟩ = false := hfr10 1; skip; replace p10 := eq_true p10; replace q10 := eq_true q10; have HX12 := am (show Kd.R k71 71 w11 w.heap.size (fun _ => True) (.slice (some ⟨go10, 0, none⟩) x3_1.length co10) x3_1 from (rq HO_3)); obtain ⟨ce12, hcl12, hM12, hcc12, hfr12⟩ := Kd.R_elem HX12.out z71 (x4_1 : Int) (of_decide_eq_true aq) (by have h_ : (x4_1 : Int) < ((x3_1.length : Int) : Int) := of_decide_eq_true aq; first | exact h_ | (have e_ := (Kd.R_reads' HO_3.out).1; omega) | simpa using h_); obtain rfl := k71_openM hM12; have HP12 := Kd.R_seg HX12.out (x4_1 : Int) (of_decide_eq_true aq) (by have h_ : (x4_1 : Int) < ((x3_1.length : Int) : Int) := of_decide_eq_true aq; first | exact h_ | (have e_ := (Kd.R_reads' HO_3.out).1; omega) | simpa using h_) (seg := [.int .i64 t153, .int .i64 t154]) (j := 0) hcl12 hcc12 (show 2 ≤ 2 from by decide) (x' := (⟨t153, t154⟩ : S71)) (k71_mkM _ _ _ (⟨t153, t154⟩ : S71) ) (fun _ hk => hk); have hx12_0 := hcc12 0 _ rfl; (try simp only [show (k71).sz = 2 from rfl, Nat.mul_one, Nat.add_zero] at hx12_0); have hf12_0 := hfr12 0; (try simp only [show (k71).sz = 2 from rfl, Nat.mul_one, Nat.add_zero] at hf12_0); have hx12_1 := hcc12 1 _ rfl; (try simp only [show (k71).sz = 2 from rfl, Nat.mul_one, Nat.add_zero] at hx12_1); have hf12_1 := hfr12 1; (try simp only [show (k71).sz = 2 from rfl, Nat.mul_one, Nat.add_zero] at hf12_1); skip) | ((with_reducible refine gate_store (t := 71) (p := 21) rfl ?_); refine store_event (t := 71) (p := 21) (v := ?vo_w13) (w1 := ((w11.setCell ⟨go10, (x4_1 : Int).toNat * 2, none⟩ (.int .i64 t153)).setCell ⟨go10, (x4_1 : Int).toNat * 2 + 1, none⟩ (.int .i64 t154))) ?hg ?ho ?hn ?hr ?_; (case ho => rfl); (case hg => rfl); (case hn => rfl); (case hr => go_simp; try rfl); intro w13 hw; have hg : w11.grownBy w13 (some go10) := (by rw [hw]; exact HP12.2); have hp_ : Kd.R k71 71 w13 w.heap.size (fun _ => True) (.slice (some ⟨go10, 0, none⟩) x3_1.length co10) y155 := (by rw [hw, Ny155.out]; exact HP12.1); clear HP12; replace HO_3 := am (hp_); replace HB := am ((by rw [hw]; exact below_set (below_set (HB.out) GB10.out) GB10.out : Below w.heap.size w w13)); clear hg hw hp_))
        go_roundg k1
        case measure => have := HK1.out; omega
        case rel => exact ⟨(y155), (wrap64 (x4_1 + 1)), sq, H', ⟨by have := HK1.out; omega⟩, ⟨rq HO_3⟩, ⟨bq⟩⟩
       rw [if_neg c9] at H; exact absurd H (by simp)
      rw [if_neg c7] at H; exact absurd H (by simp)
     rw [if_neg c6] at H; have c6b0 : decide (x4_1 < (l0.length : Int)) = false := decide_eq_false c6; clear c6; obtain rfl := Option.some.inj H
     go_wp2
     go_ret
     exact ⟨_, eq_, rq HO_3, bq⟩
  rw [if_neg c3] at H; exact absurd H (by simp)
 rw [if_neg c2] at H; exact absurd H (by simp)


def laws_toBoard.f (k : Nat) (a0_0 : Int) (a0_1 : Int) (l0_2 : List (S77)) : Option (Int × Int × (List (S71))) := (laws_toCellS.f k l0_2).bind fun t159 => (some (a0_0, a0_1, t159))
theorem laws_toBoard.calls (k : Nat) (a0_0 : Int) (a0_1 : Int) (A0_2 : Option Addr) (c0_2 : Nat) (l0_2 : List (S77)) (r1 : Int) (r2 : Int) (r3 : List (S71)) (w : World) (hr0_2 : Kd.C k77 w A0_2 l0_2.length l0_2) (hc0_2 : l0_2.length ≤ c0_2) (h : laws_toBoard.f k a0_0 a0_1 l0_2 = some (r1, r2, r3)) :
  Calls Try.prog 30 #[.agg #[.int .i64 a0_0, .int .i64 a0_1, .slice A0_2 l0_2.length c0_2]] w fun e w' => ∃ v2_ : Value, e = .returned (.agg #[.int .i64 r1, .int .i64 r2, v2_]) ∧ Kd.R k71 71 w' w.heap.size (fun _ => True) v2_ r3 ∧ Below w.heap.size w w' := by
 have hu47 := Try.underlying47; have hu51 := Try.underlying51; have HR0_2 := am hr0_2; have HC0_2 := am hc0_2; clear hr0_2 hc0_2; have HB := am (Below.refl w.heap.size w); have H := h; clear h
 unfold laws_toBoard.f at H
 obtain ⟨t159, A2, H⟩ := bindq H; try dsimp only at H
 simp only [Option.some.injEq, Prod.mk.injEq] at H; obtain ⟨rfl, rfl, rfl⟩ := H
 go_enter Try.func30, Try.ntmps30
 go_wp2_with (first | ((with_reducible refine gate_dst (N := 1) rfl ?_); refine box_event ?hg (N := 1) ?hd (cs := #[.int .i64 a0_0, .int .i64 a0_1, .slice A0_2 l0_2.length c0_2]) (t := 47) ?hr ?_; (case hd | hg => rfl); (case hr => go_simp; try rfl); intro gb156 hg w3 hbox hb; have BK156 := am (hbox); have GW156 := am (gq hg); have GE156 := am (gq hg); replace HB := sb hb; clear hb hbox hg) | ((with_reducible refine gate_dst (N := 2) rfl ?_); refine box_event ?hg (N := 2) ?hd (cs := #[.int .i64 0, .int .i64 0, .slice none 0 0]) (t := 51) ?hr ?_; (case hd | hg => rfl); (case hr => go_simp; try rfl); intro gb157 hg w4 hbox hb; have BK157 := am (hbox); have GW157 := am (gq hg); have GE157 := am (gq hg); replace HB := sb hb; have ⟨NB156_157, NB157_156⟩ := nn hg BK156; replace BK156 := zb BK156 hb; clear hb hbox hg) | ((with_reducible refine gate_dst (N := 3) rfl ?_); refine box_event ?hg (N := 3) ?hd (cs := #[.int .i64 0, .int .i64 0, .slice none 0 0]) (t := 51) ?hr ?_; (case hd | hg => rfl); (case hr => go_simp; try rfl); intro gb158 hg w5 hbox hb; have BK158 := am (hbox); have GW158 := am (gq hg); have GE158 := am (gq hg); replace HB := sb hb; have ⟨NB156_158, NB158_156⟩ := nn hg BK156; replace BK156 := zb BK156 hb; have ⟨NB157_158, NB158_157⟩ := nn hg BK157; replace BK157 := zb BK157 hb; clear hb hbox hg; have hnb6 := NB156_157.out; have hnc6 := NB157_156.out; have hnb7 := NB156_158.out; have hnc7 := NB158_156.out; have ⟨b80, b81, b82, d80, d81, d82⟩ := bc3 BK156; have hnb9 := NB158_157.out; have hnc9 := NB157_158.out; have ⟨b100, b101, b102, d100, d101, d102⟩ := bc3 BK158) | ((with_reducible refine gate_callee (f := 50) rfl ?_); refine goesQ (some 12) Try.func50 #[.slice A0_2 l0_2.length c0_2] ?_; (with_reducible refine (laws_toCellS.calls k _ _ l0_2 t159 _ ?s1 ?s2 A2.out).mono ?_); (case s1 => exact Kd.C_below HR0_2.out bq); (case s2 => exact HC0_2.out); rintro e w11 ⟨v160, rfl, ho0, hb⟩; refine ⟨_, rfl, ?_⟩; have HO161 := rl ho0; replace BK156 := zw (.cells #[.int .i64 a0_0, .int .i64 a0_1, .slice A0_2 l0_2.length c0_2] 47 (0, 0)) BK156 hb; replace BK157 := zw (.cells #[.int .i64 0, .int .i64 0, .slice none 0 0] 51 (0, 0)) BK157 hb; replace BK158 := zw (.cells #[.int .i64 a0_0, .int .i64 a0_1, .slice none 0 0] 51 (0, 0)) BK158 hb; replace HB := sb hb; (try clear hb ho0); obtain ⟨Ao12, co12, eo12⟩ := Kd.R_slice HO161.out; subst eo12; have ⟨b130, b131, b132, d130, d131, d132⟩ := bc3 BK158; have ⟨b140, b141, b142, d140, d141, d142⟩ := bc3 BK157))
 refine bodyPost_ret (results_cell_row rfl _ _ gb157 51 #[.int .i64 a0_0, .int .i64 a0_1, .slice Ao12 t159.length co12] (0, 0) _ rfl (zp BK157) Try.underlying51 rfl (by kernel_rfl)) rfl ?_; exact ⟨_, eq_, by (with_reducible repeat (first | apply Kd.R_alloc | apply Kd.R_drewN | apply Kd.R_drew)); exact Kd.R_mono (Kd.R_far (p := ⟨gb157, 2, none⟩) (Kd.R_far (p := ⟨gb157, 1, none⟩) (Kd.R_far (p := ⟨gb157, 0, none⟩) (Kd.R_far (p := ⟨gb158, 2, none⟩) (Kd.R_types (Kd.R_types HO161.out BK158.out (by decide)) BK157.out (by decide)) (fun _ hk => hk.1.2) (.slice Ao12 t159.length co12)) (fun _ hk => hk.2) (.int .i64 a0_0)) (fun _ hk => hk.2) (.int .i64 a0_1)) (fun _ hk => hk.2) (.slice Ao12 t159.length co12)) (fun _ hk => trivial), bq⟩


def laws_toBoardS.l0 : Nat → List (S47) → List (S51) → Int → Option ((List (S51)))
 | 0, _, _, _ => none
 | k + 1, x0, x3, x4 => if x4 < (x0.length : Int) then (if 0 ≤ x4 then ((laws_toBoard.f k ((rd_T47 x0 x4).f0) ((rd_T47 x0 x4).f1) ((rd_T47 x0 x4).f2)).bind fun bt166 => (if x4 < (x3.length : Int) then (laws_toBoardS.l0 k x0 (x3.set (x4 : Int).toNat (⟨bt166.1, bt166.2.1, bt166.2.2⟩ : S51)) (wrap64 (x4 + 1))) else (none))) else (none)) else (some x3)
def laws_toBoardS.f (k : Nat) (l0 : List (S47)) : Option ((List (S51))) := if 0 ≤ (l0.length : Int) then (if ((l0.length : Int) : Int).toNat ≤ 7036874417766 then (laws_toBoardS.l0 k l0 (List.replicate ((l0.length : Int) : Int).toNat z51) 0) else (none)) else (none)
theorem laws_toBoardS.calls (k : Nat) (A0 : Option Addr) (c0 : Nat) (l0 : List (S47)) (r : List (S51)) (w : World) (hr0 : Kd.C k47 w A0 l0.length l0) (hc0 : l0.length ≤ c0) (h : laws_toBoardS.f k l0 = some r) :
  Calls Try.prog 9 #[.slice A0 l0.length c0] w fun e w' => ∃ v0_ : Value, e = .returned (v0_) ∧ Kd.S k51 51 w' w.heap.size (fun _ => True) v0_ r ∧ Below w.heap.size w w' := by
 have hu47 := Try.underlying47; have hu51 := Try.underlying51; have HR0 := am hr0; have HC0 := am hc0; clear hr0 hc0; have HB := am (Below.refl w.heap.size w); have H := h; clear h
 unfold laws_toBoardS.f at H
 by_cases c2 : 0 ≤ (l0.length : Int)
 ·rw [if_pos c2] at H; have c2b0 := eq_true c2; have c2b1 : decide (0 ≤ (l0.length : Int)) = true := decide_eq_true c2; clear c2; by_cases c3 : ((l0.length : Int) : Int).toNat ≤ 7036874417766
  ·rw [if_pos c3] at H; have c3b0 := eq_true c3; have c3b1 : decide (((l0.length : Int) : Int).toNat ≤ 7036874417766) = true := decide_eq_true c3; clear c3; obtain ⟨y162, hy162⟩ : ∃ y_ : List (S51), y_ = (List.replicate ((l0.length : Int) : Int).toNat z51) := ⟨_, rfl⟩; replace H : (laws_toBoardS.l0 k l0 y162 0) = some r := yq hy162 H; have Ny162 := am hy162; clear hy162; have H' := am H; clear H
   go_enter Try.func9, Try.ntmps9
   go_wp2_with (first | ((with_reducible refine gate_dst (N := 7) rfl ?_); refine Kd.S_make k51 _ 51 rfl (N := 7) rfl 27 _ _ rfl (l0.length : Int) rfl rfl Try.underlying27 (.agg #[(.int .i64 0), (.int .i64 0), (.slice none 0 0)]) 40 info51 rfl (by decide) (by omega) z51 (ok := fun _ => True) (okp := fun _ => True) (k51_mkM _ _ _ z51 (Kd.R_nil _ _ _ _ _)) (fun _ hk => hk) trivial (of_decide_eq_true aq) (Nat.le_trans (Nat.mul_le_mul_right _ (of_decide_eq_true aq : (l0.length : Int).toNat ≤ 7036874417766)) (by omega)) (Below.refl _ _) (Nat.le_refl _) ?_; intro v163 w4 ho5 hb hg_ hnew_; clear hg_ hnew_; (first | rw [← Ny162.out] at ho5 | (simp only [Int.reduceToNat] at ho5; rw [← Ny162.out] at ho5)); have HO164 := am (Kd.S_lower ho5 (below_size bq)); replace HB := sb hb; clear hb ho5))
   go_loopg [4] k (fun kq v4 w' => ∃ (x3_1 : List (S51)) (x4_1 : Int), v4 = .int .i64 x4_1 ∧ Aside0 (laws_toBoardS.l0 kq l0 x3_1 x4_1 = some r) ∧ Aside0 (kq ≤ k) ∧ Aside0 (Kd.S k51 51 w' w.heap.size (fun _ => True) v163 x3_1) ∧ Aside0 (Below w.heap.size w w'))
   case atStart => exact ⟨(y162), (0), sq, H', ⟨Nat.le_refl _⟩, ⟨by (with_reducible repeat (first | apply Kd.S_alloc | apply Kd.S_drewN | apply Kd.S_drew)); exact HO164.out⟩, ⟨bq⟩⟩
   case round =>
    clear H'; try clear c2b0
    try clear c2b1
    try clear c3b0
    try clear c3b1
    obtain ⟨x3_1, x4_1, rfl, HA, HK1, HO_3, HB⟩ := hrel
    cases gk with
    | zero => exact absurd HA.out (by simp [laws_toBoardS.l0])
    | succ k1 =>
     have H := HA.out; clear HA; simp only [laws_toBoardS.l0] at H; by_cases c6 : x4_1 < (l0.length : Int)
     ·rw [if_pos c6] at H; have c6b0 : decide (x4_1 < (l0.length : Int)) = true := decide_eq_true c6; clear c6; by_cases c7 : 0 ≤ x4_1
      ·rw [if_pos c7] at H; have c7b0 : decide (0 ≤ x4_1) = true := decide_eq_true c7; clear c7; obtain ⟨⟨t166, t167, t168⟩, A8, H⟩ := bindq H; try dsimp only at H
       by_cases c9 : x4_1 < (x3_1.length : Int)
       ·rw [if_pos c9] at H; have c9b0 : decide (x4_1 < (x3_1.length : Int)) = true := decide_eq_true c9; clear c9; obtain ⟨y171, hy171⟩ : ∃ y_ : List (S51), y_ = (x3_1.set (x4_1 : Int).toNat (⟨t166, t167, t168⟩ : S51)) := ⟨_, rfl⟩; replace H : (laws_toBoardS.l0 k1 l0 y171 (wrap64 (x4_1 + 1))) = some r := yq hy171 H; have Ny171 := am hy171; clear hy171; have H' := am H; clear H; have p165 : 0 ≤ (x4_1 : Int) := of_decide_eq_true aq; have q165 : x4_1 < (l0.length : Int) := of_decide_eq_true aq; obtain ⟨ad165, A165_2, c165_2, e165, hx165_0, hx165_1, hx165_2, hl165_2, hi165_2⟩ := at_T47 HR0.out x4_1 p165 q165
        cases e165
        replace hx165_0 := (HB.out.cell (World.block_lt_of_cell? w _ hx165_0)).trans hx165_0; replace hx165_1 := (HB.out.cell (World.block_lt_of_cell? w _ hx165_1)).trans hx165_1; replace hx165_2 := (HB.out.cell (World.block_lt_of_cell? w _ hx165_2)).trans hx165_2; have HR165_2 := am hi165_2; have HC165_2 := am hl165_2; clear hi165_2 hl165_2; replace p165 := eq_true p165; replace q165 := eq_true q165; go_wp2_with (first | ((with_reducible refine gate_callee (f := 30) rfl ?_); refine goesQ (some 20) Try.func30 #[.agg #[.int .i64 ((rd_T47 l0 x4_1).f0), .int .i64 ((rd_T47 l0 x4_1).f1), .slice A165_2 ((rd_T47 l0 x4_1).f2).length c165_2]] ?_; (with_reducible refine (laws_toBoard.calls k1 ((rd_T47 l0 x4_1).f0) ((rd_T47 l0 x4_1).f1) _ _ ((rd_T47 l0 x4_1).f2) t166 t167 t168 _ ?s1 ?s2 A8.out).mono ?_); (case s1 => exact cq (Kd.C_below HR165_2.out HB.out)); (case s2 => exact HC165_2.out); rintro e w11 ⟨v169, rfl, ho0, hb⟩; refine ⟨_, rfl, ?_⟩; replace HO_3 := am (Kd.S_elder' (by (with_reducible repeat (first | apply Kd.S_alloc | apply Kd.S_drewN | apply Kd.S_drew)); exact HO_3.out) (Kd.R_base ho0) hb); have HO170 := rl ho0; replace HB := sb hb; (try clear hb ho0); have p10 : 0 ≤ (x4_1 : Int) := of_decide_eq_true aq; have q10 : (x4_1 : Int) < ((x3_1.length : Int) : Int) := of_decide_eq_true aq; obtain ⟨go10, co10, eo10, gb10, gl10, cl10, HG10⟩ := Kd.S_form HO_3.out (by omega); (first | cases eo10 | (injection eo10 with ea_ en_ ec_; (first | subst ea_ | (injection ea_ with ea_; subst ea_)); subst ec_; clear en_)); have GB10 := am gb10; have GG10 := am HG10; clear gb10 gl10 HG10; obtain ⟨_, ce10, hcl10, hM10, hcc10, hfr10, _, _⟩ := Kd.S_elem HO_3.out z51 (x4_1 : Int) p10 q10; obtain ⟨ve10_2, rfl, ge10_2⟩ := k51_openM hM10; have hx10_0 : w11.cell? ⟨go10, (x4_1 : Int).toNat * 3, none⟩ = some (.int .i64 ((rd_T51 x3_1 x4_1).f0)) := hcc10 0 _ rfl; have hx10_1 : w11.cell? ⟨go10, (x4_1 : Int).toNat * 3 + 1, none⟩ = some (.int .i64 ((rd_T51 x3_1 x4_1).f1)) := hcc10 1 _ rfl; have hx10_2 : w11.cell? ⟨go10, (x4_1 : Int).toNat * 3 + 2, none⟩ = some (ve10_2) := hcc10 2 _ rfl; have hf10_0 : w11.frozen? ⟨go10, (x4_1 : Int).toNat * 3, none⟩ = false := hfr10 0; have hf10_1 : w11.frozen? ⟨go10, (x4_1 : Int).toNat * 3 + 1, none⟩ = false := hfr10 1; have hf10_2 : w11.frozen? ⟨go10, (x4_1 : Int).toNat * 3 + 2, none⟩ = false := hfr10 2; skip; replace p10 := eq_true p10; replace q10 := eq_true q10; have n_ := am (Kd.S_mono (ok' := (fun k_ => some k_ ≠ (v169 : Value).ownBlock)) HO_3.out (fun k_ hk => hk.2)); clear HO_3; have HO_3 := n_; clear n_; have HX12 := am (show Kd.S k51 51 w11 w.heap.size (fun k_ => ((fun _ => True)) k_ ∧ ¬ ((fun k_ => some k_ = (v169 : Value).ownBlock)) k_) (.slice (some ⟨go10, 0, none⟩) x3_1.length co10) x3_1 from (by (with_reducible repeat (first | apply Kd.S_alloc | apply Kd.S_drewN | apply Kd.S_drew)); exact Kd.S_mono HO_3.out (fun k_ hk => ⟨trivial, fun e_ => hk e_⟩))); obtain ⟨oki12, ce12, hcl12, hM12, hcc12, hfr12, hoki12, hH12⟩ := Kd.S_elem HX12.out z51 (x4_1 : Int) (of_decide_eq_true aq) (by have h_ : (x4_1 : Int) < ((x3_1.length : Int) : Int) := of_decide_eq_true aq; first | exact h_ | (have e_ := (Kd.S_reads' HO_3.out).1; omega) | simpa using h_); obtain ⟨ve12_2, rfl, ge12_2⟩ := k51_openM hM12; have HP12 := Kd.S_seg hH12 (of_decide_eq_true aq) (by have h_ : (x4_1 : Int) < ((x3_1.length : Int) : Int) := of_decide_eq_true aq; first | exact h_ | (have e_ := (Kd.S_reads' HO_3.out).1; omega) | simpa using h_) (seg := [.int .i64 t166, .int .i64 t167, v169]) (j := 0) (show 3 ≤ 3 from by decide) (x' := (⟨t166, t167, t168⟩ : S51)) (k51_mkM _ _ _ (⟨t166, t167, t168⟩ : S51) (Kd.R_mono (Kd.R_tight rfl (Kd.R_mono (ok' := fun k_ => ((fun _ => True)) k_ ∧ k_ ≠ go10) (Kd.R_apart' (HO170.out) (Kd.S_typed HO_3.out) (by decide)) (fun k_ hk => ⟨trivial, fun e_ => (hk.2) (by rw [e_]; rfl)⟩))) (fun _ h_ => Or.inr (h_)))) (fun _ hk => hk) (fun k_ hk_ => ((Kd.R_mono (ok' := fun k_ => ((fun _ => True)) k_ ∧ k_ ≠ go10) (Kd.R_apart' (HO170.out) (Kd.S_typed HO_3.out) (by decide)) (fun k_ hk => ⟨trivial, fun e_ => (hk.2) (by rw [e_]; rfl)⟩))).1 k_ hk_.symm); have hx12_0 := hcc12 0 _ rfl; (try simp only [show (k51).sz = 3 from rfl, Nat.mul_one, Nat.add_zero] at hx12_0); have hf12_0 := hfr12 0; (try simp only [show (k51).sz = 3 from rfl, Nat.mul_one, Nat.add_zero] at hf12_0); have hx12_1 := hcc12 1 _ rfl; (try simp only [show (k51).sz = 3 from rfl, Nat.mul_one, Nat.add_zero] at hx12_1); have hf12_1 := hfr12 1; (try simp only [show (k51).sz = 3 from rfl, Nat.mul_one, Nat.add_zero] at hf12_1); have hx12_2 := hcc12 2 _ rfl; (try simp only [show (k51).sz = 3 from rfl, Nat.mul_one, Nat.add_zero] at hx12_2); have hf12_2 := hfr12 2; (try simp only [show (k51).sz = 3 from rfl, Nat.mul_one, Nat.add_zero] at hf12_2); skip) | ((with_reducible refine gate_store (t := 51) (p := 21) rfl ?_); refine store_event (t := 51) (p := 21) (v := ?vo_w13) (w1 := (((w11.setCell ⟨go10, (x4_1 : Int).toNat * 3, none⟩ (.int .i64 t166)).setCell ⟨go10, (x4_1 : Int).toNat * 3 + 1, none⟩ (.int .i64 t167)).setCell ⟨go10, (x4_1 : Int).toNat * 3 + 2, none⟩ (v169))) ?hg ?ho ?hn ?hr ?_; (case ho => rfl); (case hg => rfl); (case hn => rfl); (case hr => obtain ⟨A_, c_, rfl, _, _⟩ := Kd.R_reads HO170.out; first | (go_simp; done) | (go_simp; rfl)); intro w13 hw; have hg : w11.grownBy w13 (some go10) := (by rw [hw]; exact HP12.2); have hp_ : Kd.S k51 51 w13 w.heap.size (fun _ => True) (.slice (some ⟨go10, 0, none⟩) x3_1.length co10) y171 := (by rw [hw, Ny171.out]; exact HP12.1); clear HP12; have n0_ := am (hp_); have n1_ := am ((by rw [hw]; exact below_set (below_set (below_set (HB.out) GB10.out) GB10.out) GB10.out : Below w.heap.size w w13)); clear HO_3; clear HB; clear HO170; have HO_3 := n0_; have HB := n1_; clear n0_ n1_; clear hg hw hp_))
        go_roundg k1
        case measure => have := HK1.out; omega
        case rel => exact ⟨(y171), (wrap64 (x4_1 + 1)), sq, H', ⟨by have := HK1.out; omega⟩, ⟨by (with_reducible repeat (first | apply Kd.S_alloc | apply Kd.S_drewN | apply Kd.S_drew)); exact HO_3.out⟩, ⟨bq⟩⟩
       rw [if_neg c9] at H; exact absurd H (by simp)
      rw [if_neg c7] at H; exact absurd H (by simp)
     rw [if_neg c6] at H; have c6b0 : decide (x4_1 < (l0.length : Int)) = false := decide_eq_false c6; clear c6; obtain rfl := Option.some.inj H
     go_wp2
     go_ret
     exact ⟨_, eq_, by (with_reducible repeat (first | apply Kd.S_alloc | apply Kd.S_drewN | apply Kd.S_drew)); exact HO_3.out, bq⟩
  rw [if_neg c3] at H; exact absurd H (by simp)
 rw [if_neg c2] at H; exact absurd H (by simp)


def laws_eqIntS.l0 : Nat → List Int → List Int → Int → Option (Bool)
 | 0, _, _, _ => none
 | k + 1, x0, x1, x5 => if x5 < (x0.length : Int) then (if 0 ≤ x5 then (if x5 < (x1.length : Int) then (if (rd x0 x5) = (rd x1 x5) then (laws_eqIntS.l0 k x0 x1 (wrap64 (x5 + 1))) else (some false)) else (none)) else (none)) else (some true)
def laws_eqIntS.f (k : Nat) (l0 : List Int) (l1 : List Int) : Option (Bool) := if (l0.length : Int) = (l1.length : Int) then (laws_eqIntS.l0 k l0 l1 0) else (some false)
theorem laws_eqIntS.calls (k : Nat) (A0 : Option Addr) (c0 : Nat) (l0 : List Int) (A1 : Option Addr) (c1 : Nat) (l1 : List Int) (r : Bool) (w : World) (hr0 : Kd.C (Kd.int .i64) w A0 l0.length l0) (hc0 : l0.length ≤ c0) (hr1 : Kd.C (Kd.int .i64) w A1 l1.length l1) (hc1 : l1.length ≤ c1) (h : laws_eqIntS.f k l0 l1 = some r) :
  Calls Try.prog 11 #[.slice A0 l0.length c0, .slice A1 l1.length c1] w fun e w' => e = .returned (.bool r) ∧ Drawn0 w w' := by
 have HR0 := am hr0; have HC0 := am hc0; clear hr0 hc0; have HR1 := am hr1; have HC1 := am hc1; clear hr1 hc1; have H := h; clear h
 unfold laws_eqIntS.f at H
 by_cases c3 : (l0.length : Int) = (l1.length : Int)
 ·rw [if_pos c3] at H; have c3b0 : ((l0.length : Int) == (l1.length : Int)) = true := beq_iff_eq.mpr c3; have c3b1 : ((l0.length : Int) != (l1.length : Int)) = false := bne_eq_false_iff_eq.mpr c3; have c3b2 : (l0.length == l1.length) = true := by first | simpa using c3 | (simp at c3 ⊢; omega)
  clear c3; have H' := am H; clear H
  go_enter Try.func11, Try.ntmps11
  go_wp2
  repeat (go_quiet (fail); try go_wp2)
  go_loopg [5] k (fun kq v5 w' => ∃ (x5_1 : Int), v5 = .int .i64 x5_1 ∧ Aside0 (laws_eqIntS.l0 kq l0 l1 x5_1 = some r) ∧ Aside0 (kq ≤ k) ∧ Drawn0 w w')
  case atStart => exact ⟨(0), sq, H', ⟨Nat.le_refl _⟩, by repeat (first | exact Drawn0.refl _ | apply Drawn0.step)⟩
  case round =>
   clear H'; try clear c3b0
   try clear c3b1
   try clear c3b2
   obtain ⟨x5_1, rfl, HA, HK1, ⟨m1, rfl⟩⟩ := hrel
   cases gk with
   | zero => exact absurd HA.out (by simp [laws_eqIntS.l0])
   | succ k1 =>
    have H := HA.out; clear HA; simp only [laws_eqIntS.l0] at H; by_cases c4 : x5_1 < (l0.length : Int)
    ·rw [if_pos c4] at H; have c4b0 : decide (x5_1 < (l0.length : Int)) = true := decide_eq_true c4; clear c4; by_cases c5 : 0 ≤ x5_1
     ·rw [if_pos c5] at H; have c5b0 : decide (0 ≤ x5_1) = true := decide_eq_true c5; clear c5; by_cases c6 : x5_1 < (l1.length : Int)
      ·rw [if_pos c6] at H; have c6b0 : decide (x5_1 < (l1.length : Int)) = true := decide_eq_true c6; clear c6; by_cases c7 : (rd l0 x5_1) = (rd l1 x5_1)
       ·rw [if_pos c7] at H; have c7b0 : ((rd l0 x5_1) == (rd l1 x5_1)) = true := beq_iff_eq.mpr c7; have c7b1 : ((rd l0 x5_1) != (rd l1 x5_1)) = false := bne_eq_false_iff_eq.mpr c7; clear c7; have H' := am H; clear H; have p216 : 0 ≤ (x5_1 : Int) := of_decide_eq_true aq; have q216 : x5_1 < (l0.length : Int) := of_decide_eq_true aq; obtain ⟨ad216, e216, hx216_0⟩ := Kd.at_int HR0.out x5_1 p216 q216
        cases e216
        replace p216 := eq_true p216; replace q216 := eq_true q216; have p217 : 0 ≤ (x5_1 : Int) := of_decide_eq_true aq; have q217 : x5_1 < (l1.length : Int) := of_decide_eq_true aq; obtain ⟨ad217, e217, hx217_0⟩ := Kd.at_int HR1.out x5_1 p217 q217
        cases e217
        replace p217 := eq_true p217; replace q217 := eq_true q217
        go_wp2
        repeat (go_quiet (fail); try go_wp2)
        go_roundg k1
        case measure => have := HK1.out; omega
        case rel => exact ⟨(wrap64 (x5_1 + 1)), sq, H', ⟨by have := HK1.out; omega⟩, by repeat (first | exact Drawn0.refl _ | apply Drawn0.step)⟩
       rw [if_neg c7] at H; have c7b0 : ((rd l0 x5_1) == (rd l1 x5_1)) = false := beq_eq_false_iff_ne.mpr c7; have c7b1 : ((rd l0 x5_1) != (rd l1 x5_1)) = true := bne_iff_ne.mpr c7; obtain rfl := Option.some.inj H; have p216 : 0 ≤ (x5_1 : Int) := of_decide_eq_true aq; have q216 : x5_1 < (l0.length : Int) := of_decide_eq_true aq; obtain ⟨ad216, e216, hx216_0⟩ := Kd.at_int HR0.out x5_1 p216 q216
       cases e216
       replace p216 := eq_true p216; replace q216 := eq_true q216; have p217 : 0 ≤ (x5_1 : Int) := of_decide_eq_true aq; have q217 : x5_1 < (l1.length : Int) := of_decide_eq_true aq; obtain ⟨ad217, e217, hx217_0⟩ := Kd.at_int HR1.out x5_1 p217 q217
       cases e217
       replace p217 := eq_true p217; replace q217 := eq_true q217
       go_wp2
       repeat (go_quiet (fail); try go_wp2)
       go_ret
       exact ⟨sq, by repeat (first | exact Drawn0.refl _ | apply Drawn0.step)⟩
      rw [if_neg c6] at H; exact absurd H (by simp)
     rw [if_neg c5] at H; exact absurd H (by simp)
    rw [if_neg c4] at H; have c4b0 : decide (x5_1 < (l0.length : Int)) = false := decide_eq_false c4; clear c4; obtain rfl := Option.some.inj H
    go_wp2
    repeat (go_quiet (fail); try go_wp2)
    go_ret
    exact ⟨sq, by repeat (first | exact Drawn0.refl _ | apply Drawn0.step)⟩
 rw [if_neg c3] at H; have c3b0 : ((l0.length : Int) == (l1.length : Int)) = false := beq_eq_false_iff_ne.mpr c3; have c3b1 : ((l0.length : Int) != (l1.length : Int)) = true := bne_iff_ne.mpr c3; have c3b2 : (l0.length == l1.length) = false := by first | simpa using c3 | (simp at c3 ⊢; omega)
 obtain rfl := Option.some.inj H
 go_enter Try.func11, Try.ntmps11
 go_wp2
 repeat (go_quiet (fail); try go_wp2)
 go_ret
 exact ⟨sq, by repeat (first | exact Drawn0.refl _ | apply Drawn0.step)⟩


def laws_eqCell.f (a0_0 : Int) (a0_1 : Int) (a1_0 : Int) (a1_1 : Int) : Option (Bool) := if a0_0 = a1_0 then (if a0_1 = a1_1 then (some true) else (some false)) else (some false)
theorem laws_eqCell.calls (a0_0 : Int) (a0_1 : Int) (a1_0 : Int) (a1_1 : Int) (r : Bool) (w : World) (h : laws_eqCell.f a0_0 a0_1 a1_0 a1_1 = some r) :
  Calls Try.prog 62 #[.agg #[.int .i64 a0_0, .int .i64 a0_1], .agg #[.int .i64 a1_0, .int .i64 a1_1]] w fun e w' => e = .returned (.bool r) ∧ Below w.heap.size w w' := by
 have hu71 := Try.underlying71; have HB := am (Below.refl w.heap.size w); have H := h; clear h
 unfold laws_eqCell.f at H
 by_cases c3 : a0_0 = a1_0
 ·rw [if_pos c3] at H; have c3b0 : (a0_0 == a1_0) = true := beq_iff_eq.mpr c3; have c3b1 : (a0_0 != a1_0) = false := bne_eq_false_iff_eq.mpr c3; clear c3; by_cases c4 : a0_1 = a1_1
  ·rw [if_pos c4] at H; have c4b0 : (a0_1 == a1_1) = true := beq_iff_eq.mpr c4; have c4b1 : (a0_1 != a1_1) = false := bne_eq_false_iff_eq.mpr c4; clear c4; obtain rfl := Option.some.inj H
   go_enter Try.func62, Try.ntmps62
   go_wp2_with (first | ((with_reducible refine gate_dst (N := 2) rfl ?_); refine box_event ?hg (N := 2) ?hd (cs := #[.int .i64 a0_0, .int .i64 a0_1]) (t := 71) ?hr ?_; (case hd | hg => rfl); (case hr => go_simp; try rfl); intro gb218 hg w5 hbox hb; have BK218 := am (hbox); have GW218 := am (gq hg); have GE218 := am (gq hg); replace HB := sb hb; clear hb hbox hg) | ((with_reducible refine gate_dst (N := 3) rfl ?_); refine box_event ?hg (N := 3) ?hd (cs := #[.int .i64 a1_0, .int .i64 a1_1]) (t := 71) ?hr ?_; (case hd | hg => rfl); (case hr => go_simp; try rfl); intro gb219 hg w6 hbox hb; have BK219 := am (hbox); have GW219 := am (gq hg); have GE219 := am (gq hg); replace HB := sb hb; have ⟨NB218_219, NB219_218⟩ := nn hg BK218; replace BK218 := zb BK218 hb; clear hb hbox hg; have hnb7 := NB218_219.out; have hnc7 := NB219_218.out; have ⟨b80, b81, d80, d81⟩ := bc2 BK218; have ⟨b90, b91, d90, d91⟩ := bc2 BK219))
   go_ret
   exact ⟨eq_, bq⟩
  rw [if_neg c4] at H; have c4b0 : (a0_1 == a1_1) = false := beq_eq_false_iff_ne.mpr c4; have c4b1 : (a0_1 != a1_1) = true := bne_iff_ne.mpr c4; obtain rfl := Option.some.inj H
  go_enter Try.func62, Try.ntmps62
  go_wp2_with (first | ((with_reducible refine gate_dst (N := 2) rfl ?_); refine box_event ?hg (N := 2) ?hd (cs := #[.int .i64 a0_0, .int .i64 a0_1]) (t := 71) ?hr ?_; (case hd | hg => rfl); (case hr => go_simp; try rfl); intro gb218 hg w10 hbox hb; have BK218 := am (hbox); have GW218 := am (gq hg); have GE218 := am (gq hg); replace HB := sb hb; clear hb hbox hg) | ((with_reducible refine gate_dst (N := 3) rfl ?_); refine box_event ?hg (N := 3) ?hd (cs := #[.int .i64 a1_0, .int .i64 a1_1]) (t := 71) ?hr ?_; (case hd | hg => rfl); (case hr => go_simp; try rfl); intro gb219 hg w11 hbox hb; have BK219 := am (hbox); have GW219 := am (gq hg); have GE219 := am (gq hg); replace HB := sb hb; have ⟨NB218_219, NB219_218⟩ := nn hg BK218; replace BK218 := zb BK218 hb; clear hb hbox hg; have hnb12 := NB218_219.out; have hnc12 := NB219_218.out; have ⟨b130, b131, d130, d131⟩ := bc2 BK218; have ⟨b140, b141, d140, d141⟩ := bc2 BK219))
  go_ret
  exact ⟨eq_, bq⟩
 rw [if_neg c3] at H; have c3b0 : (a0_0 == a1_0) = false := beq_eq_false_iff_ne.mpr c3; have c3b1 : (a0_0 != a1_0) = true := bne_iff_ne.mpr c3; obtain rfl := Option.some.inj H
 go_enter Try.func62, Try.ntmps62
 go_wp2_with (first | ((with_reducible refine gate_dst (N := 2) rfl ?_); refine box_event ?hg (N := 2) ?hd (cs := #[.int .i64 a0_0, .int .i64 a0_1]) (t := 71) ?hr ?_; (case hd | hg => rfl); (case hr => go_simp; try rfl); intro gb218 hg w15 hbox hb; have BK218 := am (hbox); have GW218 := am (gq hg); have GE218 := am (gq hg); replace HB := sb hb; clear hb hbox hg) | ((with_reducible refine gate_dst (N := 3) rfl ?_); refine box_event ?hg (N := 3) ?hd (cs := #[.int .i64 a1_0, .int .i64 a1_1]) (t := 71) ?hr ?_; (case hd | hg => rfl); (case hr => go_simp; try rfl); intro gb219 hg w16 hbox hb; have BK219 := am (hbox); have GW219 := am (gq hg); have GE219 := am (gq hg); replace HB := sb hb; have ⟨NB218_219, NB219_218⟩ := nn hg BK218; replace BK218 := zb BK218 hb; clear hb hbox hg; have hnb17 := NB218_219.out; have hnc17 := NB219_218.out; have ⟨b180, b181, d180, d181⟩ := bc2 BK218; have ⟨b190, b191, d190, d191⟩ := bc2 BK219))
 go_ret
 exact ⟨eq_, bq⟩


def laws_eqCellS.l0 : Nat → List (S71) → List (S71) → Int → Option (Bool)
 | 0, _, _, _ => none
 | k + 1, x0, x1, x5 => if x5 < (x0.length : Int) then (if 0 ≤ x5 then (if x5 < (x1.length : Int) then ((laws_eqCell.f ((rd_T71 x0 x5).f0) ((rd_T71 x0 x5).f1) ((rd_T71 x1 x5).f0) ((rd_T71 x1 x5).f1)).bind fun t222 => (if t222 = true then (laws_eqCellS.l0 k x0 x1 (wrap64 (x5 + 1))) else (some false))) else (none)) else (none)) else (some true)
def laws_eqCellS.f (k : Nat) (l0 : List (S71)) (l1 : List (S71)) : Option (Bool) := if (l0.length : Int) = (l1.length : Int) then (laws_eqCellS.l0 k l0 l1 0) else (some false)
def laws_eqCellS.T6 : Bool × List (List Nat × List Nat) := (true, [([], []), ([], []), ([0, 1], [0, 1]), ([2], [2]), ([], []), ([], []), ([4, 5], [4, 5]), ([6], [6]), ([3, 7], [3, 7]), ([8], [8])])
def laws_eqCellS.B6 : List Nat := [0, 0, 3, 7, 0, 0, 48, 112, 255, 511]
theorem laws_eqCellS.tab6 : rtab .any (opsOf Try.f53 6) = laws_eqCellS.T6 := by kernel_rfl
theorem laws_eqCellS.bits6 : waitsOk laws_eqCellS.T6.2 laws_eqCellS.B6 = true := by kernel_rfl
theorem laws_eqCellS.calls (k : Nat) (A0 : Option Addr) (c0 : Nat) (l0 : List (S71)) (A1 : Option Addr) (c1 : Nat) (l1 : List (S71)) (r : Bool) (w : World) (hr0 : Kd.C k71 w A0 l0.length l0) (hc0 : l0.length ≤ c0) (hr1 : Kd.C k71 w A1 l1.length l1) (hc1 : l1.length ≤ c1) (h : laws_eqCellS.f k l0 l1 = some r) :
  Calls Try.prog 53 #[.slice A0 l0.length c0, .slice A1 l1.length c1] w fun e w' => e = .returned (.bool r) ∧ Below w.heap.size w w' := by
 have hu71 := Try.underlying71; have HR0 := am hr0; have HC0 := am hc0; clear hr0 hc0; have HR1 := am hr1; have HC1 := am hc1; clear hr1 hc1; have HB := am (Below.refl w.heap.size w); have H := h; clear h
 unfold laws_eqCellS.f at H
 by_cases c3 : (l0.length : Int) = (l1.length : Int)
 ·rw [if_pos c3] at H; have c3b0 : ((l0.length : Int) == (l1.length : Int)) = true := beq_iff_eq.mpr c3; have c3b1 : ((l0.length : Int) != (l1.length : Int)) = false := bne_eq_false_iff_eq.mpr c3; have c3b2 : (l0.length == l1.length) = true := by first | simpa using c3 | (simp at c3 ⊢; omega)
  clear c3; have H' := am H; clear H
  go_enter Try.func53, Try.ntmps53
  go_wp2
  go_loopg [5] k (fun kq v5 w' => ∃ (x5_1 : Int), v5 = .int .i64 x5_1 ∧ Aside0 (laws_eqCellS.l0 kq l0 l1 x5_1 = some r) ∧ Aside0 (kq ≤ k) ∧ Aside0 (Below w.heap.size w w'))
  case atStart => exact ⟨(0), sq, H', ⟨Nat.le_refl _⟩, ⟨bq⟩⟩
  case round =>
   clear H'; try clear c3b0
   try clear c3b1
   try clear c3b2
   obtain ⟨x5_1, rfl, HA, HK1, HB⟩ := hrel
   cases gk with
   | zero => exact absurd HA.out (by simp [laws_eqCellS.l0])
   | succ k1 =>
    have H := HA.out; clear HA; simp only [laws_eqCellS.l0] at H; by_cases c4 : x5_1 < (l0.length : Int)
    ·rw [if_pos c4] at H; have c4b0 : decide (x5_1 < (l0.length : Int)) = true := decide_eq_true c4; clear c4; by_cases c5 : 0 ≤ x5_1
     ·rw [if_pos c5] at H; have c5b0 : decide (0 ≤ x5_1) = true := decide_eq_true c5; clear c5; by_cases c6 : x5_1 < (l1.length : Int)
      ·rw [if_pos c6] at H; have c6b0 : decide (x5_1 < (l1.length : Int)) = true := decide_eq_true c6; clear c6; obtain ⟨t222, A7, H⟩ := bindq H; try dsimp only at H
       by_cases c8 : t222 = true
       ·subst c8; rw [if_pos rfl] at H; try dsimp only at H
        have H' := am H; clear H; try go_wp2
        have n0_ := am (below_drew1 HB.out); clear HB; have HB := n0_; clear n0_; have p220 : 0 ≤ (x5_1 : Int) := of_decide_eq_true aq; have q220 : x5_1 < (l0.length : Int) := of_decide_eq_true aq; obtain ⟨ad220, e220, hx220_0, hx220_1⟩ := at_T71 HR0.out x5_1 p220 q220; have hw220_1 := hx220_1; have hw220_0 := hx220_0
        cases e220
        replace hx220_0 := (HB.out.cell (World.block_lt_of_cell? w _ hx220_0)).trans hx220_0; replace hx220_1 := (HB.out.cell (World.block_lt_of_cell? w _ hx220_1)).trans hx220_1; replace p220 := eq_true p220; replace q220 := eq_true q220; have p221 : 0 ≤ (x5_1 : Int) := of_decide_eq_true aq; have q221 : x5_1 < (l1.length : Int) := of_decide_eq_true aq; obtain ⟨ad221, e221, hx221_0, hx221_1⟩ := at_T71 HR1.out x5_1 p221 q221; have hw221_1 := hx221_1; have hw221_0 := hx221_0
        cases e221
        replace hx221_0 := (HB.out.cell (World.block_lt_of_cell? w _ hx221_0)).trans hx221_0; replace hx221_1 := (HB.out.cell (World.block_lt_of_cell? w _ hx221_1)).trans hx221_1; replace p221 := eq_true p221; replace q221 := eq_true q221; refine start_ (n := 10) (S := fun w' => w'.cell? (ad220.add ((x5_1).toNat * 2)) = some (.int .i64 ((rd_T71 l0 x5_1).f0)) ∧ w'.cell? ⟨(ad220.add ((x5_1).toNat * 2)).block, (ad220.add ((x5_1).toNat * 2)).off + 1, none⟩ = some (.int .i64 ((rd_T71 l0 x5_1).f1)) ∧ w'.cell? (ad221.add ((x5_1).toNat * 2)) = some (.int .i64 ((rd_T71 l1 x5_1).f0)) ∧ w'.cell? ⟨(ad221.add ((x5_1).toNat * 2)).block, (ad221.add ((x5_1).toNat * 2)).off + 1, none⟩ = some (.int .i64 ((rd_T71 l1 x5_1).f1))) (ds := []) #[O, O, O, O, O, O, O, O, O, O] (by kernel_rfl) rfl rfl ⟨((HB.out.cell (World.block_lt_of_cell? w _ hw220_0)).trans hw220_0), ((HB.out.cell (World.block_lt_of_cell? w _ hw220_1)).trans hw220_1), ((HB.out.cell (World.block_lt_of_cell? w _ hw221_0)).trans hw221_0), ((HB.out.cell (World.block_lt_of_cell? w _ hw221_1)).trans hw221_1)⟩ (fun hHeld => ?_); refine with_tabW laws_eqCellS.tab6 laws_eqCellS.bits6 (fun HT_ HW_ => ?_); generalize wr.drew = w9 at HB hx220_0 hx220_1 hx221_0 hx221_1 hHeld ⊢; refine pu_ 0 (some 17) ?_ #[I, O, O, O, O, O, O, O, O, O] rfl rfl (any_of HT_.out (by kernel_rfl)) (.inl ⟨by rfl, ?_⟩) ?_ ?_ ?_; rotate_left; (intro w'; go_simp; with_reducible rfl); rotate_left; (simp only [pw]; rfl); refine pu_ 1 (some 18) ?_ #[I, I, O, O, O, O, O, O, O, O] rfl rfl (any_of HT_.out (by kernel_rfl)) (.inl ⟨by rfl, ?_⟩) ?_ ?_ ?_; rotate_left; (intro w'; go_simp; with_reducible rfl); rotate_left; (simp only [pw]; rfl); refine pu_ 2 (some 19) ?_ #[I, I, I, O, O, O, O, O, O, O] rfl rfl (any_of HT_.out (by kernel_rfl)) (.inl ⟨by rfl, ?_⟩) ?_ ?_ ?_; rotate_left; (intro w'; go_simp; with_reducible rfl); rotate_left; (simp only [pw]; rfl); refine pu_ 4 (some 21) ?_ #[I, I, I, O, I, O, O, O, O, O] rfl rfl (any_of HT_.out (by kernel_rfl)) (.inl ⟨by rfl, ?_⟩) ?_ ?_ ?_; rotate_left; (intro w'; go_simp; with_reducible rfl); rotate_left; (simp only [pw]; rfl); refine pu_ 5 (some 22) ?_ #[I, I, I, O, I, I, O, O, O, O] rfl rfl (any_of HT_.out (by kernel_rfl)) (.inl ⟨by rfl, ?_⟩) ?_ ?_ ?_; rotate_left; (intro w'; go_simp; with_reducible rfl); rotate_left; (simp only [pw]; rfl); refine pu_ 6 (some 23) ?_ #[I, I, I, O, I, I, I, O, O, O] rfl rfl (any_of HT_.out (by kernel_rfl)) (.inl ⟨by rfl, ?_⟩) ?_ ?_ ?_; rotate_left; (intro w'; go_simp; with_reducible rfl); rotate_left; (simp only [pw]; rfl); refine tk_ 3 (some 20) ?_ #[I, I, I, I, I, I, I, O, O, O] rfl rfl (take_ofW HT_.out HW_.out (by kernel_rfl)) (.inl ⟨by rfl, ?_⟩) hHeld ?_ ?_ ?_; rotate_left; (rintro w' ⟨s0, s1, s2, s3⟩; go_simp; with_reducible rfl); rotate_left; (simp only [pw]; rfl); refine tk_ 7 (some 24) ?_ #[I, I, I, I, I, I, I, I, O, O] rfl rfl (take_ofW HT_.out HW_.out (by kernel_rfl)) (.inl ⟨by rfl, ?_⟩) hHeld ?_ ?_ ?_; rotate_left; (rintro w' ⟨s0, s1, s2, s3⟩; go_simp; with_reducible rfl); rotate_left; (simp only [pw]; rfl); refine one_ (i := 8) (N := some 25) #[I, I, I, I, I, I, I, I, I, O] rfl rfl (one_of HT_.out (by kernel_rfl)) (by decide) (fun K hK => ?_); refine goes_ Try.func62 (by kernel_rfl) rfl #[.agg #[.int .i64 ((rd_T71 l0 x5_1).f0), .int .i64 ((rd_T71 l0 x5_1).f1)], .agg #[.int .i64 ((rd_T71 l1 x5_1).f0), .int .i64 ((rd_T71 l1 x5_1).f1)]] (by rfl) rfl rfl mq ?_; with_reducible refine (laws_eqCell.calls ((rd_T71 l0 x5_1).f0) ((rd_T71 l0 x5_1).f1) ((rd_T71 l1 x5_1).f0) ((rd_T71 l1 x5_1).f1) true _ A7.out).mono ?_
        rintro e w10 ⟨rfl, hb⟩; refine ⟨_, rfl, ?_⟩; have n0_ := sb hb; clear HB; have HB := n0_; clear n0_; (try clear hb); refine hK.out _ _ ⟨((HB.out.cell (World.block_lt_of_cell? w _ hw220_0)).trans hw220_0), ((HB.out.cell (World.block_lt_of_cell? w _ hw220_1)).trans hw220_1), ((HB.out.cell (World.block_lt_of_cell? w _ hw221_0)).trans hw221_0), ((HB.out.cell (World.block_lt_of_cell? w _ hw221_1)).trans hw221_1)⟩ (fun hHeld => ?_); clear hK K; refine norm_ (a' := ?_) ?_ ?_; rotate_left
        ·show Act.put _ (some 25) _ = _
         simp only [pw]; rfl
        refine pu_ 9 (some 26) ?_ #[I, I, I, I, I, I, I, I, I, I] rfl rfl (any_of HT_.out (by kernel_rfl)) (.inl ⟨by rfl, ?_⟩) ?_ ?_ ?_; rotate_left; (intro w'; go_simp; with_reducible rfl); rotate_left; (simp only [pw]; rfl); refine done_ (done_of HT_.out (by kernel_rfl)) ?_; try go_wp2
        go_roundg k1
        case measure => have := HK1.out; omega
        case rel => exact ⟨(wrap64 (x5_1 + 1)), sq, H', ⟨by have := HK1.out; omega⟩, ⟨bq⟩⟩
       replace c8 := Bool.eq_false_iff.mpr c8; subst c8; rw [if_neg (show ¬ (false = true) by decide)] at H; try dsimp only at H
       obtain rfl := Option.some.inj H; try go_wp2
       have n0_ := am (below_drew1 HB.out); clear HB; have HB := n0_; clear n0_; have p220 : 0 ≤ (x5_1 : Int) := of_decide_eq_true aq; have q220 : x5_1 < (l0.length : Int) := of_decide_eq_true aq; obtain ⟨ad220, e220, hx220_0, hx220_1⟩ := at_T71 HR0.out x5_1 p220 q220; have hw220_1 := hx220_1; have hw220_0 := hx220_0
       cases e220
       replace hx220_0 := (HB.out.cell (World.block_lt_of_cell? w _ hx220_0)).trans hx220_0; replace hx220_1 := (HB.out.cell (World.block_lt_of_cell? w _ hx220_1)).trans hx220_1; replace p220 := eq_true p220; replace q220 := eq_true q220; have p221 : 0 ≤ (x5_1 : Int) := of_decide_eq_true aq; have q221 : x5_1 < (l1.length : Int) := of_decide_eq_true aq; obtain ⟨ad221, e221, hx221_0, hx221_1⟩ := at_T71 HR1.out x5_1 p221 q221; have hw221_1 := hx221_1; have hw221_0 := hx221_0
       cases e221
       replace hx221_0 := (HB.out.cell (World.block_lt_of_cell? w _ hx221_0)).trans hx221_0; replace hx221_1 := (HB.out.cell (World.block_lt_of_cell? w _ hx221_1)).trans hx221_1; replace p221 := eq_true p221; replace q221 := eq_true q221; refine start_ (n := 10) (S := fun w' => w'.cell? (ad220.add ((x5_1).toNat * 2)) = some (.int .i64 ((rd_T71 l0 x5_1).f0)) ∧ w'.cell? ⟨(ad220.add ((x5_1).toNat * 2)).block, (ad220.add ((x5_1).toNat * 2)).off + 1, none⟩ = some (.int .i64 ((rd_T71 l0 x5_1).f1)) ∧ w'.cell? (ad221.add ((x5_1).toNat * 2)) = some (.int .i64 ((rd_T71 l1 x5_1).f0)) ∧ w'.cell? ⟨(ad221.add ((x5_1).toNat * 2)).block, (ad221.add ((x5_1).toNat * 2)).off + 1, none⟩ = some (.int .i64 ((rd_T71 l1 x5_1).f1))) (ds := []) #[O, O, O, O, O, O, O, O, O, O] (by kernel_rfl) rfl rfl ⟨((HB.out.cell (World.block_lt_of_cell? w _ hw220_0)).trans hw220_0), ((HB.out.cell (World.block_lt_of_cell? w _ hw220_1)).trans hw220_1), ((HB.out.cell (World.block_lt_of_cell? w _ hw221_0)).trans hw221_0), ((HB.out.cell (World.block_lt_of_cell? w _ hw221_1)).trans hw221_1)⟩ (fun hHeld => ?_); refine with_tabW laws_eqCellS.tab6 laws_eqCellS.bits6 (fun HT_ HW_ => ?_); generalize wr.drew = w11 at HB hx220_0 hx220_1 hx221_0 hx221_1 hHeld ⊢; refine pu_ 0 (some 17) ?_ #[I, O, O, O, O, O, O, O, O, O] rfl rfl (any_of HT_.out (by kernel_rfl)) (.inl ⟨by rfl, ?_⟩) ?_ ?_ ?_; rotate_left; (intro w'; go_simp; with_reducible rfl); rotate_left; (simp only [pw]; rfl); refine pu_ 1 (some 18) ?_ #[I, I, O, O, O, O, O, O, O, O] rfl rfl (any_of HT_.out (by kernel_rfl)) (.inl ⟨by rfl, ?_⟩) ?_ ?_ ?_; rotate_left; (intro w'; go_simp; with_reducible rfl); rotate_left; (simp only [pw]; rfl); refine pu_ 2 (some 19) ?_ #[I, I, I, O, O, O, O, O, O, O] rfl rfl (any_of HT_.out (by kernel_rfl)) (.inl ⟨by rfl, ?_⟩) ?_ ?_ ?_; rotate_left; (intro w'; go_simp; with_reducible rfl); rotate_left; (simp only [pw]; rfl); refine pu_ 4 (some 21) ?_ #[I, I, I, O, I, O, O, O, O, O] rfl rfl (any_of HT_.out (by kernel_rfl)) (.inl ⟨by rfl, ?_⟩) ?_ ?_ ?_; rotate_left; (intro w'; go_simp; with_reducible rfl); rotate_left; (simp only [pw]; rfl); refine pu_ 5 (some 22) ?_ #[I, I, I, O, I, I, O, O, O, O] rfl rfl (any_of HT_.out (by kernel_rfl)) (.inl ⟨by rfl, ?_⟩) ?_ ?_ ?_; rotate_left; (intro w'; go_simp; with_reducible rfl); rotate_left; (simp only [pw]; rfl); refine pu_ 6 (some 23) ?_ #[I, I, I, O, I, I, I, O, O, O] rfl rfl (any_of HT_.out (by kernel_rfl)) (.inl ⟨by rfl, ?_⟩) ?_ ?_ ?_; rotate_left; (intro w'; go_simp; with_reducible rfl); rotate_left; (simp only [pw]; rfl); refine tk_ 3 (some 20) ?_ #[I, I, I, I, I, I, I, O, O, O] rfl rfl (take_ofW HT_.out HW_.out (by kernel_rfl)) (.inl ⟨by rfl, ?_⟩) hHeld ?_ ?_ ?_; rotate_left; (rintro w' ⟨s0, s1, s2, s3⟩; go_simp; with_reducible rfl); rotate_left; (simp only [pw]; rfl); refine tk_ 7 (some 24) ?_ #[I, I, I, I, I, I, I, I, O, O] rfl rfl (take_ofW HT_.out HW_.out (by kernel_rfl)) (.inl ⟨by rfl, ?_⟩) hHeld ?_ ?_ ?_; rotate_left; (rintro w' ⟨s0, s1, s2, s3⟩; go_simp; with_reducible rfl); rotate_left; (simp only [pw]; rfl); refine one_ (i := 8) (N := some 25) #[I, I, I, I, I, I, I, I, I, O] rfl rfl (one_of HT_.out (by kernel_rfl)) (by decide) (fun K hK => ?_); refine goes_ Try.func62 (by kernel_rfl) rfl #[.agg #[.int .i64 ((rd_T71 l0 x5_1).f0), .int .i64 ((rd_T71 l0 x5_1).f1)], .agg #[.int .i64 ((rd_T71 l1 x5_1).f0), .int .i64 ((rd_T71 l1 x5_1).f1)]] (by rfl) rfl rfl mq ?_; with_reducible refine (laws_eqCell.calls ((rd_T71 l0 x5_1).f0) ((rd_T71 l0 x5_1).f1) ((rd_T71 l1 x5_1).f0) ((rd_T71 l1 x5_1).f1) false _ A7.out).mono ?_
       rintro e w12 ⟨rfl, hb⟩; refine ⟨_, rfl, ?_⟩; have n0_ := sb hb; clear HB; have HB := n0_; clear n0_; (try clear hb); refine hK.out _ _ ⟨((HB.out.cell (World.block_lt_of_cell? w _ hw220_0)).trans hw220_0), ((HB.out.cell (World.block_lt_of_cell? w _ hw220_1)).trans hw220_1), ((HB.out.cell (World.block_lt_of_cell? w _ hw221_0)).trans hw221_0), ((HB.out.cell (World.block_lt_of_cell? w _ hw221_1)).trans hw221_1)⟩ (fun hHeld => ?_); clear hK K; refine norm_ (a' := ?_) ?_ ?_; rotate_left
       ·show Act.put _ (some 25) _ = _
        simp only [pw]; rfl
       refine pu_ 9 (some 26) ?_ #[I, I, I, I, I, I, I, I, I, I] rfl rfl (any_of HT_.out (by kernel_rfl)) (.inl ⟨by rfl, ?_⟩) ?_ ?_ ?_; rotate_left; (intro w'; go_simp; with_reducible rfl); rotate_left; (simp only [pw]; rfl); refine done_ (done_of HT_.out (by kernel_rfl)) ?_; try go_wp2
       go_ret
       exact ⟨eq_, bq⟩
      rw [if_neg c6] at H; exact absurd H (by simp)
     rw [if_neg c5] at H; exact absurd H (by simp)
    rw [if_neg c4] at H; have c4b0 : decide (x5_1 < (l0.length : Int)) = false := decide_eq_false c4; clear c4; obtain rfl := Option.some.inj H
    go_wp2
    go_ret
    exact ⟨eq_, bq⟩
 rw [if_neg c3] at H; have c3b0 : ((l0.length : Int) == (l1.length : Int)) = false := beq_eq_false_iff_ne.mpr c3; have c3b1 : ((l0.length : Int) != (l1.length : Int)) = true := bne_iff_ne.mpr c3; have c3b2 : (l0.length == l1.length) = false := by first | simpa using c3 | (simp at c3 ⊢; omega)
 obtain rfl := Option.some.inj H
 go_enter Try.func53, Try.ntmps53
 go_wp2
 go_ret
 exact ⟨eq_, bq⟩



def laws_eqBoard.f (k : Nat) (a0_0 : Int) (a0_1 : Int) (l0_2 : List (S71)) (a1_0 : Int) (a1_1 : Int) (l1_2 : List (S71)) : Option (Bool) := if a0_0 = a1_0 then (if a0_1 = a1_1 then ((laws_eqCellS.f k l0_2 l1_2).bind fun t225 => (if t225 = true then (some true) else (some false))) else (some false)) else (some false)
theorem laws_eqBoard.calls (k : Nat) (a0_0 : Int) (a0_1 : Int) (A0_2 : Option Addr) (c0_2 : Nat) (l0_2 : List (S71)) (a1_0 : Int) (a1_1 : Int) (A1_2 : Option Addr) (c1_2 : Nat) (l1_2 : List (S71)) (r : Bool) (w : World) (hr0_2 : Kd.C k71 w A0_2 l0_2.length l0_2) (hc0_2 : l0_2.length ≤ c0_2) (hr1_2 : Kd.C k71 w A1_2 l1_2.length l1_2) (hc1_2 : l1_2.length ≤ c1_2) (h : laws_eqBoard.f k a0_0 a0_1 l0_2 a1_0 a1_1 l1_2 = some r) :
  Calls Try.prog 33 #[.agg #[.int .i64 a0_0, .int .i64 a0_1, .slice A0_2 l0_2.length c0_2], .agg #[.int .i64 a1_0, .int .i64 a1_1, .slice A1_2 l1_2.length c1_2]] w fun e w' => e = .returned (.bool r) ∧ Below w.heap.size w w' := by
 have hu51 := Try.underlying51; have HR0_2 := am hr0_2; have HC0_2 := am hc0_2; clear hr0_2 hc0_2; have HR1_2 := am hr1_2; have HC1_2 := am hc1_2; clear hr1_2 hc1_2; have HB := am (Below.refl w.heap.size w); have H := h; clear h
 unfold laws_eqBoard.f at H
 by_cases c3 : a0_0 = a1_0
 ·rw [if_pos c3] at H; have c3b0 : (a0_0 == a1_0) = true := beq_iff_eq.mpr c3; have c3b1 : (a0_0 != a1_0) = false := bne_eq_false_iff_eq.mpr c3; clear c3; by_cases c4 : a0_1 = a1_1
  ·rw [if_pos c4] at H; have c4b0 : (a0_1 == a1_1) = true := beq_iff_eq.mpr c4; have c4b1 : (a0_1 != a1_1) = false := bne_eq_false_iff_eq.mpr c4; clear c4; obtain ⟨t225, A5, H⟩ := bindq H; try dsimp only at H
   by_cases c6 : t225 = true
   ·subst c6; rw [if_pos rfl] at H; try dsimp only at H
    obtain rfl := Option.some.inj H
    go_enter Try.func33, Try.ntmps33
    go_wp2_with (first | ((with_reducible refine gate_dst (N := 2) rfl ?_); refine box_event ?hg (N := 2) ?hd (cs := #[.int .i64 a0_0, .int .i64 a0_1, .slice A0_2 l0_2.length c0_2]) (t := 51) ?hr ?_; (case hd | hg => rfl); (case hr => go_simp; try rfl); intro gb223 hg w7 hbox hb; have BK223 := am (hbox); have GW223 := am (gq hg); have GE223 := am (gq hg); replace HB := sb hb; clear hb hbox hg) | ((with_reducible refine gate_dst (N := 3) rfl ?_); refine box_event ?hg (N := 3) ?hd (cs := #[.int .i64 a1_0, .int .i64 a1_1, .slice A1_2 l1_2.length c1_2]) (t := 51) ?hr ?_; (case hd | hg => rfl); (case hr => go_simp; try rfl); intro gb224 hg w8 hbox hb; have BK224 := am (hbox); have GW224 := am (gq hg); have GE224 := am (gq hg); replace HB := sb hb; have ⟨NB223_224, NB224_223⟩ := nn hg BK223; replace BK223 := zb BK223 hb; clear hb hbox hg; have hnb9 := NB223_224.out; have hnc9 := NB224_223.out; have ⟨b100, b101, b102, d100, d101, d102⟩ := bc3 BK223; have ⟨b110, b111, b112, d110, d111, d112⟩ := bc3 BK224) | ((with_reducible refine gate_callee (f := 53) rfl ?_); refine goesQ (some 19) Try.func53 #[.slice A0_2 l0_2.length c0_2, .slice A1_2 l1_2.length c1_2] ?_; (with_reducible refine (laws_eqCellS.calls k _ _ l0_2 _ _ l1_2 true _ ?s1 ?s2 ?s3 ?s4 A5.out).mono ?_); (case s1 => exact cq (Kd.C_below HR0_2.out HB.out)); (case s2 => exact HC0_2.out); (case s3 => exact cq (Kd.C_below HR1_2.out HB.out)); (case s4 => exact HC1_2.out); rintro e w12 ⟨rfl, hb⟩; refine ⟨_, rfl, ?_⟩; replace BK223 := zb BK223 hb; replace BK224 := zb BK224 hb; replace HB := sb hb; (try clear hb)))
    go_ret
    exact ⟨eq_, bq⟩
   replace c6 := Bool.eq_false_iff.mpr c6; subst c6; rw [if_neg (show ¬ (false = true) by decide)] at H; try dsimp only at H
   obtain rfl := Option.some.inj H
   go_enter Try.func33, Try.ntmps33
   go_wp2_with (first | ((with_reducible refine gate_dst (N := 2) rfl ?_); refine box_event ?hg (N := 2) ?hd (cs := #[.int .i64 a0_0, .int .i64 a0_1, .slice A0_2 l0_2.length c0_2]) (t := 51) ?hr ?_; (case hd | hg => rfl); (case hr => go_simp; try rfl); intro gb223 hg w13 hbox hb; have BK223 := am (hbox); have GW223 := am (gq hg); have GE223 := am (gq hg); replace HB := sb hb; clear hb hbox hg) | ((with_reducible refine gate_dst (N := 3) rfl ?_); refine box_event ?hg (N := 3) ?hd (cs := #[.int .i64 a1_0, .int .i64 a1_1, .slice A1_2 l1_2.length c1_2]) (t := 51) ?hr ?_; (case hd | hg => rfl); (case hr => go_simp; try rfl); intro gb224 hg w14 hbox hb; have BK224 := am (hbox); have GW224 := am (gq hg); have GE224 := am (gq hg); replace HB := sb hb; have ⟨NB223_224, NB224_223⟩ := nn hg BK223; replace BK223 := zb BK223 hb; clear hb hbox hg; have hnb15 := NB223_224.out; have hnc15 := NB224_223.out; have ⟨b160, b161, b162, d160, d161, d162⟩ := bc3 BK223; have ⟨b170, b171, b172, d170, d171, d172⟩ := bc3 BK224) | ((with_reducible refine gate_callee (f := 53) rfl ?_); refine goesQ (some 19) Try.func53 #[.slice A0_2 l0_2.length c0_2, .slice A1_2 l1_2.length c1_2] ?_; (with_reducible refine (laws_eqCellS.calls k _ _ l0_2 _ _ l1_2 false _ ?s1 ?s2 ?s3 ?s4 A5.out).mono ?_); (case s1 => exact cq (Kd.C_below HR0_2.out HB.out)); (case s2 => exact HC0_2.out); (case s3 => exact cq (Kd.C_below HR1_2.out HB.out)); (case s4 => exact HC1_2.out); rintro e w18 ⟨rfl, hb⟩; refine ⟨_, rfl, ?_⟩; replace BK223 := zb BK223 hb; replace BK224 := zb BK224 hb; replace HB := sb hb; (try clear hb)))
   go_ret
   exact ⟨eq_, bq⟩
  rw [if_neg c4] at H; have c4b0 : (a0_1 == a1_1) = false := beq_eq_false_iff_ne.mpr c4; have c4b1 : (a0_1 != a1_1) = true := bne_iff_ne.mpr c4; obtain rfl := Option.some.inj H
  go_enter Try.func33, Try.ntmps33
  go_wp2_with (first | ((with_reducible refine gate_dst (N := 2) rfl ?_); refine box_event ?hg (N := 2) ?hd (cs := #[.int .i64 a0_0, .int .i64 a0_1, .slice A0_2 l0_2.length c0_2]) (t := 51) ?hr ?_; (case hd | hg => rfl); (case hr => go_simp; try rfl); intro gb223 hg w19 hbox hb; have BK223 := am (hbox); have GW223 := am (gq hg); have GE223 := am (gq hg); replace HB := sb hb; clear hb hbox hg) | ((with_reducible refine gate_dst (N := 3) rfl ?_); refine box_event ?hg (N := 3) ?hd (cs := #[.int .i64 a1_0, .int .i64 a1_1, .slice A1_2 l1_2.length c1_2]) (t := 51) ?hr ?_; (case hd | hg => rfl); (case hr => go_simp; try rfl); intro gb224 hg w20 hbox hb; have BK224 := am (hbox); have GW224 := am (gq hg); have GE224 := am (gq hg); replace HB := sb hb; have ⟨NB223_224, NB224_223⟩ := nn hg BK223; replace BK223 := zb BK223 hb; clear hb hbox hg; have hnb21 := NB223_224.out; have hnc21 := NB224_223.out; have ⟨b220, b221, b222, d220, d221, d222⟩ := bc3 BK223; have ⟨b230, b231, b232, d230, d231, d232⟩ := bc3 BK224))
  go_ret
  exact ⟨eq_, bq⟩
 rw [if_neg c3] at H; have c3b0 : (a0_0 == a1_0) = false := beq_eq_false_iff_ne.mpr c3; have c3b1 : (a0_0 != a1_0) = true := bne_iff_ne.mpr c3; obtain rfl := Option.some.inj H
 go_enter Try.func33, Try.ntmps33
 go_wp2_with (first | ((with_reducible refine gate_dst (N := 2) rfl ?_); refine box_event ?hg (N := 2) ?hd (cs := #[.int .i64 a0_0, .int .i64 a0_1, .slice A0_2 l0_2.length c0_2]) (t := 51) ?hr ?_; (case hd | hg => rfl); (case hr => go_simp; try rfl); intro gb223 hg w24 hbox hb; have BK223 := am (hbox); have GW223 := am (gq hg); have GE223 := am (gq hg); replace HB := sb hb; clear hb hbox hg) | ((with_reducible refine gate_dst (N := 3) rfl ?_); refine box_event ?hg (N := 3) ?hd (cs := #[.int .i64 a1_0, .int .i64 a1_1, .slice A1_2 l1_2.length c1_2]) (t := 51) ?hr ?_; (case hd | hg => rfl); (case hr => go_simp; try rfl); intro gb224 hg w25 hbox hb; have BK224 := am (hbox); have GW224 := am (gq hg); have GE224 := am (gq hg); replace HB := sb hb; have ⟨NB223_224, NB224_223⟩ := nn hg BK223; replace BK223 := zb BK223 hb; clear hb hbox hg; have hnb26 := NB223_224.out; have hnc26 := NB224_223.out; have ⟨b270, b271, b272, d270, d271, d272⟩ := bc3 BK223; have ⟨b280, b281, b282, d280, d281, d282⟩ := bc3 BK224))
 go_ret
 exact ⟨eq_, bq⟩


def laws_eqBoardS.l0 : Nat → List (S51) → List (S51) → Int → Option (Bool)
 | 0, _, _, _ => none
 | k + 1, x0, x1, x5 => if x5 < (x0.length : Int) then (if 0 ≤ x5 then (if x5 < (x1.length : Int) then ((laws_eqBoard.f k ((rd_T51 x0 x5).f0) ((rd_T51 x0 x5).f1) ((rd_T51 x0 x5).f2) ((rd_T51 x1 x5).f0) ((rd_T51 x1 x5).f1) ((rd_T51 x1 x5).f2)).bind fun t228 => (if t228 = true then (laws_eqBoardS.l0 k x0 x1 (wrap64 (x5 + 1))) else (some false))) else (none)) else (none)) else (some true)
def laws_eqBoardS.f (k : Nat) (l0 : List (S51)) (l1 : List (S51)) : Option (Bool) := if (l0.length : Int) = (l1.length : Int) then (laws_eqBoardS.l0 k l0 l1 0) else (some false)
def laws_eqBoardS.T6 : Bool × List (List Nat × List Nat) := (true, [([], []), ([], []), ([0, 1], [0, 1]), ([2], [2]), ([], []), ([], []), ([4, 5], [4, 5]), ([6], [6]), ([3, 7], [3, 7]), ([8], [8])])
def laws_eqBoardS.B6 : List Nat := [0, 0, 3, 7, 0, 0, 48, 112, 255, 511]
theorem laws_eqBoardS.tab6 : rtab .any (opsOf Try.f12 6) = laws_eqBoardS.T6 := by kernel_rfl
theorem laws_eqBoardS.bits6 : waitsOk laws_eqBoardS.T6.2 laws_eqBoardS.B6 = true := by kernel_rfl
theorem laws_eqBoardS.calls (k : Nat) (A0 : Option Addr) (c0 : Nat) (l0 : List (S51)) (A1 : Option Addr) (c1 : Nat) (l1 : List (S51)) (r : Bool) (w : World) (hr0 : Kd.C k51 w A0 l0.length l0) (hc0 : l0.length ≤ c0) (hr1 : Kd.C k51 w A1 l1.length l1) (hc1 : l1.length ≤ c1) (h : laws_eqBoardS.f k l0 l1 = some r) :
  Calls Try.prog 12 #[.slice A0 l0.length c0, .slice A1 l1.length c1] w fun e w' => e = .returned (.bool r) ∧ Below w.heap.size w w' := by
 have hu51 := Try.underlying51; have HR0 := am hr0; have HC0 := am hc0; clear hr0 hc0; have HR1 := am hr1; have HC1 := am hc1; clear hr1 hc1; have HB := am (Below.refl w.heap.size w); have H := h; clear h
 unfold laws_eqBoardS.f at H
 by_cases c3 : (l0.length : Int) = (l1.length : Int)
 ·rw [if_pos c3] at H; have c3b0 : ((l0.length : Int) == (l1.length : Int)) = true := beq_iff_eq.mpr c3; have c3b1 : ((l0.length : Int) != (l1.length : Int)) = false := bne_eq_false_iff_eq.mpr c3; have c3b2 : (l0.length == l1.length) = true := by first | simpa using c3 | (simp at c3 ⊢; omega)
  clear c3; have H' := am H; clear H
  go_enter Try.func12, Try.ntmps12
  go_wp2
  go_loopg [5] k (fun kq v5 w' => ∃ (x5_1 : Int), v5 = .int .i64 x5_1 ∧ Aside0 (laws_eqBoardS.l0 kq l0 l1 x5_1 = some r) ∧ Aside0 (kq ≤ k) ∧ Aside0 (Below w.heap.size w w'))
  case atStart => exact ⟨(0), sq, H', ⟨Nat.le_refl _⟩, ⟨bq⟩⟩
  case round =>
   clear H'; try clear c3b0
   try clear c3b1
   try clear c3b2
   obtain ⟨x5_1, rfl, HA, HK1, HB⟩ := hrel
   cases gk with
   | zero => exact absurd HA.out (by simp [laws_eqBoardS.l0])
   | succ k1 =>
    have H := HA.out; clear HA; simp only [laws_eqBoardS.l0] at H; by_cases c4 : x5_1 < (l0.length : Int)
    ·rw [if_pos c4] at H; have c4b0 : decide (x5_1 < (l0.length : Int)) = true := decide_eq_true c4; clear c4; by_cases c5 : 0 ≤ x5_1
     ·rw [if_pos c5] at H; have c5b0 : decide (0 ≤ x5_1) = true := decide_eq_true c5; clear c5; by_cases c6 : x5_1 < (l1.length : Int)
      ·rw [if_pos c6] at H; have c6b0 : decide (x5_1 < (l1.length : Int)) = true := decide_eq_true c6; clear c6; obtain ⟨t228, A7, H⟩ := bindq H; try dsimp only at H
       by_cases c8 : t228 = true
       ·subst c8; rw [if_pos rfl] at H; try dsimp only at H
        have H' := am H; clear H; try go_wp2
        have n0_ := am (below_drew1 HB.out); clear HB; have HB := n0_; clear n0_; have p226 : 0 ≤ (x5_1 : Int) := of_decide_eq_true aq; have q226 : x5_1 < (l0.length : Int) := of_decide_eq_true aq; obtain ⟨ad226, A226_2, c226_2, e226, hx226_0, hx226_1, hx226_2, hl226_2, hi226_2⟩ := at_T51 HR0.out x5_1 p226 q226; have hw226_2 := hx226_2; have hw226_1 := hx226_1; have hw226_0 := hx226_0
        cases e226
        replace hx226_0 := (HB.out.cell (World.block_lt_of_cell? w _ hx226_0)).trans hx226_0; replace hx226_1 := (HB.out.cell (World.block_lt_of_cell? w _ hx226_1)).trans hx226_1; replace hx226_2 := (HB.out.cell (World.block_lt_of_cell? w _ hx226_2)).trans hx226_2; have HR226_2 := am hi226_2; have HC226_2 := am hl226_2; clear hi226_2 hl226_2; replace p226 := eq_true p226; replace q226 := eq_true q226; have p227 : 0 ≤ (x5_1 : Int) := of_decide_eq_true aq; have q227 : x5_1 < (l1.length : Int) := of_decide_eq_true aq; obtain ⟨ad227, A227_2, c227_2, e227, hx227_0, hx227_1, hx227_2, hl227_2, hi227_2⟩ := at_T51 HR1.out x5_1 p227 q227; have hw227_2 := hx227_2; have hw227_1 := hx227_1; have hw227_0 := hx227_0
        cases e227
        replace hx227_0 := (HB.out.cell (World.block_lt_of_cell? w _ hx227_0)).trans hx227_0; replace hx227_1 := (HB.out.cell (World.block_lt_of_cell? w _ hx227_1)).trans hx227_1; replace hx227_2 := (HB.out.cell (World.block_lt_of_cell? w _ hx227_2)).trans hx227_2; have HR227_2 := am hi227_2; have HC227_2 := am hl227_2; clear hi227_2 hl227_2; replace p227 := eq_true p227; replace q227 := eq_true q227; refine start_ (n := 10) (S := fun w' => w'.cell? (ad226.add ((x5_1).toNat * 3)) = some (.int .i64 ((rd_T51 l0 x5_1).f0)) ∧ w'.cell? ⟨(ad226.add ((x5_1).toNat * 3)).block, (ad226.add ((x5_1).toNat * 3)).off + 1, none⟩ = some (.int .i64 ((rd_T51 l0 x5_1).f1)) ∧ w'.cell? ⟨(ad226.add ((x5_1).toNat * 3)).block, (ad226.add ((x5_1).toNat * 3)).off + 2, none⟩ = some (.slice A226_2 ((rd_T51 l0 x5_1).f2).length c226_2) ∧ w'.cell? (ad227.add ((x5_1).toNat * 3)) = some (.int .i64 ((rd_T51 l1 x5_1).f0)) ∧ w'.cell? ⟨(ad227.add ((x5_1).toNat * 3)).block, (ad227.add ((x5_1).toNat * 3)).off + 1, none⟩ = some (.int .i64 ((rd_T51 l1 x5_1).f1)) ∧ w'.cell? ⟨(ad227.add ((x5_1).toNat * 3)).block, (ad227.add ((x5_1).toNat * 3)).off + 2, none⟩ = some (.slice A227_2 ((rd_T51 l1 x5_1).f2).length c227_2)) (ds := []) #[O, O, O, O, O, O, O, O, O, O] (by kernel_rfl) rfl rfl ⟨((HB.out.cell (World.block_lt_of_cell? w _ hw226_0)).trans hw226_0), ((HB.out.cell (World.block_lt_of_cell? w _ hw226_1)).trans hw226_1), ((HB.out.cell (World.block_lt_of_cell? w _ hw226_2)).trans hw226_2), ((HB.out.cell (World.block_lt_of_cell? w _ hw227_0)).trans hw227_0), ((HB.out.cell (World.block_lt_of_cell? w _ hw227_1)).trans hw227_1), ((HB.out.cell (World.block_lt_of_cell? w _ hw227_2)).trans hw227_2)⟩ (fun hHeld => ?_); refine with_tabW laws_eqBoardS.tab6 laws_eqBoardS.bits6 (fun HT_ HW_ => ?_); generalize wr.drew = w9 at HB HR226_2 HR227_2 hx226_0 hx226_1 hx226_2 hx227_0 hx227_1 hx227_2 hHeld ⊢; refine pu_ 0 (some 17) ?_ #[I, O, O, O, O, O, O, O, O, O] rfl rfl (any_of HT_.out (by kernel_rfl)) (.inl ⟨by rfl, ?_⟩) ?_ ?_ ?_; rotate_left; (intro w'; go_simp; with_reducible rfl); rotate_left; (simp only [pw]; rfl); refine pu_ 1 (some 18) ?_ #[I, I, O, O, O, O, O, O, O, O] rfl rfl (any_of HT_.out (by kernel_rfl)) (.inl ⟨by rfl, ?_⟩) ?_ ?_ ?_; rotate_left; (intro w'; go_simp; with_reducible rfl); rotate_left; (simp only [pw]; rfl); refine pu_ 2 (some 19) ?_ #[I, I, I, O, O, O, O, O, O, O] rfl rfl (any_of HT_.out (by kernel_rfl)) (.inl ⟨by rfl, ?_⟩) ?_ ?_ ?_; rotate_left; (intro w'; go_simp; with_reducible rfl); rotate_left; (simp only [pw]; rfl); refine pu_ 4 (some 21) ?_ #[I, I, I, O, I, O, O, O, O, O] rfl rfl (any_of HT_.out (by kernel_rfl)) (.inl ⟨by rfl, ?_⟩) ?_ ?_ ?_; rotate_left; (intro w'; go_simp; with_reducible rfl); rotate_left; (simp only [pw]; rfl); refine pu_ 5 (some 22) ?_ #[I, I, I, O, I, I, O, O, O, O] rfl rfl (any_of HT_.out (by kernel_rfl)) (.inl ⟨by rfl, ?_⟩) ?_ ?_ ?_; rotate_left; (intro w'; go_simp; with_reducible rfl); rotate_left; (simp only [pw]; rfl); refine pu_ 6 (some 23) ?_ #[I, I, I, O, I, I, I, O, O, O] rfl rfl (any_of HT_.out (by kernel_rfl)) (.inl ⟨by rfl, ?_⟩) ?_ ?_ ?_; rotate_left; (intro w'; go_simp; with_reducible rfl); rotate_left; (simp only [pw]; rfl); refine tk_ 3 (some 20) ?_ #[I, I, I, I, I, I, I, O, O, O] rfl rfl (take_ofW HT_.out HW_.out (by kernel_rfl)) (.inl ⟨by rfl, ?_⟩) hHeld ?_ ?_ ?_; rotate_left; (rintro w' ⟨s0, s1, s2, s3, s4, s5⟩; go_simp; with_reducible rfl); rotate_left; (simp only [pw]; rfl); refine tk_ 7 (some 24) ?_ #[I, I, I, I, I, I, I, I, O, O] rfl rfl (take_ofW HT_.out HW_.out (by kernel_rfl)) (.inl ⟨by rfl, ?_⟩) hHeld ?_ ?_ ?_; rotate_left; (rintro w' ⟨s0, s1, s2, s3, s4, s5⟩; go_simp; with_reducible rfl); rotate_left; (simp only [pw]; rfl); refine one_ (i := 8) (N := some 25) #[I, I, I, I, I, I, I, I, I, O] rfl rfl (one_of HT_.out (by kernel_rfl)) (by decide) (fun K hK => ?_); refine goes_ Try.func33 (by kernel_rfl) rfl #[.agg #[.int .i64 ((rd_T51 l0 x5_1).f0), .int .i64 ((rd_T51 l0 x5_1).f1), .slice A226_2 ((rd_T51 l0 x5_1).f2).length c226_2], .agg #[.int .i64 ((rd_T51 l1 x5_1).f0), .int .i64 ((rd_T51 l1 x5_1).f1), .slice A227_2 ((rd_T51 l1 x5_1).f2).length c227_2]] (by rfl) rfl rfl mq ?_; with_reducible refine (laws_eqBoard.calls k1 ((rd_T51 l0 x5_1).f0) ((rd_T51 l0 x5_1).f1) _ _ ((rd_T51 l0 x5_1).f2) ((rd_T51 l1 x5_1).f0) ((rd_T51 l1 x5_1).f1) _ _ ((rd_T51 l1 x5_1).f2) true _ ?s1 ?s2 ?s3 ?s4 A7.out).mono ?_
        (case s1 => exact cq (Kd.C_below HR226_2.out HB.out)); (case s2 => exact HC226_2.out); (case s3 => exact cq (Kd.C_below HR227_2.out HB.out)); (case s4 => exact HC227_2.out); rintro e w10 ⟨rfl, hb⟩; refine ⟨_, rfl, ?_⟩; have n0_ := sb hb; clear HB; have HB := n0_; clear n0_; (try clear hb); refine hK.out _ _ ⟨((HB.out.cell (World.block_lt_of_cell? w _ hw226_0)).trans hw226_0), ((HB.out.cell (World.block_lt_of_cell? w _ hw226_1)).trans hw226_1), ((HB.out.cell (World.block_lt_of_cell? w _ hw226_2)).trans hw226_2), ((HB.out.cell (World.block_lt_of_cell? w _ hw227_0)).trans hw227_0), ((HB.out.cell (World.block_lt_of_cell? w _ hw227_1)).trans hw227_1), ((HB.out.cell (World.block_lt_of_cell? w _ hw227_2)).trans hw227_2)⟩ (fun hHeld => ?_); clear hK K; refine norm_ (a' := ?_) ?_ ?_; rotate_left
        ·show Act.put _ (some 25) _ = _
         simp only [pw]; rfl
        refine pu_ 9 (some 26) ?_ #[I, I, I, I, I, I, I, I, I, I] rfl rfl (any_of HT_.out (by kernel_rfl)) (.inl ⟨by rfl, ?_⟩) ?_ ?_ ?_; rotate_left; (intro w'; go_simp; with_reducible rfl); rotate_left; (simp only [pw]; rfl); refine done_ (done_of HT_.out (by kernel_rfl)) ?_; try go_wp2
        go_roundg k1
        case measure => have := HK1.out; omega
        case rel => exact ⟨(wrap64 (x5_1 + 1)), sq, H', ⟨by have := HK1.out; omega⟩, ⟨bq⟩⟩
       replace c8 := Bool.eq_false_iff.mpr c8; subst c8; rw [if_neg (show ¬ (false = true) by decide)] at H; try dsimp only at H
       obtain rfl := Option.some.inj H; try go_wp2
       have n0_ := am (below_drew1 HB.out); clear HB; have HB := n0_; clear n0_; have p226 : 0 ≤ (x5_1 : Int) := of_decide_eq_true aq; have q226 : x5_1 < (l0.length : Int) := of_decide_eq_true aq; obtain ⟨ad226, A226_2, c226_2, e226, hx226_0, hx226_1, hx226_2, hl226_2, hi226_2⟩ := at_T51 HR0.out x5_1 p226 q226; have hw226_2 := hx226_2; have hw226_1 := hx226_1; have hw226_0 := hx226_0
       cases e226
       replace hx226_0 := (HB.out.cell (World.block_lt_of_cell? w _ hx226_0)).trans hx226_0; replace hx226_1 := (HB.out.cell (World.block_lt_of_cell? w _ hx226_1)).trans hx226_1; replace hx226_2 := (HB.out.cell (World.block_lt_of_cell? w _ hx226_2)).trans hx226_2; have HR226_2 := am hi226_2; have HC226_2 := am hl226_2; clear hi226_2 hl226_2; replace p226 := eq_true p226; replace q226 := eq_true q226; have p227 : 0 ≤ (x5_1 : Int) := of_decide_eq_true aq; have q227 : x5_1 < (l1.length : Int) := of_decide_eq_true aq; obtain ⟨ad227, A227_2, c227_2, e227, hx227_0, hx227_1, hx227_2, hl227_2, hi227_2⟩ := at_T51 HR1.out x5_1 p227 q227; have hw227_2 := hx227_2; have hw227_1 := hx227_1; have hw227_0 := hx227_0
       cases e227
       replace hx227_0 := (HB.out.cell (World.block_lt_of_cell? w _ hx227_0)).trans hx227_0; replace hx227_1 := (HB.out.cell (World.block_lt_of_cell? w _ hx227_1)).trans hx227_1; replace hx227_2 := (HB.out.cell (World.block_lt_of_cell? w _ hx227_2)).trans hx227_2; have HR227_2 := am hi227_2; have HC227_2 := am hl227_2; clear hi227_2 hl227_2; replace p227 := eq_true p227; replace q227 := eq_true q227; refine start_ (n := 10) (S := fun w' => w'.cell? (ad226.add ((x5_1).toNat * 3)) = some (.int .i64 ((rd_T51 l0 x5_1).f0)) ∧ w'.cell? ⟨(ad226.add ((x5_1).toNat * 3)).block, (ad226.add ((x5_1).toNat * 3)).off + 1, none⟩ = some (.int .i64 ((rd_T51 l0 x5_1).f1)) ∧ w'.cell? ⟨(ad226.add ((x5_1).toNat * 3)).block, (ad226.add ((x5_1).toNat * 3)).off + 2, none⟩ = some (.slice A226_2 ((rd_T51 l0 x5_1).f2).length c226_2) ∧ w'.cell? (ad227.add ((x5_1).toNat * 3)) = some (.int .i64 ((rd_T51 l1 x5_1).f0)) ∧ w'.cell? ⟨(ad227.add ((x5_1).toNat * 3)).block, (ad227.add ((x5_1).toNat * 3)).off + 1, none⟩ = some (.int .i64 ((rd_T51 l1 x5_1).f1)) ∧ w'.cell? ⟨(ad227.add ((x5_1).toNat * 3)).block, (ad227.add ((x5_1).toNat * 3)).off + 2, none⟩ = some (.slice A227_2 ((rd_T51 l1 x5_1).f2).length c227_2)) (ds := []) #[O, O, O, O, O, O, O, O, O, O] (by kernel_rfl) rfl rfl ⟨((HB.out.cell (World.block_lt_of_cell? w _ hw226_0)).trans hw226_0), ((HB.out.cell (World.block_lt_of_cell? w _ hw226_1)).trans hw226_1), ((HB.out.cell (World.block_lt_of_cell? w _ hw226_2)).trans hw226_2), ((HB.out.cell (World.block_lt_of_cell? w _ hw227_0)).trans hw227_0), ((HB.out.cell (World.block_lt_of_cell? w _ hw227_1)).trans hw227_1), ((HB.out.cell (World.block_lt_of_cell? w _ hw227_2)).trans hw227_2)⟩ (fun hHeld => ?_); refine with_tabW laws_eqBoardS.tab6 laws_eqBoardS.bits6 (fun HT_ HW_ => ?_); generalize wr.drew = w11 at HB HR226_2 HR227_2 hx226_0 hx226_1 hx226_2 hx227_0 hx227_1 hx227_2 hHeld ⊢; refine pu_ 0 (some 17) ?_ #[I, O, O, O, O, O, O, O, O, O] rfl rfl (any_of HT_.out (by kernel_rfl)) (.inl ⟨by rfl, ?_⟩) ?_ ?_ ?_; rotate_left; (intro w'; go_simp; with_reducible rfl); rotate_left; (simp only [pw]; rfl); refine pu_ 1 (some 18) ?_ #[I, I, O, O, O, O, O, O, O, O] rfl rfl (any_of HT_.out (by kernel_rfl)) (.inl ⟨by rfl, ?_⟩) ?_ ?_ ?_; rotate_left; (intro w'; go_simp; with_reducible rfl); rotate_left; (simp only [pw]; rfl); refine pu_ 2 (some 19) ?_ #[I, I, I, O, O, O, O, O, O, O] rfl rfl (any_of HT_.out (by kernel_rfl)) (.inl ⟨by rfl, ?_⟩) ?_ ?_ ?_; rotate_left; (intro w'; go_simp; with_reducible rfl); rotate_left; (simp only [pw]; rfl); refine pu_ 4 (some 21) ?_ #[I, I, I, O, I, O, O, O, O, O] rfl rfl (any_of HT_.out (by kernel_rfl)) (.inl ⟨by rfl, ?_⟩) ?_ ?_ ?_; rotate_left; (intro w'; go_simp; with_reducible rfl); rotate_left; (simp only [pw]; rfl); refine pu_ 5 (some 22) ?_ #[I, I, I, O, I, I, O, O, O, O] rfl rfl (any_of HT_.out (by kernel_rfl)) (.inl ⟨by rfl, ?_⟩) ?_ ?_ ?_; rotate_left; (intro w'; go_simp; with_reducible rfl); rotate_left; (simp only [pw]; rfl); refine pu_ 6 (some 23) ?_ #[I, I, I, O, I, I, I, O, O, O] rfl rfl (any_of HT_.out (by kernel_rfl)) (.inl ⟨by rfl, ?_⟩) ?_ ?_ ?_; rotate_left; (intro w'; go_simp; with_reducible rfl); rotate_left; (simp only [pw]; rfl); refine tk_ 3 (some 20) ?_ #[I, I, I, I, I, I, I, O, O, O] rfl rfl (take_ofW HT_.out HW_.out (by kernel_rfl)) (.inl ⟨by rfl, ?_⟩) hHeld ?_ ?_ ?_; rotate_left; (rintro w' ⟨s0, s1, s2, s3, s4, s5⟩; go_simp; with_reducible rfl); rotate_left; (simp only [pw]; rfl); refine tk_ 7 (some 24) ?_ #[I, I, I, I, I, I, I, I, O, O] rfl rfl (take_ofW HT_.out HW_.out (by kernel_rfl)) (.inl ⟨by rfl, ?_⟩) hHeld ?_ ?_ ?_; rotate_left; (rintro w' ⟨s0, s1, s2, s3, s4, s5⟩; go_simp; with_reducible rfl); rotate_left; (simp only [pw]; rfl); refine one_ (i := 8) (N := some 25) #[I, I, I, I, I, I, I, I, I, O] rfl rfl (one_of HT_.out (by kernel_rfl)) (by decide) (fun K hK => ?_); refine goes_ Try.func33 (by kernel_rfl) rfl #[.agg #[.int .i64 ((rd_T51 l0 x5_1).f0), .int .i64 ((rd_T51 l0 x5_1).f1), .slice A226_2 ((rd_T51 l0 x5_1).f2).length c226_2], .agg #[.int .i64 ((rd_T51 l1 x5_1).f0), .int .i64 ((rd_T51 l1 x5_1).f1), .slice A227_2 ((rd_T51 l1 x5_1).f2).length c227_2]] (by rfl) rfl rfl mq ?_; with_reducible refine (laws_eqBoard.calls k1 ((rd_T51 l0 x5_1).f0) ((rd_T51 l0 x5_1).f1) _ _ ((rd_T51 l0 x5_1).f2) ((rd_T51 l1 x5_1).f0) ((rd_T51 l1 x5_1).f1) _ _ ((rd_T51 l1 x5_1).f2) false _ ?s1 ?s2 ?s3 ?s4 A7.out).mono ?_
       (case s1 => exact cq (Kd.C_below HR226_2.out HB.out)); (case s2 => exact HC226_2.out); (case s3 => exact cq (Kd.C_below HR227_2.out HB.out)); (case s4 => exact HC227_2.out); rintro e w12 ⟨rfl, hb⟩; refine ⟨_, rfl, ?_⟩; have n0_ := sb hb; clear HB; have HB := n0_; clear n0_; (try clear hb); refine hK.out _ _ ⟨((HB.out.cell (World.block_lt_of_cell? w _ hw226_0)).trans hw226_0), ((HB.out.cell (World.block_lt_of_cell? w _ hw226_1)).trans hw226_1), ((HB.out.cell (World.block_lt_of_cell? w _ hw226_2)).trans hw226_2), ((HB.out.cell (World.block_lt_of_cell? w _ hw227_0)).trans hw227_0), ((HB.out.cell (World.block_lt_of_cell? w _ hw227_1)).trans hw227_1), ((HB.out.cell (World.block_lt_of_cell? w _ hw227_2)).trans hw227_2)⟩ (fun hHeld => ?_); clear hK K; refine norm_ (a' := ?_) ?_ ?_; rotate_left
       ·show Act.put _ (some 25) _ = _
        simp only [pw]; rfl
       refine pu_ 9 (some 26) ?_ #[I, I, I, I, I, I, I, I, I, I] rfl rfl (any_of HT_.out (by kernel_rfl)) (.inl ⟨by rfl, ?_⟩) ?_ ?_ ?_; rotate_left; (intro w'; go_simp; with_reducible rfl); rotate_left; (simp only [pw]; rfl); refine done_ (done_of HT_.out (by kernel_rfl)) ?_; try go_wp2
       go_ret
       exact ⟨eq_, bq⟩
      rw [if_neg c6] at H; exact absurd H (by simp)
     rw [if_neg c5] at H; exact absurd H (by simp)
    rw [if_neg c4] at H; have c4b0 : decide (x5_1 < (l0.length : Int)) = false := decide_eq_false c4; clear c4; obtain rfl := Option.some.inj H
    go_wp2
    go_ret
    exact ⟨eq_, bq⟩
 rw [if_neg c3] at H; have c3b0 : ((l0.length : Int) == (l1.length : Int)) = false := beq_eq_false_iff_ne.mpr c3; have c3b1 : ((l0.length : Int) != (l1.length : Int)) = true := bne_iff_ne.mpr c3; have c3b2 : (l0.length == l1.length) = false := by first | simpa using c3 | (simp at c3 ⊢; omega)
 obtain rfl := Option.some.inj H
 go_enter Try.func12, Try.ntmps12
 go_wp2
 go_ret
 exact ⟨eq_, bq⟩


def laws_markCellS.l0 : Nat → List (S71) → Int → Int → Option (Int × (List (S71)))
 | 0, _, _, _ => none
 | k + 1, x0, x1, x5 => if x5 < (x0.length : Int) then (if 0 ≤ x5 then ((some (x0.set (x5 : Int).toNat (⟨x1, (rd_T71 x0 x5).f1⟩ : S71) : List (S71))).bind fun y229 => (laws_markCellS.l0 k (y229.set (x5 : Int).toNat (⟨(rd_T71 y229 x5).f0, wrap64 (x1 + 1)⟩ : S71)) (wrap64 ((wrap64 (x1 + 1)) + 1)) (wrap64 (x5 + 1)))) else (none)) else (some (x1, x0))
def laws_markCellS.f (k : Nat) (l0 : List (S71)) (a1 : Int) : Option (Int × (List (S71))) := laws_markCellS.l0 k l0 a1 0
theorem laws_markCellS.calls (k : Nat) (P0_ : Nat → Prop) (u13_ : Value) (l0 : List (S71)) (a1 : Int) (r1 : Int) (r2 : List (S71)) (w0 w : World) (hB : Below w0.heap.size w0 w) (ho0 : Kd.R k71 71 w w0.heap.size P0_ u13_ l0) (h : laws_markCellS.f k l0 a1 = some (r1, r2)) :
  Calls Try.prog 34 #[u13_, .int .i64 a1] w fun e w' => e = .returned (.int .i64 r1) ∧ Kd.R k71 71 w' w0.heap.size (fun k_ => (P0_ k_ ∨ w.heap.size ≤ k_)) u13_ r2 ∧ Below w0.heap.size w0 w' ∧ Kept w w' (fun k_ => P0_ k_) := by
 have HO0 := am (show Kd.R k71 71 w w0.heap.size (fun k_ => (P0_ k_ ∨ w.heap.size ≤ k_)) u13_ l0 from Kd.R_mono ho0 (fun k_ hk => (.inl hk))); have HK := am (Kept.refl w (fun k_ => P0_ k_)); have HW0 := am hB.size; have HB := am hB; clear hB; have H := h; clear h
 unfold laws_markCellS.f at H
 have H' := am H; clear H
 go_enter Try.func34, Try.ntmps34
 go_wp2
 go_loopg [1, 5] k (fun kq v1 v5 w' => ∃ (x0_1 : List (S71)) (x1_1 : Int) (x5_1 : Int), v1 = .int .i64 x1_1 ∧ v5 = .int .i64 x5_1 ∧ Aside0 (laws_markCellS.l0 kq x0_1 x1_1 x5_1 = some (r1, r2)) ∧ Aside0 (kq ≤ k) ∧ Aside0 (Kd.R k71 71 w' w0.heap.size (fun k_ => (P0_ k_ ∨ w.heap.size ≤ k_)) u13_ x0_1) ∧ Aside0 (Kept w w' (fun k_ => P0_ k_)) ∧ Aside0 (Below w0.heap.size w0 w'))
 case atStart => exact ⟨(l0), (a1), (0), sq, sq, H', ⟨Nat.le_refl _⟩, ⟨rq HO0⟩, ⟨hkq⟩, ⟨bq⟩⟩
 case round =>
  clear H'; obtain ⟨x0_1, x1_1, x5_1, rfl, rfl, HA, HK1, HO_0, HK, HB⟩ := hrel
  cases gk with
  | zero => exact absurd HA.out (by simp [laws_markCellS.l0])
  | succ k1 =>
   have H := HA.out; clear HA; simp only [laws_markCellS.l0] at H; by_cases c3 : x5_1 < (x0_1.length : Int)
   ·rw [if_pos c3] at H; have c3b0 : decide (x5_1 < (x0_1.length : Int)) = true := decide_eq_true c3; clear c3; by_cases c4 : 0 ≤ x5_1
    ·rw [if_pos c4] at H; have c4b0 : decide (0 ≤ x5_1) = true := decide_eq_true c4; clear c4; obtain ⟨y229, hy229⟩ : ∃ y_ : List (S71), y_ = (x0_1.set (x5_1 : Int).toNat (⟨x1_1, (rd_T71 x0_1 x5_1).f1⟩ : S71)) := ⟨_, rfl⟩; replace H : (laws_markCellS.l0 k1 (y229.set (x5_1 : Int).toNat (⟨(rd_T71 y229 x5_1).f0, wrap64 (x1_1 + 1)⟩ : S71)) (wrap64 ((wrap64 (x1_1 + 1)) + 1)) (wrap64 (x5_1 + 1))) = some (r1, r2) := yq hy229 H; have Ny229 := am hy229; clear hy229; obtain ⟨y230, hy230⟩ : ∃ y_ : List (S71), y_ = (y229.set (x5_1 : Int).toNat (⟨(rd_T71 y229 x5_1).f0, wrap64 (x1_1 + 1)⟩ : S71)) := ⟨_, rfl⟩; replace H : (laws_markCellS.l0 k1 y230 (wrap64 ((wrap64 (x1_1 + 1)) + 1)) (wrap64 (x5_1 + 1))) = some (r1, r2) := yq hy230 H; have Ny230 := am hy230; clear hy230; have H' := am H; clear H; obtain ⟨Ao7, co7, eo7⟩ := Kd.R_slice HO_0.out; subst eo7; have p5 : 0 ≤ (x5_1 : Int) := of_decide_eq_true aq; have q5 : (x5_1 : Int) < ((x0_1.length : Int) : Int) := of_decide_eq_true aq; obtain ⟨go5, co5, eo5, gb5, gl5, cl5, HG5⟩ := Kd.R_form HO_0.out (by omega); (first | cases eo5 | (injection eo5 with ea_ en_ ec_; (first | subst ea_ | (injection ea_ with ea_; subst ea_)); subst ec_; clear en_)); have GB5 := am gb5; have GG5 := am HG5; clear gb5 gl5 HG5; have HMgo5 := am (show (P0_ go5 ∨ w.heap.size ≤ go5) from (HO_0.out.1 _ rfl)); obtain ⟨ce5, hcl5, hM5, hcc5, hfr5⟩ := Kd.R_elem HO_0.out z71 (x5_1 : Int) p5 q5; obtain rfl := k71_openM hM5; have hx5_0 : wr.cell? ⟨go5, (x5_1 : Int).toNat * 2, none⟩ = some (.int .i64 ((rd_T71 x0_1 x5_1).f0)) := hcc5 0 _ rfl; have hx5_1 : wr.cell? ⟨go5, (x5_1 : Int).toNat * 2 + 1, none⟩ = some (.int .i64 ((rd_T71 x0_1 x5_1).f1)) := hcc5 1 _ rfl; have hf5_0 : wr.frozen? ⟨go5, (x5_1 : Int).toNat * 2, none⟩ = false := hfr5 0; have hf5_1 : wr.frozen? ⟨go5, (x5_1 : Int).toNat * 2 + 1, none⟩ = false := hfr5 1; clear hcl5 hcc5 hfr5 hM5; replace p5 := eq_true p5; replace q5 := eq_true q5; have HX8 := am (show Kd.R k71 71 wr w0.heap.size (fun k_ => (P0_ k_ ∨ w.heap.size ≤ k_)) (.slice (some ⟨go5, 0, none⟩) x0_1.length co7) x0_1 from (rq HO_0)); obtain ⟨ce8, hcl8, hM8, hcc8, hfr8⟩ := Kd.R_elem HX8.out z71 (x5_1 : Int) (of_decide_eq_true aq) (by have h_ : (x5_1 : Int) < ((x0_1.length : Int) : Int) := of_decide_eq_true aq; first | exact h_ | (have e_ := (Kd.R_reads' HO_0.out).1; omega) | simpa using h_); obtain rfl := k71_openM hM8; have HP8 := Kd.R_seg HX8.out (x5_1 : Int) (of_decide_eq_true aq) (by have h_ : (x5_1 : Int) < ((x0_1.length : Int) : Int) := of_decide_eq_true aq; first | exact h_ | (have e_ := (Kd.R_reads' HO_0.out).1; omega) | simpa using h_) (seg := [.int .i64 x1_1]) (j := 0) hcl8 hcc8 (show 1 ≤ 2 from by decide) (x' := (⟨x1_1, (rd_T71 x0_1 x5_1).f1⟩ : S71)) (k71_mkM _ _ _ (⟨x1_1, (rd_T71 x0_1 x5_1).f1⟩ : S71) ) (fun _ hk => hk); have hx8_0 := hcc8 0 _ rfl; (try simp only [show (k71).sz = 2 from rfl, Nat.mul_one, Nat.add_zero] at hx8_0); have hf8_0 := hfr8 0; (try simp only [show (k71).sz = 2 from rfl, Nat.mul_one, Nat.add_zero] at hf8_0); clear hcl8 hcc8 hfr8 hM8; go_wp2_with (first | ((with_reducible refine gate_store (t := 3) (p := 16) rfl ?_); refine store_event (t := 3) (p := 16) (v := ?vo_w9) (w1 := (wr.setCell ⟨go5, (x5_1 : Int).toNat * 2, none⟩ (.int .i64 x1_1))) ?hg ?ho ?hn ?hr ?_; (case ho => rfl); (case hg => rfl); (case hn => rfl); (case hr => go_simp; try rfl); intro w9 hw; have hg : wr.grownBy w9 (some go5) := (by rw [hw]; exact HP8.2); have hp_ : Kd.R k71 71 w9 w0.heap.size (fun k_ => (P0_ k_ ∨ w.heap.size ≤ k_)) (.slice (some ⟨go5, 0, none⟩) x0_1.length co7) y229 := (by rw [hw, Ny229.out]; exact HP8.1); clear HP8; replace HB := am ((by rw [hw]; exact below_set (HB.out) GB5.out : Below w0.heap.size w0 w9)); replace HK := am (Kept.of_grown (S := (fun k_ => P0_ k_)) hg hkq (fun k_ e_ => (HO_0.out.1 k_ e_))); replace HO_0 := am (hp_); clear hg hw hp_; have p6 : 0 ≤ (x5_1 : Int) := of_decide_eq_true aq; have q6 : (x5_1 : Int) < ((x0_1.length : Int) : Int) := of_decide_eq_true aq; obtain ⟨ce6, hcl6, hM6, hcc6, hfr6⟩ := Kd.R_elem HO_0.out z71 (x5_1 : Int) p6 q6; obtain rfl := k71_openM hM6; have hx6_0 : w9.cell? ⟨go5, (x5_1 : Int).toNat * 2, none⟩ = some (.int .i64 ((rd_T71 y229 x5_1).f0)) := hcc6 0 _ rfl; have hx6_1 : w9.cell? ⟨go5, (x5_1 : Int).toNat * 2 + 1, none⟩ = some (.int .i64 ((rd_T71 y229 x5_1).f1)) := hcc6 1 _ rfl; have hf6_0 : w9.frozen? ⟨go5, (x5_1 : Int).toNat * 2, none⟩ = false := hfr6 0; have hf6_1 : w9.frozen? ⟨go5, (x5_1 : Int).toNat * 2 + 1, none⟩ = false := hfr6 1; clear hcl6 hcc6 hfr6 hM6; replace p6 := eq_true p6; replace q6 := eq_true q6; have HX10 := am (show Kd.R k71 71 w9 w0.heap.size (fun k_ => (P0_ k_ ∨ w.heap.size ≤ k_)) (.slice (some ⟨go5, 0, none⟩) x0_1.length co7) y229 from (rq HO_0)); obtain ⟨ce10, hcl10, hM10, hcc10, hfr10⟩ := Kd.R_elem HX10.out z71 (x5_1 : Int) (of_decide_eq_true aq) (by have h_ : (x5_1 : Int) < ((x0_1.length : Int) : Int) := of_decide_eq_true aq; first | exact h_ | (have e_ := (Kd.R_reads' HO_0.out).1; omega) | simpa using h_); obtain rfl := k71_openM hM10; have HP10 := Kd.R_seg HX10.out (x5_1 : Int) (of_decide_eq_true aq) (by have h_ : (x5_1 : Int) < ((x0_1.length : Int) : Int) := of_decide_eq_true aq; first | exact h_ | (have e_ := (Kd.R_reads' HO_0.out).1; omega) | simpa using h_) (seg := [.int .i64 (wrap64 (x1_1 + 1))]) (j := 1) hcl10 hcc10 (show 2 ≤ 2 from by decide) (x' := (⟨(rd_T71 y229 x5_1).f0, wrap64 (x1_1 + 1)⟩ : S71)) (k71_mkM _ _ _ (⟨(rd_T71 y229 x5_1).f0, wrap64 (x1_1 + 1)⟩ : S71) ) (fun _ hk => hk); have hx10_1 := hcc10 1 _ rfl; (try simp only [show (k71).sz = 2 from rfl, Nat.mul_one, Nat.add_zero] at hx10_1); have hf10_1 := hfr10 1; (try simp only [show (k71).sz = 2 from rfl, Nat.mul_one, Nat.add_zero] at hf10_1); clear hcl10 hcc10 hfr10 hM10) | ((with_reducible refine gate_store (t := 3) (p := 23) rfl ?_); refine store_event (t := 3) (p := 23) (v := ?vo_w11) (w1 := (w9.setCell ⟨go5, (x5_1 : Int).toNat * 2 + 1, none⟩ (.int .i64 (wrap64 (x1_1 + 1))))) ?hg ?ho ?hn ?hr ?_; (case ho => rfl); (case hg => rfl); (case hn => rfl); (case hr => go_simp; try rfl); intro w11 hw; have hg : w9.grownBy w11 (some go5) := (by rw [hw]; exact HP10.2); have hp_ : Kd.R k71 71 w11 w0.heap.size (fun k_ => (P0_ k_ ∨ w.heap.size ≤ k_)) (.slice (some ⟨go5, 0, none⟩) x0_1.length co7) y230 := (by rw [hw, Ny230.out]; exact HP10.1); clear HP10; replace HB := am ((by rw [hw]; exact below_set (HB.out) GB5.out : Below w0.heap.size w0 w11)); replace HK := am (Kept.of_grown (S := (fun k_ => P0_ k_)) hg hkq (fun k_ e_ => (HO_0.out.1 k_ e_))); replace HO_0 := am (hp_); clear hg hw hp_))
     go_roundg k1
     case measure => have := HK1.out; omega
     case rel => exact ⟨(y230), (wrap64 ((wrap64 (x1_1 + 1)) + 1)), (wrap64 (x5_1 + 1)), sq, sq, H', ⟨by have := HK1.out; omega⟩, ⟨rq HO_0⟩, ⟨hkq⟩, ⟨bq⟩⟩
    rw [if_neg c4] at H; exact absurd H (by simp)
   rw [if_neg c3] at H; have c3b0 : decide (x5_1 < (x0_1.length : Int)) = false := decide_eq_false c3; clear c3; simp only [Option.some.injEq, Prod.mk.injEq] at H; obtain ⟨rfl, rfl⟩ := H; obtain ⟨Ao12, co12, eo12⟩ := Kd.R_slice HO_0.out; subst eo12
   go_wp2
   go_ret
   exact ⟨eq_, rq HO_0, bq, hkq⟩


def laws_markBoardS.l0 : Nat → List (S51) → Int → Int → Option (Int)
 | 0, _, _, _ => none
 | k + 1, x0, x1, x5 => if x5 < (x0.length : Int) then (if 0 ≤ x5 then ((laws_markCellS.f k ((rd_T51 x0 x5).f2) (wrap64 ((wrap64 (x1 + 1)) + 1))).bind fun bt229 => (laws_markBoardS.l0 k (x0.set (x5 : Int).toNat (⟨x1, wrap64 (x1 + 1), bt229.2⟩ : S51)) bt229.1 (wrap64 (x5 + 1)))) else (none)) else (some x1)
def laws_markBoardS.f (k : Nat) (l0 : List (S51)) (a1 : Int) : Option (Int) := laws_markBoardS.l0 k l0 a1 0
theorem mb_store {P oki : Nat → Prop} {w0 w wr w9 : World} {x0_1 : List S51} {x5_1 v : Int} {go co : Nat} {A : Value} {ys : List S71} {j : Nat} {cs cs' : List Value} (c4 : 0 ≤ x5_1) (c3 : x5_1 < (x0_1.length : Int)) (hj : j < 3) (hw : w9 = wr.setCell ⟨go, (x5_1 : Int).toNat * 3 + j, none⟩ (.int .i64 v))
  (HH : Aside0 (Kd.H k51 51 wr w0.heap.size P (.slice (some ⟨go, 0, none⟩) x0_1.length co) x0_1 x5_1 oki cs)) (he : cs' = cs.take j ++ [.int .i64 v] ++ cs.drop (j + 1)) (HB : Aside0 (Below w0.heap.size w0 wr)) (HK : Aside0 (Kept w wr P)) (GB : Aside0 (w0.heap.size ≤ go)) (hPG : Aside0 (P go)) (hOK : Aside0 (∀ k, oki k → P k ∧ k ≠ go))
  (HI : Aside0 (Kd.R k71 71 wr w0.heap.size oki A ys)) :
  Aside0 (Kd.H k51 51 w9 w0.heap.size P (.slice (some ⟨go, 0, none⟩) x0_1.length co) x0_1 x5_1 oki cs') ∧ Aside0 (Below w0.heap.size w0 w9) ∧ Aside0 (Kept w w9 P) ∧ Aside0 (Kd.R k71 71 w9 w0.heap.size oki A ys) ∧ (∀ i u, cs'[i]? = some u → w9.cell? ⟨go, (x5_1 : Int).toNat * 3 + i, none⟩ = some u) ∧ (∀ i, w9.frozen? ⟨go, i, none⟩ = false) := by
  subst hw he
  have hq := Kd.H_seg HH.out c4 c3 (seg := [.int .i64 v]) (j := j) (show j + 1 ≤ 3 from hj) (by intro q hq; obtain rfl := List.mem_singleton.1 hq; rfl)
  have hg : wr.grownBy (wr.setCell ⟨go, (x5_1 : Int).toNat * 3 + j, none⟩ (.int .i64 v)) (some go) := hq.2
  have hH : Kd.H k51 51 (wr.setCell ⟨go, (x5_1 : Int).toNat * 3 + j, none⟩ (.int .i64 v)) w0.heap.size P (.slice (some ⟨go, 0, none⟩) x0_1.length co) x0_1 x5_1 oki (cs.take j ++ [.int .i64 v] ++ cs.drop (j + 1)) := hq.1
  obtain ⟨rows9, hrl9, hraw9, _, _, hcc9, _⟩ := Kd.H_raw hH c4 c3
  obtain ⟨cs9, hbk9⟩ := Kd.R_typed hraw9 go rfl
  exact ⟨am hH, am (below_set HB.out GB.out), am (Kept.of_grown (S := P) hg HK.out (fun k_ e_ => .inl (by injection e_ with e_; rw [← e_]; exact hPG.out))), am (Kd.R_grown HI.out hg (fun k_ hk_ e_ => (hOK.out k_ hk_).2 (by injection e_))), hcc9, fun i => blk_frozen hbk9 i⟩
theorem laws_markBoardS.calls (k : Nat) (P : Nat → Prop) (u : Value) (l0 : List (S51)) (a1 : Int) (r : Int) (w0 w : World) (hB : Below w0.heap.size w0 w) (ho : Kd.S k51 51 w w0.heap.size P u l0) (h : laws_markBoardS.f k l0 a1 = some r) :
  Calls Try.prog 13 #[u, .int .i64 a1] w fun e w' => e = .returned (.int .i64 r) ∧ Below w0.heap.size w0 w' ∧ Kept w w' P := by
 have HO0 := am ho; have HK := am (Kept.refl w P); have HB := am hB; clear hB ho; have H' := am (show laws_markBoardS.l0 k l0 a1 0 = some r from h); clear h
 go_enter Try.func13, Try.ntmps13
 go_wp2
 go_loopg [1, 5] k (fun kq v1 v5 w' => ∃ (x0_1 : List (S51)) (x1_1 : Int) (x5_1 : Int), v1 = .int .i64 x1_1 ∧ v5 = .int .i64 x5_1 ∧ Aside0 (laws_markBoardS.l0 kq x0_1 x1_1 x5_1 = some r) ∧ Aside0 (kq ≤ k) ∧ Aside0 (Kd.S k51 51 w' w0.heap.size P u x0_1) ∧ Aside0 (Kept w w' P) ∧ Aside0 (Below w0.heap.size w0 w'))
 case atStart => exact ⟨l0, a1, 0, sq, sq, H', ⟨Nat.le_refl _⟩, ⟨HO0.out⟩, ⟨hkq⟩, ⟨bq⟩⟩
 case round =>
  clear H' HO0; obtain ⟨x0_1, x1_1, x5_1, rfl, rfl, HA, HK1, HO_0, HK, HB⟩ := hrel
  cases gk with
  | zero => exact absurd HA.out (by simp [laws_markBoardS.l0])
  | succ k1 =>
   have H := HA.out; clear HA; simp only [laws_markBoardS.l0] at H; by_cases c3 : x5_1 < (x0_1.length : Int)
   ·rw [if_pos c3] at H; have c3b0 : decide (x5_1 < (x0_1.length : Int)) = true := decide_eq_true c3; by_cases c4 : 0 ≤ x5_1
    ·rw [if_pos c4] at H; obtain ⟨⟨t1, t2⟩, A1, H⟩ := bindq H; try dsimp only at H
     have H' := am H; clear H; obtain ⟨go, co, rfl, gb, gl, HG⟩ := Kd.S_form HO_0.out (by omega); obtain ⟨oki, c, hcl, hM, hcc, hfr, hoki, hH⟩ := Kd.S_elem HO_0.out z51 (x5_1 : Int) c4 c3; obtain ⟨v2, rfl, hI⟩ := k51_openM hM; obtain ⟨A2, c2, rfl⟩ := Kd.R_slice hI; have hPg : P go := HO_0.out.elim (fun f hf => hf.1 go rfl); have HI := am hI; have HH := am hH; have GB := am gb; have hx0 : wr.cell? ⟨go, (x5_1 : Int).toNat * 3, none⟩ = some (.int .i64 ((rd_T51 x0_1 x5_1).f0)) := hcc 0 _ rfl; have hf0 : wr.frozen? ⟨go, (x5_1 : Int).toNat * 3, none⟩ = false := hfr 0; have hOK := am hoki; have hPG := am hPg; clear hcl hM hcc hfr hoki hH hI gb gl HG hPg HO_0; have p5 := eq_true c4; have q5 := eq_true c3; go_wp2_with (first | ((with_reducible refine gate_store (t := 3) (p := 16) rfl ?_); refine store_event (t := 3) (p := 16) (v := ?vo_w9) (w1 := (wr.setCell ⟨go, (x5_1 : Int).toNat * 3, none⟩ (.int .i64 x1_1))) ?hg ?ho ?hn ?hr ?_; (case ho => rfl); (case hg => rfl); (case hn => rfl); (case hr => go_simp; try rfl); intro w9 hw; have hm_ := mb_store (j := 0) (cs' := [.int .i64 x1_1, .int .i64 ((rd_T51 x0_1 x5_1).f1), .slice A2 ((rd_T51 x0_1 x5_1).f2).length c2]) c4 c3 (by decide) hw HH rfl HB HK GB hPG hOK HI; clear hw; replace HH := hm_.1; replace HB := hm_.2.1; replace HK := hm_.2.2.1; replace HI := hm_.2.2.2.1; have hx9 : w9.cell? ⟨go, (x5_1 : Int).toNat * 3 + 1, none⟩ = some (.int .i64 ((rd_T51 x0_1 x5_1).f1)) := hm_.2.2.2.2.1 1 _ rfl; have hf9 : w9.frozen? ⟨go, (x5_1 : Int).toNat * 3 + 1, none⟩ = false := hm_.2.2.2.2.2 _; clear hm_) | ((with_reducible refine gate_store (t := 3) (p := 23) rfl ?_); refine store_event (t := 3) (p := 23) (v := ?vo_w11) (w1 := (w9.setCell ⟨go, (x5_1 : Int).toNat * 3 + 1, none⟩ (.int .i64 (wrap64 (x1_1 + 1))))) ?hg ?ho ?hn ?hr ?_; (case ho => rfl); (case hg => rfl); (case hn => rfl); (case hr => go_simp; try rfl); intro w11 hw; have hm_ := mb_store (j := 1) (cs' := [.int .i64 x1_1, .int .i64 (wrap64 (x1_1 + 1)), .slice A2 ((rd_T51 x0_1 x5_1).f2).length c2]) c4 c3 (by decide) hw HH rfl HB HK GB hPG hOK HI; clear hw; replace HH := hm_.1; replace HB := hm_.2.1; replace HK := hm_.2.2.1; replace HI := hm_.2.2.2.1; have hx11 : w11.cell? ⟨go, (x5_1 : Int).toNat * 3 + 2, none⟩ = some (.slice A2 ((rd_T51 x0_1 x5_1).f2).length c2) := hm_.2.2.2.2.1 2 _ rfl; clear hm_) | ((with_reducible refine gate_callee (f := 34) rfl ?_); refine goesQ (some 32) Try.func34 #[.slice A2 ((rd_T51 x0_1 x5_1).f2).length c2, .int .i64 (wrap64 ((wrap64 (x1_1 + 1)) + 1))] ?_; (with_reducible refine (laws_markCellS.calls k1 (fun k_ => some k_ = (.slice A2 ((rd_T51 x0_1 x5_1).f2).length c2 : Value).ownBlock) (.slice A2 ((rd_T51 x0_1 x5_1).f2).length c2) ((rd_T51 x0_1 x5_1).f2) (wrap64 ((wrap64 (x1_1 + 1)) + 1)) t1 t2 w0 _ ?s1 ?s2 A1.out).mono ?_); (case s1 => exact HB.out); (case s2 => exact Kd.R_tight rfl HI.out); rintro e w13 ⟨rfl, hy, hb, hkp⟩; refine ⟨_, rfl, ?_⟩; replace HK := am (Kept.then_ HK.out hkp (fun k_ hs_ => .inl (hOK.out k_ (HI.out.1 k_ hs_.symm)).1)); replace HB := am hb; replace HH := am (Kd.H_back (x' := (⟨x1_1, wrap64 (x1_1 + 1), t2⟩ : S51)) (okp := oki) (Kd.H_kept HH.out hkp (fun k_ _ hn_ hs_ => hn_ (HI.out.1 k_ hs_.symm))) (k51_mkM _ _ _ (⟨x1_1, wrap64 (x1_1 + 1), t2⟩ : S51) (Kd.R_reok rfl hy (fun k_ hk_ => HI.out.1 k_ hk_))) (fun _ hk => hk)); clear hy hb hkp))
     go_roundg k1
     case measure => have := HK1.out; omega
     case rel => exact ⟨_, t1, (wrap64 (x5_1 + 1)), sq, sq, H', ⟨by have := HK1.out; omega⟩, HH, ⟨hkq⟩, ⟨bq⟩⟩
    rw [if_neg c4] at H; exact absurd H (by simp)
   rw [if_neg c3] at H; have c3b0 : decide (x5_1 < (x0_1.length : Int)) = false := decide_eq_false c3; clear c3; obtain rfl := Option.some.inj H; obtain ⟨Ao12, co12, eo12⟩ := Kd.S_slice HO_0.out; subst eo12
   go_wp2
   go_ret
   exact ⟨eq_, bq, hkq⟩
theorem laws_markBoardS.callsT (k : Nat) (u : Value) (l0 : List (S51)) (a1 : Int) (r : Int) (w0 w : World) {ok : Nat → Prop} (hB : Below w0.heap.size w0 w) (ho : Kd.S k51 51 w w0.heap.size ok u l0) (h : laws_markBoardS.f k l0 a1 = some r) :
  Calls Try.prog 13 #[u, .int .i64 a1] w fun e w' => e = .returned (.int .i64 r) ∧ Below w0.heap.size w0 w' ∧ (∀ {α : Type} {d : Kd α} {e b : Nat} {ok : Nat → Prop} {v : Value} {xs : List α}, (∀ q, q ∈ e :: d.E → q ≠ 51 ∧ q ≠ 71) → Kd.R d e w b ok v xs → Kd.R d e w' b ok v xs) := by
 refine (laws_markBoardS.calls k _ u l0 a1 r w0 w hB (Kd.S_bound ho) h).mono fun e w' hh => ⟨hh.1, hh.2.1, fun ht hr => ?_⟩
 refine Kd.R_mono (Kd.R_kept (Kd.R_bound hr) hh.2.2 (fun k_ hk hs => ?_)) (fun _ hk => hk.1); obtain ⟨_, _, _, q, hq, cs, hc⟩ := hk; obtain ⟨_, _, _, q', hq', cs', hc'⟩ := hs; rw [hc] at hc'; injection hc' with hc'
 injection hc' with _ hc'
 have h2 := ht q hq; have h3 : q' = 51 ∨ q' = 71 := by simpa [k51, k71, Kd.iso, Kd.pair, Kd.slice, Kd.int, Kd.scalar] using hq'
 rcases h3 with h3 | h3
 (exact h2.1 (hc'.trans h3)); exact h2.2 (hc'.trans h3)

def laws_markIntS.l0 : Nat → List Int → Int → Int → Option (Int × List Int)
 | 0, _, _, _ => none
 | k + 1, x0, x1, x5 => if x5 < (x0.length : Int) then (if 0 ≤ x5 then (laws_markIntS.l0 k (x0.set (x5 : Int).toNat x1) (wrap64 (x1 + 1)) (wrap64 (x5 + 1))) else (none)) else (some (x1, x0))
def laws_markIntS.f (k : Nat) (l0 : List Int) (a1 : Int) : Option (Int × List Int) := laws_markIntS.l0 k l0 a1 0
theorem laws_markIntS.calls (k : Nat) (P0_ : Nat → Prop) (u10_ : Value) (l0 : List Int) (a1 : Int) (r1 : Int) (r2 : List Int) (w0 w : World) (hB : Below w0.heap.size w0 w) (ho0 : Kd.R (Kd.int .i64) 3 w w0.heap.size P0_ u10_ l0) (h : laws_markIntS.f k l0 a1 = some (r1, r2)) :
  Calls Try.prog 14 #[u10_, .int .i64 a1] w fun e w' => e = .returned (.int .i64 r1) ∧ Kd.R (Kd.int .i64) 3 w' w0.heap.size (fun k_ => (P0_ k_ ∨ w.heap.size ≤ k_)) u10_ r2 ∧ Below w0.heap.size w0 w' ∧ Kept w w' (fun k_ => P0_ k_) := by
 have HO0 := am (show Kd.R (Kd.int .i64) 3 w w0.heap.size (fun k_ => (P0_ k_ ∨ w.heap.size ≤ k_)) u10_ l0 from Kd.R_mono ho0 (fun k_ hk => (.inl hk))); have HK := am (Kept.refl w (fun k_ => P0_ k_)); have HW0 := am hB.size; have HB := am hB; clear hB; have H := h; clear h
 unfold laws_markIntS.f at H
 have H' := am H; clear H
 go_enter Try.func14, Try.ntmps14
 go_wp2
 go_loopg [1, 5] k (fun kq v1 v5 w' => ∃ (x0_1 : List Int) (x1_1 : Int) (x5_1 : Int), v1 = .int .i64 x1_1 ∧ v5 = .int .i64 x5_1 ∧ Aside0 (laws_markIntS.l0 kq x0_1 x1_1 x5_1 = some (r1, r2)) ∧ Aside0 (kq ≤ k) ∧ Aside0 (Kd.R (Kd.int .i64) 3 w' w0.heap.size (fun k_ => (P0_ k_ ∨ w.heap.size ≤ k_)) u10_ x0_1) ∧ Aside0 (Kept w w' (fun k_ => P0_ k_)) ∧ Aside0 (Below w0.heap.size w0 w'))
 case atStart => exact ⟨(l0), (a1), (0), sq, sq, H', ⟨Nat.le_refl _⟩, ⟨rq HO0⟩, ⟨hkq⟩, ⟨bq⟩⟩
 case round =>
  clear H'; obtain ⟨x0_1, x1_1, x5_1, rfl, rfl, HA, HK1, HO_0, HK, HB⟩ := hrel
  cases gk with
  | zero => exact absurd HA.out (by simp [laws_markIntS.l0])
  | succ k1 =>
   have H := HA.out; clear HA; simp only [laws_markIntS.l0] at H; by_cases c3 : x5_1 < (x0_1.length : Int)
   ·rw [if_pos c3] at H; have c3b0 : decide (x5_1 < (x0_1.length : Int)) = true := decide_eq_true c3; clear c3; by_cases c4 : 0 ≤ x5_1
    ·rw [if_pos c4] at H; have c4b0 : decide (0 ≤ x5_1) = true := decide_eq_true c4; clear c4; obtain ⟨y232, hy232⟩ : ∃ y_ : List Int, y_ = (x0_1.set (x5_1 : Int).toNat x1_1) := ⟨_, rfl⟩; replace H : (laws_markIntS.l0 k1 y232 (wrap64 (x1_1 + 1)) (wrap64 (x5_1 + 1))) = some (r1, r2) := yq hy232 H; have Ny232 := am hy232; clear hy232; have H' := am H; clear H; obtain ⟨Ao6, co6, eo6⟩ := Kd.R_slice HO_0.out; subst eo6; have p5 : 0 ≤ (x5_1 : Int) := of_decide_eq_true aq; have q5 : (x5_1 : Int) < ((x0_1.length : Int) : Int) := of_decide_eq_true aq; obtain ⟨go5, co5, eo5, gb5, gl5, cl5, HG5⟩ := Kd.R_form HO_0.out (by omega); (first | cases eo5 | (injection eo5 with ea_ en_ ec_; (first | subst ea_ | (injection ea_ with ea_; subst ea_)); subst ec_; clear en_)); have GB5 := am gb5; have GG5 := am HG5; clear gb5 gl5 HG5; have HMgo5 := am (show (P0_ go5 ∨ w.heap.size ≤ go5) from (HO_0.out.1 _ rfl)); obtain ⟨hx5_0, hf5_0⟩ := Kd.R_celln 0 HO_0.out (x5_1 : Int) p5 q5; replace p5 := eq_true p5; replace q5 := eq_true q5; have HP7 := Kd.R_putg HO_0.out (x5_1 : Int) x1_1; go_wp2_with (first | ((with_reducible refine gate_store (t := 3) (p := 15) rfl ?_); refine store_event (t := 3) (p := 15) (v := ?vo_w8) (w1 := (wr.setCell ⟨go5, (x5_1 : Int).toNat, none⟩ (.int .i64 x1_1))) ?hg ?ho ?hn ?hr ?_; (case ho => rfl); (case hg => rfl); (case hn => rfl); (case hr => go_simp; try rfl); intro w8 hw; have hg : wr.grownBy w8 (some go5) := (by rw [hw]; exact HP7.2); have hp_ : Kd.R (Kd.int .i64) 3 w8 w0.heap.size (fun k_ => (P0_ k_ ∨ w.heap.size ≤ k_)) (.slice (some ⟨go5, 0, none⟩) x0_1.length co6) y232 := (by rw [hw, Ny232.out]; exact HP7.1); clear HP7; replace HB := am ((by rw [hw]; exact below_set (HB.out) GB5.out : Below w0.heap.size w0 w8)); replace HK := am (Kept.of_grown (S := (fun k_ => P0_ k_)) hg hkq (fun k_ e_ => (HO_0.out.1 k_ e_))); replace HO_0 := am (hp_); clear hg hw hp_))
     go_roundg k1
     case measure => have := HK1.out; omega
     case rel => exact ⟨(y232), (wrap64 (x1_1 + 1)), (wrap64 (x5_1 + 1)), sq, sq, H', ⟨by have := HK1.out; omega⟩, ⟨rq HO_0⟩, ⟨hkq⟩, ⟨bq⟩⟩
    rw [if_neg c4] at H; exact absurd H (by simp)
   rw [if_neg c3] at H; have c3b0 : decide (x5_1 < (x0_1.length : Int)) = false := decide_eq_false c3; clear c3; simp only [Option.some.injEq, Prod.mk.injEq] at H; obtain ⟨rfl, rfl⟩ := H; obtain ⟨Ao9, co9, eo9⟩ := Kd.R_slice HO_0.out; subst eo9
   go_wp2
   go_ret
   exact ⟨eq_, rq HO_0, bq, hkq⟩


def laws_heldIntS.l0 : Nat → List Int → Int → Int → Option (Int)
 | 0, _, _, _ => none
 | k + 1, x0, x1, x5 => if x5 < (x0.length : Int) then (if 0 ≤ x5 then (if (rd x0 x5) = x1 then (laws_heldIntS.l0 k x0 (wrap64 (x1 + 1)) (wrap64 (x5 + 1))) else (some (-1))) else (none)) else (some x1)
def laws_heldIntS.f (k : Nat) (l0 : List Int) (a1 : Int) : Option (Int) := laws_heldIntS.l0 k l0 a1 0
theorem laws_heldIntS.calls (k : Nat) (A0 : Option Addr) (c0 : Nat) (l0 : List Int) (a1 : Int) (r : Int) (w : World) (hr0 : Kd.C (Kd.int .i64) w A0 l0.length l0) (hc0 : l0.length ≤ c0) (h : laws_heldIntS.f k l0 a1 = some r) :
  Calls Try.prog 15 #[.slice A0 l0.length c0, .int .i64 a1] w fun e w' => e = .returned (.int .i64 r) ∧ Drawn0 w w' := by
 have HR0 := am hr0; have HC0 := am hc0; clear hr0 hc0; have H := h; clear h
 unfold laws_heldIntS.f at H
 have H' := am H; clear H
 go_enter Try.func15, Try.ntmps15
 go_wp2
 go_loopg [1, 5] k (fun kq v1 v5 w' => ∃ (x1_1 : Int) (x5_1 : Int), v1 = .int .i64 x1_1 ∧ v5 = .int .i64 x5_1 ∧ Aside0 (laws_heldIntS.l0 kq l0 x1_1 x5_1 = some r) ∧ Aside0 (kq ≤ k) ∧ Drawn0 w w')
 case atStart => exact ⟨(a1), (0), sq, sq, H', ⟨Nat.le_refl _⟩, by repeat (first | exact Drawn0.refl _ | apply Drawn0.step)⟩
 case round =>
  clear H'; obtain ⟨x1_1, x5_1, rfl, rfl, HA, HK1, ⟨m1, rfl⟩⟩ := hrel
  cases gk with
  | zero => exact absurd HA.out (by simp [laws_heldIntS.l0])
  | succ k1 =>
   have H := HA.out; clear HA; simp only [laws_heldIntS.l0] at H; by_cases c3 : x5_1 < (l0.length : Int)
   ·rw [if_pos c3] at H; have c3b0 : decide (x5_1 < (l0.length : Int)) = true := decide_eq_true c3; clear c3; by_cases c4 : 0 ≤ x5_1
    ·rw [if_pos c4] at H; have c4b0 : decide (0 ≤ x5_1) = true := decide_eq_true c4; clear c4; by_cases c5 : (rd l0 x5_1) = x1_1
     ·rw [if_pos c5] at H; have c5b0 : ((rd l0 x5_1) == x1_1) = true := beq_iff_eq.mpr c5; have c5b1 : ((rd l0 x5_1) != x1_1) = false := bne_eq_false_iff_eq.mpr c5; clear c5; have H' := am H; clear H; have p233 : 0 ≤ (x5_1 : Int) := of_decide_eq_true aq; have q233 : x5_1 < (l0.length : Int) := of_decide_eq_true aq; obtain ⟨ad233, e233, hx233_0⟩ := Kd.at_int HR0.out x5_1 p233 q233
      cases e233
      replace p233 := eq_true p233; replace q233 := eq_true q233
      go_wp2
      go_roundg k1
      case measure => have := HK1.out; omega
      case rel => exact ⟨(wrap64 (x1_1 + 1)), (wrap64 (x5_1 + 1)), sq, sq, H', ⟨by have := HK1.out; omega⟩, by repeat (first | exact Drawn0.refl _ | apply Drawn0.step)⟩
     rw [if_neg c5] at H; have c5b0 : ((rd l0 x5_1) == x1_1) = false := beq_eq_false_iff_ne.mpr c5; have c5b1 : ((rd l0 x5_1) != x1_1) = true := bne_iff_ne.mpr c5; obtain rfl := Option.some.inj H; have p233 : 0 ≤ (x5_1 : Int) := of_decide_eq_true aq; have q233 : x5_1 < (l0.length : Int) := of_decide_eq_true aq; obtain ⟨ad233, e233, hx233_0⟩ := Kd.at_int HR0.out x5_1 p233 q233
     cases e233
     replace p233 := eq_true p233; replace q233 := eq_true q233
     go_wp2
     go_ret
     exact ⟨sq, by repeat (first | exact Drawn0.refl _ | apply Drawn0.step)⟩
    rw [if_neg c4] at H; exact absurd H (by simp)
   rw [if_neg c3] at H; have c3b0 : decide (x5_1 < (l0.length : Int)) = false := decide_eq_false c3; clear c3; obtain rfl := Option.some.inj H
   go_wp2
   go_ret
   exact ⟨sq, by repeat (first | exact Drawn0.refl _ | apply Drawn0.step)⟩



def spec_l1In.f (a0 : Int) (a1 : Int) (a2 : Int) : Option (Bool) := if a0 ≥ a1 then (some (decide (a0 ≤ a2))) else (some false)
theorem spec_l1In.calls (a0 : Int) (a1 : Int) (a2 : Int) (r : Bool) (w : World) (h : spec_l1In.f a0 a1 a2 = some r) :
  Calls Try.prog 48 #[.int .i64 a0, .int .i64 a1, .int .i64 a2] w fun e w' => e = .returned (.bool r) ∧ Drawn0 w w' := by
 have H := h; clear h
 unfold spec_l1In.f at H
 by_cases c4 : a0 ≥ a1
 ·rw [if_pos c4] at H; have c4b0 : decide (a1 ≤ a0) = true := decide_eq_true c4; clear c4; obtain rfl := Option.some.inj H
  go_enter Try.func48, Try.ntmps48
  go_wp2
  go_ret
  exact ⟨sq, by repeat (first | exact Drawn0.refl _ | apply Drawn0.step)⟩
 rw [if_neg c4] at H; have c4b0 : decide (a1 ≤ a0) = false := decide_eq_false c4; clear c4; obtain rfl := Option.some.inj H
 go_enter Try.func48, Try.ntmps48
 go_wp2
 go_ret
 exact ⟨sq, by repeat (first | exact Drawn0.refl _ | apply Drawn0.step)⟩


def spec_paTurning.f (a0_0 : Int) (a0_1 : Int) : Option (Bool) := if a0_0 = 3 then (some true) else (some (a0_0 == 6))
theorem spec_paTurning.calls (a0_0 : Int) (a0_1 : Int) (r : Bool) (w : World) (h : spec_paTurning.f a0_0 a0_1 = some r) :
  Calls Try.prog 63 #[.agg #[.int .i64 a0_0, .int .i64 a0_1]] w fun e w' => e = .returned (.bool r) ∧ Below w.heap.size w w' := by
 have hu71 := Try.underlying71; have HB := am (Below.refl w.heap.size w); have H := h; clear h
 unfold spec_paTurning.f at H
 by_cases c2 : a0_0 = 3
 ·rw [if_pos c2] at H; have c2b0 : (a0_0 == 3) = true := beq_iff_eq.mpr c2; have c2b1 : (a0_0 != 3) = false := bne_eq_false_iff_eq.mpr c2; clear c2; obtain rfl := Option.some.inj H
  go_enter Try.func63, Try.ntmps63
  go_wp2_with (first | ((with_reducible refine gate_dst (N := 1) rfl ?_); refine box_event ?hg (N := 1) ?hd (cs := #[.int .i64 a0_0, .int .i64 a0_1]) (t := 71) ?hr ?_; (case hd | hg => rfl); (case hr => go_simp; try rfl); intro gb105 hg w3 hbox hb; have BK105 := am (hbox); have GW105 := am (gq hg); have GE105 := am (gq hg); replace HB := sb hb; clear hb hbox hg; have ⟨b40, b41, d40, d41⟩ := bc2 BK105))
  go_ret
  exact ⟨eq_, bq⟩
 rw [if_neg c2] at H; have c2b0 : (a0_0 == 3) = false := beq_eq_false_iff_ne.mpr c2; have c2b1 : (a0_0 != 3) = true := bne_iff_ne.mpr c2; obtain rfl := Option.some.inj H
 go_enter Try.func63, Try.ntmps63
 go_wp2_with (first | ((with_reducible refine gate_dst (N := 1) rfl ?_); refine box_event ?hg (N := 1) ?hd (cs := #[.int .i64 a0_0, .int .i64 a0_1]) (t := 71) ?hr ?_; (case hd | hg => rfl); (case hr => go_simp; try rfl); intro gb105 hg w5 hbox hb; have BK105 := am (hbox); have GW105 := am (gq hg); have GE105 := am (gq hg); replace HB := sb hb; clear hb hbox hg; have ⟨b60, b61, d60, d61⟩ := bc2 BK105))
 go_ret
 exact ⟨eq_, bq⟩


def spec_paGood.f (a0_0 : Int) (a0_1 : Int) : Option (Bool) := (spec_l1In.f a0_0 0 7).bind fun t107 => (if t107 = true then (if a0_1 = 0 then (some true) else (if a0_1 = 1 then ((spec_paTurning.f a0_0 a0_1).bind fun t108 => (some t108)) else (some false))) else (some false))
theorem spec_paGood.calls (a0_0 : Int) (a0_1 : Int) (r : Bool) (w : World) (h : spec_paGood.f a0_0 a0_1 = some r) :
  Calls Try.prog 59 #[.agg #[.int .i64 a0_0, .int .i64 a0_1]] w fun e w' => e = .returned (.bool r) ∧ Below w.heap.size w w' := by
 have hu71 := Try.underlying71; have HB := am (Below.refl w.heap.size w); have H := h; clear h
 unfold spec_paGood.f at H
 obtain ⟨t107, A2, H⟩ := bindq H; try dsimp only at H
 by_cases c3 : t107 = true
 ·subst c3; rw [if_pos rfl] at H; try dsimp only at H
  by_cases c4 : a0_1 = 0
  ·rw [if_pos c4] at H; have c4b0 : (a0_1 == 0) = true := beq_iff_eq.mpr c4; have c4b1 : (a0_1 != 0) = false := bne_eq_false_iff_eq.mpr c4; clear c4; obtain rfl := Option.some.inj H
   go_enter Try.func59, Try.ntmps59
   go_wp2_with (first | ((with_reducible refine gate_dst (N := 1) rfl ?_); refine box_event ?hg (N := 1) ?hd (cs := #[.int .i64 a0_0, .int .i64 a0_1]) (t := 71) ?hr ?_; (case hd | hg => rfl); (case hr => go_simp; try rfl); intro gb106 hg w5 hbox hb; have BK106 := am (hbox); have GW106 := am (gq hg); have GE106 := am (gq hg); replace HB := sb hb; clear hb hbox hg; have ⟨b60, b61, d60, d61⟩ := bc2 BK106) | ((with_reducible refine gate_callee (f := 48) rfl ?_); refine goesQ (some 5) Try.func48 #[.int .i64 a0_0, .int .i64 0, .int .i64 7] ?_; (with_reducible refine (spec_l1In.calls a0_0 0 7 true _ A2.out).mono ?_); rintro e w' ⟨rfl, ⟨nd, rfl⟩⟩; refine ⟨_, rfl, ?_⟩))
   go_ret
   exact ⟨eq_, bq⟩
  rw [if_neg c4] at H; have c4b0 : (a0_1 == 0) = false := beq_eq_false_iff_ne.mpr c4; have c4b1 : (a0_1 != 0) = true := bne_iff_ne.mpr c4; by_cases c7 : a0_1 = 1
  ·rw [if_pos c7] at H; have c7b0 : (a0_1 == 1) = true := beq_iff_eq.mpr c7; have c7b1 : (a0_1 != 1) = false := bne_eq_false_iff_eq.mpr c7; clear c7; obtain ⟨t108, A8, H⟩ := bindq H; try dsimp only at H
   obtain rfl := Option.some.inj H
   go_enter Try.func59, Try.ntmps59
   go_wp2_with (first | ((with_reducible refine gate_dst (N := 1) rfl ?_); refine box_event ?hg (N := 1) ?hd (cs := #[.int .i64 a0_0, .int .i64 a0_1]) (t := 71) ?hr ?_; (case hd | hg => rfl); (case hr => go_simp; try rfl); intro gb106 hg w9 hbox hb; have BK106 := am (hbox); have GW106 := am (gq hg); have GE106 := am (gq hg); replace HB := sb hb; clear hb hbox hg; have ⟨b100, b101, d100, d101⟩ := bc2 BK106) | ((with_reducible refine gate_callee (f := 48) rfl ?_); refine goesQ (some 5) Try.func48 #[.int .i64 a0_0, .int .i64 0, .int .i64 7] ?_; (with_reducible refine (spec_l1In.calls a0_0 0 7 true _ A2.out).mono ?_); rintro e w' ⟨rfl, ⟨nd, rfl⟩⟩; refine ⟨_, rfl, ?_⟩) | (go_at_call 63; (with_reducible refine (spec_paTurning.calls a0_0 a0_1 t108 _ A8.out).mono ?_); rintro e w11 ⟨rfl, hb⟩; replace BK106 := zb BK106 hb; replace HB := sb hb; (try clear hb)))
   go_ret
   exact ⟨eq_, bq⟩
  rw [if_neg c7] at H; have c7b0 : (a0_1 == 1) = false := beq_eq_false_iff_ne.mpr c7; have c7b1 : (a0_1 != 1) = true := bne_iff_ne.mpr c7; obtain rfl := Option.some.inj H
  go_enter Try.func59, Try.ntmps59
  go_wp2_with (first | ((with_reducible refine gate_dst (N := 1) rfl ?_); refine box_event ?hg (N := 1) ?hd (cs := #[.int .i64 a0_0, .int .i64 a0_1]) (t := 71) ?hr ?_; (case hd | hg => rfl); (case hr => go_simp; try rfl); intro gb106 hg w12 hbox hb; have BK106 := am (hbox); have GW106 := am (gq hg); have GE106 := am (gq hg); replace HB := sb hb; clear hb hbox hg; have ⟨b130, b131, d130, d131⟩ := bc2 BK106) | ((with_reducible refine gate_callee (f := 48) rfl ?_); refine goesQ (some 5) Try.func48 #[.int .i64 a0_0, .int .i64 0, .int .i64 7] ?_; (with_reducible refine (spec_l1In.calls a0_0 0 7 true _ A2.out).mono ?_); rintro e w' ⟨rfl, ⟨nd, rfl⟩⟩; refine ⟨_, rfl, ?_⟩))
  go_ret
  exact ⟨eq_, bq⟩
 replace c3 := Bool.eq_false_iff.mpr c3; subst c3; rw [if_neg (show ¬ (false = true) by decide)] at H; try dsimp only at H
 obtain rfl := Option.some.inj H
 go_enter Try.func59, Try.ntmps59
 go_wp2_with (first | ((with_reducible refine gate_dst (N := 1) rfl ?_); refine box_event ?hg (N := 1) ?hd (cs := #[.int .i64 a0_0, .int .i64 a0_1]) (t := 71) ?hr ?_; (case hd | hg => rfl); (case hr => go_simp; try rfl); intro gb106 hg w14 hbox hb; have BK106 := am (hbox); have GW106 := am (gq hg); have GE106 := am (gq hg); replace HB := sb hb; clear hb hbox hg; have ⟨b150, b151, d150, d151⟩ := bc2 BK106) | ((with_reducible refine gate_callee (f := 48) rfl ?_); refine goesQ (some 5) Try.func48 #[.int .i64 a0_0, .int .i64 0, .int .i64 7] ?_; (with_reducible refine (spec_l1In.calls a0_0 0 7 false _ A2.out).mono ?_); rintro e w' ⟨rfl, ⟨nd, rfl⟩⟩; refine ⟨_, rfl, ?_⟩))
 go_ret
 exact ⟨eq_, bq⟩


mutual
def spec_boGood.j0 : Nat → Bool → Int → Int → List (S71) → Option (Bool)
 | 0, _, _, _, _ => none
 | k + 1, x25, x2, x3, x1 => if x25 = true then (some false) else (spec_boGood.l0 k x1 (x1.length : Int) 0)
def spec_boGood.l0 : Nat → List (S71) → Int → Int → Option (Bool)
 | 0, _, _, _ => none
 | k + 1, x27, x28, x29 => if x29 < x28 then (if 0 ≤ x29 then (if x29 < (x27.length : Int) then ((spec_paGood.f ((rd_T71 x27 x29).f0) ((rd_T71 x27 x29).f1)).bind fun t114 => (if t114 = true then (spec_boGood.l0 k x27 x28 (wrap64 (x29 + 1))) else (some false))) else (none)) else (none)) else (some true)
end
def spec_boGood.f (k : Nat) (a0_0 : Int) (a0_1 : Int) (l0_2 : List (S71)) : Option (Bool) := (spec_l1In.f a0_0 1 10).bind fun t110 => (if t110 = true then ((spec_l1In.f a0_1 1 9).bind fun t111 => (if t111 = true then (spec_boGood.j0 k ((l0_2.length : Int) != (wrap64 (a0_0 * a0_1))) a0_0 a0_1 l0_2) else (spec_boGood.j0 k true a0_0 a0_1 l0_2))) else (spec_boGood.j0 k true a0_0 a0_1 l0_2))
theorem spec_boGood.calls (k : Nat) (a0_0 : Int) (a0_1 : Int) (A0_2 : Option Addr) (c0_2 : Nat) (l0_2 : List (S71)) (r : Bool) (w : World) (hr0_2 : Kd.C k71 w A0_2 l0_2.length l0_2) (hc0_2 : l0_2.length ≤ c0_2) (h : spec_boGood.f k a0_0 a0_1 l0_2 = some r) :
  Calls Try.prog 47 #[.agg #[.int .i64 a0_0, .int .i64 a0_1, .slice A0_2 l0_2.length c0_2]] w fun e w' => e = .returned (.bool r) ∧ Below w.heap.size w w' := by
 have hu51 := Try.underlying51; have hu71 := Try.underlying71; have HR0_2 := am hr0_2; have HC0_2 := am hc0_2; clear hr0_2 hc0_2; have HB := am (Below.refl w.heap.size w); have H := h; clear h
 unfold spec_boGood.f at H
 have HC2 := am H; clear H
 go_enter Try.func47, Try.ntmps47
 go_upto_region 1 with (first | ((with_reducible refine gate_dst (N := 1) rfl ?_); (try (refine gate_guard (by rfl) ?_; dsimp only)); refine box_event ?hg (N := 1) ?hd (cs := #[.int .i64 a0_0, .int .i64 a0_1, .slice A0_2 l0_2.length c0_2]) (t := 51) ?hr ?_; (case hd | hg => rfl); (case hr => go_simp; try rfl); intro gb109 hg w3 hbox hb; have BK109 := am (hbox); have GW109 := am (gq hg); have GE109 := am (gq hg); replace HB := sb hb; clear hb hbox hg))
 (try simp only [Act.put, List.setIfInBounds_toArray, List.set_cons_zero, List.set_cons_succ])
 go_cut [25] (fun v25 wc => ∃ (kq : Nat) (x25_1 : Bool), v25 = .bool x25_1 ∧ Aside0 (spec_boGood.j0 kq x25_1 a0_0 a0_1 l0_2 = some r) ∧ Aside0 (kq ≤ k) ∧ Aside0 (wc.heap[gb109]? = some (.cells #[.int .i64 a0_0, .int .i64 a0_1, (.slice A0_2 l0_2.length c0_2)] 51 (0, 0))) ∧ Aside0 (Below w.heap.size w wc))
 case first =>
  have H := HC2.out; clear HC2; obtain ⟨t110, A4, H⟩ := bindq H; try dsimp only at H
  by_cases c5 : t110 = true
  ·subst c5; rw [if_pos rfl] at H; try dsimp only at H
   obtain ⟨t111, A6, H⟩ := bindq H; try dsimp only at H
   by_cases c7 : t111 = true
   ·subst c7; rw [if_pos rfl] at H; try dsimp only at H
    have H' := am H; clear H; have ⟨b80, b81, b82, d80, d81, d82⟩ := bc3 BK109; go_wp2_with (first | ((with_reducible refine gate_callee (f := 48) rfl ?_); refine goesQ (some 7) Try.func48 #[.int .i64 a0_0, .int .i64 1, .int .i64 10] ?_; (with_reducible refine (spec_l1In.calls a0_0 1 10 true _ A4.out).mono ?_); rintro e w' ⟨rfl, ⟨nd, rfl⟩⟩; refine ⟨_, rfl, ?_⟩) | (go_at_call 48; (with_reducible refine (spec_l1In.calls a0_1 1 9 true _ A6.out).mono ?_); rintro e w' ⟨rfl, ⟨nd, rfl⟩⟩))
    go_meet
    case rel => exact ⟨_, (((l0_2.length : Int) != (wrap64 (a0_0 * a0_1)))), sq, H', ⟨by first | omega | exact Nat.le_refl _⟩, ⟨zq BK109⟩, ⟨bq⟩⟩
   replace c7 := Bool.eq_false_iff.mpr c7; subst c7; rw [if_neg (show ¬ (false = true) by decide)] at H; try dsimp only at H
   have H' := am H; clear H; have ⟨b90, b91, b92, d90, d91, d92⟩ := bc3 BK109; go_wp2_with (first | ((with_reducible refine gate_callee (f := 48) rfl ?_); refine goesQ (some 7) Try.func48 #[.int .i64 a0_0, .int .i64 1, .int .i64 10] ?_; (with_reducible refine (spec_l1In.calls a0_0 1 10 true _ A4.out).mono ?_); rintro e w' ⟨rfl, ⟨nd, rfl⟩⟩; refine ⟨_, rfl, ?_⟩) | (go_at_call 48; (with_reducible refine (spec_l1In.calls a0_1 1 9 false _ A6.out).mono ?_); rintro e w' ⟨rfl, ⟨nd, rfl⟩⟩))
   go_meet
   case rel => exact ⟨_, (true), sq, H', ⟨by first | omega | exact Nat.le_refl _⟩, ⟨zq BK109⟩, ⟨bq⟩⟩
  replace c5 := Bool.eq_false_iff.mpr c5; subst c5; rw [if_neg (show ¬ (false = true) by decide)] at H; try dsimp only at H
  have H' := am H; clear H; have ⟨b100, b101, b102, d100, d101, d102⟩ := bc3 BK109; go_wp2_with (first | ((with_reducible refine gate_callee (f := 48) rfl ?_); refine goesQ (some 7) Try.func48 #[.int .i64 a0_0, .int .i64 1, .int .i64 10] ?_; (with_reducible refine (spec_l1In.calls a0_0 1 10 false _ A4.out).mono ?_); rintro e w' ⟨rfl, ⟨nd, rfl⟩⟩; refine ⟨_, rfl, ?_⟩))
  go_meet
  case rel => exact ⟨_, (true), sq, H', ⟨by first | omega | exact Nat.le_refl _⟩, ⟨zq BK109⟩, ⟨bq⟩⟩
 case rest =>
  clear HC2; try clear c5
  try clear c7
  try clear b100 b101 b102 d100 d101 d102
  try clear b80 b81 b82 d80 d81 d82
  try clear b90 b91 b92 d90 d91 d92
  obtain ⟨kq, x25_1, rfl, HA, HJ1, BK109, HB⟩ := hcut
  cases kq with
  | zero => exact absurd HA.out (by simp [spec_boGood.j0])
  | succ kj1 =>
   have H := HA.out; clear HA; simp only [spec_boGood.j0] at H; by_cases c11 : x25_1 = true
   ·subst c11; rw [if_pos rfl] at H; try dsimp only at H
    obtain rfl := Option.some.inj H
    go_wp2
    go_ret
    exact ⟨eq_, bq⟩
   replace c11 := Bool.eq_false_iff.mpr c11; subst c11; rw [if_neg (show ¬ (false = true) by decide)] at H; try dsimp only at H
   have H' := am H; clear H; have ⟨b120, b121, b122, d120, d121, d122⟩ := bc3 BK109
   go_wp2
   go_loopg [29] kj1 (fun kq v29 w' => ∃ (x29_2 : Int), v29 = .int .i64 x29_2 ∧ Aside0 (spec_boGood.l0 kq l0_2 (l0_2.length : Int) x29_2 = some r) ∧ Aside0 (kq ≤ kj1) ∧ Aside0 (w'.heap[gb109]? = some (.cells #[.int .i64 a0_0, .int .i64 a0_1, (.slice A0_2 l0_2.length c0_2)] 51 (0, 0))) ∧ Aside0 (Below w.heap.size w w'))
   case atStart => exact ⟨(0), sq, H', ⟨Nat.le_refl _⟩, ⟨zq BK109⟩, ⟨bq⟩⟩
   case round =>
    clear H'; try clear c5
    try clear c7
    try clear c11
    try clear b100 b101 b102 d100 d101 d102
    try clear b120 b121 b122 d120 d121 d122
    try clear b80 b81 b82 d80 d81 d82
    try clear b90 b91 b92 d90 d91 d92
    obtain ⟨x29_2, rfl, HA, HK2, BK109, HB⟩ := hrel
    cases gk with
    | zero => exact absurd HA.out (by simp [spec_boGood.l0])
    | succ k2 =>
     have H := HA.out; clear HA; simp only [spec_boGood.l0] at H; by_cases c13 : x29_2 < (l0_2.length : Int)
     ·rw [if_pos c13] at H; have c13b0 : decide (x29_2 < (l0_2.length : Int)) = true := decide_eq_true c13; clear c13; by_cases c14 : 0 ≤ x29_2
      ·rw [if_pos c14] at H; have c14b0 : decide (0 ≤ x29_2) = true := decide_eq_true c14; clear c14; by_cases c15 : x29_2 < (l0_2.length : Int)
       ·rw [if_pos c15] at H; have c15b0 : decide (x29_2 < (l0_2.length : Int)) = true := decide_eq_true c15; clear c15; obtain ⟨t114, A16, H⟩ := bindq H; try dsimp only at H
        by_cases c17 : t114 = true
        ·subst c17; rw [if_pos rfl] at H; try dsimp only at H
         have H' := am H; clear H; have p112 : 0 ≤ (x29_2 : Int) := of_decide_eq_true aq; have q112 : x29_2 < (l0_2.length : Int) := of_decide_eq_true aq; obtain ⟨ad112, e112, hx112_0, hx112_1⟩ := at_T71 HR0_2.out x29_2 p112 q112
         cases e112
         replace hx112_0 := (HB.out.cell (World.block_lt_of_cell? w _ hx112_0)).trans hx112_0; replace hx112_1 := (HB.out.cell (World.block_lt_of_cell? w _ hx112_1)).trans hx112_1; replace p112 := eq_true p112; replace q112 := eq_true q112; go_wp2_with (first | ((with_reducible refine gate_dst (N := 4) rfl ?_); (try (refine gate_guard (by rfl) ?_; dsimp only)); refine box_event ?hg (N := 4) ?hd (cs := #[.int .i64 0, .int .i64 0]) (t := 71) ?hr ?_; (case hd | hg => rfl); (case hr => go_simp; try rfl); intro gb113 hg w18 hbox hb; have BK113 := am (hbox); have GW113 := am (gq hg); have GE113 := am (gq hg); replace HB := sb hb; have ⟨NB109_113, NB113_109⟩ := nn hg BK109; replace BK109 := zb BK109 hb; clear hb hbox hg; have hnb19 := NB113_109.out; have hnc19 := NB109_113.out; have ⟨b200, b201, d200, d201⟩ := bc2 BK113) | ((with_reducible refine gate_callee (f := 59) rfl ?_); refine goesQ (some 34) Try.func59 #[.agg #[.int .i64 ((rd_T71 l0_2 x29_2).f0), .int .i64 ((rd_T71 l0_2 x29_2).f1)]] ?_; (with_reducible refine (spec_paGood.calls ((rd_T71 l0_2 x29_2).f0) ((rd_T71 l0_2 x29_2).f1) true _ A16.out).mono ?_); rintro e w21 ⟨rfl, hb⟩; refine ⟨_, rfl, ?_⟩; replace BK109 := zw (.cells #[.int .i64 a0_0, .int .i64 a0_1, .slice (some ad112) l0_2.length c0_2] 51 (0, 0)) BK109 hb; replace BK113 := zw (.cells #[.int .i64 ((rd_T71 l0_2 x29_2).f0), .int .i64 ((rd_T71 l0_2 x29_2).f1)] 71 (0, 0)) BK113 hb; replace HB := sb hb; (try clear hb)))
         go_roundg k2
         case measure => have := HJ1.out; have := HK2.out; omega
         case rel => exact ⟨(wrap64 (x29_2 + 1)), sq, H', ⟨by have := HJ1.out; have := HK2.out; omega⟩, ⟨zq BK109⟩, ⟨bq⟩⟩
        replace c17 := Bool.eq_false_iff.mpr c17; subst c17; rw [if_neg (show ¬ (false = true) by decide)] at H; try dsimp only at H
        obtain rfl := Option.some.inj H; have p112 : 0 ≤ (x29_2 : Int) := of_decide_eq_true aq; have q112 : x29_2 < (l0_2.length : Int) := of_decide_eq_true aq; obtain ⟨ad112, e112, hx112_0, hx112_1⟩ := at_T71 HR0_2.out x29_2 p112 q112
        cases e112
        replace hx112_0 := (HB.out.cell (World.block_lt_of_cell? w _ hx112_0)).trans hx112_0; replace hx112_1 := (HB.out.cell (World.block_lt_of_cell? w _ hx112_1)).trans hx112_1; replace p112 := eq_true p112; replace q112 := eq_true q112; go_wp2_with (first | ((with_reducible refine gate_dst (N := 4) rfl ?_); (try (refine gate_guard (by rfl) ?_; dsimp only)); refine box_event ?hg (N := 4) ?hd (cs := #[.int .i64 0, .int .i64 0]) (t := 71) ?hr ?_; (case hd | hg => rfl); (case hr => go_simp; try rfl); intro gb113 hg w22 hbox hb; have BK113 := am (hbox); have GW113 := am (gq hg); have GE113 := am (gq hg); replace HB := sb hb; have ⟨NB109_113, NB113_109⟩ := nn hg BK109; replace BK109 := zb BK109 hb; clear hb hbox hg; have hnb23 := NB113_109.out; have hnc23 := NB109_113.out; have ⟨b240, b241, d240, d241⟩ := bc2 BK113) | ((with_reducible refine gate_callee (f := 59) rfl ?_); refine goesQ (some 34) Try.func59 #[.agg #[.int .i64 ((rd_T71 l0_2 x29_2).f0), .int .i64 ((rd_T71 l0_2 x29_2).f1)]] ?_; (with_reducible refine (spec_paGood.calls ((rd_T71 l0_2 x29_2).f0) ((rd_T71 l0_2 x29_2).f1) false _ A16.out).mono ?_); rintro e w25 ⟨rfl, hb⟩; refine ⟨_, rfl, ?_⟩; replace BK109 := zw (.cells #[.int .i64 a0_0, .int .i64 a0_1, .slice (some ad112) l0_2.length c0_2] 51 (0, 0)) BK109 hb; replace BK113 := zw (.cells #[.int .i64 ((rd_T71 l0_2 x29_2).f0), .int .i64 ((rd_T71 l0_2 x29_2).f1)] 71 (0, 0)) BK113 hb; replace HB := sb hb; (try clear hb)))
        go_ret
        exact ⟨eq_, bq⟩
       rw [if_neg c15] at H; exact absurd H (by simp)
      rw [if_neg c14] at H; exact absurd H (by simp)
     rw [if_neg c13] at H; have c13b0 : decide (x29_2 < (l0_2.length : Int)) = false := decide_eq_false c13; clear c13; obtain rfl := Option.some.inj H
     go_wp2
     go_ret
     exact ⟨eq_, bq⟩


def spec_kiBoards.l0 : Nat → List (S51) → List (S51) → Int → Int → Option (Bool)
 | 0, _, _, _, _ => none
 | k + 1, x0, x5, x6, x7 => if x7 < x6 then (if 0 ≤ x7 then (if x7 < (x5.length : Int) then ((spec_boGood.f k ((rd_T51 x5 x7).f0) ((rd_T51 x5 x7).f1) ((rd_T51 x5 x7).f2)).bind fun t117 => (if t117 = true then (spec_kiBoards.l0 k x0 x5 x6 (wrap64 (x7 + 1))) else (some false))) else (none)) else (none)) else ((spec_l1In.f (x0.length : Int) 1 6).bind fun t118 => (some t118))
def spec_kiBoards.f (k : Nat) (l0 : List (S51)) : Option (Bool) := spec_kiBoards.l0 k l0 l0 (l0.length : Int) 0
theorem spec_kiBoards.calls (k : Nat) (A0 : Option Addr) (c0 : Nat) (l0 : List (S51)) (r : Bool) (w : World) (hr0 : Kd.C k51 w A0 l0.length l0) (hc0 : l0.length ≤ c0) (h : spec_kiBoards.f k l0 = some r) :
  Calls Try.prog 28 #[.slice A0 l0.length c0] w fun e w' => e = .returned (.bool r) ∧ Below w.heap.size w w' := by
 have hu51 := Try.underlying51; have HR0 := am hr0; have HC0 := am hc0; clear hr0 hc0; have HB := am (Below.refl w.heap.size w); have H := h; clear h
 unfold spec_kiBoards.f at H
 have H' := am H; clear H
 go_enter Try.func28, Try.ntmps28
 go_wp2
 go_loopg [7] k (fun kq v7 w' => ∃ (x7_1 : Int), v7 = .int .i64 x7_1 ∧ Aside0 (spec_kiBoards.l0 kq l0 l0 (l0.length : Int) x7_1 = some r) ∧ Aside0 (kq ≤ k) ∧ Aside0 (Below w.heap.size w w'))
 case atStart => exact ⟨(0), sq, H', ⟨Nat.le_refl _⟩, ⟨bq⟩⟩
 case round =>
  clear H'; obtain ⟨x7_1, rfl, HA, HK1, HB⟩ := hrel
  cases gk with
  | zero => exact absurd HA.out (by simp [spec_kiBoards.l0])
  | succ k1 =>
   have H := HA.out; clear HA; simp only [spec_kiBoards.l0] at H; by_cases c2 : x7_1 < (l0.length : Int)
   ·rw [if_pos c2] at H; have c2b0 : decide (x7_1 < (l0.length : Int)) = true := decide_eq_true c2; clear c2; by_cases c3 : 0 ≤ x7_1
    ·rw [if_pos c3] at H; have c3b0 : decide (0 ≤ x7_1) = true := decide_eq_true c3; clear c3; by_cases c4 : x7_1 < (l0.length : Int)
     ·rw [if_pos c4] at H; have c4b0 : decide (x7_1 < (l0.length : Int)) = true := decide_eq_true c4; clear c4; obtain ⟨t117, A5, H⟩ := bindq H; try dsimp only at H
      by_cases c6 : t117 = true
      ·subst c6; rw [if_pos rfl] at H; try dsimp only at H
       have H' := am H; clear H; have p115 : 0 ≤ (x7_1 : Int) := of_decide_eq_true aq; have q115 : x7_1 < (l0.length : Int) := of_decide_eq_true aq; obtain ⟨ad115, A115_2, c115_2, e115, hx115_0, hx115_1, hx115_2, hl115_2, hi115_2⟩ := at_T51 HR0.out x7_1 p115 q115
       cases e115
       replace hx115_0 := (HB.out.cell (World.block_lt_of_cell? w _ hx115_0)).trans hx115_0; replace hx115_1 := (HB.out.cell (World.block_lt_of_cell? w _ hx115_1)).trans hx115_1; replace hx115_2 := (HB.out.cell (World.block_lt_of_cell? w _ hx115_2)).trans hx115_2; have HR115_2 := am hi115_2; have HC115_2 := am hl115_2; clear hi115_2 hl115_2; replace p115 := eq_true p115; replace q115 := eq_true q115; go_wp2_with (first | ((with_reducible refine gate_dst (N := 4) rfl ?_); refine box_event ?hg (N := 4) ?hd (cs := #[.int .i64 0, .int .i64 0, .slice none 0 0]) (t := 51) ?hr ?_; (case hd | hg => rfl); (case hr => go_simp; try rfl); intro gb116 hg w7 hbox hb; have BK116 := am (hbox); have GW116 := am (gq hg); have GE116 := am (gq hg); replace HB := sb hb; clear hb hbox hg; have ⟨b80, b81, b82, d80, d81, d82⟩ := bc3 BK116) | ((with_reducible refine gate_callee (f := 47) rfl ?_); refine goesQ (some 12) Try.func47 #[.agg #[.int .i64 ((rd_T51 l0 x7_1).f0), .int .i64 ((rd_T51 l0 x7_1).f1), .slice A115_2 ((rd_T51 l0 x7_1).f2).length c115_2]] ?_; (with_reducible refine (spec_boGood.calls k1 ((rd_T51 l0 x7_1).f0) ((rd_T51 l0 x7_1).f1) _ _ ((rd_T51 l0 x7_1).f2) true _ ?s1 ?s2 A5.out).mono ?_); (case s1 => exact Kd.C_below HR115_2.out bq); (case s2 => exact HC115_2.out); rintro e w9 ⟨rfl, hb⟩; refine ⟨_, rfl, ?_⟩; replace BK116 := zw (.cells #[.int .i64 ((rd_T51 l0 x7_1).f0), .int .i64 ((rd_T51 l0 x7_1).f1), .slice A115_2 ((rd_T51 l0 x7_1).f2).length c115_2] 51 (0, 0)) BK116 hb; replace HB := sb hb; (try clear hb)))
       go_roundg k1
       case measure => have := HK1.out; omega
       case rel => exact ⟨(wrap64 (x7_1 + 1)), sq, H', ⟨by have := HK1.out; omega⟩, ⟨bq⟩⟩
      replace c6 := Bool.eq_false_iff.mpr c6; subst c6; rw [if_neg (show ¬ (false = true) by decide)] at H; try dsimp only at H
      obtain rfl := Option.some.inj H; have p115 : 0 ≤ (x7_1 : Int) := of_decide_eq_true aq; have q115 : x7_1 < (l0.length : Int) := of_decide_eq_true aq; obtain ⟨ad115, A115_2, c115_2, e115, hx115_0, hx115_1, hx115_2, hl115_2, hi115_2⟩ := at_T51 HR0.out x7_1 p115 q115
      cases e115
      replace hx115_0 := (HB.out.cell (World.block_lt_of_cell? w _ hx115_0)).trans hx115_0; replace hx115_1 := (HB.out.cell (World.block_lt_of_cell? w _ hx115_1)).trans hx115_1; replace hx115_2 := (HB.out.cell (World.block_lt_of_cell? w _ hx115_2)).trans hx115_2; have HR115_2 := am hi115_2; have HC115_2 := am hl115_2; clear hi115_2 hl115_2; replace p115 := eq_true p115; replace q115 := eq_true q115; go_wp2_with (first | ((with_reducible refine gate_dst (N := 4) rfl ?_); refine box_event ?hg (N := 4) ?hd (cs := #[.int .i64 0, .int .i64 0, .slice none 0 0]) (t := 51) ?hr ?_; (case hd | hg => rfl); (case hr => go_simp; try rfl); intro gb116 hg w10 hbox hb; have BK116 := am (hbox); have GW116 := am (gq hg); have GE116 := am (gq hg); replace HB := sb hb; clear hb hbox hg; have ⟨b110, b111, b112, d110, d111, d112⟩ := bc3 BK116) | ((with_reducible refine gate_callee (f := 47) rfl ?_); refine goesQ (some 12) Try.func47 #[.agg #[.int .i64 ((rd_T51 l0 x7_1).f0), .int .i64 ((rd_T51 l0 x7_1).f1), .slice A115_2 ((rd_T51 l0 x7_1).f2).length c115_2]] ?_; (with_reducible refine (spec_boGood.calls k1 ((rd_T51 l0 x7_1).f0) ((rd_T51 l0 x7_1).f1) _ _ ((rd_T51 l0 x7_1).f2) false _ ?s1 ?s2 A5.out).mono ?_); (case s1 => exact Kd.C_below HR115_2.out bq); (case s2 => exact HC115_2.out); rintro e w12 ⟨rfl, hb⟩; refine ⟨_, rfl, ?_⟩; replace BK116 := zw (.cells #[.int .i64 ((rd_T51 l0 x7_1).f0), .int .i64 ((rd_T51 l0 x7_1).f1), .slice A115_2 ((rd_T51 l0 x7_1).f2).length c115_2] 51 (0, 0)) BK116 hb; replace HB := sb hb; (try clear hb)))
      go_ret
      exact ⟨eq_, bq⟩
     rw [if_neg c4] at H; exact absurd H (by simp)
    rw [if_neg c3] at H; exact absurd H (by simp)
   rw [if_neg c2] at H; have c2b0 : decide (x7_1 < (l0.length : Int)) = false := decide_eq_false c2; clear c2; obtain ⟨t118, A13, H⟩ := bindq H; try dsimp only at H
   obtain rfl := Option.some.inj H; go_wp2_with (first | ((with_reducible refine gate_callee (f := 48) rfl ?_); refine goesQ (some 17) Try.func48 #[.int .i64 (l0.length : Int), .int .i64 1, .int .i64 6] ?_; (with_reducible refine (spec_l1In.calls (l0.length : Int) 1 6 t118 _ A13.out).mono ?_); rintro e w' ⟨rfl, ⟨nd, rfl⟩⟩; refine ⟨_, rfl, ?_⟩))
   go_ret
   exact ⟨eq_, bq⟩



def spec_boParts.l0 : Nat → List Int → List (S71) → Int → Int → Option (List Int)
 | 0, _, _, _, _ => none
 | k + 1, x3, x8, x9, x10 => if x10 < x9 then (if 0 ≤ x10 then (if x10 < (x8.length : Int) then (if 0 ≤ ((rd_T71 x8 x10).f0) then (if ((rd_T71 x8 x10).f0) < (x3.length : Int) then (spec_boParts.l0 k (x3.set (((rd_T71 x8 x10).f0) : Int).toNat (wrap64 ((rd x3 ((rd_T71 x8 x10).f0)) + 1))) x8 x9 (wrap64 (x10 + 1))) else (none)) else (none)) else (none)) else (none)) else (some x3)
def spec_boParts.f (k : Nat) (a0_0 : Int) (a0_1 : Int) (l0_2 : List (S71)) : Option (List Int) := if 8 ≤ 35184372088832 then (spec_boParts.l0 k (List.replicate 8 0) l0_2 (l0_2.length : Int) 0) else (none)
theorem spec_boParts.calls (k : Nat) (a0_0 : Int) (a0_1 : Int) (A0_2 : Option Addr) (c0_2 : Nat) (l0_2 : List (S71)) (r : List Int) (w : World) (hr0_2 : Kd.C k71 w A0_2 l0_2.length l0_2) (hc0_2 : l0_2.length ≤ c0_2) (h : spec_boParts.f k a0_0 a0_1 l0_2 = some r) :
  Calls Try.prog 49 #[.agg #[.int .i64 a0_0, .int .i64 a0_1, .slice A0_2 l0_2.length c0_2]] w fun e w' => ∃ v0_ : Value, e = .returned (v0_) ∧ Kd.R (Kd.int .i64) 3 w' w.heap.size (fun _ => True) v0_ r ∧ Below w.heap.size w w' := by
 have hu51 := Try.underlying51; have hu71 := Try.underlying71; have HR0_2 := am hr0_2; have HC0_2 := am hc0_2; clear hr0_2 hc0_2; have HB := am (Below.refl w.heap.size w); have H := h; clear h
 unfold spec_boParts.f at H
 by_cases c2 : 8 ≤ 35184372088832
 ·rw [if_pos c2] at H; have c2b0 := eq_true c2; have c2b1 : decide (8 ≤ 35184372088832) = true := decide_eq_true c2; clear c2; obtain ⟨y120, hy120⟩ : ∃ y_ : List Int, y_ = (List.replicate 8 0) := ⟨_, rfl⟩; replace H : (spec_boParts.l0 k y120 l0_2 (l0_2.length : Int) 0) = some r := yq hy120 H; have Ny120 := am hy120; clear hy120; have H' := am H; clear H
  go_enter Try.func49, Try.ntmps49
  go_wp2_with (first | ((with_reducible refine gate_dst (N := 1) rfl ?_); refine box_event ?hg (N := 1) ?hd (cs := #[.int .i64 a0_0, .int .i64 a0_1, .slice A0_2 l0_2.length c0_2]) (t := 51) ?hr ?_; (case hd | hg => rfl); (case hr => go_simp; try rfl); intro gb119 hg w3 hbox hb; have BK119 := am (hbox); have GW119 := am (gq hg); have GE119 := am (gq hg); replace HB := sb hb; clear hb hbox hg) | ((with_reducible refine gate_dst (N := 6) rfl ?_); refine Kd.R_make (Kd.int .i64) _ 3 rfl (N := 6) rfl 24 _ _ rfl 8 rfl rfl Try.underlying24 (.int .i64 0) 8 info3 rfl (by decide) (by omega) 0 (ok := fun _ => True) (okp := fun _ => True) rfl (fun _ hk => hk) trivial (by omega) (by omega) (Below.refl _ _) (Nat.le_refl _) ?_; intro v121 w4 ho5 hb hg_ hnew_; clear hg_ hnew_; (first | rw [← Ny120.out] at ho5 | (simp only [Int.reduceToNat] at ho5; rw [← Ny120.out] at ho5)); have HO122 := rl ho5; replace BK119 := zb BK119 hb; replace HB := sb hb; clear hb ho5; have ⟨b60, b61, b62, d60, d61, d62⟩ := bc3 BK119))
  go_loopg [10] k (fun kq v10 w' => ∃ (x3_1 : List Int) (x10_1 : Int), v10 = .int .i64 x10_1 ∧ Aside0 (spec_boParts.l0 kq x3_1 l0_2 (l0_2.length : Int) x10_1 = some r) ∧ Aside0 (kq ≤ k) ∧ Aside0 (Kd.R (Kd.int .i64) 3 w' w.heap.size (fun _ => True) v121 x3_1) ∧ Aside0 (w'.heap[gb119]? = some (.cells #[.int .i64 a0_0, .int .i64 a0_1, (.slice A0_2 l0_2.length c0_2)] 51 (0, 0))) ∧ Aside0 (Below w.heap.size w w'))
  case atStart => exact ⟨(y120), (0), sq, H', ⟨Nat.le_refl _⟩, ⟨rq HO122⟩, ⟨zq BK119⟩, ⟨bq⟩⟩
  case round =>
   clear H'; try clear c2b0
   try clear c2b1
   try clear b60 b61 b62 d60 d61 d62
   obtain ⟨x3_1, x10_1, rfl, HA, HK1, HO_3, BK119, HB⟩ := hrel
   cases gk with
   | zero => exact absurd HA.out (by simp [spec_boParts.l0])
   | succ k1 =>
    have H := HA.out; clear HA; simp only [spec_boParts.l0] at H; by_cases c7 : x10_1 < (l0_2.length : Int)
    ·rw [if_pos c7] at H; have c7b0 : decide (x10_1 < (l0_2.length : Int)) = true := decide_eq_true c7; clear c7; by_cases c8 : 0 ≤ x10_1
     ·rw [if_pos c8] at H; have c8b0 : decide (0 ≤ x10_1) = true := decide_eq_true c8; clear c8; by_cases c9 : x10_1 < (l0_2.length : Int)
      ·rw [if_pos c9] at H; have c9b0 : decide (x10_1 < (l0_2.length : Int)) = true := decide_eq_true c9; clear c9; by_cases c10 : 0 ≤ ((rd_T71 l0_2 x10_1).f0)
       ·rw [if_pos c10] at H; have c10b0 : decide (0 ≤ ((rd_T71 l0_2 x10_1).f0)) = true := decide_eq_true c10; clear c10; by_cases c11 : ((rd_T71 l0_2 x10_1).f0) < (x3_1.length : Int)
        ·rw [if_pos c11] at H; have c11b0 : decide (((rd_T71 l0_2 x10_1).f0) < (x3_1.length : Int)) = true := decide_eq_true c11; clear c11; obtain ⟨y126, hy126⟩ : ∃ y_ : List Int, y_ = (x3_1.set (((rd_T71 l0_2 x10_1).f0) : Int).toNat (wrap64 ((rd x3_1 ((rd_T71 l0_2 x10_1).f0)) + 1))) := ⟨_, rfl⟩; replace H : (spec_boParts.l0 k1 y126 l0_2 (l0_2.length : Int) (wrap64 (x10_1 + 1))) = some r := yq hy126 H; have Ny126 := am hy126; clear hy126; have H' := am H; clear H; have p123 : 0 ≤ (x10_1 : Int) := of_decide_eq_true aq; have q123 : x10_1 < (l0_2.length : Int) := of_decide_eq_true aq; obtain ⟨ad123, e123, hx123_0, hx123_1⟩ := at_T71 HR0_2.out x10_1 p123 q123
         cases e123
         replace hx123_0 := (HB.out.cell (World.block_lt_of_cell? w _ hx123_0)).trans hx123_0; replace hx123_1 := (HB.out.cell (World.block_lt_of_cell? w _ hx123_1)).trans hx123_1; replace p123 := eq_true p123; replace q123 := eq_true q123; go_wp2_with (first | ((with_reducible refine gate_dst (N := 5) rfl ?_); refine box_event ?hg (N := 5) ?hd (cs := #[.int .i64 0, .int .i64 0]) (t := 71) ?hr ?_; (case hd | hg => rfl); (case hr => go_simp; try rfl); intro gb124 hg w13 hbox hb; replace HO_3 := rb HO_3 hb; have BK124 := am (hbox); have GW124 := am (gq hg); have GE124 := am (gq hg); replace HB := sb hb; have ⟨NB119_124, NB124_119⟩ := nn hg BK119; replace BK119 := zb BK119 hb; clear hb hbox hg; have hnb14 := NB124_119.out; have hnc14 := NB119_124.out; have ⟨b150, b151, d150, d151⟩ := bc2 BK124) | ((with_reducible refine gate_store (t := 71) (p := 5) rfl ?_); refine store_event (t := 71) (p := 5) (v := ?vo_w16) (w1 := ((w13.setCell ⟨gb124, 0, none⟩ (.int .i64 ((rd_T71 l0_2 x10_1).f0))).setCell ⟨gb124, 1, none⟩ (.int .i64 ((rd_T71 l0_2 x10_1).f1)))) ?hg ?ho ?hn ?hr ?_; (case ho => rfl); (case hg => rfl); (case hn => rfl); (case hr => go_simp; try rfl); intro w16 hw; have n0_ : Aside0 (Kd.R (Kd.int .i64) 3 w16 w.heap.size (fun _ => True) v121 x3_1) := ⟨(by rw [hw]; exact (Kd.R_mono (ff HO_3 BK124) (fun _ hk => trivial)))⟩; have n1_ : Aside0 (w16.heap[gb119]? = some (.cells #[.int .i64 a0_0, .int .i64 a0_1, .slice (some ad123) l0_2.length c0_2] 51 (0, 0))) := ⟨(by rw [hw]; exact (zp BK119))⟩; have n2_ : Aside0 (w16.heap[gb124]? = some (.cells #[.int .i64 ((rd_T71 l0_2 x10_1).f0), .int .i64 ((rd_T71 l0_2 x10_1).f1)] 71 (0, 0))) := ⟨(by rw [hw]; exact (zp BK124))⟩; have n3_ : Aside0 (Below w.heap.size w w16) := ⟨(by rw [hw]; exact bq)⟩; clear hw; clear HO_3; clear BK119; clear BK124; clear HB; have HO_3 := n0_; have BK119 := n1_; have BK124 := n2_; have HB := n3_; clear n0_ n1_ n2_ n3_; have ⟨b170, b171, d170, d171⟩ := bc2 BK124; obtain ⟨Ao18, co18, eo18⟩ := Kd.R_slice HO_3.out; subst eo18; have p125 : 0 ≤ (((rd_T71 l0_2 x10_1).f0) : Int) := of_decide_eq_true aq; have q125 : ((rd_T71 l0_2 x10_1).f0) < (x3_1.length : Int) := of_decide_eq_true aq; obtain ⟨ad125, e125, hx125_0⟩ := Kd.at_int (Kd.R_reads' HO_3.out).2.2 ((rd_T71 l0_2 x10_1).f0) p125 q125; cases e125; replace p125 := eq_true p125; replace q125 := eq_true q125; have p12 : 0 ≤ (((rd_T71 l0_2 x10_1).f0) : Int) := of_decide_eq_true aq; have q12 : (((rd_T71 l0_2 x10_1).f0) : Int) < ((x3_1.length : Int) : Int) := of_decide_eq_true aq; obtain ⟨go12, co12, eo12, gb12, gl12, cl12, HG12⟩ := Kd.R_form HO_3.out (by omega); (first | cases eo12 | (injection eo12 with ea_ en_ ec_; (first | subst ea_ | (injection ea_ with ea_; subst ea_)); subst ec_; clear en_)); have GB12 := am gb12; have GG12 := am HG12; clear gb12 gl12 HG12; (first | simp only [add_plain] at hx125_0 | skip); obtain ⟨hx12_0, hf12_0⟩ := Kd.R_celln 0 HO_3.out (((rd_T71 l0_2 x10_1).f0) : Int) p12 q12; replace p12 := eq_true p12; replace q12 := eq_true q12; obtain ⟨hy19_, hz19_⟩ := Kd.R_celln 0 HO_3.out (((rd_T71 l0_2 x10_1).f0) : Int) (of_decide_eq_true aq) (of_decide_eq_true aq); have HP19 := Kd.R_putg HO_3.out (((rd_T71 l0_2 x10_1).f0) : Int) (wrap64 ((rd x3_1 ((rd_T71 l0_2 x10_1).f0)) + 1))) | ((with_reducible refine gate_store (t := 3) (p := 20) rfl ?_); refine store_event (t := 3) (p := 20) (v := ?vo_w20) (w1 := (w16.setCell ⟨go12, (((rd_T71 l0_2 x10_1).f0) : Int).toNat, none⟩ (.int .i64 (wrap64 ((rd x3_1 ((rd_T71 l0_2 x10_1).f0)) + 1))))) ?hg ?ho ?hn ?hr ?_; (case ho => rfl); (case hg => rfl); (case hn => rfl); (case hr => go_simp; try rfl); intro w20 hw; have hg : w16.grownBy w20 (some go12) := (by rw [hw]; exact HP19.2); have hp_ : Kd.R (Kd.int .i64) 3 w20 w.heap.size (fun _ => True) (.slice (some ⟨go12, 0, none⟩) x3_1.length co18) y126 := (by rw [hw, Ny126.out]; exact HP19.1); clear HP19; replace BK119 := zg BK119 hg (Kd.R_ne HO_3.out BK119.out (by decide)); replace BK124 := zg BK124 hg (Kd.R_ne HO_3.out BK124.out (by decide)); replace HO_3 := am (hp_); replace HB := am ((by rw [hw]; exact below_set (HB.out) GB12.out : Below w.heap.size w w20)); clear hg hw hp_))
         go_roundg k1
         case measure => have := HK1.out; omega
         case rel => exact ⟨(y126), (wrap64 (x10_1 + 1)), sq, H', ⟨by have := HK1.out; omega⟩, ⟨rq HO_3⟩, ⟨zq BK119⟩, ⟨bq⟩⟩
        rw [if_neg c11] at H; exact absurd H (by simp)
       rw [if_neg c10] at H; exact absurd H (by simp)
      rw [if_neg c9] at H; exact absurd H (by simp)
     rw [if_neg c8] at H; exact absurd H (by simp)
    rw [if_neg c7] at H; have c7b0 : decide (x10_1 < (l0_2.length : Int)) = false := decide_eq_false c7; clear c7; obtain rfl := Option.some.inj H
    go_wp2
    go_ret
    exact ⟨_, eq_, rq HO_3, bq⟩
 rw [if_neg c2] at H; exact absurd H (by simp)


def spec_kiOf.f (k : Nat) (a0_0 : Int) (a0_1 : Int) (l0_2 : List (S71)) : Option (List Int) := (spec_boParts.f k a0_0 a0_1 l0_2).bind fun t128 => (if 1 ≤ (t128.length : Int) then (some (t128.drop (1 : Int).toNat)) else (none))
theorem spec_kiOf.calls (k : Nat) (a0_0 : Int) (a0_1 : Int) (A0_2 : Option Addr) (c0_2 : Nat) (l0_2 : List (S71)) (r : List Int) (w : World) (hr0_2 : Kd.C k71 w A0_2 l0_2.length l0_2) (hc0_2 : l0_2.length ≤ c0_2) (h : spec_kiOf.f k a0_0 a0_1 l0_2 = some r) :
  Calls Try.prog 29 #[.agg #[.int .i64 a0_0, .int .i64 a0_1, .slice A0_2 l0_2.length c0_2]] w fun e w' => ∃ v0_ : Value, e = .returned (v0_) ∧ Kd.Q (Kd.int .i64) 3 w' w.heap.size (fun _ => True) v0_ r ∧ Below w.heap.size w w' := by
 have hu51 := Try.underlying51; have HR0_2 := am hr0_2; have HC0_2 := am hc0_2; clear hr0_2 hc0_2; have HB := am (Below.refl w.heap.size w); have H := h; clear h
 unfold spec_kiOf.f at H
 obtain ⟨t128, A2, H⟩ := bindq H; try dsimp only at H
 by_cases c3 : 1 ≤ (t128.length : Int)
 ·rw [if_pos c3] at H; have c3b0 := eq_true c3; have c3b1 : decide (1 ≤ (t128.length : Int)) = true := decide_eq_true c3; clear c3; obtain ⟨y131, hy131⟩ : ∃ y_ : List Int, y_ = (t128.drop (1 : Int).toNat) := ⟨_, rfl⟩; replace H : (some y131) = some r := yq hy131 H; have Ny131 := am hy131; clear hy131; obtain rfl := Option.some.inj H
  go_enter Try.func29, Try.ntmps29
  go_wp2_with (first | ((with_reducible refine gate_dst (N := 1) rfl ?_); refine box_event ?hg (N := 1) ?hd (cs := #[.int .i64 a0_0, .int .i64 a0_1, .slice A0_2 l0_2.length c0_2]) (t := 51) ?hr ?_; (case hd | hg => rfl); (case hr => go_simp; try rfl); intro gb127 hg w4 hbox hb; have BK127 := am (hbox); have GW127 := am (gq hg); have GE127 := am (gq hg); replace HB := sb hb; clear hb hbox hg; have ⟨b50, b51, b52, d50, d51, d52⟩ := bc3 BK127) | ((with_reducible refine gate_callee (f := 49) rfl ?_); refine goesQ (some 4) Try.func49 #[.agg #[.int .i64 a0_0, .int .i64 a0_1, .slice A0_2 l0_2.length c0_2]] ?_; (with_reducible refine (spec_boParts.calls k a0_0 a0_1 _ _ l0_2 t128 _ ?s1 ?s2 A2.out).mono ?_); (case s1 => exact cq (Kd.C_below HR0_2.out HB.out)); (case s2 => exact HC0_2.out); rintro e w6 ⟨v129, rfl, ho0, hb⟩; refine ⟨_, rfl, ?_⟩; have HO130 := rl ho0; replace BK127 := zb BK127 hb; replace HB := sb hb; (try clear hb ho0); obtain ⟨Ao7, co7, eo7⟩ := Kd.R_slice HO130.out; subst eo7; have q8 : (1 : Int) ≤ ((t128.length : Int) : Int) := of_decide_eq_true aq; obtain ⟨i08, hi08, _, hsz8, _⟩ := info_parts info3; have hcut8 := cut_from (P := Try.prog) 24 3 .i64 Try.underlying24 hi08 1 hsz8 Ao7 t128.length co7 1 (by omega) q8; have hr8 := Kd.Q_drop (k := (1 : Int).toNat) (Kd.Q_of_R HO130.out) (by omega); obtain ⟨A8, hA8⟩ : ∃ A1, A1 = (if co7 = (1 : Int).toNat then Ao7 else (Ao7 : Option Addr).map (·.add ((1 : Int).toNat * 1))) := ⟨_, rfl⟩; obtain ⟨c8, hc8⟩ : ∃ c1, c1 = co7 - (1 : Int).toNat := ⟨_, rfl⟩; have hy8 : y131.length = t128.length - (1 : Int).toNat := (by rw [Ny131.out, List.length_drop]); rw [← Ny131.out] at hr8; rw [← hy8, ← hA8, ← hc8] at hcut8; replace hr8 : Kd.Q (Kd.int .i64) 3 w6 w.heap.size (fun _ => True) (.slice A8 y131.length c8) y131 := (by rw [hA8, hc8, hy8]; exact hr8); have HE8 : Aside0 ((Value.slice A8 y131.length c8).ownBlock = (.slice Ao7 t128.length co7 : Value).ownBlock) := ⟨by rw [hA8]; split <;> (cases (Ao7 : Option Addr) <;> rfl)⟩; clear hy8 hi08 hsz8 HO130 hA8 hc8; have HO133 := am hr8; clear hr8; replace q8 := eq_true q8))
  go_ret
  exact ⟨_, eq_, by (with_reducible repeat (first | apply Kd.Q_alloc | apply Kd.Q_drewN | apply Kd.Q_drew)); exact HO133.out, bq⟩
 rw [if_neg c3] at H; exact absurd H (by simp)


def spec_l1Most.f (a0 : Int) (a1 : Int) : Option (Int) := if a0 > a1 then (some a0) else (some a1)
theorem spec_l1Most.calls (a0 : Int) (a1 : Int) (r : Int) (w : World) (h : spec_l1Most.f a0 a1 = some r) :
  Calls Try.prog 35 #[.int .i64 a0, .int .i64 a1] w fun e w' => e = .returned (.int .i64 r) ∧ Drawn0 w w' := by
 have H := h; clear h
 unfold spec_l1Most.f at H
 by_cases c3 : a0 > a1
 ·rw [if_pos c3] at H; have c3b0 : decide (a1 < a0) = true := decide_eq_true c3; clear c3; obtain rfl := Option.some.inj H
  go_enter Try.func35, Try.ntmps35
  go_wp2
  go_ret
  exact ⟨sq, by repeat (first | exact Drawn0.refl _ | apply Drawn0.step)⟩
 rw [if_neg c3] at H; have c3b0 : decide (a1 < a0) = false := decide_eq_false c3; clear c3; obtain rfl := Option.some.inj H
 go_enter Try.func35, Try.ntmps35
 go_wp2
 go_ret
 exact ⟨sq, by repeat (first | exact Drawn0.refl _ | apply Drawn0.step)⟩



mutual
def spec_SharedKit.l0 : Nat → List Int → List (S51) → Int → Int → Option (List Int × Bool)
 | 0, _, _, _, _ => none
 | k + 1, x4, x13, x14, x15 => if x15 < x14 then (if 0 ≤ x15 then (if x15 < (x13.length : Int) then ((spec_kiOf.f k ((rd_T51 x13 x15).f0) ((rd_T51 x13 x15).f1) ((rd_T51 x13 x15).f2)).bind fun t274 => (spec_SharedKit.l1 k x4 x13 x14 x15 t274 (t274.length : Int) 0)) else (none)) else (none)) else (some (x4, true))
def spec_SharedKit.l1 : Nat → List Int → List (S51) → Int → Int → List Int → Int → Int → Option (List Int × Bool)
 | 0, _, _, _, _, _, _, _ => none
 | k + 1, x4, x13, x14, x15, x20, x21, x22 => if x22 < x21 then (if 0 ≤ x22 then (if x22 < (x20.length : Int) then (if x22 < (x4.length : Int) then ((spec_l1Most.f (rd x4 x22) (rd x20 x22)).bind fun t279 => (spec_SharedKit.l1 k (x4.set (x22 : Int).toNat t279) x13 x14 x15 x20 x21 (wrap64 (x22 + 1)))) else (none)) else (none)) else (none)) else (spec_SharedKit.l0 k x4 x13 x14 (wrap64 (x15 + 1)))
end
def spec_SharedKit.f (k : Nat) (l0 : List (S51)) : Option (List Int × Bool) := (spec_kiBoards.f k l0).bind fun t268 => (if t268 = true then (if 7 ≤ 35184372088832 then (spec_SharedKit.l0 k (List.replicate 7 0) l0 (l0.length : Int) 0) else (none)) else (some (([] : List Int), false)))
theorem spec_SharedKit.calls (k : Nat) (A0 : Option Addr) (c0 : Nat) (l0 : List (S51)) (r1 : List Int) (r2 : Bool) (w : World) (hr0 : Kd.C k51 w A0 l0.length l0) (hc0 : l0.length ≤ c0) (h : spec_SharedKit.f k l0 = some (r1, r2)) :
  Calls Try.prog 16 #[.slice A0 l0.length c0] w fun e w' => ∃ v0_ : Value, e = .returned (.tuple #[v0_, .bool r2]) ∧ Kd.R (Kd.int .i64) 3 w' w.heap.size (fun _ => True) v0_ r1 ∧ Below w.heap.size w w' := by
 have hu51 := Try.underlying51; have HR0 := am hr0; have HC0 := am hc0; clear hr0 hc0; have HB := am (Below.refl w.heap.size w); have H := h; clear h
 unfold spec_SharedKit.f at H
 obtain ⟨t268, A2, H⟩ := bindq H; try dsimp only at H
 by_cases c3 : t268 = true
 ·subst c3; rw [if_pos rfl] at H; try dsimp only at H
  by_cases c4 : 7 ≤ 35184372088832
  ·rw [if_pos c4] at H; have c4b0 := eq_true c4; have c4b1 : decide (7 ≤ 35184372088832) = true := decide_eq_true c4; clear c4; obtain ⟨y269, hy269⟩ : ∃ y_ : List Int, y_ = (List.replicate 7 0) := ⟨_, rfl⟩; replace H : (spec_SharedKit.l0 k y269 l0 (l0.length : Int) 0) = some (r1, r2) := yq hy269 H; have Ny269 := am hy269; clear hy269; have H' := am H; clear H
   go_enter Try.func16, Try.ntmps16
   go_wp2_with (first | ((with_reducible refine gate_callee (f := 28) rfl ?_); refine goesQ (some 10) Try.func28 #[.slice A0 l0.length c0] ?_; (with_reducible refine (spec_kiBoards.calls k _ _ l0 true _ ?s1 ?s2 A2.out).mono ?_); (case s1 => exact cq HR0.out); (case s2 => exact HC0.out); rintro e w5 ⟨rfl, hb⟩; refine ⟨_, rfl, ?_⟩; have n0_ := sb hb; clear HB; have HB := n0_; clear n0_; (try clear hb)) | ((with_reducible refine gate_dst (N := 12) rfl ?_); refine Kd.R_make (Kd.int .i64) _ 3 rfl (N := 12) rfl 24 _ _ rfl 7 rfl rfl Try.underlying24 (.int .i64 0) 8 info3 rfl (by decide) (by omega) 0 (ok := fun _ => True) (okp := fun _ => True) rfl (fun _ hk => hk) trivial (by omega) (by omega) (Below.refl _ _) (Nat.le_refl _) ?_; intro v270 w6 ho7 hb hg_ hnew_; clear hg_ hnew_; (first | rw [← Ny269.out] at ho7 | (simp only [Int.reduceToNat] at ho7; rw [← Ny269.out] at ho7)); have HO271 := rl ho7; replace HB := sb hb; clear hb ho7))
   go_loopg [15] k (fun kq v15 w' => ∃ (x4_1 : List Int) (x15_1 : Int), v15 = .int .i64 x15_1 ∧ Aside0 (spec_SharedKit.l0 kq x4_1 l0 (l0.length : Int) x15_1 = some (r1, r2)) ∧ Aside0 (kq ≤ k) ∧ Aside0 (Kd.R (Kd.int .i64) 3 w' w.heap.size (fun _ => True) v270 x4_1) ∧ Aside0 (Below w.heap.size w w'))
   case atStart => exact ⟨(y269), (0), sq, H', ⟨Nat.le_refl _⟩, ⟨rq HO271⟩, ⟨bq⟩⟩
   case round =>
    clear H'; try clear c3
    try clear c4b0
    try clear c4b1
    obtain ⟨x4_1, x15_1, rfl, HA, HK1, HO_4, HB⟩ := hrel
    cases gk with
    | zero => exact absurd HA.out (by simp [spec_SharedKit.l0])
    | succ k1 =>
     have H := HA.out; clear HA; simp only [spec_SharedKit.l0] at H; by_cases c8 : x15_1 < (l0.length : Int)
     ·rw [if_pos c8] at H; have c8b0 : decide (x15_1 < (l0.length : Int)) = true := decide_eq_true c8; clear c8; by_cases c9 : 0 ≤ x15_1
      ·rw [if_pos c9] at H; have c9b0 : decide (0 ≤ x15_1) = true := decide_eq_true c9; clear c9; by_cases c10 : x15_1 < (l0.length : Int)
       ·rw [if_pos c10] at H; have c10b0 : decide (x15_1 < (l0.length : Int)) = true := decide_eq_true c10; clear c10; obtain ⟨t274, A11, H⟩ := bindq H; try dsimp only at H
        have H' := am H; clear H; have p272 : 0 ≤ (x15_1 : Int) := of_decide_eq_true aq; have q272 : x15_1 < (l0.length : Int) := of_decide_eq_true aq; obtain ⟨ad272, A272_2, c272_2, e272, hx272_0, hx272_1, hx272_2, hl272_2, hi272_2⟩ := at_T51 HR0.out x15_1 p272 q272
        cases e272
        replace hx272_0 := (HB.out.cell (World.block_lt_of_cell? w _ hx272_0)).trans hx272_0; replace hx272_1 := (HB.out.cell (World.block_lt_of_cell? w _ hx272_1)).trans hx272_1; replace hx272_2 := (HB.out.cell (World.block_lt_of_cell? w _ hx272_2)).trans hx272_2; have HR272_2 := am hi272_2; have HC272_2 := am hl272_2; clear hi272_2 hl272_2; replace p272 := eq_true p272; replace q272 := eq_true q272; go_wp2_with (first | ((with_reducible refine gate_dst (N := 6) rfl ?_); refine box_event ?hg (N := 6) ?hd (cs := #[.int .i64 0, .int .i64 0, .slice none 0 0]) (t := 51) ?hr ?_; (case hd | hg => rfl); (case hr => go_simp; try rfl); intro gb273 hg w12 hbox hb; replace HO_4 := rb HO_4 hb; have BK273 := am (hbox); have GW273 := am (gq hg); have GE273 := am (gq hg); replace HB := sb hb; clear hb hbox hg; have ⟨b130, b131, b132, d130, d131, d132⟩ := bc3 BK273) | ((with_reducible refine gate_callee (f := 29) rfl ?_); refine goesQ (some 20) Try.func29 #[.agg #[.int .i64 ((rd_T51 l0 x15_1).f0), .int .i64 ((rd_T51 l0 x15_1).f1), .slice A272_2 ((rd_T51 l0 x15_1).f2).length c272_2]] ?_; (with_reducible refine (spec_kiOf.calls k1 ((rd_T51 l0 x15_1).f0) ((rd_T51 l0 x15_1).f1) _ _ ((rd_T51 l0 x15_1).f2) t274 _ ?s1 ?s2 A11.out).mono ?_); (case s1 => exact Kd.C_below HR272_2.out bq); (case s2 => exact HC272_2.out); rintro e w14 ⟨v275, rfl, ho0, hb⟩; refine ⟨_, rfl, ?_⟩; have HO276 := am (Kd.Q_lower (Kd.Q_new' ho0 (Kd.R_lt (fq HO_4 BK273))) (below_size bq)); replace HO_4 := am (Kd.R_elder' (fq HO_4 BK273) (Kd.Q_base ho0) hb); replace BK273 := zw (.cells #[.int .i64 ((rd_T51 l0 x15_1).f0), .int .i64 ((rd_T51 l0 x15_1).f1), .slice A272_2 ((rd_T51 l0 x15_1).f2).length c272_2] 51 (0, 0)) BK273 hb; replace HB := sb hb; (try clear hb ho0); obtain ⟨Ao15, co15, eo15, _⟩ := Kd.Q_slice HO276.out; subst eo15))
        go_loopg [22] k1 (fun kq v22 w' => ∃ (x4_2 : List Int) (x22_2 : Int), v22 = .int .i64 x22_2 ∧ Aside0 (spec_SharedKit.l1 kq x4_2 l0 (l0.length : Int) x15_1 t274 (t274.length : Int) x22_2 = some (r1, r2)) ∧ Aside0 (kq ≤ k1) ∧ Aside0 (Kd.R (Kd.int .i64) 3 w' w.heap.size (fun k_ => some k_ ≠ ((.slice Ao15 t274.length co15) : Value).ownBlock) v270 x4_2) ∧ Aside0 (Kd.Q (Kd.int .i64) 3 w' w.heap.size (fun k_ => some k_ ≠ (v270 : Value).ownBlock) (.slice Ao15 t274.length co15) t274) ∧ Aside0 (w'.heap[gb273]? = some (.cells #[.int .i64 ((rd_T51 l0 x15_1).f0), .int .i64 ((rd_T51 l0 x15_1).f1), (.slice A272_2 ((rd_T51 l0 x15_1).f2).length c272_2)] 51 (0, 0))) ∧ Aside0 (Below w.heap.size w w'))
        case atStart => exact ⟨(x4_1), (0), sq, H', ⟨Nat.le_refl _⟩, ⟨rm HO_4⟩, ⟨by (with_reducible repeat (first | apply Kd.Q_alloc | apply Kd.Q_drewN | apply Kd.Q_drew)); exact Kd.Q_mono HO276.out (fun _ hk => hk.2)⟩, ⟨zq BK273⟩, ⟨bq⟩⟩
        case round =>
         clear H'; try clear c3
         try clear c4b0
         try clear c4b1
         try clear c8b0
         try clear c9b0
         try clear c10b0
         try clear b130 b131 b132 d130 d131 d132
         try clear hx272_0
         try clear hx272_1
         try clear hx272_2
         try clear p272
         try clear q272
         obtain ⟨x4_2, x22_2, rfl, HA, HK2, HO_4, HO_20, BK273, HB⟩ := hrel
         cases gk with
         | zero => exact absurd HA.out (by simp [spec_SharedKit.l1])
         | succ k2 =>
          have H := HA.out; clear HA; simp only [spec_SharedKit.l1] at H; by_cases c16 : x22_2 < (t274.length : Int)
          ·rw [if_pos c16] at H; have c16b0 : decide (x22_2 < (t274.length : Int)) = true := decide_eq_true c16; clear c16; by_cases c17 : 0 ≤ x22_2
           ·rw [if_pos c17] at H; have c17b0 : decide (0 ≤ x22_2) = true := decide_eq_true c17; clear c17; by_cases c18 : x22_2 < (t274.length : Int)
            ·rw [if_pos c18] at H; have c18b0 : decide (x22_2 < (t274.length : Int)) = true := decide_eq_true c18; clear c18; by_cases c19 : x22_2 < (x4_2.length : Int)
             ·rw [if_pos c19] at H; have c19b0 : decide (x22_2 < (x4_2.length : Int)) = true := decide_eq_true c19; clear c19; obtain ⟨t279, A20, H⟩ := bindq H; try dsimp only at H
              obtain ⟨y280, hy280⟩ : ∃ y_ : List Int, y_ = (x4_2.set (x22_2 : Int).toNat t279) := ⟨_, rfl⟩; replace H : (spec_SharedKit.l1 k2 y280 l0 (l0.length : Int) x15_1 t274 (t274.length : Int) (wrap64 (x22_2 + 1))) = some (r1, r2) := yq hy280 H; have Ny280 := am hy280; clear hy280; have H' := am H; clear H; have p277 : 0 ≤ (x22_2 : Int) := of_decide_eq_true aq; have q277 : x22_2 < (t274.length : Int) := of_decide_eq_true aq; obtain ⟨ad277, e277, hx277_0⟩ := Kd.at_int (Kd.Q_reads' HO_20.out).2.2 x22_2 p277 q277
              cases e277
              replace p277 := eq_true p277; replace q277 := eq_true q277; obtain ⟨Ao22, co22, eo22⟩ := Kd.R_slice HO_4.out; subst eo22; have p278 : 0 ≤ (x22_2 : Int) := of_decide_eq_true aq; have q278 : x22_2 < (x4_2.length : Int) := of_decide_eq_true aq; obtain ⟨ad278, e278, hx278_0⟩ := Kd.at_int (Kd.R_reads' HO_4.out).2.2 x22_2 p278 q278
              cases e278
              replace p278 := eq_true p278; replace q278 := eq_true q278; go_wp2_with (first | ((with_reducible refine gate_callee (f := 35) rfl ?_); refine goesQ (some 34) Try.func35 #[.int .i64 (rd x4_2 x22_2), .int .i64 (rd t274 x22_2)] ?_; (with_reducible refine (spec_l1Most.calls (rd x4_2 x22_2) (rd t274 x22_2) t279 _ A20.out).mono ?_); rintro e w' ⟨rfl, ⟨nd, rfl⟩⟩; refine ⟨_, rfl, ?_⟩; (try (rw [drewN_self wr]; generalize hq_ : World.drewN wr _ = wr; have n0_ : Aside0 (Kd.Q (Kd.int .i64) 3 wr w.heap.size (fun k_ => some k_ ≠ (.slice (some ad278) x4_2.length co22 : Value).ownBlock) (.slice (some ad277) t274.length co15) t274) := ⟨by rw [← hq_]; exact (by (with_reducible repeat (first | apply Kd.Q_alloc | apply Kd.Q_drewN | apply Kd.Q_drew)); exact HO_20.out)⟩; have n1_ : Aside0 (Kd.R (Kd.int .i64) 3 wr w.heap.size (fun k_ => some k_ ≠ (.slice (some ad277) t274.length co15 : Value).ownBlock) (.slice (some ad278) x4_2.length co22) x4_2) := ⟨by rw [← hq_]; exact (rq HO_4)⟩; have n2_ : Aside0 (wr.heap[gb273]? = some (.cells #[.int .i64 ((rd_T51 l0 x15_1).f0), .int .i64 ((rd_T51 l0 x15_1).f1), .slice A272_2 ((rd_T51 l0 x15_1).f2).length c272_2] 51 (0, 0))) := ⟨by rw [← hq_]; exact (zq BK273)⟩; have n3_ : Aside0 (Below w.heap.size w wr) := ⟨by rw [← hq_]; exact bq⟩; clear HO_20 HO_4 BK273 HB hq_; have HO_20 := n0_; have HO_4 := n1_; have BK273 := n2_; have HB := n3_; clear n0_ n1_ n2_ n3_)); have p21 : 0 ≤ (x22_2 : Int) := of_decide_eq_true aq; have q21 : (x22_2 : Int) < ((x4_2.length : Int) : Int) := of_decide_eq_true aq; obtain ⟨go21, co21, eo21, gb21, gl21, cl21, HG21⟩ := Kd.R_form HO_4.out (by omega); (first | cases eo21 | (injection eo21 with ea_ en_ ec_; (first | subst ea_ | (injection ea_ with ea_; subst ea_)); subst ec_; clear en_)); have GB21 := am gb21; have GG21 := am HG21; clear gb21 gl21 HG21; (first | simp only [add_plain] at hx278_0 | skip); obtain ⟨hx21_0, hf21_0⟩ := Kd.R_celln 0 HO_4.out (x22_2 : Int) p21 q21; replace p21 := eq_true p21; replace q21 := eq_true q21; obtain ⟨hy23_, hz23_⟩ := Kd.R_celln 0 HO_4.out (x22_2 : Int) (of_decide_eq_true aq) (of_decide_eq_true aq); have HP23 := Kd.R_putg HO_4.out (x22_2 : Int) t279) | ((with_reducible refine gate_store (t := 3) (p := 35) rfl ?_); refine store_event (t := 3) (p := 35) (v := ?vo_w24) (w1 := (wr.setCell ⟨go21, (x22_2 : Int).toNat, none⟩ (.int .i64 t279))) ?hg ?ho ?hn ?hr ?_; (case ho => rfl); (case hg => rfl); (case hn => rfl); (case hr => go_simp; try rfl); intro w24 hw; have hg : wr.grownBy w24 (some go21) := (by rw [hw]; exact HP23.2); have hp_ : Kd.R (Kd.int .i64) 3 w24 w.heap.size (fun k_ => some k_ ≠ (.slice (some ad277) t274.length co15 : Value).ownBlock) (.slice (some ⟨go21, 0, none⟩) x4_2.length co22) y280 := (by rw [hw, Ny280.out]; exact HP23.1); clear HP23; replace HO_20 := am (Kd.Q_after (v := (.slice (some ⟨go21, 0, none⟩) x4_2.length co22)) (v1 := (.slice (some ⟨go21, 0, none⟩) x4_2.length co22)) (ok := (fun _ => True)) (by (with_reducible repeat (first | apply Kd.Q_alloc | apply Kd.Q_drewN | apply Kd.Q_drew)); exact Kd.Q_mono HO_20.out (fun _ hk => ⟨trivial, hk⟩)) hg (.inl rfl)); replace BK273 := zg BK273 hg (Kd.R_ne HO_4.out BK273.out (by decide)); replace HO_4 := am (hp_); replace HB := am ((by rw [hw]; exact below_set (HB.out) GB21.out : Below w.heap.size w w24)); clear hg hw hp_))
              go_roundg k2
              case measure => have := HK1.out; have := HK2.out; omega
              case rel => exact ⟨(y280), (wrap64 (x22_2 + 1)), sq, H', ⟨by have := HK1.out; have := HK2.out; omega⟩, ⟨rq HO_4⟩, ⟨by (with_reducible repeat (first | apply Kd.Q_alloc | apply Kd.Q_drewN | apply Kd.Q_drew)); exact Kd.Q_mono HO_20.out (fun _ hk => hk.2)⟩, ⟨zq BK273⟩, ⟨bq⟩⟩
             rw [if_neg c19] at H; exact absurd H (by simp)
            rw [if_neg c18] at H; exact absurd H (by simp)
           rw [if_neg c17] at H; exact absurd H (by simp)
          rw [if_neg c16] at H; have c16b0 : decide (x22_2 < (t274.length : Int)) = false := decide_eq_false c16; clear c16; have H' := am H; clear H
          go_wp2
          go_roundg k2
          case measure => have := HK1.out; have := HK2.out; omega
          case rel => exact ⟨(x4_2), (wrap64 (x15_1 + 1)), sq, H', ⟨by have := HK1.out; have := HK2.out; omega⟩, ⟨rm HO_4⟩, ⟨bq⟩⟩
       rw [if_neg c10] at H; exact absurd H (by simp)
      rw [if_neg c9] at H; exact absurd H (by simp)
     rw [if_neg c8] at H; have c8b0 : decide (x15_1 < (l0.length : Int)) = false := decide_eq_false c8; clear c8; simp only [Option.some.injEq, Prod.mk.injEq] at H; obtain ⟨rfl, rfl⟩ := H
     go_wp2
     go_ret2
     exact ⟨_, eq_, rq HO_4, bq⟩
  rw [if_neg c4] at H; exact absurd H (by simp)
 replace c3 := Bool.eq_false_iff.mpr c3; subst c3; rw [if_neg (show ¬ (false = true) by decide)] at H; try dsimp only at H
 simp only [Option.some.injEq, Prod.mk.injEq] at H; obtain ⟨rfl, rfl⟩ := H
 go_enter Try.func16, Try.ntmps16
 go_wp2_with (first | ((with_reducible refine gate_callee (f := 28) rfl ?_); refine goesQ (some 10) Try.func28 #[.slice A0 l0.length c0] ?_; (with_reducible refine (spec_kiBoards.calls k _ _ l0 false _ ?s1 ?s2 A2.out).mono ?_); (case s1 => exact cq HR0.out); (case s2 => exact HC0.out); rintro e w25 ⟨rfl, hb⟩; refine ⟨_, rfl, ?_⟩; have n0_ := sb hb; clear HB; have HB := n0_; clear n0_; (try clear hb)))
 go_ret2
 exact ⟨_, eq_, by first | exact Kd.R_nil _ _ _ _ _ | exact Kd.N_nil _ _ _ _ _ | exact Kd.V_nil _ _ _ _ _ | exact Kd.Q_nil _ _ _ _ _ | exact Kd.S_nil _ _ _ _ _, bq⟩


def impl_IsCell.f (a0_0 : Int) (a0_1 : Int) : Option (Bool) := if a0_0 < 0 then (some false) else (if a0_0 > 7 then (some false) else (if a0_1 < 0 then (some false) else (if a0_1 > 1 then (some false) else (if a0_1 = 0 then (some true) else (if a0_0 = 3 then (some true) else (some (a0_0 == 6)))))))
theorem impl_IsCell.calls (a0_0 : Int) (a0_1 : Int) (r : Bool) (w : World) (h : impl_IsCell.f a0_0 a0_1 = some r) :
  Calls Try.prog 64 #[.agg #[.int .i64 a0_0, .int .i64 a0_1]] w fun e w' => e = .returned (.bool r) ∧ Below w.heap.size w w' := by
 have hu71 := Try.underlying71; have HB := am (Below.refl w.heap.size w); have H := h; clear h
 unfold impl_IsCell.f at H
 by_cases c2 : a0_0 < 0
 ·rw [if_pos c2] at H; have c2b0 : decide (a0_0 < 0) = true := decide_eq_true c2; clear c2; obtain rfl := Option.some.inj H
  go_enter Try.func64, Try.ntmps64
  go_wp2_with (first | ((with_reducible refine gate_dst (N := 1) rfl ?_); refine box_event ?hg (N := 1) ?hd (cs := #[.int .i64 a0_0, .int .i64 a0_1]) (t := 71) ?hr ?_; (case hd | hg => rfl); (case hr => go_simp; try rfl); intro gb172 hg w3 hbox hb; have BK172 := am (hbox); have GW172 := am (gq hg); have GE172 := am (gq hg); replace HB := sb hb; clear hb hbox hg; have ⟨b40, b41, d40, d41⟩ := bc2 BK172))
  go_ret
  exact ⟨eq_, bq⟩
 rw [if_neg c2] at H; have c2b0 : decide (a0_0 < 0) = false := decide_eq_false c2; clear c2; by_cases c5 : a0_0 > 7
 ·rw [if_pos c5] at H; have c5b0 : decide (7 < a0_0) = true := decide_eq_true c5; clear c5; obtain rfl := Option.some.inj H
  go_enter Try.func64, Try.ntmps64
  go_wp2_with (first | ((with_reducible refine gate_dst (N := 1) rfl ?_); refine box_event ?hg (N := 1) ?hd (cs := #[.int .i64 a0_0, .int .i64 a0_1]) (t := 71) ?hr ?_; (case hd | hg => rfl); (case hr => go_simp; try rfl); intro gb172 hg w6 hbox hb; have BK172 := am (hbox); have GW172 := am (gq hg); have GE172 := am (gq hg); replace HB := sb hb; clear hb hbox hg; have ⟨b70, b71, d70, d71⟩ := bc2 BK172))
  go_ret
  exact ⟨eq_, bq⟩
 rw [if_neg c5] at H; have c5b0 : decide (7 < a0_0) = false := decide_eq_false c5; clear c5; by_cases c8 : a0_1 < 0
 ·rw [if_pos c8] at H; have c8b0 : decide (a0_1 < 0) = true := decide_eq_true c8; clear c8; obtain rfl := Option.some.inj H
  go_enter Try.func64, Try.ntmps64
  go_wp2_with (first | ((with_reducible refine gate_dst (N := 1) rfl ?_); refine box_event ?hg (N := 1) ?hd (cs := #[.int .i64 a0_0, .int .i64 a0_1]) (t := 71) ?hr ?_; (case hd | hg => rfl); (case hr => go_simp; try rfl); intro gb172 hg w9 hbox hb; have BK172 := am (hbox); have GW172 := am (gq hg); have GE172 := am (gq hg); replace HB := sb hb; clear hb hbox hg; have ⟨b100, b101, d100, d101⟩ := bc2 BK172))
  go_ret
  exact ⟨eq_, bq⟩
 rw [if_neg c8] at H; have c8b0 : decide (a0_1 < 0) = false := decide_eq_false c8; clear c8; by_cases c11 : a0_1 > 1
 ·rw [if_pos c11] at H; have c11b0 : decide (1 < a0_1) = true := decide_eq_true c11; clear c11; obtain rfl := Option.some.inj H
  go_enter Try.func64, Try.ntmps64
  go_wp2_with (first | ((with_reducible refine gate_dst (N := 1) rfl ?_); refine box_event ?hg (N := 1) ?hd (cs := #[.int .i64 a0_0, .int .i64 a0_1]) (t := 71) ?hr ?_; (case hd | hg => rfl); (case hr => go_simp; try rfl); intro gb172 hg w12 hbox hb; have BK172 := am (hbox); have GW172 := am (gq hg); have GE172 := am (gq hg); replace HB := sb hb; clear hb hbox hg; have ⟨b130, b131, d130, d131⟩ := bc2 BK172))
  go_ret
  exact ⟨eq_, bq⟩
 rw [if_neg c11] at H; have c11b0 : decide (1 < a0_1) = false := decide_eq_false c11; clear c11; by_cases c14 : a0_1 = 0
 ·rw [if_pos c14] at H; have c14b0 : (a0_1 == 0) = true := beq_iff_eq.mpr c14; have c14b1 : (a0_1 != 0) = false := bne_eq_false_iff_eq.mpr c14; clear c14; obtain rfl := Option.some.inj H
  go_enter Try.func64, Try.ntmps64
  go_wp2_with (first | ((with_reducible refine gate_dst (N := 1) rfl ?_); refine box_event ?hg (N := 1) ?hd (cs := #[.int .i64 a0_0, .int .i64 a0_1]) (t := 71) ?hr ?_; (case hd | hg => rfl); (case hr => go_simp; try rfl); intro gb172 hg w15 hbox hb; have BK172 := am (hbox); have GW172 := am (gq hg); have GE172 := am (gq hg); replace HB := sb hb; clear hb hbox hg; have ⟨b160, b161, d160, d161⟩ := bc2 BK172))
  go_ret
  exact ⟨eq_, bq⟩
 rw [if_neg c14] at H; have c14b0 : (a0_1 == 0) = false := beq_eq_false_iff_ne.mpr c14; have c14b1 : (a0_1 != 0) = true := bne_iff_ne.mpr c14; by_cases c17 : a0_0 = 3
 ·rw [if_pos c17] at H; have c17b0 : (a0_0 == 3) = true := beq_iff_eq.mpr c17; have c17b1 : (a0_0 != 3) = false := bne_eq_false_iff_eq.mpr c17; clear c17; obtain rfl := Option.some.inj H
  go_enter Try.func64, Try.ntmps64
  go_wp2_with (first | ((with_reducible refine gate_dst (N := 1) rfl ?_); refine box_event ?hg (N := 1) ?hd (cs := #[.int .i64 a0_0, .int .i64 a0_1]) (t := 71) ?hr ?_; (case hd | hg => rfl); (case hr => go_simp; try rfl); intro gb172 hg w18 hbox hb; have BK172 := am (hbox); have GW172 := am (gq hg); have GE172 := am (gq hg); replace HB := sb hb; clear hb hbox hg; have ⟨b190, b191, d190, d191⟩ := bc2 BK172))
  go_ret
  exact ⟨eq_, bq⟩
 rw [if_neg c17] at H; have c17b0 : (a0_0 == 3) = false := beq_eq_false_iff_ne.mpr c17; have c17b1 : (a0_0 != 3) = true := bne_iff_ne.mpr c17; obtain rfl := Option.some.inj H
 go_enter Try.func64, Try.ntmps64
 go_wp2_with (first | ((with_reducible refine gate_dst (N := 1) rfl ?_); refine box_event ?hg (N := 1) ?hd (cs := #[.int .i64 a0_0, .int .i64 a0_1]) (t := 71) ?hr ?_; (case hd | hg => rfl); (case hr => go_simp; try rfl); intro gb172 hg w20 hbox hb; have BK172 := am (hbox); have GW172 := am (gq hg); have GE172 := am (gq hg); replace HB := sb hb; clear hb hbox hg; have ⟨b210, b211, d210, d211⟩ := bc2 BK172))
 go_ret
 exact ⟨eq_, bq⟩



def impl_validCells.l0 : Nat → List (S71) → Int → Int → Option (Bool)
 | 0, _, _, _ => none
 | k + 1, x8, x9, x10 => if x10 < x9 then (if 0 ≤ x10 then (if x10 < (x8.length : Int) then ((impl_IsCell.f ((rd_T71 x8 x10).f0) ((rd_T71 x8 x10).f1)).bind fun t175 => (if t175 = true then (impl_validCells.l0 k x8 x9 (wrap64 (x10 + 1))) else (some false))) else (none)) else (none)) else (some true)
def impl_validCells.f (k : Nat) (l0 : List (S71)) : Option (Bool) := if (l0.length : Int) > 90 then (some false) else (impl_validCells.l0 k l0 (l0.length : Int) 0)
theorem impl_validCells.calls (k : Nat) (A0 : Option Addr) (c0 : Nat) (l0 : List (S71)) (r : Bool) (w : World) (hr0 : Kd.C k71 w A0 l0.length l0) (hc0 : l0.length ≤ c0) (h : impl_validCells.f k l0 = some r) :
  Calls Try.prog 61 #[.slice A0 l0.length c0] w fun e w' => e = .returned (.bool r) ∧ Below w.heap.size w w' := by
 have hu71 := Try.underlying71; have HR0 := am hr0; have HC0 := am hc0; clear hr0 hc0; have HB := am (Below.refl w.heap.size w); have H := h; clear h
 unfold impl_validCells.f at H
 by_cases c2 : (l0.length : Int) > 90
 ·rw [if_pos c2] at H; have c2b0 : decide (90 < (l0.length : Int)) = true := decide_eq_true c2; have c2b1 : decide (90 < l0.length) = true := decide_eq_true (by omega); clear c2; obtain rfl := Option.some.inj H
  go_enter Try.func61, Try.ntmps61
  go_wp2
  go_ret
  exact ⟨eq_, bq⟩
 rw [if_neg c2] at H; have c2b0 : decide (90 < (l0.length : Int)) = false := decide_eq_false c2; have c2b1 : decide (90 < l0.length) = false := decide_eq_false (by omega); clear c2; have H' := am H; clear H
 go_enter Try.func61, Try.ntmps61
 go_wp2
 go_loopg [10] k (fun kq v10 w' => ∃ (x10_1 : Int), v10 = .int .i64 x10_1 ∧ Aside0 (impl_validCells.l0 kq l0 (l0.length : Int) x10_1 = some r) ∧ Aside0 (kq ≤ k) ∧ Aside0 (Below w.heap.size w w'))
 case atStart => exact ⟨(0), sq, H', ⟨Nat.le_refl _⟩, ⟨bq⟩⟩
 case round =>
  clear H'; try clear c2b0
  try clear c2b1
  obtain ⟨x10_1, rfl, HA, HK1, HB⟩ := hrel
  cases gk with
  | zero => exact absurd HA.out (by simp [impl_validCells.l0])
  | succ k1 =>
   have H := HA.out; clear HA; simp only [impl_validCells.l0] at H; by_cases c3 : x10_1 < (l0.length : Int)
   ·rw [if_pos c3] at H; have c3b0 : decide (x10_1 < (l0.length : Int)) = true := decide_eq_true c3; clear c3; by_cases c4 : 0 ≤ x10_1
    ·rw [if_pos c4] at H; have c4b0 : decide (0 ≤ x10_1) = true := decide_eq_true c4; clear c4; by_cases c5 : x10_1 < (l0.length : Int)
     ·rw [if_pos c5] at H; have c5b0 : decide (x10_1 < (l0.length : Int)) = true := decide_eq_true c5; clear c5; obtain ⟨t175, A6, H⟩ := bindq H; try dsimp only at H
      by_cases c7 : t175 = true
      ·subst c7; rw [if_pos rfl] at H; try dsimp only at H
       have H' := am H; clear H; have p173 : 0 ≤ (x10_1 : Int) := of_decide_eq_true aq; have q173 : x10_1 < (l0.length : Int) := of_decide_eq_true aq; obtain ⟨ad173, e173, hx173_0, hx173_1⟩ := at_T71 HR0.out x10_1 p173 q173
       cases e173
       replace hx173_0 := (HB.out.cell (World.block_lt_of_cell? w _ hx173_0)).trans hx173_0; replace hx173_1 := (HB.out.cell (World.block_lt_of_cell? w _ hx173_1)).trans hx173_1; replace p173 := eq_true p173; replace q173 := eq_true q173; go_wp2_with (first | ((with_reducible refine gate_dst (N := 4) rfl ?_); refine box_event ?hg (N := 4) ?hd (cs := #[.int .i64 0, .int .i64 0]) (t := 71) ?hr ?_; (case hd | hg => rfl); (case hr => go_simp; try rfl); intro gb174 hg w8 hbox hb; have BK174 := am (hbox); have GW174 := am (gq hg); have GE174 := am (gq hg); replace HB := sb hb; clear hb hbox hg; have ⟨b90, b91, d90, d91⟩ := bc2 BK174) | ((with_reducible refine gate_callee (f := 64) rfl ?_); refine goesQ (some 15) Try.func64 #[.agg #[.int .i64 ((rd_T71 l0 x10_1).f0), .int .i64 ((rd_T71 l0 x10_1).f1)]] ?_; (with_reducible refine (impl_IsCell.calls ((rd_T71 l0 x10_1).f0) ((rd_T71 l0 x10_1).f1) true _ A6.out).mono ?_); rintro e w10 ⟨rfl, hb⟩; refine ⟨_, rfl, ?_⟩; replace BK174 := zw (.cells #[.int .i64 ((rd_T71 l0 x10_1).f0), .int .i64 ((rd_T71 l0 x10_1).f1)] 71 (0, 0)) BK174 hb; replace HB := sb hb; (try clear hb)))
       go_roundg k1
       case measure => have := HK1.out; omega
       case rel => exact ⟨(wrap64 (x10_1 + 1)), sq, H', ⟨by have := HK1.out; omega⟩, ⟨bq⟩⟩
      replace c7 := Bool.eq_false_iff.mpr c7; subst c7; rw [if_neg (show ¬ (false = true) by decide)] at H; try dsimp only at H
      obtain rfl := Option.some.inj H; have p173 : 0 ≤ (x10_1 : Int) := of_decide_eq_true aq; have q173 : x10_1 < (l0.length : Int) := of_decide_eq_true aq; obtain ⟨ad173, e173, hx173_0, hx173_1⟩ := at_T71 HR0.out x10_1 p173 q173
      cases e173
      replace hx173_0 := (HB.out.cell (World.block_lt_of_cell? w _ hx173_0)).trans hx173_0; replace hx173_1 := (HB.out.cell (World.block_lt_of_cell? w _ hx173_1)).trans hx173_1; replace p173 := eq_true p173; replace q173 := eq_true q173; go_wp2_with (first | ((with_reducible refine gate_dst (N := 4) rfl ?_); refine box_event ?hg (N := 4) ?hd (cs := #[.int .i64 0, .int .i64 0]) (t := 71) ?hr ?_; (case hd | hg => rfl); (case hr => go_simp; try rfl); intro gb174 hg w11 hbox hb; have BK174 := am (hbox); have GW174 := am (gq hg); have GE174 := am (gq hg); replace HB := sb hb; clear hb hbox hg; have ⟨b120, b121, d120, d121⟩ := bc2 BK174) | ((with_reducible refine gate_callee (f := 64) rfl ?_); refine goesQ (some 15) Try.func64 #[.agg #[.int .i64 ((rd_T71 l0 x10_1).f0), .int .i64 ((rd_T71 l0 x10_1).f1)]] ?_; (with_reducible refine (impl_IsCell.calls ((rd_T71 l0 x10_1).f0) ((rd_T71 l0 x10_1).f1) false _ A6.out).mono ?_); rintro e w13 ⟨rfl, hb⟩; refine ⟨_, rfl, ?_⟩; replace BK174 := zw (.cells #[.int .i64 ((rd_T71 l0 x10_1).f0), .int .i64 ((rd_T71 l0 x10_1).f1)] 71 (0, 0)) BK174 hb; replace HB := sb hb; (try clear hb)))
      go_ret
      exact ⟨eq_, bq⟩
     rw [if_neg c5] at H; exact absurd H (by simp)
    rw [if_neg c4] at H; exact absurd H (by simp)
   rw [if_neg c3] at H; have c3b0 : decide (x10_1 < (l0.length : Int)) = false := decide_eq_false c3; clear c3; obtain rfl := Option.some.inj H
   go_wp2
   go_ret
   exact ⟨eq_, bq⟩


def impl_IsBoard.f (k : Nat) (a0_0 : Int) (a0_1 : Int) (l0_2 : List (S71)) : Option (Bool) := if a0_0 ≥ 1 then (if a0_0 ≤ 10 then (if a0_1 ≥ 1 then (if a0_1 ≤ 9 then (if (l0_2.length : Int) = (wrap64 (a0_0 * a0_1)) then ((impl_validCells.f k l0_2).bind fun t177 => (some t177)) else (some false)) else (some false)) else (some false)) else (some false)) else (some false)
theorem impl_IsBoard.calls (k : Nat) (a0_0 : Int) (a0_1 : Int) (A0_2 : Option Addr) (c0_2 : Nat) (l0_2 : List (S71)) (r : Bool) (w : World) (hr0_2 : Kd.C k71 w A0_2 l0_2.length l0_2) (hc0_2 : l0_2.length ≤ c0_2) (h : impl_IsBoard.f k a0_0 a0_1 l0_2 = some r) :
  Calls Try.prog 51 #[.agg #[.int .i64 a0_0, .int .i64 a0_1, .slice A0_2 l0_2.length c0_2]] w fun e w' => e = .returned (.bool r) ∧ Below w.heap.size w w' := by
 have hu51 := Try.underlying51; have HR0_2 := am hr0_2; have HC0_2 := am hc0_2; clear hr0_2 hc0_2; have HB := am (Below.refl w.heap.size w); have H := h; clear h
 unfold impl_IsBoard.f at H
 by_cases c2 : a0_0 ≥ 1
 ·rw [if_pos c2] at H; have c2b0 : decide (1 ≤ a0_0) = true := decide_eq_true c2; clear c2; by_cases c3 : a0_0 ≤ 10
  ·rw [if_pos c3] at H; have c3b0 : decide (a0_0 ≤ 10) = true := decide_eq_true c3; clear c3; by_cases c4 : a0_1 ≥ 1
   ·rw [if_pos c4] at H; have c4b0 : decide (1 ≤ a0_1) = true := decide_eq_true c4; clear c4; by_cases c5 : a0_1 ≤ 9
    ·rw [if_pos c5] at H; have c5b0 : decide (a0_1 ≤ 9) = true := decide_eq_true c5; clear c5; by_cases c6 : (l0_2.length : Int) = (wrap64 (a0_0 * a0_1))
     ·rw [if_pos c6] at H; have c6b0 : ((l0_2.length : Int) == (wrap64 (a0_0 * a0_1))) = true := beq_iff_eq.mpr c6; have c6b1 : ((l0_2.length : Int) != (wrap64 (a0_0 * a0_1))) = false := bne_eq_false_iff_eq.mpr c6; clear c6; obtain ⟨t177, A7, H⟩ := bindq H; try dsimp only at H
      obtain rfl := Option.some.inj H
      go_enter Try.func51, Try.ntmps51
      go_wp2_with (first | ((with_reducible refine gate_dst (N := 1) rfl ?_); (try (refine gate_guard (by rfl) ?_; dsimp only)); refine box_event ?hg (N := 1) ?hd (cs := #[.int .i64 a0_0, .int .i64 a0_1, .slice A0_2 l0_2.length c0_2]) (t := 51) ?hr ?_; (case hd | hg => rfl); (case hr => go_simp; try rfl); intro gb176 hg w8 hbox hb; have BK176 := am (hbox); have GW176 := am (gq hg); have GE176 := am (gq hg); replace HB := sb hb; clear hb hbox hg; have ⟨b90, b91, b92, d90, d91, d92⟩ := bc3 BK176) | (go_at_call 61; (with_reducible refine (impl_validCells.calls k _ _ l0_2 t177 _ ?s1 ?s2 A7.out).mono ?_); (case s1 => exact cq (Kd.C_below HR0_2.out HB.out)); (case s2 => exact HC0_2.out); rintro e w10 ⟨rfl, hb⟩; replace BK176 := zb BK176 hb; replace HB := sb hb; (try clear hb)))
      go_ret
      exact ⟨eq_, bq⟩
     rw [if_neg c6] at H; have c6b0 : ((l0_2.length : Int) == (wrap64 (a0_0 * a0_1))) = false := beq_eq_false_iff_ne.mpr c6; have c6b1 : ((l0_2.length : Int) != (wrap64 (a0_0 * a0_1))) = true := bne_iff_ne.mpr c6; obtain rfl := Option.some.inj H
     go_enter Try.func51, Try.ntmps51
     go_wp2_with (first | ((with_reducible refine gate_dst (N := 1) rfl ?_); (try (refine gate_guard (by rfl) ?_; dsimp only)); refine box_event ?hg (N := 1) ?hd (cs := #[.int .i64 a0_0, .int .i64 a0_1, .slice A0_2 l0_2.length c0_2]) (t := 51) ?hr ?_; (case hd | hg => rfl); (case hr => go_simp; try rfl); intro gb176 hg w11 hbox hb; have BK176 := am (hbox); have GW176 := am (gq hg); have GE176 := am (gq hg); replace HB := sb hb; clear hb hbox hg; have ⟨b120, b121, b122, d120, d121, d122⟩ := bc3 BK176))
     go_ret
     exact ⟨eq_, bq⟩
    rw [if_neg c5] at H; have c5b0 : decide (a0_1 ≤ 9) = false := decide_eq_false c5; clear c5; obtain rfl := Option.some.inj H
    go_enter Try.func51, Try.ntmps51
    go_wp2_with (first | ((with_reducible refine gate_dst (N := 1) rfl ?_); (try (refine gate_guard (by rfl) ?_; dsimp only)); refine box_event ?hg (N := 1) ?hd (cs := #[.int .i64 a0_0, .int .i64 a0_1, .slice A0_2 l0_2.length c0_2]) (t := 51) ?hr ?_; (case hd | hg => rfl); (case hr => go_simp; try rfl); intro gb176 hg w13 hbox hb; have BK176 := am (hbox); have GW176 := am (gq hg); have GE176 := am (gq hg); replace HB := sb hb; clear hb hbox hg; have ⟨b140, b141, b142, d140, d141, d142⟩ := bc3 BK176))
    go_ret
    exact ⟨eq_, bq⟩
   rw [if_neg c4] at H; have c4b0 : decide (1 ≤ a0_1) = false := decide_eq_false c4; clear c4; obtain rfl := Option.some.inj H
   go_enter Try.func51, Try.ntmps51
   go_wp2_with (first | ((with_reducible refine gate_dst (N := 1) rfl ?_); (try (refine gate_guard (by rfl) ?_; dsimp only)); refine box_event ?hg (N := 1) ?hd (cs := #[.int .i64 a0_0, .int .i64 a0_1, .slice A0_2 l0_2.length c0_2]) (t := 51) ?hr ?_; (case hd | hg => rfl); (case hr => go_simp; try rfl); intro gb176 hg w15 hbox hb; have BK176 := am (hbox); have GW176 := am (gq hg); have GE176 := am (gq hg); replace HB := sb hb; clear hb hbox hg; have ⟨b160, b161, b162, d160, d161, d162⟩ := bc3 BK176))
   go_ret
   exact ⟨eq_, bq⟩
  rw [if_neg c3] at H; have c3b0 : decide (a0_0 ≤ 10) = false := decide_eq_false c3; clear c3; obtain rfl := Option.some.inj H
  go_enter Try.func51, Try.ntmps51
  go_wp2_with (first | ((with_reducible refine gate_dst (N := 1) rfl ?_); (try (refine gate_guard (by rfl) ?_; dsimp only)); refine box_event ?hg (N := 1) ?hd (cs := #[.int .i64 a0_0, .int .i64 a0_1, .slice A0_2 l0_2.length c0_2]) (t := 51) ?hr ?_; (case hd | hg => rfl); (case hr => go_simp; try rfl); intro gb176 hg w17 hbox hb; have BK176 := am (hbox); have GW176 := am (gq hg); have GE176 := am (gq hg); replace HB := sb hb; clear hb hbox hg; have ⟨b180, b181, b182, d180, d181, d182⟩ := bc3 BK176))
  go_ret
  exact ⟨eq_, bq⟩
 rw [if_neg c2] at H; have c2b0 : decide (1 ≤ a0_0) = false := decide_eq_false c2; clear c2; obtain rfl := Option.some.inj H
 go_enter Try.func51, Try.ntmps51
 go_wp2_with (first | ((with_reducible refine gate_dst (N := 1) rfl ?_); (try (refine gate_guard (by rfl) ?_; dsimp only)); refine box_event ?hg (N := 1) ?hd (cs := #[.int .i64 a0_0, .int .i64 a0_1, .slice A0_2 l0_2.length c0_2]) (t := 51) ?hr ?_; (case hd | hg => rfl); (case hr => go_simp; try rfl); intro gb176 hg w19 hbox hb; have BK176 := am (hbox); have GW176 := am (gq hg); have GE176 := am (gq hg); replace HB := sb hb; clear hb hbox hg; have ⟨b200, b201, b202, d200, d201, d202⟩ := bc3 BK176))
 go_ret
 exact ⟨eq_, bq⟩


mutual
def impl_areBoards.j0 : Nat → List (S51) → Bool → Option (Bool)
 | 0, _, _ => none
 | k + 1, x0, x12 => if x12 = true then (some false) else (impl_areBoards.l0 k x0 (x0.length : Int) 0)
def impl_areBoards.l0 : Nat → List (S51) → Int → Int → Option (Bool)
 | 0, _, _, _ => none
 | k + 1, x13, x14, x15 => if x15 < x14 then (if 0 ≤ x15 then (if x15 < (x13.length : Int) then ((impl_IsBoard.f k ((rd_T51 x13 x15).f0) ((rd_T51 x13 x15).f1) ((rd_T51 x13 x15).f2)).bind fun t180 => (if t180 = true then (impl_areBoards.l0 k x13 x14 (wrap64 (x15 + 1))) else (some false))) else (none)) else (none)) else (some true)
end
def impl_areBoards.f (k : Nat) (l0 : List (S51)) : Option (Bool) := if (l0.length : Int) < 1 then (impl_areBoards.j0 k l0 true) else (impl_areBoards.j0 k l0 (decide ((l0.length : Int) > 6)))
theorem impl_areBoards.calls (k : Nat) (A0 : Option Addr) (c0 : Nat) (l0 : List (S51)) (r : Bool) (w : World) (hr0 : Kd.C k51 w A0 l0.length l0) (hc0 : l0.length ≤ c0) (h : impl_areBoards.f k l0 = some r) :
  Calls Try.prog 31 #[.slice A0 l0.length c0] w fun e w' => e = .returned (.bool r) ∧ Below w.heap.size w w' := by
 have hu51 := Try.underlying51; have HR0 := am hr0; have HC0 := am hc0; clear hr0 hc0; have HB := am (Below.refl w.heap.size w); have H := h; clear h
 unfold impl_areBoards.f at H
 have HC2 := am H; clear H
 go_enter Try.func31, Try.ntmps31
 go_upto_region 1 with (fail)
 go_cut [12] (fun v12 wc => ∃ (kq : Nat) (x12_1 : Bool), v12 = .bool x12_1 ∧ Aside0 (impl_areBoards.j0 kq l0 x12_1 = some r) ∧ Aside0 (kq ≤ k) ∧ Aside0 (Below w.heap.size w wc))
 case first =>
  have H := HC2.out; clear HC2; by_cases c3 : (l0.length : Int) < 1
  ·rw [if_pos c3] at H; have c3b0 : decide ((l0.length : Int) < 1) = true := decide_eq_true c3; have c3b1 : decide (l0.length < 1) = true := decide_eq_true (by omega); clear c3; (first | rw [c3b0] | (simp only [i64_w, i32_w]; rw [c3b0]) | skip); have H' := am H; clear H
   go_wp2
   go_meet
   case rel => exact ⟨_, (true), sq, H', ⟨by first | omega | exact Nat.le_refl _⟩, ⟨bq⟩⟩
  rw [if_neg c3] at H; have c3b0 : decide ((l0.length : Int) < 1) = false := decide_eq_false c3; have c3b1 : decide (l0.length < 1) = false := decide_eq_false (by omega); clear c3; (first | rw [c3b0] | (simp only [i64_w, i32_w]; rw [c3b0]) | skip); have H' := am H; clear H
  go_wp2
  go_meet
  case rel => exact ⟨_, (decide ((l0.length : Int) > 6)), sq, H', ⟨by first | omega | exact Nat.le_refl _⟩, ⟨bq⟩⟩
 case rest =>
  clear HC2; try clear c3b0
  try clear c3b1
  obtain ⟨kq, x12_1, rfl, HA, HJ1, HB⟩ := hcut
  cases kq with
  | zero => exact absurd HA.out (by simp [impl_areBoards.j0])
  | succ kj1 =>
   have H := HA.out; clear HA; simp only [impl_areBoards.j0] at H; by_cases c4 : x12_1 = true
   ·subst c4; rw [if_pos rfl] at H; try dsimp only at H
    obtain rfl := Option.some.inj H
    go_wp2
    go_ret
    exact ⟨eq_, bq⟩
   replace c4 := Bool.eq_false_iff.mpr c4; subst c4; rw [if_neg (show ¬ (false = true) by decide)] at H; try dsimp only at H
   have H' := am H; clear H
   go_wp2
   go_loopg [15] kj1 (fun kq v15 w' => ∃ (x15_2 : Int), v15 = .int .i64 x15_2 ∧ Aside0 (impl_areBoards.l0 kq l0 (l0.length : Int) x15_2 = some r) ∧ Aside0 (kq ≤ kj1) ∧ Aside0 (Below w.heap.size w w'))
   case atStart => exact ⟨(0), sq, H', ⟨Nat.le_refl _⟩, ⟨bq⟩⟩
   case round =>
    clear H'; try clear c3b0
    try clear c3b1
    try clear c4
    obtain ⟨x15_2, rfl, HA, HK2, HB⟩ := hrel
    cases gk with
    | zero => exact absurd HA.out (by simp [impl_areBoards.l0])
    | succ k2 =>
     have H := HA.out; clear HA; simp only [impl_areBoards.l0] at H; by_cases c5 : x15_2 < (l0.length : Int)
     ·rw [if_pos c5] at H; have c5b0 : decide (x15_2 < (l0.length : Int)) = true := decide_eq_true c5; clear c5; by_cases c6 : 0 ≤ x15_2
      ·rw [if_pos c6] at H; have c6b0 : decide (0 ≤ x15_2) = true := decide_eq_true c6; clear c6; by_cases c7 : x15_2 < (l0.length : Int)
       ·rw [if_pos c7] at H; have c7b0 : decide (x15_2 < (l0.length : Int)) = true := decide_eq_true c7; clear c7; obtain ⟨t180, A8, H⟩ := bindq H; try dsimp only at H
        by_cases c9 : t180 = true
        ·subst c9; rw [if_pos rfl] at H; try dsimp only at H
         have H' := am H; clear H; have p178 : 0 ≤ (x15_2 : Int) := of_decide_eq_true aq; have q178 : x15_2 < (l0.length : Int) := of_decide_eq_true aq; obtain ⟨ad178, A178_2, c178_2, e178, hx178_0, hx178_1, hx178_2, hl178_2, hi178_2⟩ := at_T51 HR0.out x15_2 p178 q178
         cases e178
         replace hx178_0 := (HB.out.cell (World.block_lt_of_cell? w _ hx178_0)).trans hx178_0; replace hx178_1 := (HB.out.cell (World.block_lt_of_cell? w _ hx178_1)).trans hx178_1; replace hx178_2 := (HB.out.cell (World.block_lt_of_cell? w _ hx178_2)).trans hx178_2; have HR178_2 := am hi178_2; have HC178_2 := am hl178_2; clear hi178_2 hl178_2; replace p178 := eq_true p178; replace q178 := eq_true q178; go_wp2_with (first | ((with_reducible refine gate_dst (N := 4) rfl ?_); (try (refine gate_guard (by rfl) ?_; dsimp only)); refine box_event ?hg (N := 4) ?hd (cs := #[.int .i64 0, .int .i64 0, .slice none 0 0]) (t := 51) ?hr ?_; (case hd | hg => rfl); (case hr => go_simp; try rfl); intro gb179 hg w10 hbox hb; have BK179 := am (hbox); have GW179 := am (gq hg); have GE179 := am (gq hg); replace HB := sb hb; clear hb hbox hg; have ⟨b110, b111, b112, d110, d111, d112⟩ := bc3 BK179) | ((with_reducible refine gate_callee (f := 51) rfl ?_); refine goesQ (some 20) Try.func51 #[.agg #[.int .i64 ((rd_T51 l0 x15_2).f0), .int .i64 ((rd_T51 l0 x15_2).f1), .slice A178_2 ((rd_T51 l0 x15_2).f2).length c178_2]] ?_; (with_reducible refine (impl_IsBoard.calls k2 ((rd_T51 l0 x15_2).f0) ((rd_T51 l0 x15_2).f1) _ _ ((rd_T51 l0 x15_2).f2) true _ ?s1 ?s2 A8.out).mono ?_); (case s1 => exact Kd.C_below HR178_2.out bq); (case s2 => exact HC178_2.out); rintro e w12 ⟨rfl, hb⟩; refine ⟨_, rfl, ?_⟩; replace BK179 := zw (.cells #[.int .i64 ((rd_T51 l0 x15_2).f0), .int .i64 ((rd_T51 l0 x15_2).f1), .slice A178_2 ((rd_T51 l0 x15_2).f2).length c178_2] 51 (0, 0)) BK179 hb; replace HB := sb hb; (try clear hb)))
         go_roundg k2
         case measure => have := HJ1.out; have := HK2.out; omega
         case rel => exact ⟨(wrap64 (x15_2 + 1)), sq, H', ⟨by have := HJ1.out; have := HK2.out; omega⟩, ⟨bq⟩⟩
        replace c9 := Bool.eq_false_iff.mpr c9; subst c9; rw [if_neg (show ¬ (false = true) by decide)] at H; try dsimp only at H
        obtain rfl := Option.some.inj H; have p178 : 0 ≤ (x15_2 : Int) := of_decide_eq_true aq; have q178 : x15_2 < (l0.length : Int) := of_decide_eq_true aq; obtain ⟨ad178, A178_2, c178_2, e178, hx178_0, hx178_1, hx178_2, hl178_2, hi178_2⟩ := at_T51 HR0.out x15_2 p178 q178
        cases e178
        replace hx178_0 := (HB.out.cell (World.block_lt_of_cell? w _ hx178_0)).trans hx178_0; replace hx178_1 := (HB.out.cell (World.block_lt_of_cell? w _ hx178_1)).trans hx178_1; replace hx178_2 := (HB.out.cell (World.block_lt_of_cell? w _ hx178_2)).trans hx178_2; have HR178_2 := am hi178_2; have HC178_2 := am hl178_2; clear hi178_2 hl178_2; replace p178 := eq_true p178; replace q178 := eq_true q178; go_wp2_with (first | ((with_reducible refine gate_dst (N := 4) rfl ?_); (try (refine gate_guard (by rfl) ?_; dsimp only)); refine box_event ?hg (N := 4) ?hd (cs := #[.int .i64 0, .int .i64 0, .slice none 0 0]) (t := 51) ?hr ?_; (case hd | hg => rfl); (case hr => go_simp; try rfl); intro gb179 hg w13 hbox hb; have BK179 := am (hbox); have GW179 := am (gq hg); have GE179 := am (gq hg); replace HB := sb hb; clear hb hbox hg; have ⟨b140, b141, b142, d140, d141, d142⟩ := bc3 BK179) | ((with_reducible refine gate_callee (f := 51) rfl ?_); refine goesQ (some 20) Try.func51 #[.agg #[.int .i64 ((rd_T51 l0 x15_2).f0), .int .i64 ((rd_T51 l0 x15_2).f1), .slice A178_2 ((rd_T51 l0 x15_2).f2).length c178_2]] ?_; (with_reducible refine (impl_IsBoard.calls k2 ((rd_T51 l0 x15_2).f0) ((rd_T51 l0 x15_2).f1) _ _ ((rd_T51 l0 x15_2).f2) false _ ?s1 ?s2 A8.out).mono ?_); (case s1 => exact Kd.C_below HR178_2.out bq); (case s2 => exact HC178_2.out); rintro e w15 ⟨rfl, hb⟩; refine ⟨_, rfl, ?_⟩; replace BK179 := zw (.cells #[.int .i64 ((rd_T51 l0 x15_2).f0), .int .i64 ((rd_T51 l0 x15_2).f1), .slice A178_2 ((rd_T51 l0 x15_2).f2).length c178_2] 51 (0, 0)) BK179 hb; replace HB := sb hb; (try clear hb)))
        go_ret
        exact ⟨eq_, bq⟩
       rw [if_neg c7] at H; exact absurd H (by simp)
      rw [if_neg c6] at H; exact absurd H (by simp)
     rw [if_neg c5] at H; have c5b0 : decide (x15_2 < (l0.length : Int)) = false := decide_eq_false c5; clear c5; obtain rfl := Option.some.inj H
     go_wp2
     go_ret
     exact ⟨eq_, bq⟩



end Go.Proofs.Ytmokdglmbjofeaa.Pall
