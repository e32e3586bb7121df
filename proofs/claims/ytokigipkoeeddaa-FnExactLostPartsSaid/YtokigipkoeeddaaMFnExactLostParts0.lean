-- written by the kit's print program, put together by a program
import Derived.Test.YtokigipkoeeddaaProg
import Derived.Below
import Derived.Deep.Draws
import Derived.Deep.AppendLies
import Derived.Maps.AppendAt
import Derived.OwnWalk
import Derived.Laws.BytesArg
import Derived.Laws.MakeOwn
import Derived.Laws.OwnMore
import Derived.Deep.OwnRows
import Derived.Tactics
import Derived.Lib.ConvBytes
import Derived.Laws.Slices
import Derived.WalkKit
import Derived.KernelRfl
import Derived.RowKit3
import Derived.Deep.LoopGhost
import Derived.Deep.QuietTactic
import Derived.BigQuiet
import Derived.WideLaws
import Derived.Deep.DeepCutAuto
import Derived.Deep.CutBlock
import Derived.Deep.RegionHeld3
import Derived.Laws.Rows
import Derived.Lib.AppendStr
import Derived.ArgAppend
import Derived.Laws.IdiomCopy
import Derived.OrdersHeld
import Derived.Laws.BitsLemmas
import Derived.RowKit
import Derived.Test.YtokigipkoeeddaaMWFnExactLostParts
namespace Go.Proofs.Ytokigipkoeeddaa.Pall
open Go.RowKit Go.Proofs.YtokigipkoeeddaaW.PrintWords Go.Proofs.YtokigipkoeeddaaW.PrintLast Go.Proofs.YtokigipkoeeddaaW.PrintMore
attribute [local go_sem] max2_int min2_int max_two min_two max_three min_three max_four min_four   -- for this text's walks alone
set_option linter.unusedVariables false
set_option linter.unusedSimpArgs false



def errW : Option Int → Value
  | none => .nilIface
  | some c => .iface 0 (.int .i64 c)
theorem errW_none : errW none = .nilIface := rfl
theorem errW_some (c : Int) : errW (some c) = .iface 0 (.int .i64 c) := rfl

theorem info3 : (Try.prog.info? 3).map (fun i => (i.zero, i.size, i.bytes)) = some (some (.int .i64 0), 1, 8) := by kernel_rfl
theorem info41 : (Try.prog.info? 41).map (fun i => (i.zero, i.size, i.bytes)) = some (some (.agg #[(.int .i64 0), (.int .i64 0), (.int .i64 0), (.int .i64 0)]), 4, 32) := by kernel_rfl
-- the values' own types
/-! #### struct type 39 -/
structure S39 where
  f0 : Int
  f1 : Int
  f2 : Int
  f3 : Int
def z39 : S39 := ⟨(0 : Int), (0 : Int), (0 : Int), (0 : Int)⟩
def k39 : Kd S39 := Kd.iso (Kd.pair (Kd.int .i64) (Kd.pair (Kd.int .i64) (Kd.pair (Kd.int .i64) (Kd.int .i64)))) (fun x : S39 => (x.f0, x.f1, x.f2, x.f3))
theorem k39_open {w : World} {x : S39} {cs : List Value} (h : k39.K w x cs) : cs = [.int .i64 x.f0, .int .i64 x.f1, .int .i64 x.f2, .int .i64 x.f3] := by
  obtain ⟨_, _, rfl, rfl, ⟨_, _, rfl, rfl, ⟨_, _, rfl, rfl, rfl⟩⟩⟩ := h
  exact rfl
theorem k39_openM {w : World} {base : Nat} {ok : Nat → Prop} {x : S39} {cs : List Value} (h : k39.M w base ok x cs) : cs = [.int .i64 x.f0, .int .i64 x.f1, .int .i64 x.f2, .int .i64 x.f3] := by
  obtain ⟨_, _, rfl, rfl, ⟨_, _, rfl, rfl, ⟨_, _, rfl, rfl, rfl⟩⟩⟩ := h
  exact rfl
theorem k39_mk (w : World) (x : S39)  : k39.K w x [.int .i64 x.f0, .int .i64 x.f1, .int .i64 x.f2, .int .i64 x.f3] := ⟨[.int .i64 x.f0], [.int .i64 x.f1, .int .i64 x.f2, .int .i64 x.f3], rfl, rfl, ⟨[.int .i64 x.f1], [.int .i64 x.f2, .int .i64 x.f3], rfl, rfl, ⟨[.int .i64 x.f2], [.int .i64 x.f3], rfl, rfl, rfl⟩⟩⟩
theorem k39_mkM (w : World) (base : Nat) (ok : Nat → Prop) (x : S39)  : k39.M w base ok x [.int .i64 x.f0, .int .i64 x.f1, .int .i64 x.f2, .int .i64 x.f3] := ⟨[.int .i64 x.f0], [.int .i64 x.f1, .int .i64 x.f2, .int .i64 x.f3], rfl, rfl, ⟨[.int .i64 x.f1], [.int .i64 x.f2, .int .i64 x.f3], rfl, rfl, ⟨[.int .i64 x.f2], [.int .i64 x.f3], rfl, rfl, rfl⟩⟩⟩
def rd_T39 (xs : List S39) (i : Int) : S39 := xs.getD i.toNat z39
theorem at_T39 {w : World} {A : Option Addr} {n : Nat} {xs : List S39} (h : Kd.C k39 w A n xs) (i : Int) (h0 : 0 ≤ i) (h1 : i < n) : ∃ ad , A = some ad ∧ w.cell? (ad.add (i.toNat * 4)) = some (.int .i64 (rd_T39 xs i).f0) ∧ w.cell? ⟨(ad.add (i.toNat * 4)).block, (ad.add (i.toNat * 4)).off + 1, none⟩ = some (.int .i64 (rd_T39 xs i).f1) ∧ w.cell? ⟨(ad.add (i.toNat * 4)).block, (ad.add (i.toNat * 4)).off + 2, none⟩ = some (.int .i64 (rd_T39 xs i).f2) ∧ w.cell? ⟨(ad.add (i.toNat * 4)).block, (ad.add (i.toNat * 4)).off + 3, none⟩ = some (.int .i64 (rd_T39 xs i).f3) := by
  obtain ⟨ad, c, e, _, hK, hc0⟩ := Kd.C_get h z39 i h0 h1
  have hc : ∀ j u, c[j]? = some u → w.cell? (ad.add (i.toNat * 4 + j)) = some u := hc0
  obtain rfl := k39_open hK
  exact ⟨ad, e, hc 0 _ rfl, by rw [← add_field _ _ 1 (by omega)]; exact hc 1 _ rfl, by rw [← add_field _ _ 2 (by omega)]; exact hc 2 _ rfl, by rw [← add_field _ _ 3 (by omega)]; exact hc 3 _ rfl⟩

/-! #### struct type 41 -/
structure S41 where
  f0 : Int
  f1 : Int
  f2 : Int
  f3 : Int
def z41 : S41 := ⟨(0 : Int), (0 : Int), (0 : Int), (0 : Int)⟩
def k41 : Kd S41 := Kd.iso (Kd.pair (Kd.int .i64) (Kd.pair (Kd.int .i64) (Kd.pair (Kd.int .i64) (Kd.int .i64)))) (fun x : S41 => (x.f0, x.f1, x.f2, x.f3))
theorem k41_open {w : World} {x : S41} {cs : List Value} (h : k41.K w x cs) : cs = [.int .i64 x.f0, .int .i64 x.f1, .int .i64 x.f2, .int .i64 x.f3] := by
  obtain ⟨_, _, rfl, rfl, ⟨_, _, rfl, rfl, ⟨_, _, rfl, rfl, rfl⟩⟩⟩ := h
  exact rfl
theorem k41_openM {w : World} {base : Nat} {ok : Nat → Prop} {x : S41} {cs : List Value} (h : k41.M w base ok x cs) : cs = [.int .i64 x.f0, .int .i64 x.f1, .int .i64 x.f2, .int .i64 x.f3] := by
  obtain ⟨_, _, rfl, rfl, ⟨_, _, rfl, rfl, ⟨_, _, rfl, rfl, rfl⟩⟩⟩ := h
  exact rfl
theorem k41_mk (w : World) (x : S41)  : k41.K w x [.int .i64 x.f0, .int .i64 x.f1, .int .i64 x.f2, .int .i64 x.f3] := ⟨[.int .i64 x.f0], [.int .i64 x.f1, .int .i64 x.f2, .int .i64 x.f3], rfl, rfl, ⟨[.int .i64 x.f1], [.int .i64 x.f2, .int .i64 x.f3], rfl, rfl, ⟨[.int .i64 x.f2], [.int .i64 x.f3], rfl, rfl, rfl⟩⟩⟩
theorem k41_mkM (w : World) (base : Nat) (ok : Nat → Prop) (x : S41)  : k41.M w base ok x [.int .i64 x.f0, .int .i64 x.f1, .int .i64 x.f2, .int .i64 x.f3] := ⟨[.int .i64 x.f0], [.int .i64 x.f1, .int .i64 x.f2, .int .i64 x.f3], rfl, rfl, ⟨[.int .i64 x.f1], [.int .i64 x.f2, .int .i64 x.f3], rfl, rfl, ⟨[.int .i64 x.f2], [.int .i64 x.f3], rfl, rfl, rfl⟩⟩⟩
def rd_T41 (xs : List S41) (i : Int) : S41 := xs.getD i.toNat z41
theorem at_T41 {w : World} {A : Option Addr} {n : Nat} {xs : List S41} (h : Kd.C k41 w A n xs) (i : Int) (h0 : 0 ≤ i) (h1 : i < n) : ∃ ad , A = some ad ∧ w.cell? (ad.add (i.toNat * 4)) = some (.int .i64 (rd_T41 xs i).f0) ∧ w.cell? ⟨(ad.add (i.toNat * 4)).block, (ad.add (i.toNat * 4)).off + 1, none⟩ = some (.int .i64 (rd_T41 xs i).f1) ∧ w.cell? ⟨(ad.add (i.toNat * 4)).block, (ad.add (i.toNat * 4)).off + 2, none⟩ = some (.int .i64 (rd_T41 xs i).f2) ∧ w.cell? ⟨(ad.add (i.toNat * 4)).block, (ad.add (i.toNat * 4)).off + 3, none⟩ = some (.int .i64 (rd_T41 xs i).f3) := by
  obtain ⟨ad, c, e, _, hK, hc0⟩ := Kd.C_get h z41 i h0 h1
  have hc : ∀ j u, c[j]? = some u → w.cell? (ad.add (i.toNat * 4 + j)) = some u := hc0
  obtain rfl := k41_open hK
  exact ⟨ad, e, hc 0 _ rfl, by rw [← add_field _ _ 1 (by omega)]; exact hc 1 _ rfl, by rw [← add_field _ _ 2 (by omega)]; exact hc 2 _ rfl, by rw [← add_field _ _ 3 (by omega)]; exact hc 3 _ rfl⟩



/-! ### Shorter words: closers that come again and again, as lemmas with a default proof -/
theorem bq {B : Nat} {w w' : World} (h : Below B w w' := by repeat (first | (with_reducible first | exact HB.out | apply below_alloc | apply pw_below_drewN | apply below_drew1 | refine below_set ?_ (Aside0.out (by assumption))) | exact HB.out)) : Below B w w' := h
theorem hkq {P : Prop} (h : P := by repeat (first | (with_reducible first | exact HK.out | apply Kept.alloc | apply Kept.drewN | apply Kept.drew) | exact HK.out)) : P := h
theorem rq {P Q : Prop} (H : Aside0 P) (h : P → Q := by intro h_; (with_reducible repeat (first | apply Kd.R_alloc | apply Kd.R_drewN | apply Kd.R_drew)); exact h_) : Q := h H.out
theorem rp {P Q : Prop} (H : P) (h : P → Q := by intro h_; (with_reducible repeat (first | apply Kd.R_alloc | apply Kd.R_drewN | apply Kd.R_drew)); exact h_) : Q := h H
theorem zq {P Q : Prop} (H : Aside0 P) (h : P → Q := by intro h_; (with_reducible repeat (first | refine blk_drewN ?_ _ | refine blk_drew ?_ | refine blk_alloc ?_ _)); exact h_) : Q := h H.out
theorem cq {P Q : Prop} (H : P) (h : P → Q := by intro h_; repeat (first | exact h_ | (with_reducible refine Kd.C_alloc ?_ _) | (with_reducible refine Kd.C_drewN ?_ _) | (with_reducible refine Kd.C_drew ?_))) : Q := h H
theorem gq {B : Nat} {w w' : World} {g : Nat} (hg : g = w'.heap.size) (h : Below B w w' := by repeat (first | (with_reducible first | exact HB.out | apply below_alloc | apply pw_below_drewN | apply below_drew1 | refine below_set ?_ (Aside0.out (by assumption))) | exact HB.out)) (hB : B = w.heap.size := by rfl) : B ≤ g := by subst hB; subst hg; exact below_size h
theorem eq_ {P : Prop} (h : P := by first | rfl | (simp [errW_none, errW_some] <;> rfl) | (simp [*, errW_none, errW_some] <;> rfl)) : P := h
theorem sq {P : Prop} (h : P := by first | rfl | (simp; done) | (simp [*]; done)) : P := h
theorem aq {P : Prop} (h : P := by first | (with_reducible assumption) | assumption) : P := h
theorem mq {P : Prop} (h : P := by (try simp only [List.map_toArray, List.map_cons, List.map_nil]); first | done | rfl | (simp only [List.length_drop, List.length_take]; rfl)) : P := h
theorem bindq {α β : Type} {o : Option α} {f : α → Option β} {r : β} (h : o.bind f = some r) : ∃ a, Aside0 (o = some a) ∧ f a = some r := by
  obtain ⟨a, h1, h2⟩ := Option.bind_eq_some_iff.mp h
  exact ⟨a, ⟨h1⟩, h2⟩
theorem rb {α : Type} {d : Kd α} {e base : Nat} {ok : Nat → Prop} {W W' w' : World} {v : Value} {xs : List α} (H : Aside0 (Kd.R d e W base ok v xs)) (hb : Below W'.heap.size W' w') (h : Kd.R d e W base ok v xs → Kd.R d e W' base ok v xs := by intro h_; (with_reducible repeat (first | apply Kd.R_alloc | apply Kd.R_drewN | apply Kd.R_drew)); exact h_) : Aside0 (Kd.R d e w' base ok v xs) := ⟨Kd.R_below (h H.out) hb⟩
theorem sb {w W w' : World} (hb : Below W.heap.size W w') (h : Below w.heap.size w W := by repeat (first | (with_reducible first | exact HB.out | apply below_alloc | apply pw_below_drewN | apply below_drew1 | refine below_set ?_ (Aside0.out (by assumption))) | exact HB.out)) : Aside0 (Below w.heap.size w w') := ⟨below_step h hb⟩
theorem rl {α : Type} {d : Kd α} {e : Nat} {ok : Nat → Prop} {w W W' : World} {v : Value} {xs : List α} (ho : Kd.R d e W' W.heap.size ok v xs) (h : Below w.heap.size w W := by repeat (first | (with_reducible first | exact HB.out | apply below_alloc | apply pw_below_drewN | apply below_drew1 | refine below_set ?_ (Aside0.out (by assumption))) | exact HB.out)) : Aside0 (Kd.R d e W' w.heap.size ok v xs) := ⟨Kd.R_lower ho (below_size h)⟩
theorem nl {W W' : World} {g g' : Nat} {o : Obj} (hg : g' = W'.heap.size) (H : Aside0 (W.heap[g]? = some o)) (h : W.heap[g]? = some o → W'.heap[g]? = some o := by intro h_; (with_reducible repeat (first | refine blk_drewN ?_ _ | refine blk_drew ?_ | refine blk_alloc ?_ _)); exact h_) : Aside0 (g ≠ g') := ⟨by rw [hg]; exact Nat.ne_of_lt (blk_lt (h H.out))⟩
theorem ng {W W' : World} {g g' : Nat} {o : Obj} (hg : g' = W'.heap.size) (H : Aside0 (W.heap[g]? = some o)) (h : W.heap[g]? = some o → W'.heap[g]? = some o := by intro h_; (with_reducible repeat (first | refine blk_drewN ?_ _ | refine blk_drew ?_ | refine blk_alloc ?_ _)); exact h_) : Aside0 (g' ≠ g) := ⟨by rw [hg]; exact Nat.ne_of_gt (blk_lt (h H.out))⟩
theorem rq1 {α : Type} {d : Kd α} {e base : Nat} {ok : Nat → Prop} {W : World} {A : Option Addr} {n c : Nat} {xs : List α} (H : Aside0 (Kd.R d e W base ok (.slice A n c) xs)) : n ≤ c := (Kd.R_reads' H.out).2.1
theorem cr {α : Type} {d : Kd α} {e base : Nat} {ok : Nat → Prop} {W : World} {A : Option Addr} {n c : Nat} {xs : List α} {Q : Prop} (H : Aside0 (Kd.R d e W base ok (.slice A n c) xs)) (h : Kd.C d W A xs.length xs → Q := by intro h_; repeat (first | exact h_ | (with_reducible refine Kd.C_alloc ?_ _) | (with_reducible refine Kd.C_drewN ?_ _) | (with_reducible refine Kd.C_drew ?_))) : Q := h (Kd.R_reads' H.out).2.2
theorem ff {α : Type} {d : Kd α} {e base t g : Nat} {ok : Nat → Prop} {W W' : World} {v : Value} {xs : List α} {cs : Array Value} (H : Aside0 (Kd.R d e W base ok v xs)) (B : Aside0 (W.heap[g]? = some (.cells cs t (0, 0)))) (hne : ∀ q, q ∈ e :: d.E → q ≠ t := by decide) (h : Kd.R d e W base (fun k => ok k ∧ k ≠ g) v xs → Kd.R d e W' base (fun k => ok k ∧ k ≠ g) v xs := by intro h_; (repeat (first | (with_reducible exact h_) | (with_reducible first | apply Kd.R_alloc | apply Kd.R_drewN | apply Kd.R_drew) | (with_reducible refine Kd.R_far ?_ (fun _ hk => hk.2) _))); all_goals exact h_) : Kd.R d e W' base (fun k => ok k ∧ k ≠ g) v xs := h (Kd.R_types H.out B.out hne)
theorem fq {α : Type} {d : Kd α} {e base t g : Nat} {ok : Nat → Prop} {W W' : World} {v : Value} {xs : List α} {cs : Array Value} (H : Aside0 (Kd.R d e W base ok v xs)) (B : Aside0 (W.heap[g]? = some (.cells cs t (0, 0)))) (hne : ∀ q, q ∈ e :: d.E → q ≠ t := by decide) (h : Kd.R d e W base (fun k => ok k ∧ k ≠ g) v xs → Kd.R d e W' base (fun k => ok k ∧ k ≠ g) v xs := by intro h_; (repeat (first | (with_reducible exact h_) | (with_reducible first | apply Kd.R_alloc | apply Kd.R_drewN | apply Kd.R_drew) | (with_reducible refine Kd.R_far ?_ (fun _ hk => hk.2) _))); all_goals exact h_) : Kd.R d e W' base ok v xs := Kd.R_mono (h (Kd.R_types H.out B.out hne)) (fun _ h_ => h_.1)
theorem zp {P Q : Prop} (H : Aside0 P) (h : P → Q := by intro h_; (repeat (first | (with_reducible exact h_) | (with_reducible first | refine blk_drewN ?_ _ | refine blk_drew ?_ | refine blk_alloc ?_ _) | (with_reducible refine (Below.heap_setCell _ _ _ _ (Aside0.out (by assumption))).trans ?_) | (with_reducible apply blk_put))); all_goals (first | rfl | exact h_)) : Q := h H.out
theorem tq2 {α : Type} {d : Kd α} {e base : Nat} {ok : Nat → Prop} {W w1 : World} {u v v' : Value} {xs : List α} {β γ : Type} {db : Kd β} {dc : Kd γ} {eb ec : Nat} {okb okc : Nat → Prop} {w2 w3 : World} {ys : List β} {zs : List γ} (hu : Kd.R d e W base ok u xs) (hb : Below W.heap.size W w1) (ho : Kd.R db eb w2 W.heap.size okb v ys) (ho' : Kd.R dc ec w3 W.heap.size okc v' zs) : Aside0 (Kd.R d e w1 base (fun k => (ok k ∧ some k ≠ v.ownBlock) ∧ some k ≠ v'.ownBlock) u xs) := ⟨Kd.R_mono (Kd.R_told (Kd.R_told (Kd.R_old hu hb) (Kd.R_base ho)) (Kd.R_base ho')) (fun _ h_ => h_.1)⟩
theorem rm {α : Type} {d : Kd α} {e base : Nat} {ok ok' : Nat → Prop} {W W' : World} {v : Value} {xs : List α} (H : Aside0 (Kd.R d e W base ok v xs)) (hok : ∀ k, ok k → ok' k := by intro _ hk; first | exact trivial | exact hk | simp only [hk, ne_eq, not_false_eq_true, and_self]) (h : Kd.R d e W base ok' v xs → Kd.R d e W' base ok' v xs := by intro h_; (with_reducible repeat (first | apply Kd.R_alloc | apply Kd.R_drewN | apply Kd.R_drew)); exact h_) : Kd.R d e W' base ok' v xs := h (Kd.R_mono H.out hok)
theorem cf {α : Type} {d : Kd α} {e base t g n c : Nat} {ok : Nat → Prop} {W W' : World} {A : Option Addr} {xs : List α} {cs : Array Value} (H : Aside0 (Kd.R d e W base ok (.slice A n c) xs)) (B : Aside0 (W.heap[g]? = some (.cells cs t (0, 0)))) (hne : ∀ q, q ∈ e :: d.E → q ≠ t := by decide) (h : Kd.R d e W base (fun k => ok k ∧ k ≠ g) (.slice A n c) xs → Kd.R d e W' base (fun k => ok k ∧ k ≠ g) (.slice A n c) xs := by intro h_; (repeat (first | (with_reducible exact h_) | (with_reducible first | apply Kd.R_alloc | apply Kd.R_drewN | apply Kd.R_drew) | (with_reducible refine Kd.R_far ?_ (fun _ hk => hk.2) _))); all_goals exact h_) : Kd.C d W' A xs.length xs := (Kd.R_reads' (h (Kd.R_types H.out B.out hne))).2.2
theorem cl {P : Prop} (h : P := by (repeat' apply And.intro) <;> exact (blk_cell (Aside0.out (by assumption)) _).trans rfl) : P := h
theorem kb {α : Type} {d : Kd α} {e base : Nat} {ok ok' : Nat → Prop} {W W2 : World} {S : Nat → Prop} {v : Value} {xs : List α} (h : Kd.R d e W base ok v xs) (hk : Kept W W2 S) (hne : ∀ k, ok k → ¬ S k := by intro k_ hk_ hs_; simp only [hk_, not_false_eq_true, ne_eq, false_or, or_self, false_and, and_false, not_true_eq_false] at hs_ <;> grind) (hm : ∀ k, ok k ∧ (¬ S k ∧ k < W.heap.size) → ok' k := by intro k_ hk_; grind) : Aside0 (Kd.R d e W2 base ok' v xs) := ⟨Kd.R_mono (Kd.R_keptB h hk hne) hm⟩
theorem chf {P Q : Prop} (hH : P) (h : P → Q := by intro h_; (repeat' apply And.intro) <;> (repeat (with_reducible refine (cell_far (Aside0.out (by assumption)) _).trans ?_)) <;> simp only [h_]) : Q := h hH
theorem am {p : Prop} (h : p) : Aside0 p := ⟨h⟩
theorem lw {α : Type} {d : Kd α} {e base : Nat} {ok : Nat → Prop} {W W' : World} {v : Value} {xs : List α} (H : Aside0 (Kd.R d e W base ok v xs)) (h : Kd.R d e W base ok v xs → Kd.R d e W' base ok v xs := by intro h_; (with_reducible repeat (first | apply Kd.R_alloc | apply Kd.R_drewN | apply Kd.R_drew)); exact h_) : ∀ k, v.ownBlock = some k → k < W'.heap.size := Kd.R_lt (h H.out)
theorem goesQ {P : Program} {ops : Array Oper} {Q : Exit → Act → World → Prop} {rest : List Oper} {oi : Oper} {a : Act} {w : World} (N : Option Tmp) {f : FuncId} {fn : Func} (hf : P.funcs[f]? = some fn) (args : Array Value) (h : Calls P f args w fun e w' => ∃ v, e = .returned v ∧ wpList P ops Q rest (a.put N v) w') {ar_ : Array Operand} {ts : Array TypeId} (hd : oi.dst = N := by exact rfl) (hg : oi.guard = none := by exact rfl) (hname : (fn.name == "runtime.NumGoroutine") = false := by kernel_rfl) (hb : fn.body.isSome = true := by exact rfl) (hop : oi.op = .call { callee := .value (.func f), args := ar_, argTypes := ts } := by exact rfl) (hargs : ar_.map a.eval = args := by (try simp only [List.map_toArray, List.map_cons, List.map_nil]); first | done | rfl | (simp only [List.length_drop, List.length_take]; rfl)) : wpList P ops Q (oi :: rest) a w := goesL_ N hd hg hf hname hb args hop hargs h
theorem zb {W W' w' : World} {g : Nat} {o : Obj} (H : Aside0 (W.heap[g]? = some o)) (hb : Below W'.heap.size W' w') (h : W.heap[g]? = some o → W'.heap[g]? = some o := by intro h_; (with_reducible repeat (first | refine blk_drewN ?_ _ | refine blk_drew ?_ | refine blk_alloc ?_ _)); exact h_) : Aside0 (w'.heap[g]? = some o) := ⟨blk_below (h H.out) hb⟩
theorem bc2 {w : World} {g t : Nat} {a0 a1 : Value} (h : Aside0 (w.heap[g]? = some (.cells #[a0, a1] t (0, 0)))) : w.cell? ⟨g, 0, none⟩ = some a0 ∧ w.cell? ⟨g, 1, none⟩ = some a1 ∧ w.frozen? ⟨g, 0, none⟩ = false ∧ w.frozen? ⟨g, 1, none⟩ = false := ⟨(blk_cell h.out 0).trans rfl, (blk_cell h.out 1).trans rfl, blk_frozen h.out 0, blk_frozen h.out 1⟩
theorem bc4 {w : World} {g t : Nat} {a0 a1 a2 a3 : Value} (h : Aside0 (w.heap[g]? = some (.cells #[a0, a1, a2, a3] t (0, 0)))) : w.cell? ⟨g, 0, none⟩ = some a0 ∧ w.cell? ⟨g, 1, none⟩ = some a1 ∧ w.cell? ⟨g, 2, none⟩ = some a2 ∧ w.cell? ⟨g, 3, none⟩ = some a3 ∧ w.frozen? ⟨g, 0, none⟩ = false ∧ w.frozen? ⟨g, 1, none⟩ = false ∧ w.frozen? ⟨g, 2, none⟩ = false ∧ w.frozen? ⟨g, 3, none⟩ = false := ⟨(blk_cell h.out 0).trans rfl, (blk_cell h.out 1).trans rfl, (blk_cell h.out 2).trans rfl, (blk_cell h.out 3).trans rfl, blk_frozen h.out 0, blk_frozen h.out 1, blk_frozen h.out 2, blk_frozen h.out 3⟩

/-! ### laws_szIntS: function 21 -/
def laws_szIntS.f (l0 : List Int) (a1 : Int) : Option (Int) := if (wrap64 (a1 - (l0.length : Int))) < 0 then (some (-1)) else (some (wrap64 (a1 - (l0.length : Int))))
set_option maxHeartbeats 8000000 in
set_option maxRecDepth 100000 in
theorem laws_szIntS.calls (A0 : Option Addr) (c0 : Nat) (l0 : List Int) (a1 : Int) (r : Int) (w : World) (hr0 : Kd.C (Kd.int .i64) w A0 l0.length l0) (hc0 : l0.length ≤ c0) (h : laws_szIntS.f l0 a1 = some r) :
  Calls Try.prog 21 #[.slice A0 l0.length c0, .int .i64 a1] w fun e w' => e = .returned (.int .i64 r) ∧ Drawn0 w w' := by
 have HR0 := am hr0
 have HC0 := am hc0
 clear hr0 hc0
 have H : (if (wrap64 (a1 - (l0.length : Int))) < 0 then (some (-1)) else (some (wrap64 (a1 - (l0.length : Int))))) = some r := h
 clear h
 by_cases c3 : (wrap64 (a1 - (l0.length : Int))) < 0
 ·rw [if_pos c3] at H
  have c3b0 : decide ((wrap64 (a1 - (l0.length : Int))) < 0) = true := decide_eq_true c3
  clear c3
  obtain rfl := Option.some.inj H
  go_enter Try.func21, Try.ntmps21
  go_wp2
  go_ret
  exact ⟨sq, by repeat (first | exact Drawn0.refl _ | apply Drawn0.step)⟩
 ·rw [if_neg c3] at H
  have c3b0 : decide ((wrap64 (a1 - (l0.length : Int))) < 0) = false := decide_eq_false c3
  clear c3
  obtain rfl := Option.some.inj H
  go_enter Try.func21, Try.ntmps21
  go_wp2
  go_ret
  exact ⟨sq, by repeat (first | exact Drawn0.refl _ | apply Drawn0.step)⟩


/-! ### laws_szLoanS: function 22 -/
def laws_szLoanS.f (l0 : List (S39)) (a1 : Int) : Option (Int) := if (wrap64 (a1 - (l0.length : Int))) < 0 then (some (-1)) else (some (wrap64 (a1 - (l0.length : Int))))
set_option maxHeartbeats 8000000 in
set_option maxRecDepth 100000 in
theorem laws_szLoanS.calls (A0 : Option Addr) (c0 : Nat) (l0 : List (S39)) (a1 : Int) (r : Int) (w : World) (hr0 : Kd.C k39 w A0 l0.length l0) (hc0 : l0.length ≤ c0) (h : laws_szLoanS.f l0 a1 = some r) :
  Calls Try.prog 22 #[.slice A0 l0.length c0, .int .i64 a1] w fun e w' => e = .returned (.int .i64 r) ∧ Drawn0 w w' := by
 have HR0 := am hr0
 have HC0 := am hc0
 clear hr0 hc0
 have H : (if (wrap64 (a1 - (l0.length : Int))) < 0 then (some (-1)) else (some (wrap64 (a1 - (l0.length : Int))))) = some r := h
 clear h
 by_cases c3 : (wrap64 (a1 - (l0.length : Int))) < 0
 ·rw [if_pos c3] at H
  have c3b0 : decide ((wrap64 (a1 - (l0.length : Int))) < 0) = true := decide_eq_true c3
  clear c3
  obtain rfl := Option.some.inj H
  go_enter Try.func22, Try.ntmps22
  go_wp2
  go_ret
  exact ⟨sq, by repeat (first | exact Drawn0.refl _ | apply Drawn0.step)⟩
 ·rw [if_neg c3] at H
  have c3b0 : decide ((wrap64 (a1 - (l0.length : Int))) < 0) = false := decide_eq_false c3
  clear c3
  obtain rfl := Option.some.inj H
  go_enter Try.func22, Try.ntmps22
  go_wp2
  go_ret
  exact ⟨sq, by repeat (first | exact Drawn0.refl _ | apply Drawn0.step)⟩


/-! ### laws_szShop: function 7 -/
def laws_szShop.f (l0_0 : List Int) (l0_1 : List (S39)) (a1 : Int) : Option (Int) := (laws_szIntS.f l0_0 a1).bind fun t102 => (if t102 < 0 then (some (-1)) else ((laws_szLoanS.f l0_1 t102).bind fun t103 => (if t103 < 0 then (some (-1)) else (some t103))))
set_option maxHeartbeats 8000000 in
set_option maxRecDepth 100000 in
theorem laws_szShop.calls (A0_0 : Option Addr) (c0_0 : Nat) (l0_0 : List Int) (A0_1 : Option Addr) (c0_1 : Nat) (l0_1 : List (S39)) (a1 : Int) (r : Int) (w : World) (hr0_0 : Kd.C (Kd.int .i64) w A0_0 l0_0.length l0_0) (hc0_0 : l0_0.length ≤ c0_0) (hr0_1 : Kd.C k39 w A0_1 l0_1.length l0_1) (hc0_1 : l0_1.length ≤ c0_1) (h : laws_szShop.f l0_0 l0_1 a1 = some r) :
  Calls Try.prog 7 #[.agg #[.slice A0_0 l0_0.length c0_0, .slice A0_1 l0_1.length c0_1], .int .i64 a1] w fun e w' => e = .returned (.int .i64 r) ∧ Below w.heap.size w w' := by
 have hu25 := Try.underlying25
 have HR0_0 := am hr0_0
 have HC0_0 := am hc0_0
 clear hr0_0 hc0_0
 have HR0_1 := am hr0_1
 have HC0_1 := am hc0_1
 clear hr0_1 hc0_1
 have HB := am (Below.refl w.heap.size w)
 have H : ((laws_szIntS.f l0_0 a1).bind fun t102 => (if t102 < 0 then (some (-1)) else ((laws_szLoanS.f l0_1 t102).bind fun t103 => (if t103 < 0 then (some (-1)) else (some t103))))) = some r := h
 clear h
 obtain ⟨t102, A3, H⟩ := bindq H
 try dsimp only at H
 by_cases c4 : t102 < 0
 ·rw [if_pos c4] at H
  have c4b0 : decide (t102 < 0) = true := decide_eq_true c4
  clear c4
  obtain rfl := Option.some.inj H
  go_enter Try.func7, Try.ntmps7
  go_wp2_with (first | ((with_reducible refine gate_dst (N := 2) rfl ?_); refine box_event ?hg (N := 2) ?hd (cs := #[.slice A0_0 l0_0.length c0_0, .slice A0_1 l0_1.length c0_1]) (t := 25) ?hr ?_; (case hd => rfl); (case hg => rfl); (case hr => first | (go_simp; done) | (go_simp; rfl)); intro gb101 hg w5 hbox hb; have BK101 := am (hbox); have GW101 := am (gq hg); have GE101 := am (gq hg); replace HB := sb hb; clear hb hbox hg; have ⟨hcz6_0, hcz6_1, hfz6_0, hfz6_1⟩ := bc2 BK101) | ((with_reducible refine gate_callee (f := 21) rfl ?_); refine goesQ (some 8) Try.func21 #[.slice A0_0 l0_0.length c0_0, .int .i64 a1] ?_; (with_reducible refine (laws_szIntS.calls _ _ l0_0 a1 t102 _ ?s1 ?s2 A3.out).mono ?_); (case s1 => exact cq (Kd.C_below HR0_0.out HB.out)); (case s2 => exact HC0_0.out); rintro e w' ⟨rfl, ⟨nd, rfl⟩⟩; refine ⟨_, rfl, ?_⟩))
  go_ret
  exact ⟨eq_, bq⟩
 ·rw [if_neg c4] at H
  have c4b0 : decide (t102 < 0) = false := decide_eq_false c4
  clear c4
  obtain ⟨t103, A7, H⟩ := bindq H
  try dsimp only at H
  by_cases c8 : t103 < 0
  ·rw [if_pos c8] at H
   have c8b0 : decide (t103 < 0) = true := decide_eq_true c8
   clear c8
   obtain rfl := Option.some.inj H
   go_enter Try.func7, Try.ntmps7
   go_wp2_with (first | ((with_reducible refine gate_dst (N := 2) rfl ?_); refine box_event ?hg (N := 2) ?hd (cs := #[.slice A0_0 l0_0.length c0_0, .slice A0_1 l0_1.length c0_1]) (t := 25) ?hr ?_; (case hd => rfl); (case hg => rfl); (case hr => first | (go_simp; done) | (go_simp; rfl)); intro gb101 hg w9 hbox hb; have BK101 := am (hbox); have GW101 := am (gq hg); have GE101 := am (gq hg); replace HB := sb hb; clear hb hbox hg; have ⟨hcz10_0, hcz10_1, hfz10_0, hfz10_1⟩ := bc2 BK101) | ((with_reducible refine gate_callee (f := 21) rfl ?_); refine goesQ (some 8) Try.func21 #[.slice A0_0 l0_0.length c0_0, .int .i64 a1] ?_; (with_reducible refine (laws_szIntS.calls _ _ l0_0 a1 t102 _ ?s1 ?s2 A3.out).mono ?_); (case s1 => exact cq (Kd.C_below HR0_0.out HB.out)); (case s2 => exact HC0_0.out); rintro e w' ⟨rfl, ⟨nd, rfl⟩⟩; refine ⟨_, rfl, ?_⟩) | ((with_reducible refine gate_callee (f := 22) rfl ?_); refine goesQ (some 14) Try.func22 #[.slice A0_1 l0_1.length c0_1, .int .i64 t102] ?_; (with_reducible refine (laws_szLoanS.calls _ _ l0_1 t102 t103 _ ?s1 ?s2 A7.out).mono ?_); (case s1 => exact cq (Kd.C_below HR0_1.out bq)); (case s2 => exact HC0_1.out); rintro e w' ⟨rfl, ⟨nd, rfl⟩⟩; refine ⟨_, rfl, ?_⟩))
   go_ret
   exact ⟨eq_, bq⟩
  ·rw [if_neg c8] at H
   have c8b0 : decide (t103 < 0) = false := decide_eq_false c8
   clear c8
   obtain rfl := Option.some.inj H
   go_enter Try.func7, Try.ntmps7
   go_wp2_with (first | ((with_reducible refine gate_dst (N := 2) rfl ?_); refine box_event ?hg (N := 2) ?hd (cs := #[.slice A0_0 l0_0.length c0_0, .slice A0_1 l0_1.length c0_1]) (t := 25) ?hr ?_; (case hd => rfl); (case hg => rfl); (case hr => first | (go_simp; done) | (go_simp; rfl)); intro gb101 hg w11 hbox hb; have BK101 := am (hbox); have GW101 := am (gq hg); have GE101 := am (gq hg); replace HB := sb hb; clear hb hbox hg; have ⟨hcz12_0, hcz12_1, hfz12_0, hfz12_1⟩ := bc2 BK101) | ((with_reducible refine gate_callee (f := 21) rfl ?_); refine goesQ (some 8) Try.func21 #[.slice A0_0 l0_0.length c0_0, .int .i64 a1] ?_; (with_reducible refine (laws_szIntS.calls _ _ l0_0 a1 t102 _ ?s1 ?s2 A3.out).mono ?_); (case s1 => exact cq (Kd.C_below HR0_0.out HB.out)); (case s2 => exact HC0_0.out); rintro e w' ⟨rfl, ⟨nd, rfl⟩⟩; refine ⟨_, rfl, ?_⟩) | ((with_reducible refine gate_callee (f := 22) rfl ?_); refine goesQ (some 14) Try.func22 #[.slice A0_1 l0_1.length c0_1, .int .i64 t102] ?_; (with_reducible refine (laws_szLoanS.calls _ _ l0_1 t102 t103 _ ?s1 ?s2 A7.out).mono ?_); (case s1 => exact cq (Kd.C_below HR0_1.out bq)); (case s2 => exact HC0_1.out); rintro e w' ⟨rfl, ⟨nd, rfl⟩⟩; refine ⟨_, rfl, ?_⟩))
   go_ret
   exact ⟨eq_, bq⟩


/-! ### spec_psSame: function 36 -/
def spec_psSame.l0 : Nat → List (S41) → Int → Int → Int → Int → Int → Int → Option (Int)
 | 0, _, _, _, _, _, _, _ => none
 | k + 1, x8, x9, x10, x106000, x106001, x106002, x106003 => if x10 < x9 then (if 0 ≤ x10 then (if x10 < (x8.length : Int) then (if ((rd_T41 x8 x10).f0) = x106000 then (if ((rd_T41 x8 x10).f1) = x106001 then (if ((rd_T41 x8 x10).f3) = x106003 then (some x10) else (spec_psSame.l0 k x8 x9 (wrap64 (x10 + 1)) x106000 x106001 x106002 x106003)) else (spec_psSame.l0 k x8 x9 (wrap64 (x10 + 1)) x106000 x106001 x106002 x106003)) else (spec_psSame.l0 k x8 x9 (wrap64 (x10 + 1)) x106000 x106001 x106002 x106003)) else (none)) else (none)) else (some (-1))
def spec_psSame.f (k : Nat) (l0_0 : List Int) (l0_1 : List (S41)) (a1_0 : Int) (a1_1 : Int) (a1_2 : Int) (a1_3 : Int) : Option (Int) := spec_psSame.l0 k l0_1 (l0_1.length : Int) 0 a1_0 a1_1 a1_2 a1_3
theorem spec_psSame.mono_l : ∀ k, (∀ y0 y1 y2 y3 y4 y5 y6, LeO (spec_psSame.l0 k y0 y1 y2 y3 y4 y5 y6) (spec_psSame.l0 (k + 1) y0 y1 y2 y3 y4 y5 y6))
 | 0 => fun _ _ _ _ _ _ _ r h => by simp [spec_psSame.l0] at h
 | k + 1 => by
  have ih0 := spec_psSame.mono_l k
  ·intro y0 y1 y2 y3 y4 y5 y6
   unfold spec_psSame.l0
   repeat' first
   | (with_reducible exact ih0 _ _ _ _ _ _ _)
   | (with_reducible exact LeO.refl _)
   | (with_reducible exact LeO.none _)
   | (with_reducible refine LeO.ite ?_ ?_)
   | (with_reducible refine LeO.bind ?_ (fun _ => ?_))
   | exact ih0 _ _ _ _ _ _ _
   | exact LeO.none _
   | refine LeO.ite ?_ ?_
   | refine LeO.bind ?_ (fun _ => ?_)
theorem spec_psSame.mono : ∀ a0 a1 a2 a3 a4 a5 k, LeO (spec_psSame.f k a0 a1 a2 a3 a4 a5) (spec_psSame.f (k + 1) a0 a1 a2 a3 a4 a5) := by
 intro a0 a1 a2 a3 a4 a5 k
 have ih0 := spec_psSame.mono_l k
 unfold spec_psSame.f
 repeat' first
   | (with_reducible exact ih0 _ _ _ _ _ _ _)
   | (with_reducible exact LeO.refl _)
   | (with_reducible exact LeO.none _)
   | (with_reducible refine LeO.ite ?_ ?_)
   | (with_reducible refine LeO.bind ?_ (fun _ => ?_))
   | exact ih0 _ _ _ _ _ _ _
   | exact LeO.none _
   | refine LeO.ite ?_ ?_
   | refine LeO.bind ?_ (fun _ => ?_)
set_option maxHeartbeats 8000000 in
set_option maxRecDepth 100000 in
theorem spec_psSame.calls (k : Nat) (A0_0 : Option Addr) (c0_0 : Nat) (l0_0 : List Int) (A0_1 : Option Addr) (c0_1 : Nat) (l0_1 : List (S41)) (a1_0 : Int) (a1_1 : Int) (a1_2 : Int) (a1_3 : Int) (r : Int) (w : World) (hr0_0 : Kd.C (Kd.int .i64) w A0_0 l0_0.length l0_0) (hc0_0 : l0_0.length ≤ c0_0) (hr0_1 : Kd.C k41 w A0_1 l0_1.length l0_1) (hc0_1 : l0_1.length ≤ c0_1) (h : spec_psSame.f k l0_0 l0_1 a1_0 a1_1 a1_2 a1_3 = some r) :
  Calls Try.prog 36 #[.agg #[.slice A0_0 l0_0.length c0_0, .slice A0_1 l0_1.length c0_1], .agg #[.int .i64 a1_0, .int .i64 a1_1, .int .i64 a1_2, .int .i64 a1_3]] w fun e w' => e = .returned (.int .i64 r) ∧ Below w.heap.size w w' := by
 have hu29 := Try.underlying29
 have hu41 := Try.underlying41
 have HR0_0 := am hr0_0
 have HC0_0 := am hc0_0
 clear hr0_0 hc0_0
 have HR0_1 := am hr0_1
 have HC0_1 := am hc0_1
 clear hr0_1 hc0_1
 have HB := am (Below.refl w.heap.size w)
 have H : (spec_psSame.l0 k l0_1 (l0_1.length : Int) 0 a1_0 a1_1 a1_2 a1_3) = some r := h
 clear h
 have H' := am H
 clear H
 go_enter Try.func36, Try.ntmps36
 go_wp2_with (first | ((with_reducible refine gate_dst (N := 2) rfl ?_); refine box_event ?hg (N := 2) ?hd (cs := #[.slice A0_0 l0_0.length c0_0, .slice A0_1 l0_1.length c0_1]) (t := 29) ?hr ?_; (case hd => rfl); (case hg => rfl); (case hr => first | (go_simp; done) | (go_simp; rfl)); intro gb104 hg w3 hbox hb; have BK104 := am (hbox); have GW104 := am (gq hg); have GE104 := am (gq hg); replace HB := sb hb; clear hb hbox hg) | ((with_reducible refine gate_dst (N := 3) rfl ?_); refine box_event ?hg (N := 3) ?hd (cs := #[.int .i64 a1_0, .int .i64 a1_1, .int .i64 a1_2, .int .i64 a1_3]) (t := 41) ?hr ?_; (case hd => rfl); (case hg => rfl); (case hr => first | (go_simp; done) | (go_simp; rfl)); intro gb105 hg w4 hbox hb; have BK105 := am (hbox); have GW105 := am (gq hg); have GE105 := am (gq hg); replace HB := sb hb; have NB104_105 := nl hg BK104; have NB105_104 := ng hg BK104; replace BK104 := zb BK104 hb; clear hb hbox hg; have hnb5 := NB104_105.out; have hnc5 := NB105_104.out; have ⟨hcz6_0, hcz6_1, hfz6_0, hfz6_1⟩ := bc2 BK104))
 go_loopg [10] k (fun kq v10 w' => ∃ (x10_1 : Int), v10 = .int .i64 x10_1 ∧ Aside0 (spec_psSame.l0 kq l0_1 (l0_1.length : Int) x10_1 a1_0 a1_1 a1_2 a1_3 = some r) ∧ Aside0 (kq ≤ k) ∧ Aside0 (w'.heap[gb104]? = some (.cells #[(.slice A0_0 l0_0.length c0_0), (.slice A0_1 l0_1.length c0_1)] 29 (0, 0))) ∧ Aside0 (w'.heap[gb105]? = some (.cells #[.int .i64 a1_0, .int .i64 a1_1, .int .i64 a1_2, .int .i64 a1_3] 41 (0, 0))) ∧ Aside0 (Below w.heap.size w w'))
 case atStart => exact ⟨(0), sq, H', ⟨Nat.le_refl _⟩, ⟨zq BK104⟩, ⟨zq BK105⟩, ⟨bq⟩⟩
 case round =>
  clear H'
  try clear hcz6_0 hcz6_1 hfz6_0 hfz6_1
  obtain ⟨x10_1, rfl, HA, HK1, BK104, BK105, HB⟩ := hrel
  cases gk with
  | zero => exact absurd HA.out (by simp [spec_psSame.l0])
  | succ k1 =>
   have H := HA.out
   clear HA
   simp only [spec_psSame.l0] at H
   by_cases c7 : x10_1 < (l0_1.length : Int)
   ·rw [if_pos c7] at H
    have c7b0 : decide (x10_1 < (l0_1.length : Int)) = true := decide_eq_true c7
    clear c7
    by_cases c8 : 0 ≤ x10_1
    ·rw [if_pos c8] at H
     have c8b0 : decide (0 ≤ x10_1) = true := decide_eq_true c8
     clear c8
     by_cases c9 : x10_1 < (l0_1.length : Int)
     ·rw [if_pos c9] at H
      have c9b0 : decide (x10_1 < (l0_1.length : Int)) = true := decide_eq_true c9
      clear c9
      by_cases c10 : ((rd_T41 l0_1 x10_1).f0) = a1_0
      ·rw [if_pos c10] at H
       have c10b0 : (((rd_T41 l0_1 x10_1).f0) == a1_0) = true := beq_iff_eq.mpr c10
       have c10b1 : (((rd_T41 l0_1 x10_1).f0) != a1_0) = false := bne_eq_false_iff_eq.mpr c10
       clear c10
       by_cases c11 : ((rd_T41 l0_1 x10_1).f1) = a1_1
       ·rw [if_pos c11] at H
        have c11b0 : (((rd_T41 l0_1 x10_1).f1) == a1_1) = true := beq_iff_eq.mpr c11
        have c11b1 : (((rd_T41 l0_1 x10_1).f1) != a1_1) = false := bne_eq_false_iff_eq.mpr c11
        clear c11
        by_cases c12 : ((rd_T41 l0_1 x10_1).f3) = a1_3
        ·rw [if_pos c12] at H
         have c12b0 : (((rd_T41 l0_1 x10_1).f3) == a1_3) = true := beq_iff_eq.mpr c12
         have c12b1 : (((rd_T41 l0_1 x10_1).f3) != a1_3) = false := bne_eq_false_iff_eq.mpr c12
         clear c12
         obtain rfl := Option.some.inj H
         have p106 : 0 ≤ (x10_1 : Int) := of_decide_eq_true aq
         have q106 : x10_1 < (l0_1.length : Int) := of_decide_eq_true aq
         obtain ⟨ad106, e106, hx106_0, hx106_1, hx106_2, hx106_3⟩ := at_T41 HR0_1.out x10_1 p106 q106
         cases e106
         replace hx106_0 := (HB.out.cell (World.block_lt_of_cell? w _ hx106_0)).trans hx106_0
         replace hx106_1 := (HB.out.cell (World.block_lt_of_cell? w _ hx106_1)).trans hx106_1
         replace hx106_2 := (HB.out.cell (World.block_lt_of_cell? w _ hx106_2)).trans hx106_2
         replace hx106_3 := (HB.out.cell (World.block_lt_of_cell? w _ hx106_3)).trans hx106_3
         replace p106 := eq_true p106
         replace q106 := eq_true q106
         go_wp2_with (first | ((with_reducible refine gate_dst (N := 6) rfl ?_); refine box_event ?hg (N := 6) ?hd (cs := #[.int .i64 0, .int .i64 0, .int .i64 0, .int .i64 0]) (t := 41) ?hr ?_; (case hd => rfl); (case hg => rfl); (case hr => first | (go_simp; done) | (go_simp; rfl)); intro gb107 hg w13 hbox hb; have BK107 := am (hbox); have GW107 := am (gq hg); have GE107 := am (gq hg); replace HB := sb hb; have NB104_107 := nl hg BK104; have NB107_104 := ng hg BK104; replace BK104 := zb BK104 hb; have NB105_107 := nl hg BK105; have NB107_105 := ng hg BK105; replace BK105 := zb BK105 hb; clear hb hbox hg; have hnb14 := NB107_104.out; have hnc14 := NB104_107.out; have hnb15 := NB107_105.out; have hnc15 := NB105_107.out; have ⟨hcz16_0, hcz16_1, hcz16_2, hcz16_3, hfz16_0, hfz16_1, hfz16_2, hfz16_3⟩ := bc4 BK107; have hnb17 := NB105_104.out; have hnc17 := NB104_105.out; have ⟨hcz18_0, hcz18_1, hcz18_2, hcz18_3, hfz18_0, hfz18_1, hfz18_2, hfz18_3⟩ := bc4 BK105))
         go_ret
         exact ⟨eq_, bq⟩
        ·rw [if_neg c12] at H
         have c12b0 : (((rd_T41 l0_1 x10_1).f3) == a1_3) = false := beq_eq_false_iff_ne.mpr c12
         have c12b1 : (((rd_T41 l0_1 x10_1).f3) != a1_3) = true := bne_iff_ne.mpr c12
         have H' := am H
         clear H
         have p106 : 0 ≤ (x10_1 : Int) := of_decide_eq_true aq
         have q106 : x10_1 < (l0_1.length : Int) := of_decide_eq_true aq
         obtain ⟨ad106, e106, hx106_0, hx106_1, hx106_2, hx106_3⟩ := at_T41 HR0_1.out x10_1 p106 q106
         cases e106
         replace hx106_0 := (HB.out.cell (World.block_lt_of_cell? w _ hx106_0)).trans hx106_0
         replace hx106_1 := (HB.out.cell (World.block_lt_of_cell? w _ hx106_1)).trans hx106_1
         replace hx106_2 := (HB.out.cell (World.block_lt_of_cell? w _ hx106_2)).trans hx106_2
         replace hx106_3 := (HB.out.cell (World.block_lt_of_cell? w _ hx106_3)).trans hx106_3
         replace p106 := eq_true p106
         replace q106 := eq_true q106
         go_wp2_with (first | ((with_reducible refine gate_dst (N := 6) rfl ?_); refine box_event ?hg (N := 6) ?hd (cs := #[.int .i64 0, .int .i64 0, .int .i64 0, .int .i64 0]) (t := 41) ?hr ?_; (case hd => rfl); (case hg => rfl); (case hr => first | (go_simp; done) | (go_simp; rfl)); intro gb107 hg w19 hbox hb; have BK107 := am (hbox); have GW107 := am (gq hg); have GE107 := am (gq hg); replace HB := sb hb; have NB104_107 := nl hg BK104; have NB107_104 := ng hg BK104; replace BK104 := zb BK104 hb; have NB105_107 := nl hg BK105; have NB107_105 := ng hg BK105; replace BK105 := zb BK105 hb; clear hb hbox hg; have hnb20 := NB107_104.out; have hnc20 := NB104_107.out; have hnb21 := NB107_105.out; have hnc21 := NB105_107.out; have ⟨hcz22_0, hcz22_1, hcz22_2, hcz22_3, hfz22_0, hfz22_1, hfz22_2, hfz22_3⟩ := bc4 BK107; have hnb23 := NB105_104.out; have hnc23 := NB104_105.out; have ⟨hcz24_0, hcz24_1, hcz24_2, hcz24_3, hfz24_0, hfz24_1, hfz24_2, hfz24_3⟩ := bc4 BK105))
         go_roundg k1
         case measure => have := HK1.out; omega
         case rel => exact ⟨(wrap64 (x10_1 + 1)), sq, H', ⟨by have := HK1.out; omega⟩, ⟨zp BK104⟩, ⟨zp BK105⟩, ⟨bq⟩⟩
       ·rw [if_neg c11] at H
        have c11b0 : (((rd_T41 l0_1 x10_1).f1) == a1_1) = false := beq_eq_false_iff_ne.mpr c11
        have c11b1 : (((rd_T41 l0_1 x10_1).f1) != a1_1) = true := bne_iff_ne.mpr c11
        have H' := am H
        clear H
        have p106 : 0 ≤ (x10_1 : Int) := of_decide_eq_true aq
        have q106 : x10_1 < (l0_1.length : Int) := of_decide_eq_true aq
        obtain ⟨ad106, e106, hx106_0, hx106_1, hx106_2, hx106_3⟩ := at_T41 HR0_1.out x10_1 p106 q106
        cases e106
        replace hx106_0 := (HB.out.cell (World.block_lt_of_cell? w _ hx106_0)).trans hx106_0
        replace hx106_1 := (HB.out.cell (World.block_lt_of_cell? w _ hx106_1)).trans hx106_1
        replace hx106_2 := (HB.out.cell (World.block_lt_of_cell? w _ hx106_2)).trans hx106_2
        replace hx106_3 := (HB.out.cell (World.block_lt_of_cell? w _ hx106_3)).trans hx106_3
        replace p106 := eq_true p106
        replace q106 := eq_true q106
        go_wp2_with (first | ((with_reducible refine gate_dst (N := 6) rfl ?_); refine box_event ?hg (N := 6) ?hd (cs := #[.int .i64 0, .int .i64 0, .int .i64 0, .int .i64 0]) (t := 41) ?hr ?_; (case hd => rfl); (case hg => rfl); (case hr => first | (go_simp; done) | (go_simp; rfl)); intro gb107 hg w25 hbox hb; have BK107 := am (hbox); have GW107 := am (gq hg); have GE107 := am (gq hg); replace HB := sb hb; have NB104_107 := nl hg BK104; have NB107_104 := ng hg BK104; replace BK104 := zb BK104 hb; have NB105_107 := nl hg BK105; have NB107_105 := ng hg BK105; replace BK105 := zb BK105 hb; clear hb hbox hg; have hnb26 := NB107_104.out; have hnc26 := NB104_107.out; have hnb27 := NB107_105.out; have hnc27 := NB105_107.out; have ⟨hcz28_0, hcz28_1, hcz28_2, hcz28_3, hfz28_0, hfz28_1, hfz28_2, hfz28_3⟩ := bc4 BK107; have hnb29 := NB105_104.out; have hnc29 := NB104_105.out; have ⟨hcz30_0, hcz30_1, hcz30_2, hcz30_3, hfz30_0, hfz30_1, hfz30_2, hfz30_3⟩ := bc4 BK105))
        go_roundg k1
        case measure => have := HK1.out; omega
        case rel => exact ⟨(wrap64 (x10_1 + 1)), sq, H', ⟨by have := HK1.out; omega⟩, ⟨zp BK104⟩, ⟨zp BK105⟩, ⟨bq⟩⟩
      ·rw [if_neg c10] at H
       have c10b0 : (((rd_T41 l0_1 x10_1).f0) == a1_0) = false := beq_eq_false_iff_ne.mpr c10
       have c10b1 : (((rd_T41 l0_1 x10_1).f0) != a1_0) = true := bne_iff_ne.mpr c10
       have H' := am H
       clear H
       have p106 : 0 ≤ (x10_1 : Int) := of_decide_eq_true aq
       have q106 : x10_1 < (l0_1.length : Int) := of_decide_eq_true aq
       obtain ⟨ad106, e106, hx106_0, hx106_1, hx106_2, hx106_3⟩ := at_T41 HR0_1.out x10_1 p106 q106
       cases e106
       replace hx106_0 := (HB.out.cell (World.block_lt_of_cell? w _ hx106_0)).trans hx106_0
       replace hx106_1 := (HB.out.cell (World.block_lt_of_cell? w _ hx106_1)).trans hx106_1
       replace hx106_2 := (HB.out.cell (World.block_lt_of_cell? w _ hx106_2)).trans hx106_2
       replace hx106_3 := (HB.out.cell (World.block_lt_of_cell? w _ hx106_3)).trans hx106_3
       replace p106 := eq_true p106
       replace q106 := eq_true q106
       go_wp2_with (first | ((with_reducible refine gate_dst (N := 6) rfl ?_); refine box_event ?hg (N := 6) ?hd (cs := #[.int .i64 0, .int .i64 0, .int .i64 0, .int .i64 0]) (t := 41) ?hr ?_; (case hd => rfl); (case hg => rfl); (case hr => first | (go_simp; done) | (go_simp; rfl)); intro gb107 hg w31 hbox hb; have BK107 := am (hbox); have GW107 := am (gq hg); have GE107 := am (gq hg); replace HB := sb hb; have NB104_107 := nl hg BK104; have NB107_104 := ng hg BK104; replace BK104 := zb BK104 hb; have NB105_107 := nl hg BK105; have NB107_105 := ng hg BK105; replace BK105 := zb BK105 hb; clear hb hbox hg; have hnb32 := NB107_104.out; have hnc32 := NB104_107.out; have hnb33 := NB107_105.out; have hnc33 := NB105_107.out; have ⟨hcz34_0, hcz34_1, hcz34_2, hcz34_3, hfz34_0, hfz34_1, hfz34_2, hfz34_3⟩ := bc4 BK107; have hnb35 := NB105_104.out; have hnc35 := NB104_105.out; have ⟨hcz36_0, hcz36_1, hcz36_2, hcz36_3, hfz36_0, hfz36_1, hfz36_2, hfz36_3⟩ := bc4 BK105))
       go_roundg k1
       case measure => have := HK1.out; omega
       case rel => exact ⟨(wrap64 (x10_1 + 1)), sq, H', ⟨by have := HK1.out; omega⟩, ⟨zp BK104⟩, ⟨zp BK105⟩, ⟨bq⟩⟩
     ·rw [if_neg c9] at H
      exact absurd H (by simp)
    ·rw [if_neg c8] at H
     exact absurd H (by simp)
   ·rw [if_neg c7] at H
    have c7b0 : decide (x10_1 < (l0_1.length : Int)) = false := decide_eq_false c7
    clear c7
    obtain rfl := Option.some.inj H
    go_wp2
    go_ret
    exact ⟨eq_, bq⟩


/-! ### spec_l1In: function 50 -/
def spec_l1In.f (a0 : Int) (a1 : Int) (a2 : Int) : Option (Bool) := if a0 ≥ a1 then (some (decide (a0 ≤ a2))) else (some false)
set_option maxHeartbeats 8000000 in
set_option maxRecDepth 100000 in
theorem spec_l1In.calls (a0 : Int) (a1 : Int) (a2 : Int) (r : Bool) (w : World) (h : spec_l1In.f a0 a1 a2 = some r) :
  Calls Try.prog 50 #[.int .i64 a0, .int .i64 a1, .int .i64 a2] w fun e w' => e = .returned (.bool r) ∧ Drawn0 w w' := by
 have H : (if a0 ≥ a1 then (some (decide (a0 ≤ a2))) else (some false)) = some r := h
 clear h
 by_cases c4 : a0 ≥ a1
 ·rw [if_pos c4] at H
  have c4b0 : decide (a1 ≤ a0) = true := decide_eq_true c4
  clear c4
  obtain rfl := Option.some.inj H
  go_enter Try.func50, Try.ntmps50
  go_wp2
  go_ret
  exact ⟨sq, by repeat (first | exact Drawn0.refl _ | apply Drawn0.step)⟩
 ·rw [if_neg c4] at H
  have c4b0 : decide (a1 ≤ a0) = false := decide_eq_false c4
  clear c4
  obtain rfl := Option.some.inj H
  go_enter Try.func50, Try.ntmps50
  go_wp2
  go_ret
  exact ⟨sq, by repeat (first | exact Drawn0.refl _ | apply Drawn0.step)⟩


/-! ### spec_psLoan: function 40 -/
def spec_psLoan.f (a0_0 : Int) (a0_1 : Int) (a0_2 : Int) (a0_3 : Int) : Option (Bool) := (spec_l1In.f a0_0 1 99).bind fun t109 => (if t109 = true then ((spec_l1In.f a0_1 1 7).bind fun t110 => (if t110 = true then ((spec_l1In.f a0_2 1 99).bind fun t111 => (if t111 = true then ((spec_l1In.f a0_3 0 999).bind fun t112 => (some t112)) else (some false))) else (some false))) else (some false))
set_option maxHeartbeats 8000000 in
set_option maxRecDepth 100000 in
theorem spec_psLoan.calls (a0_0 : Int) (a0_1 : Int) (a0_2 : Int) (a0_3 : Int) (r : Bool) (w : World) (h : spec_psLoan.f a0_0 a0_1 a0_2 a0_3 = some r) :
  Calls Try.prog 40 #[.agg #[.int .i64 a0_0, .int .i64 a0_1, .int .i64 a0_2, .int .i64 a0_3]] w fun e w' => e = .returned (.bool r) ∧ Below w.heap.size w w' := by
 have hu41 := Try.underlying41
 have HB := am (Below.refl w.heap.size w)
 have H : ((spec_l1In.f a0_0 1 99).bind fun t109 => (if t109 = true then ((spec_l1In.f a0_1 1 7).bind fun t110 => (if t110 = true then ((spec_l1In.f a0_2 1 99).bind fun t111 => (if t111 = true then ((spec_l1In.f a0_3 0 999).bind fun t112 => (some t112)) else (some false))) else (some false))) else (some false))) = some r := h
 clear h
 obtain ⟨t109, A2, H⟩ := bindq H
 try dsimp only at H
 by_cases c3 : t109 = true
 ·subst c3
  rw [if_pos rfl] at H
  try dsimp only at H
  obtain ⟨t110, A4, H⟩ := bindq H
  try dsimp only at H
  by_cases c5 : t110 = true
  ·subst c5
   rw [if_pos rfl] at H
   try dsimp only at H
   obtain ⟨t111, A6, H⟩ := bindq H
   try dsimp only at H
   by_cases c7 : t111 = true
   ·subst c7
    rw [if_pos rfl] at H
    try dsimp only at H
    obtain ⟨t112, A8, H⟩ := bindq H
    try dsimp only at H
    obtain rfl := Option.some.inj H
    go_enter Try.func40, Try.ntmps40
    go_wp2_with (first | ((with_reducible refine gate_dst (N := 1) rfl ?_); refine box_event ?hg (N := 1) ?hd (cs := #[.int .i64 a0_0, .int .i64 a0_1, .int .i64 a0_2, .int .i64 a0_3]) (t := 41) ?hr ?_; (case hd => rfl); (case hg => rfl); (case hr => first | (go_simp; done) | (go_simp; rfl)); intro gb108 hg w9 hbox hb; have BK108 := am (hbox); have GW108 := am (gq hg); have GE108 := am (gq hg); replace HB := sb hb; clear hb hbox hg; have ⟨hcz10_0, hcz10_1, hcz10_2, hcz10_3, hfz10_0, hfz10_1, hfz10_2, hfz10_3⟩ := bc4 BK108) | ((with_reducible refine gate_callee (f := 50) rfl ?_); refine goesQ (some 5) Try.func50 #[.int .i64 a0_0, .int .i64 1, .int .i64 99] ?_; (with_reducible refine (spec_l1In.calls a0_0 1 99 true _ A2.out).mono ?_); rintro e w' ⟨rfl, ⟨nd, rfl⟩⟩; refine ⟨_, rfl, ?_⟩) | (go_at_call 50; (with_reducible refine (spec_l1In.calls a0_1 1 7 true _ A4.out).mono ?_); rintro e w' ⟨rfl, ⟨nd, rfl⟩⟩) | (go_at_call 50; (with_reducible refine (spec_l1In.calls a0_2 1 99 true _ A6.out).mono ?_); rintro e w' ⟨rfl, ⟨nd, rfl⟩⟩) | (go_at_call 50; (with_reducible refine (spec_l1In.calls a0_3 0 999 t112 _ A8.out).mono ?_); rintro e w' ⟨rfl, ⟨nd, rfl⟩⟩))
    go_ret
    exact ⟨eq_, bq⟩
   ·replace c7 := Bool.eq_false_iff.mpr c7
    subst c7
    rw [if_neg (show ¬ (false = true) by decide)] at H
    try dsimp only at H
    obtain rfl := Option.some.inj H
    go_enter Try.func40, Try.ntmps40
    go_wp2_with (first | ((with_reducible refine gate_dst (N := 1) rfl ?_); refine box_event ?hg (N := 1) ?hd (cs := #[.int .i64 a0_0, .int .i64 a0_1, .int .i64 a0_2, .int .i64 a0_3]) (t := 41) ?hr ?_; (case hd => rfl); (case hg => rfl); (case hr => first | (go_simp; done) | (go_simp; rfl)); intro gb108 hg w11 hbox hb; have BK108 := am (hbox); have GW108 := am (gq hg); have GE108 := am (gq hg); replace HB := sb hb; clear hb hbox hg; have ⟨hcz12_0, hcz12_1, hcz12_2, hcz12_3, hfz12_0, hfz12_1, hfz12_2, hfz12_3⟩ := bc4 BK108) | ((with_reducible refine gate_callee (f := 50) rfl ?_); refine goesQ (some 5) Try.func50 #[.int .i64 a0_0, .int .i64 1, .int .i64 99] ?_; (with_reducible refine (spec_l1In.calls a0_0 1 99 true _ A2.out).mono ?_); rintro e w' ⟨rfl, ⟨nd, rfl⟩⟩; refine ⟨_, rfl, ?_⟩) | (go_at_call 50; (with_reducible refine (spec_l1In.calls a0_1 1 7 true _ A4.out).mono ?_); rintro e w' ⟨rfl, ⟨nd, rfl⟩⟩) | (go_at_call 50; (with_reducible refine (spec_l1In.calls a0_2 1 99 false _ A6.out).mono ?_); rintro e w' ⟨rfl, ⟨nd, rfl⟩⟩))
    go_ret
    exact ⟨eq_, bq⟩
  ·replace c5 := Bool.eq_false_iff.mpr c5
   subst c5
   rw [if_neg (show ¬ (false = true) by decide)] at H
   try dsimp only at H
   obtain rfl := Option.some.inj H
   go_enter Try.func40, Try.ntmps40
   go_wp2_with (first | ((with_reducible refine gate_dst (N := 1) rfl ?_); refine box_event ?hg (N := 1) ?hd (cs := #[.int .i64 a0_0, .int .i64 a0_1, .int .i64 a0_2, .int .i64 a0_3]) (t := 41) ?hr ?_; (case hd => rfl); (case hg => rfl); (case hr => first | (go_simp; done) | (go_simp; rfl)); intro gb108 hg w13 hbox hb; have BK108 := am (hbox); have GW108 := am (gq hg); have GE108 := am (gq hg); replace HB := sb hb; clear hb hbox hg; have ⟨hcz14_0, hcz14_1, hcz14_2, hcz14_3, hfz14_0, hfz14_1, hfz14_2, hfz14_3⟩ := bc4 BK108) | ((with_reducible refine gate_callee (f := 50) rfl ?_); refine goesQ (some 5) Try.func50 #[.int .i64 a0_0, .int .i64 1, .int .i64 99] ?_; (with_reducible refine (spec_l1In.calls a0_0 1 99 true _ A2.out).mono ?_); rintro e w' ⟨rfl, ⟨nd, rfl⟩⟩; refine ⟨_, rfl, ?_⟩) | (go_at_call 50; (with_reducible refine (spec_l1In.calls a0_1 1 7 false _ A4.out).mono ?_); rintro e w' ⟨rfl, ⟨nd, rfl⟩⟩))
   go_ret
   exact ⟨eq_, bq⟩
 ·replace c3 := Bool.eq_false_iff.mpr c3
  subst c3
  rw [if_neg (show ¬ (false = true) by decide)] at H
  try dsimp only at H
  obtain rfl := Option.some.inj H
  go_enter Try.func40, Try.ntmps40
  go_wp2_with (first | ((with_reducible refine gate_dst (N := 1) rfl ?_); refine box_event ?hg (N := 1) ?hd (cs := #[.int .i64 a0_0, .int .i64 a0_1, .int .i64 a0_2, .int .i64 a0_3]) (t := 41) ?hr ?_; (case hd => rfl); (case hg => rfl); (case hr => first | (go_simp; done) | (go_simp; rfl)); intro gb108 hg w15 hbox hb; have BK108 := am (hbox); have GW108 := am (gq hg); have GE108 := am (gq hg); replace HB := sb hb; clear hb hbox hg; have ⟨hcz16_0, hcz16_1, hcz16_2, hcz16_3, hfz16_0, hfz16_1, hfz16_2, hfz16_3⟩ := bc4 BK108) | ((with_reducible refine gate_callee (f := 50) rfl ?_); refine goesQ (some 5) Try.func50 #[.int .i64 a0_0, .int .i64 1, .int .i64 99] ?_; (with_reducible refine (spec_l1In.calls a0_0 1 99 false _ A2.out).mono ?_); rintro e w' ⟨rfl, ⟨nd, rfl⟩⟩; refine ⟨_, rfl, ?_⟩))
  go_ret
  exact ⟨eq_, bq⟩


/-! ### spec_l1All: function 53 -/
def spec_l1All.l0 : Nat → Int → Int → List Int → Int → Int → Option (Bool)
 | 0, _, _, _, _, _ => none
 | k + 1, x1, x2, x9, x10, x11 => if x11 < x10 then (if 0 ≤ x11 then (if x11 < (x9.length : Int) then ((spec_l1In.f (rd x9 x11) x1 x2).bind fun t114 => (if t114 = true then (spec_l1All.l0 k x1 x2 x9 x10 (wrap64 (x11 + 1))) else (some false))) else (none)) else (none)) else (some true)
def spec_l1All.f (k : Nat) (l0 : List Int) (a1 : Int) (a2 : Int) : Option (Bool) := spec_l1All.l0 k a1 a2 l0 (l0.length : Int) 0
theorem spec_l1All.mono_l : ∀ k, (∀ y0 y1 y2 y3 y4, LeO (spec_l1All.l0 k y0 y1 y2 y3 y4) (spec_l1All.l0 (k + 1) y0 y1 y2 y3 y4))
 | 0 => fun _ _ _ _ _ r h => by simp [spec_l1All.l0] at h
 | k + 1 => by
  have ih0 := spec_l1All.mono_l k
  ·intro y0 y1 y2 y3 y4
   unfold spec_l1All.l0
   repeat' first
   | (with_reducible exact ih0 _ _ _ _ _)
   | (with_reducible exact LeO.refl _)
   | (with_reducible exact LeO.none _)
   | (with_reducible refine LeO.ite ?_ ?_)
   | (with_reducible refine LeO.bind ?_ (fun _ => ?_))
   | exact ih0 _ _ _ _ _
   | exact LeO.none _
   | refine LeO.ite ?_ ?_
   | refine LeO.bind ?_ (fun _ => ?_)
theorem spec_l1All.mono : ∀ a0 a1 a2 k, LeO (spec_l1All.f k a0 a1 a2) (spec_l1All.f (k + 1) a0 a1 a2) := by
 intro a0 a1 a2 k
 have ih0 := spec_l1All.mono_l k
 unfold spec_l1All.f
 repeat' first
   | (with_reducible exact ih0 _ _ _ _ _)
   | (with_reducible exact LeO.refl _)
   | (with_reducible exact LeO.none _)
   | (with_reducible refine LeO.ite ?_ ?_)
   | (with_reducible refine LeO.bind ?_ (fun _ => ?_))
   | exact ih0 _ _ _ _ _
   | exact LeO.none _
   | refine LeO.ite ?_ ?_
   | refine LeO.bind ?_ (fun _ => ?_)
set_option maxHeartbeats 8000000 in
set_option maxRecDepth 100000 in
theorem spec_l1All.calls (k : Nat) (A0 : Option Addr) (c0 : Nat) (l0 : List Int) (a1 : Int) (a2 : Int) (r : Bool) (w : World) (hr0 : Kd.C (Kd.int .i64) w A0 l0.length l0) (hc0 : l0.length ≤ c0) (h : spec_l1All.f k l0 a1 a2 = some r) :
  Calls Try.prog 53 #[.slice A0 l0.length c0, .int .i64 a1, .int .i64 a2] w fun e w' => e = .returned (.bool r) ∧ Drawn0 w w' := by
 have HR0 := am hr0
 have HC0 := am hc0
 clear hr0 hc0
 have H : (spec_l1All.l0 k a1 a2 l0 (l0.length : Int) 0) = some r := h
 clear h
 have H' := am H
 clear H
 go_enter Try.func53, Try.ntmps53
 go_wp2
 go_loopg [11] k (fun kq v11 w' => ∃ (x11_1 : Int), v11 = .int .i64 x11_1 ∧ Aside0 (spec_l1All.l0 kq a1 a2 l0 (l0.length : Int) x11_1 = some r) ∧ Aside0 (kq ≤ k) ∧ Drawn0 w w')
 case atStart => exact ⟨(0), sq, H', ⟨Nat.le_refl _⟩, by repeat (first | exact Drawn0.refl _ | apply Drawn0.step)⟩
 case round =>
  clear H'
  obtain ⟨x11_1, rfl, HA, HK1, ⟨m1, rfl⟩⟩ := hrel
  cases gk with
  | zero => exact absurd HA.out (by simp [spec_l1All.l0])
  | succ k1 =>
   have H := HA.out
   clear HA
   simp only [spec_l1All.l0] at H
   by_cases c4 : x11_1 < (l0.length : Int)
   ·rw [if_pos c4] at H
    have c4b0 : decide (x11_1 < (l0.length : Int)) = true := decide_eq_true c4
    clear c4
    by_cases c5 : 0 ≤ x11_1
    ·rw [if_pos c5] at H
     have c5b0 : decide (0 ≤ x11_1) = true := decide_eq_true c5
     clear c5
     by_cases c6 : x11_1 < (l0.length : Int)
     ·rw [if_pos c6] at H
      have c6b0 : decide (x11_1 < (l0.length : Int)) = true := decide_eq_true c6
      clear c6
      obtain ⟨t114, A7, H⟩ := bindq H
      try dsimp only at H
      by_cases c8 : t114 = true
      ·subst c8
       rw [if_pos rfl] at H
       try dsimp only at H
       have H' := am H
       clear H
       have p113 : 0 ≤ (x11_1 : Int) := of_decide_eq_true aq
       have q113 : x11_1 < (l0.length : Int) := of_decide_eq_true aq
       obtain ⟨ad113, e113, hx113_0⟩ := Kd.at_int HR0.out x11_1 p113 q113
       cases e113
       replace p113 := eq_true p113
       replace q113 := eq_true q113
       go_wp2_with (first | ((with_reducible refine gate_callee (f := 50) rfl ?_); refine goesQ (some 18) Try.func50 #[.int .i64 (rd l0 x11_1), .int .i64 a1, .int .i64 a2] ?_; (with_reducible refine (spec_l1In.calls (rd l0 x11_1) a1 a2 true _ A7.out).mono ?_); rintro e w' ⟨rfl, ⟨nd, rfl⟩⟩; refine ⟨_, rfl, ?_⟩))
       go_roundg k1
       case measure => have := HK1.out; omega
       case rel => exact ⟨(wrap64 (x11_1 + 1)), sq, H', ⟨by have := HK1.out; omega⟩, by repeat (first | exact Drawn0.refl _ | apply Drawn0.step)⟩
      ·replace c8 := Bool.eq_false_iff.mpr c8
       subst c8
       rw [if_neg (show ¬ (false = true) by decide)] at H
       try dsimp only at H
       obtain rfl := Option.some.inj H
       have p113 : 0 ≤ (x11_1 : Int) := of_decide_eq_true aq
       have q113 : x11_1 < (l0.length : Int) := of_decide_eq_true aq
       obtain ⟨ad113, e113, hx113_0⟩ := Kd.at_int HR0.out x11_1 p113 q113
       cases e113
       replace p113 := eq_true p113
       replace q113 := eq_true q113
       go_wp2_with (first | ((with_reducible refine gate_callee (f := 50) rfl ?_); refine goesQ (some 18) Try.func50 #[.int .i64 (rd l0 x11_1), .int .i64 a1, .int .i64 a2] ?_; (with_reducible refine (spec_l1In.calls (rd l0 x11_1) a1 a2 false _ A7.out).mono ?_); rintro e w' ⟨rfl, ⟨nd, rfl⟩⟩; refine ⟨_, rfl, ?_⟩))
       go_ret
       exact ⟨sq, by repeat (first | exact Drawn0.refl _ | apply Drawn0.step)⟩
     ·rw [if_neg c6] at H
      exact absurd H (by simp)
    ·rw [if_neg c5] at H
     exact absurd H (by simp)
   ·rw [if_neg c4] at H
    have c4b0 : decide (x11_1 < (l0.length : Int)) = false := decide_eq_false c4
    clear c4
    obtain rfl := Option.some.inj H
    go_wp2
    go_ret
    exact ⟨sq, by repeat (first | exact Drawn0.refl _ | apply Drawn0.step)⟩


/-! ### spec_psGood: function 39 -/
def spec_psGood.l0 : Nat → List (S41) → Int → Int → List Int → List (S41) → Option (Bool)
 | 0, _, _, _, _, _ => none
 | k + 1, x6, x7, x8, x116000, x116001 => if x8 < x7 then (if 0 ≤ x8 then (if x8 < (x6.length : Int) then ((spec_psLoan.f ((rd_T41 x6 x8).f0) ((rd_T41 x6 x8).f1) ((rd_T41 x6 x8).f2) ((rd_T41 x6 x8).f3)).bind fun t120 => (if t120 = true then ((spec_psSame.f k x116000 x116001 ((rd_T41 x6 x8).f0) ((rd_T41 x6 x8).f1) ((rd_T41 x6 x8).f2) ((rd_T41 x6 x8).f3)).bind fun t121 => (if t121 = x8 then (spec_psGood.l0 k x6 x7 (wrap64 (x8 + 1)) x116000 x116001) else (some false))) else (some false))) else (none)) else (none)) else (if (x116000.length : Int) = 8 then ((spec_l1All.f k x116000 0 999).bind fun t116 => (if t116 = true then (if 0 < (x116000.length : Int) then (if (rd x116000 0) = 0 then (some (decide ((x116001.length : Int) ≤ 20))) else (some false)) else (none)) else (some false))) else (some false))
def spec_psGood.f (k : Nat) (l0_0 : List Int) (l0_1 : List (S41)) : Option (Bool) := spec_psGood.l0 k l0_1 (l0_1.length : Int) 0 l0_0 l0_1
theorem spec_psGood.mono_l : ∀ k, (∀ y0 y1 y2 y3 y4, LeO (spec_psGood.l0 k y0 y1 y2 y3 y4) (spec_psGood.l0 (k + 1) y0 y1 y2 y3 y4))
 | 0 => fun _ _ _ _ _ r h => by simp [spec_psGood.l0] at h
 | k + 1 => by
  have ih0 := spec_psGood.mono_l k
  ·intro y0 y1 y2 y3 y4
   unfold spec_psGood.l0
   repeat' first
   | (with_reducible exact ih0 _ _ _ _ _)
   | (with_reducible exact spec_l1All.mono _ _ _ _)
   | (with_reducible exact spec_psSame.mono _ _ _ _ _ _ _)
   | (with_reducible exact LeO.refl _)
   | (with_reducible exact LeO.none _)
   | (with_reducible refine LeO.ite ?_ ?_)
   | (with_reducible refine LeO.bind ?_ (fun _ => ?_))
   | exact ih0 _ _ _ _ _
   | exact spec_l1All.mono _ _ _ _
   | exact spec_psSame.mono _ _ _ _ _ _ _
   | exact LeO.none _
   | refine LeO.ite ?_ ?_
   | refine LeO.bind ?_ (fun _ => ?_)
theorem spec_psGood.mono : ∀ a0 a1 k, LeO (spec_psGood.f k a0 a1) (spec_psGood.f (k + 1) a0 a1) := by
 intro a0 a1 k
 have ih0 := spec_psGood.mono_l k
 unfold spec_psGood.f
 repeat' first
   | (with_reducible exact ih0 _ _ _ _ _)
   | (with_reducible exact spec_l1All.mono _ _ _ _)
   | (with_reducible exact spec_psSame.mono _ _ _ _ _ _ _)
   | (with_reducible exact LeO.refl _)
   | (with_reducible exact LeO.none _)
   | (with_reducible refine LeO.ite ?_ ?_)
   | (with_reducible refine LeO.bind ?_ (fun _ => ?_))
   | exact ih0 _ _ _ _ _
   | exact spec_l1All.mono _ _ _ _
   | exact spec_psSame.mono _ _ _ _ _ _ _
   | exact LeO.none _
   | refine LeO.ite ?_ ?_
   | refine LeO.bind ?_ (fun _ => ?_)
set_option maxHeartbeats 8000000 in
set_option maxRecDepth 100000 in
theorem spec_psGood.calls (k : Nat) (A0_0 : Option Addr) (c0_0 : Nat) (l0_0 : List Int) (A0_1 : Option Addr) (c0_1 : Nat) (l0_1 : List (S41)) (r : Bool) (w : World) (hr0_0 : Kd.C (Kd.int .i64) w A0_0 l0_0.length l0_0) (hc0_0 : l0_0.length ≤ c0_0) (hr0_1 : Kd.C k41 w A0_1 l0_1.length l0_1) (hc0_1 : l0_1.length ≤ c0_1) (h : spec_psGood.f k l0_0 l0_1 = some r) :
  Calls Try.prog 39 #[.agg #[.slice A0_0 l0_0.length c0_0, .slice A0_1 l0_1.length c0_1]] w fun e w' => e = .returned (.bool r) ∧ Below w.heap.size w w' := by
 have hu29 := Try.underlying29
 have hu41 := Try.underlying41
 have HR0_0 := am hr0_0
 have HC0_0 := am hc0_0
 clear hr0_0 hc0_0
 have HR0_1 := am hr0_1
 have HC0_1 := am hc0_1
 clear hr0_1 hc0_1
 have HB := am (Below.refl w.heap.size w)
 have H : (spec_psGood.l0 k l0_1 (l0_1.length : Int) 0 l0_0 l0_1) = some r := h
 clear h
 have H' := am H
 clear H
 go_enter Try.func39, Try.ntmps39
 go_wp2_with (first | ((with_reducible refine gate_dst (N := 1) rfl ?_); (try (refine gate_guard (by rfl) ?_; dsimp only)); refine box_event ?hg (N := 1) ?hd (cs := #[.slice A0_0 l0_0.length c0_0, .slice A0_1 l0_1.length c0_1]) (t := 29) ?hr ?_; (case hd => rfl); (case hg => rfl); (case hr => first | (go_simp; done) | (go_simp; rfl)); intro gb115 hg w2 hbox hb; have BK115 := am (hbox); have GW115 := am (gq hg); have GE115 := am (gq hg); replace HB := sb hb; clear hb hbox hg; have ⟨hcz3_0, hcz3_1, hfz3_0, hfz3_1⟩ := bc2 BK115))
 go_loopg [8] k (fun kq v8 w' => ∃ (x8_1 : Int), v8 = .int .i64 x8_1 ∧ Aside0 (spec_psGood.l0 kq l0_1 (l0_1.length : Int) x8_1 l0_0 l0_1 = some r) ∧ Aside0 (kq ≤ k) ∧ Aside0 (w'.heap[gb115]? = some (.cells #[(.slice A0_0 l0_0.length c0_0), (.slice A0_1 l0_1.length c0_1)] 29 (0, 0))) ∧ Aside0 (Below w.heap.size w w'))
 case atStart => exact ⟨(0), sq, H', ⟨Nat.le_refl _⟩, ⟨zq BK115⟩, ⟨bq⟩⟩
 case round =>
  clear H'
  try clear hcz3_0 hcz3_1 hfz3_0 hfz3_1
  obtain ⟨x8_1, rfl, HA, HK1, BK115, HB⟩ := hrel
  cases gk with
  | zero => exact absurd HA.out (by simp [spec_psGood.l0])
  | succ k1 =>
   have H := HA.out
   clear HA
   simp only [spec_psGood.l0] at H
   by_cases c4 : x8_1 < (l0_1.length : Int)
   ·rw [if_pos c4] at H
    have c4b0 : decide (x8_1 < (l0_1.length : Int)) = true := decide_eq_true c4
    clear c4
    by_cases c5 : 0 ≤ x8_1
    ·rw [if_pos c5] at H
     have c5b0 : decide (0 ≤ x8_1) = true := decide_eq_true c5
     clear c5
     by_cases c6 : x8_1 < (l0_1.length : Int)
     ·rw [if_pos c6] at H
      have c6b0 : decide (x8_1 < (l0_1.length : Int)) = true := decide_eq_true c6
      clear c6
      obtain ⟨t120, A7, H⟩ := bindq H
      try dsimp only at H
      by_cases c8 : t120 = true
      ·subst c8
       rw [if_pos rfl] at H
       try dsimp only at H
       obtain ⟨t121, A9, H⟩ := bindq H
       try dsimp only at H
       by_cases c10 : t121 = x8_1
       ·rw [if_pos c10] at H
        have c10b0 : (t121 == x8_1) = true := beq_iff_eq.mpr c10
        have c10b1 : (t121 != x8_1) = false := bne_eq_false_iff_eq.mpr c10
        clear c10
        have H' := am H
        clear H
        have p118 : 0 ≤ (x8_1 : Int) := of_decide_eq_true aq
        have q118 : x8_1 < (l0_1.length : Int) := of_decide_eq_true aq
        obtain ⟨ad118, e118, hx118_0, hx118_1, hx118_2, hx118_3⟩ := at_T41 HR0_1.out x8_1 p118 q118
        cases e118
        replace hx118_0 := (HB.out.cell (World.block_lt_of_cell? w _ hx118_0)).trans hx118_0
        replace hx118_1 := (HB.out.cell (World.block_lt_of_cell? w _ hx118_1)).trans hx118_1
        replace hx118_2 := (HB.out.cell (World.block_lt_of_cell? w _ hx118_2)).trans hx118_2
        replace hx118_3 := (HB.out.cell (World.block_lt_of_cell? w _ hx118_3)).trans hx118_3
        replace p118 := eq_true p118
        replace q118 := eq_true q118
        go_wp2_with (first | ((with_reducible refine gate_dst (N := 4) rfl ?_); (try (refine gate_guard (by rfl) ?_; dsimp only)); refine box_event ?hg (N := 4) ?hd (cs := #[.int .i64 0, .int .i64 0, .int .i64 0, .int .i64 0]) (t := 41) ?hr ?_; (case hd => rfl); (case hg => rfl); (case hr => first | (go_simp; done) | (go_simp; rfl)); intro gb119 hg w11 hbox hb; have BK119 := am (hbox); have GW119 := am (gq hg); have GE119 := am (gq hg); replace HB := sb hb; have NB115_119 := nl hg BK115; have NB119_115 := ng hg BK115; replace BK115 := zb BK115 hb; clear hb hbox hg; have hnb12 := NB119_115.out; have hnc12 := NB115_119.out; have ⟨hcz13_0, hcz13_1, hcz13_2, hcz13_3, hfz13_0, hfz13_1, hfz13_2, hfz13_3⟩ := bc4 BK119) | ((with_reducible refine gate_callee (f := 40) rfl ?_); refine goesQ (some 14) Try.func40 #[.agg #[.int .i64 ((rd_T41 l0_1 x8_1).f0), .int .i64 ((rd_T41 l0_1 x8_1).f1), .int .i64 ((rd_T41 l0_1 x8_1).f2), .int .i64 ((rd_T41 l0_1 x8_1).f3)]] ?_; (with_reducible refine (spec_psLoan.calls ((rd_T41 l0_1 x8_1).f0) ((rd_T41 l0_1 x8_1).f1) ((rd_T41 l0_1 x8_1).f2) ((rd_T41 l0_1 x8_1).f3) true _ A7.out).mono ?_); rintro e w14 ⟨rfl, hb⟩; refine ⟨_, rfl, ?_⟩; replace BK115 := am (blk_below (g := gb115) (o := .cells #[.slice A0_0 l0_0.length c0_0, .slice (some ad118) l0_1.length c0_1] 29 (0, 0)) (zp BK115) hb); replace BK119 := am (blk_below (g := gb119) (o := .cells #[.int .i64 ((rd_T41 l0_1 x8_1).f0), .int .i64 ((rd_T41 l0_1 x8_1).f1), .int .i64 ((rd_T41 l0_1 x8_1).f2), .int .i64 ((rd_T41 l0_1 x8_1).f3)] 41 (0, 0)) (zp BK119) hb); replace HB := sb hb; (try clear hb); have ⟨hcz15_0, hcz15_1, hfz15_0, hfz15_1⟩ := bc2 BK115; have ⟨hcz16_0, hcz16_1, hcz16_2, hcz16_3, hfz16_0, hfz16_1, hfz16_2, hfz16_3⟩ := bc4 BK119) | (go_at_call 36; (with_reducible refine (spec_psSame.calls k1 _ _ l0_0 _ _ l0_1 ((rd_T41 l0_1 x8_1).f0) ((rd_T41 l0_1 x8_1).f1) ((rd_T41 l0_1 x8_1).f2) ((rd_T41 l0_1 x8_1).f3) t121 _ ?s1 ?s2 ?s3 ?s4 A9.out).mono ?_); (case s1 => exact cq (Kd.C_below HR0_0.out HB.out)); (case s2 => exact HC0_0.out); (case s3 => exact cq (Kd.C_below HR0_1.out HB.out)); (case s4 => exact HC0_1.out); rintro e w17 ⟨rfl, hb⟩; replace BK115 := zb BK115 hb; replace BK119 := zb BK119 hb; replace HB := sb hb; (try clear hb)))
        go_roundg k1
        case measure => have := HK1.out; omega
        case rel => exact ⟨(wrap64 (x8_1 + 1)), sq, H', ⟨by have := HK1.out; omega⟩, ⟨zq BK115⟩, ⟨bq⟩⟩
       ·rw [if_neg c10] at H
        have c10b0 : (t121 == x8_1) = false := beq_eq_false_iff_ne.mpr c10
        have c10b1 : (t121 != x8_1) = true := bne_iff_ne.mpr c10
        obtain rfl := Option.some.inj H
        have p118 : 0 ≤ (x8_1 : Int) := of_decide_eq_true aq
        have q118 : x8_1 < (l0_1.length : Int) := of_decide_eq_true aq
        obtain ⟨ad118, e118, hx118_0, hx118_1, hx118_2, hx118_3⟩ := at_T41 HR0_1.out x8_1 p118 q118
        cases e118
        replace hx118_0 := (HB.out.cell (World.block_lt_of_cell? w _ hx118_0)).trans hx118_0
        replace hx118_1 := (HB.out.cell (World.block_lt_of_cell? w _ hx118_1)).trans hx118_1
        replace hx118_2 := (HB.out.cell (World.block_lt_of_cell? w _ hx118_2)).trans hx118_2
        replace hx118_3 := (HB.out.cell (World.block_lt_of_cell? w _ hx118_3)).trans hx118_3
        replace p118 := eq_true p118
        replace q118 := eq_true q118
        go_wp2_with (first | ((with_reducible refine gate_dst (N := 4) rfl ?_); (try (refine gate_guard (by rfl) ?_; dsimp only)); refine box_event ?hg (N := 4) ?hd (cs := #[.int .i64 0, .int .i64 0, .int .i64 0, .int .i64 0]) (t := 41) ?hr ?_; (case hd => rfl); (case hg => rfl); (case hr => first | (go_simp; done) | (go_simp; rfl)); intro gb119 hg w18 hbox hb; have BK119 := am (hbox); have GW119 := am (gq hg); have GE119 := am (gq hg); replace HB := sb hb; have NB115_119 := nl hg BK115; have NB119_115 := ng hg BK115; replace BK115 := zb BK115 hb; clear hb hbox hg; have hnb19 := NB119_115.out; have hnc19 := NB115_119.out; have ⟨hcz20_0, hcz20_1, hcz20_2, hcz20_3, hfz20_0, hfz20_1, hfz20_2, hfz20_3⟩ := bc4 BK119) | ((with_reducible refine gate_callee (f := 40) rfl ?_); refine goesQ (some 14) Try.func40 #[.agg #[.int .i64 ((rd_T41 l0_1 x8_1).f0), .int .i64 ((rd_T41 l0_1 x8_1).f1), .int .i64 ((rd_T41 l0_1 x8_1).f2), .int .i64 ((rd_T41 l0_1 x8_1).f3)]] ?_; (with_reducible refine (spec_psLoan.calls ((rd_T41 l0_1 x8_1).f0) ((rd_T41 l0_1 x8_1).f1) ((rd_T41 l0_1 x8_1).f2) ((rd_T41 l0_1 x8_1).f3) true _ A7.out).mono ?_); rintro e w21 ⟨rfl, hb⟩; refine ⟨_, rfl, ?_⟩; replace BK115 := am (blk_below (g := gb115) (o := .cells #[.slice A0_0 l0_0.length c0_0, .slice (some ad118) l0_1.length c0_1] 29 (0, 0)) (zp BK115) hb); replace BK119 := am (blk_below (g := gb119) (o := .cells #[.int .i64 ((rd_T41 l0_1 x8_1).f0), .int .i64 ((rd_T41 l0_1 x8_1).f1), .int .i64 ((rd_T41 l0_1 x8_1).f2), .int .i64 ((rd_T41 l0_1 x8_1).f3)] 41 (0, 0)) (zp BK119) hb); replace HB := sb hb; (try clear hb); have ⟨hcz22_0, hcz22_1, hfz22_0, hfz22_1⟩ := bc2 BK115; have ⟨hcz23_0, hcz23_1, hcz23_2, hcz23_3, hfz23_0, hfz23_1, hfz23_2, hfz23_3⟩ := bc4 BK119) | (go_at_call 36; (with_reducible refine (spec_psSame.calls k1 _ _ l0_0 _ _ l0_1 ((rd_T41 l0_1 x8_1).f0) ((rd_T41 l0_1 x8_1).f1) ((rd_T41 l0_1 x8_1).f2) ((rd_T41 l0_1 x8_1).f3) t121 _ ?s1 ?s2 ?s3 ?s4 A9.out).mono ?_); (case s1 => exact cq (Kd.C_below HR0_0.out HB.out)); (case s2 => exact HC0_0.out); (case s3 => exact cq (Kd.C_below HR0_1.out HB.out)); (case s4 => exact HC0_1.out); rintro e w24 ⟨rfl, hb⟩; replace BK115 := zb BK115 hb; replace BK119 := zb BK119 hb; replace HB := sb hb; (try clear hb)))
        go_ret
        exact ⟨eq_, bq⟩
      ·replace c8 := Bool.eq_false_iff.mpr c8
       subst c8
       rw [if_neg (show ¬ (false = true) by decide)] at H
       try dsimp only at H
       obtain rfl := Option.some.inj H
       have p118 : 0 ≤ (x8_1 : Int) := of_decide_eq_true aq
       have q118 : x8_1 < (l0_1.length : Int) := of_decide_eq_true aq
       obtain ⟨ad118, e118, hx118_0, hx118_1, hx118_2, hx118_3⟩ := at_T41 HR0_1.out x8_1 p118 q118
       cases e118
       replace hx118_0 := (HB.out.cell (World.block_lt_of_cell? w _ hx118_0)).trans hx118_0
       replace hx118_1 := (HB.out.cell (World.block_lt_of_cell? w _ hx118_1)).trans hx118_1
       replace hx118_2 := (HB.out.cell (World.block_lt_of_cell? w _ hx118_2)).trans hx118_2
       replace hx118_3 := (HB.out.cell (World.block_lt_of_cell? w _ hx118_3)).trans hx118_3
       replace p118 := eq_true p118
       replace q118 := eq_true q118
       go_wp2_with (first | ((with_reducible refine gate_dst (N := 4) rfl ?_); (try (refine gate_guard (by rfl) ?_; dsimp only)); refine box_event ?hg (N := 4) ?hd (cs := #[.int .i64 0, .int .i64 0, .int .i64 0, .int .i64 0]) (t := 41) ?hr ?_; (case hd => rfl); (case hg => rfl); (case hr => first | (go_simp; done) | (go_simp; rfl)); intro gb119 hg w25 hbox hb; have BK119 := am (hbox); have GW119 := am (gq hg); have GE119 := am (gq hg); replace HB := sb hb; have NB115_119 := nl hg BK115; have NB119_115 := ng hg BK115; replace BK115 := zb BK115 hb; clear hb hbox hg; have hnb26 := NB119_115.out; have hnc26 := NB115_119.out; have ⟨hcz27_0, hcz27_1, hcz27_2, hcz27_3, hfz27_0, hfz27_1, hfz27_2, hfz27_3⟩ := bc4 BK119) | ((with_reducible refine gate_callee (f := 40) rfl ?_); refine goesQ (some 14) Try.func40 #[.agg #[.int .i64 ((rd_T41 l0_1 x8_1).f0), .int .i64 ((rd_T41 l0_1 x8_1).f1), .int .i64 ((rd_T41 l0_1 x8_1).f2), .int .i64 ((rd_T41 l0_1 x8_1).f3)]] ?_; (with_reducible refine (spec_psLoan.calls ((rd_T41 l0_1 x8_1).f0) ((rd_T41 l0_1 x8_1).f1) ((rd_T41 l0_1 x8_1).f2) ((rd_T41 l0_1 x8_1).f3) false _ A7.out).mono ?_); rintro e w28 ⟨rfl, hb⟩; refine ⟨_, rfl, ?_⟩; replace BK115 := am (blk_below (g := gb115) (o := .cells #[.slice A0_0 l0_0.length c0_0, .slice (some ad118) l0_1.length c0_1] 29 (0, 0)) (zp BK115) hb); replace BK119 := am (blk_below (g := gb119) (o := .cells #[.int .i64 ((rd_T41 l0_1 x8_1).f0), .int .i64 ((rd_T41 l0_1 x8_1).f1), .int .i64 ((rd_T41 l0_1 x8_1).f2), .int .i64 ((rd_T41 l0_1 x8_1).f3)] 41 (0, 0)) (zp BK119) hb); replace HB := sb hb; (try clear hb)))
       go_ret
       exact ⟨eq_, bq⟩
     ·rw [if_neg c6] at H
      exact absurd H (by simp)
    ·rw [if_neg c5] at H
     exact absurd H (by simp)
   ·rw [if_neg c4] at H
    have c4b0 : decide (x8_1 < (l0_1.length : Int)) = false := decide_eq_false c4
    clear c4
    by_cases c29 : (l0_0.length : Int) = 8
    ·rw [if_pos c29] at H
     have c29b0 : ((l0_0.length : Int) == 8) = true := beq_iff_eq.mpr c29
     have c29b1 : ((l0_0.length : Int) != 8) = false := bne_eq_false_iff_eq.mpr c29
     clear c29
     obtain ⟨t116, A30, H⟩ := bindq H
     try dsimp only at H
     by_cases c31 : t116 = true
     ·subst c31
      rw [if_pos rfl] at H
      try dsimp only at H
      by_cases c32 : 0 < (l0_0.length : Int)
      ·rw [if_pos c32] at H
       have c32b0 : decide (0 < (l0_0.length : Int)) = true := decide_eq_true c32
       have c32b1 : decide (0 < l0_0.length) = true := decide_eq_true (by omega)
       clear c32
       by_cases c33 : (rd l0_0 0) = 0
       ·rw [if_pos c33] at H
        have c33b0 : ((rd l0_0 0) == 0) = true := beq_iff_eq.mpr c33
        have c33b1 : ((rd l0_0 0) != 0) = false := bne_eq_false_iff_eq.mpr c33
        clear c33
        obtain rfl := Option.some.inj H
        have ⟨hcz34_0, hcz34_1, hfz34_0, hfz34_1⟩ := bc2 BK115
        go_wp2_with (first | (go_at_call 53; (with_reducible refine (spec_l1All.calls k1 _ _ l0_0 0 999 true _ ?s1 ?s2 A30.out).mono ?_); (case s1 => exact cq (Kd.C_below HR0_0.out HB.out)); (case s2 => exact HC0_0.out); rintro e w' ⟨rfl, ⟨nd, rfl⟩⟩; have p117 : 0 ≤ (0 : Int) := (by omega); have q117 : 0 < (l0_0.length : Int) := of_decide_eq_true aq; obtain ⟨ad117, e117, hx117_0⟩ := Kd.at_int HR0_0.out 0 p117 q117; cases e117; have qi117 : (0 < l0_0.length) = True := eq_true (by omega); (try rw [show ((0 : Int)).toNat = 0 from rfl] at hx117_0); (try rw [Addr.add_zero'] at hx117_0); replace hx117_0 := (HB.out.cell (World.block_lt_of_cell? w _ hx117_0)).trans hx117_0; replace p117 := eq_true p117; replace q117 := eq_true q117))
        go_ret
        exact ⟨eq_, bq⟩
       ·rw [if_neg c33] at H
        have c33b0 : ((rd l0_0 0) == 0) = false := beq_eq_false_iff_ne.mpr c33
        have c33b1 : ((rd l0_0 0) != 0) = true := bne_iff_ne.mpr c33
        obtain rfl := Option.some.inj H
        have ⟨hcz35_0, hcz35_1, hfz35_0, hfz35_1⟩ := bc2 BK115
        go_wp2_with (first | (go_at_call 53; (with_reducible refine (spec_l1All.calls k1 _ _ l0_0 0 999 true _ ?s1 ?s2 A30.out).mono ?_); (case s1 => exact cq (Kd.C_below HR0_0.out HB.out)); (case s2 => exact HC0_0.out); rintro e w' ⟨rfl, ⟨nd, rfl⟩⟩; have p117 : 0 ≤ (0 : Int) := (by omega); have q117 : 0 < (l0_0.length : Int) := of_decide_eq_true aq; obtain ⟨ad117, e117, hx117_0⟩ := Kd.at_int HR0_0.out 0 p117 q117; cases e117; have qi117 : (0 < l0_0.length) = True := eq_true (by omega); (try rw [show ((0 : Int)).toNat = 0 from rfl] at hx117_0); (try rw [Addr.add_zero'] at hx117_0); replace hx117_0 := (HB.out.cell (World.block_lt_of_cell? w _ hx117_0)).trans hx117_0; replace p117 := eq_true p117; replace q117 := eq_true q117))
        go_ret
        exact ⟨eq_, bq⟩
      ·rw [if_neg c32] at H
       exact absurd H (by simp)
     ·replace c31 := Bool.eq_false_iff.mpr c31
      subst c31
      rw [if_neg (show ¬ (false = true) by decide)] at H
      try dsimp only at H
      obtain rfl := Option.some.inj H
      have ⟨hcz36_0, hcz36_1, hfz36_0, hfz36_1⟩ := bc2 BK115
      go_wp2_with (first | (go_at_call 53; (with_reducible refine (spec_l1All.calls k1 _ _ l0_0 0 999 false _ ?s1 ?s2 A30.out).mono ?_); (case s1 => exact cq (Kd.C_below HR0_0.out HB.out)); (case s2 => exact HC0_0.out); rintro e w' ⟨rfl, ⟨nd, rfl⟩⟩))
      go_ret
      exact ⟨eq_, bq⟩
    ·rw [if_neg c29] at H
     have c29b0 : ((l0_0.length : Int) == 8) = false := beq_eq_false_iff_ne.mpr c29
     have c29b1 : ((l0_0.length : Int) != 8) = true := bne_iff_ne.mpr c29
     obtain rfl := Option.some.inj H
     have ⟨hcz37_0, hcz37_1, hfz37_0, hfz37_1⟩ := bc2 BK115
     go_wp2
     go_ret
     exact ⟨eq_, bq⟩


/-! ### spec_psHas: function 23 -/
def spec_psHas.f (k : Nat) (l0_0 : List Int) (l0_1 : List (S41)) (a1 : Int) : Option (Bool) := (spec_psGood.f k l0_0 l0_1).bind fun t123 => (if t123 = true then ((spec_l1In.f a1 0 (wrap64 ((l0_1.length : Int) - 1))).bind fun t124 => (some t124)) else (some false))
theorem spec_psHas.mono : ∀ a0 a1 a2 k, LeO (spec_psHas.f k a0 a1 a2) (spec_psHas.f (k + 1) a0 a1 a2) := by
 intro a0 a1 a2 k
 unfold spec_psHas.f
 repeat' first
   | (with_reducible exact spec_psGood.mono _ _ _)
   | (with_reducible exact LeO.refl _)
   | (with_reducible exact LeO.none _)
   | (with_reducible refine LeO.ite ?_ ?_)
   | (with_reducible refine LeO.bind ?_ (fun _ => ?_))
   | exact spec_psGood.mono _ _ _
   | exact LeO.none _
   | refine LeO.ite ?_ ?_
   | refine LeO.bind ?_ (fun _ => ?_)
set_option maxHeartbeats 8000000 in
set_option maxRecDepth 100000 in
theorem spec_psHas.calls (k : Nat) (A0_0 : Option Addr) (c0_0 : Nat) (l0_0 : List Int) (A0_1 : Option Addr) (c0_1 : Nat) (l0_1 : List (S41)) (a1 : Int) (r : Bool) (w : World) (hr0_0 : Kd.C (Kd.int .i64) w A0_0 l0_0.length l0_0) (hc0_0 : l0_0.length ≤ c0_0) (hr0_1 : Kd.C k41 w A0_1 l0_1.length l0_1) (hc0_1 : l0_1.length ≤ c0_1) (h : spec_psHas.f k l0_0 l0_1 a1 = some r) :
  Calls Try.prog 23 #[.agg #[.slice A0_0 l0_0.length c0_0, .slice A0_1 l0_1.length c0_1], .int .i64 a1] w fun e w' => e = .returned (.bool r) ∧ Below w.heap.size w w' := by
 have hu29 := Try.underlying29
 have HR0_0 := am hr0_0
 have HC0_0 := am hc0_0
 clear hr0_0 hc0_0
 have HR0_1 := am hr0_1
 have HC0_1 := am hc0_1
 clear hr0_1 hc0_1
 have HB := am (Below.refl w.heap.size w)
 have H : ((spec_psGood.f k l0_0 l0_1).bind fun t123 => (if t123 = true then ((spec_l1In.f a1 0 (wrap64 ((l0_1.length : Int) - 1))).bind fun t124 => (some t124)) else (some false))) = some r := h
 clear h
 obtain ⟨t123, A3, H⟩ := bindq H
 try dsimp only at H
 by_cases c4 : t123 = true
 ·subst c4
  rw [if_pos rfl] at H
  try dsimp only at H
  obtain ⟨t124, A5, H⟩ := bindq H
  try dsimp only at H
  obtain rfl := Option.some.inj H
  go_enter Try.func23, Try.ntmps23
  go_wp2_with (first | ((with_reducible refine gate_dst (N := 2) rfl ?_); (try (refine gate_guard (by rfl) ?_; dsimp only)); refine box_event ?hg (N := 2) ?hd (cs := #[.slice A0_0 l0_0.length c0_0, .slice A0_1 l0_1.length c0_1]) (t := 29) ?hr ?_; (case hd => rfl); (case hg => rfl); (case hr => first | (go_simp; done) | (go_simp; rfl)); intro gb122 hg w6 hbox hb; have BK122 := am (hbox); have GW122 := am (gq hg); have GE122 := am (gq hg); replace HB := sb hb; clear hb hbox hg; have ⟨hcz7_0, hcz7_1, hfz7_0, hfz7_1⟩ := bc2 BK122) | ((with_reducible refine gate_callee (f := 39) rfl ?_); refine goesQ (some 6) Try.func39 #[.agg #[.slice A0_0 l0_0.length c0_0, .slice A0_1 l0_1.length c0_1]] ?_; (with_reducible refine (spec_psGood.calls k _ _ l0_0 _ _ l0_1 true _ ?s1 ?s2 ?s3 ?s4 A3.out).mono ?_); (case s1 => exact cq (Kd.C_below HR0_0.out HB.out)); (case s2 => exact HC0_0.out); (case s3 => exact cq (Kd.C_below HR0_1.out HB.out)); (case s4 => exact HC0_1.out); rintro e w8 ⟨rfl, hb⟩; refine ⟨_, rfl, ?_⟩; replace BK122 := zb BK122 hb; replace HB := sb hb; (try clear hb); have ⟨hcz9_0, hcz9_1, hfz9_0, hfz9_1⟩ := bc2 BK122) | (go_at_call 50; (with_reducible refine (spec_l1In.calls a1 0 (wrap64 ((l0_1.length : Int) - 1)) t124 _ A5.out).mono ?_); rintro e w' ⟨rfl, ⟨nd, rfl⟩⟩))
  go_ret
  exact ⟨eq_, bq⟩
 ·replace c4 := Bool.eq_false_iff.mpr c4
  subst c4
  rw [if_neg (show ¬ (false = true) by decide)] at H
  try dsimp only at H
  obtain rfl := Option.some.inj H
  go_enter Try.func23, Try.ntmps23
  go_wp2_with (first | ((with_reducible refine gate_dst (N := 2) rfl ?_); (try (refine gate_guard (by rfl) ?_; dsimp only)); refine box_event ?hg (N := 2) ?hd (cs := #[.slice A0_0 l0_0.length c0_0, .slice A0_1 l0_1.length c0_1]) (t := 29) ?hr ?_; (case hd => rfl); (case hg => rfl); (case hr => first | (go_simp; done) | (go_simp; rfl)); intro gb122 hg w10 hbox hb; have BK122 := am (hbox); have GW122 := am (gq hg); have GE122 := am (gq hg); replace HB := sb hb; clear hb hbox hg; have ⟨hcz11_0, hcz11_1, hfz11_0, hfz11_1⟩ := bc2 BK122) | ((with_reducible refine gate_callee (f := 39) rfl ?_); refine goesQ (some 6) Try.func39 #[.agg #[.slice A0_0 l0_0.length c0_0, .slice A0_1 l0_1.length c0_1]] ?_; (with_reducible refine (spec_psGood.calls k _ _ l0_0 _ _ l0_1 false _ ?s1 ?s2 ?s3 ?s4 A3.out).mono ?_); (case s1 => exact cq (Kd.C_below HR0_0.out HB.out)); (case s2 => exact HC0_0.out); (case s3 => exact cq (Kd.C_below HR0_1.out HB.out)); (case s4 => exact HC0_1.out); rintro e w12 ⟨rfl, hb⟩; refine ⟨_, rfl, ?_⟩; replace BK122 := zb BK122 hb; replace HB := sb hb; (try clear hb)))
  go_ret
  exact ⟨eq_, bq⟩


/-! ### spec_l1Own: function 51 -/
def spec_l1Own.f (l0 : List Int) : Option (List Int) := (some (([] : List Int) : List Int)).bind fun y125 => (if y125.length + l0.length < 17592186044416 then (some (y125 ++ l0)) else (none))
set_option maxHeartbeats 8000000 in
set_option maxRecDepth 100000 in
theorem spec_l1Own.calls (A0 : Option Addr) (c0 : Nat) (l0 : List Int) (r : List Int) (w : World) (hr0 : Kd.C (Kd.int .i64) w A0 l0.length l0) (hc0 : l0.length ≤ c0) (h : spec_l1Own.f l0 = some r) :
  Calls Try.prog 51 #[.slice A0 l0.length c0] w fun e w' => ∃ v0_ : Value, e = .returned (v0_) ∧ Kd.R (Kd.int .i64) 3 w' w.heap.size (fun _ => True) v0_ r ∧ Below w.heap.size w w' := by
 have HR0 := am hr0
 have HC0 := am hc0
 clear hr0 hc0
 have HB := am (Below.refl w.heap.size w)
 have H : ((some (([] : List Int) : List Int)).bind fun y125 => (if y125.length + l0.length < 17592186044416 then (some (y125 ++ l0)) else (none))) = some r := h
 clear h
 obtain ⟨y125, hy125⟩ : ∃ y_ : List Int, y_ = (([] : List Int)) := ⟨_, rfl⟩
 replace H : (if y125.length + l0.length < 17592186044416 then (some (y125 ++ l0)) else (none)) = some r := by first | (rw [hy125]; with_reducible exact H) | (have H2_ := (Option.bind_some _ _).symm.trans H; rw [hy125]; with_reducible exact H2_) | (have H2_ := (Option.bind_some _ _).symm.trans H; with_reducible exact H2_) | with_reducible exact H | (rw [hy125]; exact H) | exact H
 have Ny125 := am hy125
 clear hy125
 by_cases c2 : y125.length + l0.length < 17592186044416
 ·rw [if_pos c2] at H
  have LMc2 := am c2
  clear c2
  obtain ⟨y128, hy128⟩ : ∃ y_ : List Int, y_ = (y125 ++ l0) := ⟨_, rfl⟩
  replace H : (some y128) = some r := by first | (rw [hy128]; with_reducible exact H) | (have H2_ := (Option.bind_some _ _).symm.trans H; rw [hy128]; with_reducible exact H2_) | (have H2_ := (Option.bind_some _ _).symm.trans H; with_reducible exact H2_) | with_reducible exact H | (rw [hy128]; exact H) | exact H
  have Ny128 := am hy128
  clear hy128
  obtain rfl := Option.some.inj H
  go_enter Try.func51, Try.ntmps51
  go_wp2_with (first | ((with_reducible refine gate_dst (N := 3) rfl ?_); refine Kd.R_lit (Kd.int .i64) _ 3 ?hg (N := 3) ?hd (xs := ([] : List Int)) (inner := []) (ok := fun _ => True) (okp := fun _ => True) ?hr ?hp (fun _ hk => hk) trivial (Below.refl _ _) (Nat.le_refl _) (by simp) ?_; (case hd => rfl); (case hg => rfl); (case hr => first | (go_simp; done) | (go_simp; rfl)); (case hp => exact (Reps.none _ _)); intro v126 w3 ho4 hb hg_ hnew_; clear hg_ hnew_; (first | rw [← Ny125.out] at ho4 | (simp only [Int.reduceToNat] at ho4; rw [← Ny125.out] at ho4)); have HO127 := rl ho4; replace HB := sb hb; clear hb ho4) | ((with_reducible refine gate_builtin (b := .append) (xs := #[.tmp 3, .tmp 4]) rfl ?_); at_builtin; refine Kd.R_append_rows (Kd.int .i64) (w0 := w) w.heap.size rfl (.tmp 3) (.tmp 4) 22 3 (.int .i64 0) 8 rfl Try.underlying22 info3 rfl (by decide) (by omega) v126 y125 l0 _ _ _ (fun _ => True) (fun _ => False) rfl rfl ?aO ?aR (fun _ _ h => h) (fun _ h => h.elim) ?aF ?aB ?aS ?aL ?_; (case aR => repeat (first | exact (Kd.C_below HR0.out HB.out) | (with_reducible refine Kd.C_alloc ?_ _) | (with_reducible refine Kd.C_drewN ?_ _) | (with_reducible refine Kd.C_drew ?_))); (case aB => exact bq); (case aF => exact (fun _ _ => trivial)); (case aO => exact (rq HO127)); (case aS => exact (below_size bq)); (case aL => have := LMc2.out; omega); intro v129 w5 ho hb hg hat; rw [← Ny128.out] at ho; have n0_ := am (hb); have n1_ := am (ho); clear HB; clear HO127; have HB := n0_; have HO130 := n1_; clear n0_ n1_; clear ho hb hg hat))
  go_ret
  exact ⟨_, eq_, rq HO130, bq⟩
 ·rw [if_neg c2] at H
  exact absurd H (by simp)



/-! ### spec_psOwn: function 24 -/
def spec_psOwn.f (l0_0 : List Int) (l0_1 : List (S41)) : Option (List Int × (List (S41))) := (spec_l1Own.f l0_0).bind fun t133 => ((some (([] : List (S41)) : List (S41))).bind fun y136 => (if y136.length + l0_1.length < 4398046511104 then (some (t133, (y136 ++ l0_1))) else (none)))
def spec_psOwn.T1 : Bool × List (List Nat × List Nat) := (true, [([], []), ([0], [0]), ([1], [1]), ([], []), ([], []), ([4], [4]), ([3, 5, 2], [3, 5]), ([2, 6], [2, 6]), ([7, 6, 0, 1, 2, 3, 4, 5, 6, 7], [7])])
def spec_psOwn.B1 : List Nat := [0, 1, 3, 0, 0, 16, 63, 127, 255]
theorem spec_psOwn.tab1 : rtab .any (opsOf Try.f24 1) = spec_psOwn.T1 := by kernel_rfl
theorem spec_psOwn.bits1 : waitsOk spec_psOwn.T1.2 spec_psOwn.B1 = true := by kernel_rfl
set_option maxHeartbeats 8000000 in
set_option maxRecDepth 100000 in
theorem spec_psOwn.calls (A0_0 : Option Addr) (c0_0 : Nat) (l0_0 : List Int) (A0_1 : Option Addr) (c0_1 : Nat) (l0_1 : List (S41)) (r1 : List Int) (r2 : List (S41)) (w : World) (hr0_0 : Kd.C (Kd.int .i64) w A0_0 l0_0.length l0_0) (hc0_0 : l0_0.length ≤ c0_0) (hr0_1 : Kd.C k41 w A0_1 l0_1.length l0_1) (hc0_1 : l0_1.length ≤ c0_1) (h : spec_psOwn.f l0_0 l0_1 = some (r1, r2)) :
  Calls Try.prog 24 #[.agg #[.slice A0_0 l0_0.length c0_0, .slice A0_1 l0_1.length c0_1]] w fun e w' => ∃ v0_ v1_ : Value, e = .returned (.agg #[v0_, v1_]) ∧ Kd.R (Kd.int .i64) 3 w' w.heap.size (fun _ => True) v0_ r1 ∧ Kd.R k41 41 w' w.heap.size (fun _ => True) v1_ r2 ∧ Below w.heap.size w w' := by
 have hu29 := Try.underlying29
 have HR0_0 := am hr0_0
 have HC0_0 := am hc0_0
 clear hr0_0 hc0_0
 have HR0_1 := am hr0_1
 have HC0_1 := am hc0_1
 clear hr0_1 hc0_1
 have HB := am (Below.refl w.heap.size w)
 have H : ((spec_l1Own.f l0_0).bind fun t133 => ((some (([] : List (S41)) : List (S41))).bind fun y136 => (if y136.length + l0_1.length < 4398046511104 then (some (t133, (y136 ++ l0_1))) else (none)))) = some (r1, r2) := h
 clear h
 obtain ⟨t133, A2, H⟩ := bindq H
 try dsimp only at H
 obtain ⟨y136, hy136⟩ : ∃ y_ : List (S41), y_ = (([] : List (S41))) := ⟨_, rfl⟩
 replace H : (if y136.length + l0_1.length < 4398046511104 then (some (t133, (y136 ++ l0_1))) else (none)) = some (r1, r2) := by first | (rw [hy136]; with_reducible exact H) | (have H2_ := (Option.bind_some _ _).symm.trans H; rw [hy136]; with_reducible exact H2_) | (have H2_ := (Option.bind_some _ _).symm.trans H; with_reducible exact H2_) | with_reducible exact H | (rw [hy136]; exact H) | exact H
 have Ny136 := am hy136
 clear hy136
 by_cases c3 : y136.length + l0_1.length < 4398046511104
 ·rw [if_pos c3] at H
  have LMc3 := am c3
  clear c3
  obtain ⟨y139, hy139⟩ : ∃ y_ : List (S41), y_ = (y136 ++ l0_1) := ⟨_, rfl⟩
  replace H : (some (t133, y139)) = some (r1, r2) := by first | (rw [hy139]; with_reducible exact H) | (have H2_ := (Option.bind_some _ _).symm.trans H; rw [hy139]; with_reducible exact H2_) | (have H2_ := (Option.bind_some _ _).symm.trans H; with_reducible exact H2_) | with_reducible exact H | (rw [hy139]; exact H) | exact H
  have Ny139 := am hy139
  clear hy139
  simp only [Option.some.injEq, Prod.mk.injEq] at H
  obtain ⟨rfl, rfl⟩ := H
  go_enter Try.func24, Try.ntmps24
  try go_wp2_with (first | ((with_reducible refine gate_dst (N := 1) rfl ?_); refine box_event ?hg (N := 1) ?hd (cs := #[.slice A0_0 l0_0.length c0_0, .slice A0_1 l0_1.length c0_1]) (t := 29) ?hr ?_; (case hd => rfl); (case hg => rfl); (case hr => first | (go_simp; done) | (go_simp; rfl)); intro gb131 hg w4 hbox hb; have BK131 := am (hbox); have GW131 := am (gq hg); have GE131 := am (gq hg); replace HB := sb hb; clear hb hbox hg) | ((with_reducible refine gate_dst (N := 2) rfl ?_); refine box_event ?hg (N := 2) ?hd (cs := #[.slice none 0 0, .slice none 0 0]) (t := 29) ?hr ?_; (case hd => rfl); (case hg => rfl); (case hr => first | (go_simp; done) | (go_simp; rfl)); intro gb132 hg w5 hbox hb; have BK132 := am (hbox); have GW132 := am (gq hg); have GE132 := am (gq hg); replace HB := sb hb; have NB131_132 := nl hg BK131; have NB132_131 := ng hg BK131; replace BK131 := zb BK131 hb; clear hb hbox hg))
  replace BK131 := am (blk_drew BK131.out)
  replace BK132 := am (blk_drew BK132.out)
  replace HB := am (below_drew1 HB.out)
  refine start_ (n := 9) (S := fun w' => w'.cell? ⟨gb131, 0, none⟩ = some (.slice A0_0 l0_0.length c0_0) ∧ w'.cell? ⟨gb131, 1, none⟩ = some (.slice A0_1 l0_1.length c0_1)) (ds := []) #[false, false, false, false, false, false, false, false, false] (by kernel_rfl) rfl rfl cl (fun hHeld => ?_); refine with_tabW spec_psOwn.tab1 spec_psOwn.bits1 (fun HT_ HW_ => ?_)
  generalize w5.drew = w6 at BK131 BK132 HB hHeld ⊢
  refine pure_ (i := 0) (N := some 3) (v := ?_) (a' := ?_) #[true, false, false, false, false, false, false, false, false] rfl rfl (any_of HT_.out (by kernel_rfl)) (fun _ _ _ h => h) (Or.inl ⟨by rfl, ?_⟩) ?_ ?_
  rotate_left
  ·intro w'
   go_simp
   with_reducible rfl
  rotate_left
  ·simp only [Act.put, List.setIfInBounds_toArray, List.set_cons_zero, List.set_cons_succ, i64_w, i32_w]
   rfl
  refine pure_ (i := 4) (N := some 7) (v := ?_) (a' := ?_) #[true, false, false, false, true, false, false, false, false] rfl rfl (any_of HT_.out (by kernel_rfl)) (fun _ _ _ h => h) (Or.inl ⟨by rfl, ?_⟩) ?_ ?_
  rotate_left
  ·intro w'
   go_simp
   with_reducible rfl
  rotate_left
  ·simp only [Act.put, List.setIfInBounds_toArray, List.set_cons_zero, List.set_cons_succ, i64_w, i32_w]
   rfl
  refine take_ (i := 1) (N := some 4) (v := ?_) (a' := ?_) #[true, true, false, false, true, false, false, false, false] rfl rfl (take_ofW HT_.out HW_.out (by kernel_rfl)) (fun _ _ _ h => h) (Or.inl ⟨by rfl, ?_⟩) hHeld ?_ ?_
  rotate_left
  ·rintro w' ⟨s0, s1⟩
   go_simp
   with_reducible rfl
  rotate_left
  ·simp only [Act.put, List.setIfInBounds_toArray, List.set_cons_zero, List.set_cons_succ, i64_w, i32_w]
   rfl
  refine take_ (i := 5) (N := some 8) (v := ?_) (a' := ?_) #[true, true, false, false, true, true, false, false, false] rfl rfl (take_ofW HT_.out HW_.out (by kernel_rfl)) (fun _ _ _ h => h) (Or.inl ⟨by rfl, ?_⟩) hHeld ?_ ?_
  rotate_left
  ·rintro w' ⟨s0, s1⟩
   go_simp
   with_reducible rfl
  rotate_left
  ·simp only [Act.put, List.setIfInBounds_toArray, List.set_cons_zero, List.set_cons_succ, i64_w, i32_w]
   rfl
  refine join_ (σ := Value × Value) 3 #[true, true, true, true, true, true, false, false, false] (fun s_ => [(5, s_.1), (6, s_.2)]) (fun s_ w' => (w'.cell? ⟨gb131, 0, none⟩ = some (.slice A0_0 l0_0.length c0_0) ∧ w'.cell? ⟨gb131, 1, none⟩ = some (.slice A0_1 l0_1.length c0_1)) ∧ (Kd.R (Kd.int .i64) 3 w' w.heap.size (fun _ => True) s_.1 t133) ∧ (Kd.R k41 41 w' w.heap.size (fun _ => True) s_.2 y136) ∧ (w'.heap[gb131]? = some (.cells #[.slice A0_0 l0_0.length c0_0, .slice A0_1 l0_1.length c0_1] 29 (0, 0))) ∧ (w'.heap[gb132]? = some (.cells #[.slice none 0 0, .slice none 0 0] 29 (0, 0))) ∧ (Below w.heap.size w w')) ?_ ?_
  rotate_left
  ·intro hCont
   refine two_ (i := 2) (j := 3) (Ni := some 5) (Nj := some 6) #[true, true, true, false, true, true, false, false, false] #[true, true, false, true, true, true, false, false, false] rfl rfl rfl rfl (two_of HT_.out (by kernel_rfl)) (by decide) (by decide) (fun K hK => ?_) (fun K hK => ?_)
   ·skip
    refine goes_ Try.func51 (by kernel_rfl) rfl #[.slice A0_0 l0_0.length c0_0] (by rfl) rfl rfl mq ?_
    with_reducible refine (spec_l1Own.calls _ _ l0_0 t133 _ ?s1 ?s2 A2.out).mono ?_
    (case s1 => exact cq (Kd.C_below HR0_0.out HB.out))
    (case s2 => exact HC0_0.out)
    rintro e w7 ⟨v134, rfl, ho0, hb⟩
    refine ⟨_, rfl, ?_⟩
    have HO135 := rl ho0
    replace BK131 := zb BK131 hb
    replace BK132 := zb BK132 hb
    replace HB := sb hb
    (try clear hb ho0)
    refine hK.out _ _ cl (fun hHeld => ?_)
    clear hK K
    refine norm_ (a' := ?_) ?_ ?_
    rotate_left
    ·show Act.put _ (some 5) _ = _
     simp only [Act.put, List.setIfInBounds_toArray, List.set_cons_zero, List.set_cons_succ, i64_w, i32_w]
     rfl
    refine one_ (i := 3) (N := some 6) #[true, true, true, true, true, true, false, false, false] rfl rfl (one_of HT_.out (by kernel_rfl)) (by decide) (fun K hK => ?_)
    refine Kd.R_lit_step k41 _ 41 ?hg (N := 6) ?hd (xs := ([] : List (S41))) (inner := []) (ok := fun _ => True) (okp := fun _ => True) ?hr ?hp (fun _ hk => hk) trivial (Below.refl _ _) (Nat.le_refl _) (by simp) ?_; (case hd => rfl); (case hg => rfl); (case hr => first | (go_simp; done) | (go_simp; rfl)); (case hp => exact (Reps.none _ _))
    intro v137 w8 ho9 hb hg_ hnew_
    clear hg_ hnew_
    (first | rw [← Ny136.out] at ho9 | (simp only [Int.reduceToNat] at ho9; rw [← Ny136.out] at ho9))
    replace HO135 := rb HO135 hb
    have HO138 := rl ho9
    replace BK131 := zb BK131 hb
    replace BK132 := zb BK132 hb
    replace HB := sb hb
    clear hb ho9
    refine hK.out _ _ cl (fun hHeld => ?_)
    clear hK K
    refine norm_ (a' := ?_) ?_ ?_
    rotate_left
    ·show Act.put _ (some 6) _ = _
     simp only [Act.put, List.setIfInBounds_toArray, List.set_cons_zero, List.set_cons_succ, i64_w, i32_w]
     rfl
    exact norm_ (by simp only [putAll, Act.put, List.setIfInBounds_toArray, List.set_cons_zero, List.set_cons_succ]) (hCont (v134, v137) _ ⟨hHeld, (rq HO135), (rq HO138), (zq BK131), (zq BK132), bq⟩)
   ·skip
    refine Kd.R_lit_step k41 _ 41 ?hg (N := 6) ?hd (xs := ([] : List (S41))) (inner := []) (ok := fun _ => True) (okp := fun _ => True) ?hr ?hp (fun _ hk => hk) trivial (Below.refl _ _) (Nat.le_refl _) (by simp) ?_; (case hd => rfl); (case hg => rfl); (case hr => first | (go_simp; done) | (go_simp; rfl)); (case hp => exact (Reps.none _ _))
    intro v137 w7 ho8 hb hg_ hnew_
    clear hg_ hnew_
    (first | rw [← Ny136.out] at ho8 | (simp only [Int.reduceToNat] at ho8; rw [← Ny136.out] at ho8))
    have HO138 := rl ho8
    replace BK131 := zb BK131 hb
    replace BK132 := zb BK132 hb
    replace HB := sb hb
    clear hb ho8
    refine hK.out _ _ cl (fun hHeld => ?_)
    clear hK K
    refine norm_ (a' := ?_) ?_ ?_
    rotate_left
    ·show Act.put _ (some 6) _ = _
     simp only [Act.put, List.setIfInBounds_toArray, List.set_cons_zero, List.set_cons_succ, i64_w, i32_w]
     rfl
    refine one_ (i := 2) (N := some 5) #[true, true, true, true, true, true, false, false, false] rfl rfl (one_of HT_.out (by kernel_rfl)) (by decide) (fun K hK => ?_)
    refine goes_ Try.func51 (by kernel_rfl) rfl #[.slice A0_0 l0_0.length c0_0] (by rfl) rfl rfl mq ?_
    with_reducible refine (spec_l1Own.calls _ _ l0_0 t133 _ ?s1 ?s2 A2.out).mono ?_
    (case s1 => exact cq (Kd.C_below HR0_0.out HB.out))
    (case s2 => exact HC0_0.out)
    rintro e w9 ⟨v134, rfl, ho0, hb⟩
    refine ⟨_, rfl, ?_⟩
    replace HO138 := rb HO138 hb
    have HO135 := rl ho0
    replace BK131 := zb BK131 hb
    replace BK132 := zb BK132 hb
    replace HB := sb hb
    (try clear hb ho0)
    refine hK.out _ _ cl (fun hHeld => ?_)
    clear hK K
    refine norm_ (a' := ?_) ?_ ?_
    rotate_left
    ·show Act.put _ (some 5) _ = _
     simp only [Act.put, List.setIfInBounds_toArray, List.set_cons_zero, List.set_cons_succ, i64_w, i32_w]
     rfl
    exact norm_ (by simp only [putAll, Act.put, List.setIfInBounds_toArray, List.set_cons_zero, List.set_cons_succ]) (hCont (v134, v137) _ ⟨hHeld, (rq HO135), (rq HO138), (zq BK131), (zq BK132), bq⟩)
  rintro ⟨v134, v137⟩ w10 ⟨hS_, h0_, h1_, h2_, h3_, h4_⟩
  have n0_ : Aside0 (Kd.R (Kd.int .i64) 3 w10 w.heap.size (fun _ => True) v134 t133) := ⟨h0_⟩
  have n1_ : Aside0 (Kd.R k41 41 w10 w.heap.size (fun _ => True) v137 y136) := ⟨h1_⟩
  have n2_ : Aside0 (w10.heap[gb131]? = some (.cells #[.slice A0_0 l0_0.length c0_0, .slice A0_1 l0_1.length c0_1] 29 (0, 0))) := ⟨h2_⟩
  have n3_ : Aside0 (w10.heap[gb132]? = some (.cells #[.slice none 0 0, .slice none 0 0] 29 (0, 0))) := ⟨h3_⟩
  have n4_ : Aside0 (Below w.heap.size w w10) := ⟨h4_⟩
  clear BK131 BK132 HB h0_ h1_ h2_ h3_ h4_
  have HO135 := n0_
  have HO138 := n1_
  have BK131 := n2_
  have BK132 := n3_
  have HB := n4_
  clear n0_ n1_ n2_ n3_ n4_
  have hHeld : w10.cell? ⟨gb131, 0, none⟩ = some (.slice A0_0 l0_0.length c0_0) ∧ w10.cell? ⟨gb131, 1, none⟩ = some (.slice A0_1 l0_1.length c0_1) := hS_
  refine norm_ (a' := ?_) ?_ ?_
  rotate_left
  ·simp only [putAll, Act.put, List.setIfInBounds_toArray, List.set_cons_zero, List.set_cons_succ]
   rfl
  refine one_ (i := 6) (N := some 9) #[true, true, true, true, true, true, true, false, false] rfl rfl (one_of HT_.out (by kernel_rfl)) (by decide) (fun K hK => ?_)
  refine Kd.R_append_rows_step k41 (w0 := w) w.heap.size (by rfl) (.tmp 6) (.tmp 8) 27 41 (.agg #[(.int .i64 0), (.int .i64 0), (.int .i64 0), (.int .i64 0)]) 32 rfl Try.underlying27 info41 rfl (by decide) (by omega) v137 y136 l0_1 _ _ _ (fun _ => True) (fun _ => False) rfl rfl ?aO ?aR (fun _ _ h => h) (fun _ h => h.elim) ?aF ?aB ?aS ?aL ?_
  (case aR => repeat (first | exact (Kd.C_below HR0_1.out HB.out) | (with_reducible refine Kd.C_alloc ?_ _) | (with_reducible refine Kd.C_drewN ?_ _) | (with_reducible refine Kd.C_drew ?_)))
  (case aB => exact bq)
  (case aF => exact (fun _ _ => trivial))
  (case aO => exact (rq HO138))
  (case aS => exact (below_size bq))
  (case aL => have := LMc3.out; omega)
  intro v140 w11 ho hb hg hat
  rw [← Ny139.out] at ho
  have n0_ := am (blk_grown (g := gb131) (o := .cells #[.slice A0_0 l0_0.length c0_0, .slice A0_1 l0_1.length c0_1] 29 (0, 0)) (zq BK131) hg (Kd.R_ne HO138.out BK131.out (by decide)))
  have n1_ := am (blk_grown (g := gb132) (o := .cells #[.slice none 0 0, .slice none 0 0] 29 (0, 0)) (zq BK132) hg (Kd.R_ne HO138.out BK132.out (by decide)))
  have n2_ := am (Kd.R_over' (rq HO135) (Kd.R_typed (rq HO138)) (by decide) hg)
  have n3_ := am (hb)
  have n4_ := am (ho)
  clear BK131 BK132 HO135 HB HO138
  have BK131 := n0_
  have BK132 := n1_
  have HO135 := n2_
  have HB := n3_
  have HO141 := n4_
  clear n0_ n1_ n2_ n3_ n4_ ho hb hg hat
  obtain ⟨Ao12, co12, eo12⟩ := Kd.R_slice HO141.out
  (first | subst eo12 | (injection eo12 with f1_ f2_ f3_; have f4_ := f1_.symm; have f5_ := f3_.symm; clear f1_ f2_ f3_; subst f4_; subst f5_))
  obtain ⟨Ao13, co13, eo13⟩ := Kd.R_slice HO135.out
  (first | subst eo13 | (injection eo13 with f1_ f2_ f3_; have f4_ := f1_.symm; have f5_ := f3_.symm; clear f1_ f2_ f3_; subst f4_; subst f5_))
  refine hK.out _ _ cl (fun hHeld => ?_)
  clear hK K
  refine norm_ (a' := ?_) ?_ ?_
  rotate_left
  ·show Act.put _ (some 9) _ = _
   simp only [Act.put, List.setIfInBounds_toArray, List.set_cons_zero, List.set_cons_succ, i64_w, i32_w]
   rfl
  refine pure_ (i := 7) (N := some 10) (v := ?_) (a' := ?_) #[true, true, true, true, true, true, true, true, false] rfl rfl (any_of HT_.out (by kernel_rfl)) (fun _ _ _ h => h) (Or.inl ⟨by rfl, ?_⟩) ?_ ?_
  rotate_left
  ·intro w'
   go_simp
   with_reducible rfl
  rotate_left
  ·simp only [Act.put, List.setIfInBounds_toArray, List.set_cons_zero, List.set_cons_succ, i64_w, i32_w]
   rfl
  refine one_ (i := 8) (N := none) #[true, true, true, true, true, true, true, true, true] rfl rfl (one_of HT_.out (by kernel_rfl)) (by decide) (fun K hK => ?_)
  have hs14 : w11.cell? ⟨gb132, 0, none⟩ = some (.slice none 0 0) := (blk_cell BK132.out 0).trans rfl
  have hfs14 := blk_frozen BK132.out 0
  have hns14_0 := NB131_132.out
  have hms14_0 := NB132_131.out
  have hs15 : w11.cell? ⟨gb132, 1, none⟩ = some (.slice none 0 0) := (blk_cell BK132.out 1).trans rfl
  have hfs15 := blk_frozen BK132.out 1
  have hns15_0 := NB131_132.out
  have hms15_0 := NB132_131.out
  refine skip_ (w1 := ?_) (by rfl) rfl ?_ ?_
  rotate_left
  ·go_simp
   rfl
  refine hK.out _ _ (chf hHeld) (fun hHeld => ?_)
  clear hK K
  refine done_ (done_of HT_.out (by kernel_rfl)) ?_
  try go_wp2
  refine bodyPost_ret (results_cell_row rfl _ _ gb132 29 #[.slice Ao13 t133.length co13, .slice Ao12 y139.length co12] (0, 0) _ rfl (zp BK132) Try.underlying29 rfl (by kernel_rfl)) rfl ?_
  exact ⟨_, _, eq_, Kd.R_mono (ff HO135 BK132) (fun _ hk => trivial), Kd.R_mono (ff HO141 BK132) (fun _ hk => trivial), bq⟩
 ·rw [if_neg c3] at H
  exact absurd H (by simp)


/-! ### spec_LostParts: function 8 -/
/-- The cells of loans, one behind the other. -/
def enc41 (x : S41) : List Value := [.int .i64 x.f0, .int .i64 x.f1, .int .i64 x.f2, .int .i64 x.f3]
theorem reps_enc41 : ∀ ys : List S41, Reps (fun p q => q = enc41 p) 4 ys (ys.flatMap enc41)
  | [] => Reps.none _ _
  | y :: ys => by
    have h1 : Reps (fun (p : S41) q => q = enc41 p) 4 [y] (enc41 y) := ⟨rfl, fun j p hj => by
      have hj0 : j = 0 := by
        have := (List.getElem?_eq_some_iff.1 hj).1
        simp at this; omega
      subst hj0
      have : y = p := by simpa using hj
      subst this
      rfl⟩
    exact Kd.reps_append h1 (reps_enc41 ys)
section
variable {P : Program}
/-- 'append(out[:k], ys...)' where it fits into out: in place. -/
theorem R_splice_run {W : World} (base : Nat) (t ty e : TypeId) (i : TypeInfo) (ht : P.underlying t = some (.slice e)) (hi : P.info? e = some i) (hsz : i.size = 4)
    {g n c k : Nat} {xs ys : List S41} {ok : Nat → Prop} (HO : k41.R e W base ok (.slice (some ⟨g, 0, none⟩) n c) xs) {a : Addr} (HC : Kd.C k41 W (some a) ys.length ys) (hk : k + ys.length ≤ n) (c2 : Nat) :
    ∃ w1, (Builtin.append_ #[t, t] ty #[.slice (some ⟨g, 0, none⟩) k c, .slice (some a) ys.length c2]).run P W = .ok (.slice (some ⟨g, 0, none⟩) (k + ys.length) c) w1 ∧ k41.R e w1 base ok (.slice (some ⟨g, 0, none⟩) (k + ys.length) c) (xs.take k ++ ys) ∧ W.grownBy w1 (some g) := by
  obtain ⟨hn, hnc, _⟩ := Kd.R_reads' HO
  obtain ⟨hok, inner, hown, hr⟩ := HO
  have hr : Reps (fun p q => k41.M W base (fun k' => ok k' ∧ some k' ≠ (Value.slice (some ⟨g, 0, none⟩) n c).ownBlock) p q) 4 xs inner := hr
  have hin : inner.length = n * 4 := by rw [hr.1, hn]
  rcases hown.2 with ⟨hv, _⟩ | ⟨g', cap', cur, hv, hb, hh, _, hcm, hcs, htake⟩
  · cases hv
  injection hv with ha _ hc
  injection ha with ha
  injection ha with hg
  subst hg; subst hc
  rw [← hn] at htake
  have hcm : c ≤ maxLen := hcm
  have hcs : cur.size = c * 4 := hcs
  have htake : cur.toList.take (n * 4) = inner := htake
  obtain ⟨news, hnews⟩ : ∃ news, news = ys.flatMap enc41 := ⟨_, rfl⟩
  have hre := reps_enc41 ys
  rw [← hnews] at hre
  have hnl : news.length = ys.length * 4 := hre.1
  have hcell : ∀ j u, news[j]? = some u → W.cell? (a.add j) = some u := by
    intro j u hu
    have hj : j < news.length := (List.getElem?_eq_some_iff.1 hu).1
    have hq : j / 4 < ys.length := by omega
    have e1 := hre.2 (j / 4) _ (List.getElem?_eq_getElem hq)
    obtain ⟨ad, cc, e2, hcl, hK, hcc⟩ := Kd.C_get HC z41 ((j / 4 : Nat) : Int) (by omega) (by omega)
    injection e2 with e2
    subst e2
    have e3 := k41_open hK
    have e4 : ys.getD ((j / 4 : Nat) : Int).toNat z41 = ys[j / 4] := by
      rw [Int.toNat_natCast, List.getD_eq_getElem?_getD, List.getElem?_eq_getElem hq]; rfl
    have e5 : cc = (news.drop (j / 4 * 4)).take 4 := by rw [e1, e3, e4]; rfl
    have e6 : cc[j % 4]? = some u := by
      rw [e5, List.getElem?_take, if_pos (Nat.mod_lt _ (by omega)), List.getElem?_drop, show j / 4 * 4 + j % 4 = j by omega]
      exact hu
    have := hcc (j % 4) u e6
    rw [Int.toNat_natCast] at this
    have e7 : j / 4 * k41.sz + j % 4 = j := by show j / 4 * 4 + j % 4 = j; omega
    rw [e7] at this
    exact this
  have hone : ∀ u ∈ news, u.oneCell' = true := by
    intro u hu
    rw [hnews] at hu
    obtain ⟨y, _, hy⟩ := List.mem_flatMap.1 hu
    simp only [enc41, List.mem_cons, List.not_mem_nil, or_false] at hy
    rcases hy with rfl | rfl | rfl | rfl <;> rfl
  have hfit : 0 + k * 4 + news.length ≤ cur.size := by omega
  have hrun := run_append_room_cells (P := P) (w := W) t ty e i ht hi g 0 k c a ys.length c2 news (by rw [hnl, hsz]) hcell hone (by omega)
    (fun j hj => by rw [hsz, cell_of_row W g _ cur e (0, 0) hh]; simp; omega) (fun j _ => blk_frozen hh _)
  rw [hsz] at hrun
  obtain ⟨cur', h3, h4, h5⟩ := setCells_row news (0 + k * 4) W cur hh hfit
  obtain ⟨s1, s2, s3, s4⟩ := setCells_same g news (0 + k * 4) W
  have hfar : ∀ k', k' ≠ g → (W.setCells g (0 + k * 4) news).heap[k']? = W.heap[k']? := fun k' hk' => setCells_far news _ k' hk'
  have hgo : ∀ m, some g = (Value.slice (some ⟨g, 0, none⟩) m c).ownBlock := fun m => by simp [Value.ownBlock]
  have htk : (xs.take k).length = k := by rw [List.length_take]; omega
  have hel : (xs.take k ++ ys).length = k + ys.length := by rw [List.length_append, htk]
  have hmv : ∀ p q, k41.M W base (fun k' => ok k' ∧ some k' ≠ (Value.slice (some ⟨g, 0, none⟩) n c).ownBlock) p q → k41.M (W.setCells g (0 + k * 4) news) base (fun k' => ok k' ∧ some k' ≠ (Value.slice (some ⟨g, 0, none⟩) (k + ys.length) c).ownBlock) p q := fun p q hp => by
    rw [k41_openM hp]; exact k41_mkM _ _ _ _
  refine ⟨_, hrun, ⟨fun k' hk' => hok k' (by rw [← hgo] at hk' ⊢; exact hk'), inner.take (k * 4) ++ news, ⟨?_, .inr ⟨g, c, cur', by rw [hel], hb, h3, by rw [hel]; omega, hcm, by rw [h4, hcs]; rfl, ?_⟩⟩, ?_⟩, ⟨s1, s2, s3, by rw [s4]; exact Nat.le_refl _, fun k' _ hk' => hfar k' (fun he => hk' (by rw [he]))⟩⟩
  · rw [List.length_append, List.length_take, hnl, hel]
    show min (k * 4) inner.length + ys.length * 4 = (k + ys.length) * 4
    omega
  · rw [hel, h5, Nat.zero_add]
    have h7 : cur.toList.take (k * 4) = inner.take (k * 4) := by
      rw [← htake, List.take_take, Nat.min_eq_left (by omega)]
    rw [h7]
    refine List.take_left' ?_
    rw [List.length_append, List.length_take, hnl]
    show min (k * 4) inner.length + ys.length * 4 = (k + ys.length) * 4
    omega
  · exact Kd.reps_append ((Kd.reps_take hr (by omega)).imp_ hmv) (hre.imp_ (fun p q e_ => by rw [e_]; exact k41_mkM _ _ _ _))
end
section
variable {P : Program} {ops : Array Oper} {rest : List Oper} {o : Oper} {a : Act} {Q : Exit → Act → World → Prop} {Kc : Act → World → Prop}
theorem R_splice_step {w0 W : World} (base : Nat) (hw : Region.wanted o (yielded ops a.tmps) = true) (s x : Operand) (t e : TypeId) (ho : o.op = .call { callee := .builtin .append, args := #[s, x], argTypes := #[t, t] })
    (ht : P.underlying t = some (.slice e)) (hinfo : (P.info? e).map (·.size) = some 4) {g n c k c2 : Nat} {A : Option Addr} {xs ys : List S41} {ok : Nat → Prop}
    (hs : a.eval s = .slice (some ⟨g, 0, none⟩) k c) (hx : a.eval x = .slice A ys.length c2) {ad : Addr} (hA : A = some ad)
    (HO : k41.R e W base ok (.slice (some ⟨g, 0, none⟩) n c) xs) (HC : Kd.C k41 W A ys.length ys) (hk : k + ys.length ≤ n) (HB : Below base w0 W) (hbase : base ≤ W.heap.size)
    (h : ∀ w1, k41.R e w1 base ok (.slice (some ⟨g, 0, none⟩) (k + ys.length) c) (xs.take k ++ ys) → Below base w0 w1 → W.grownBy w1 (some g) → Kc (a.put o.dst (.slice (some ⟨g, 0, none⟩) (k + ys.length) c)) w1) :
    if Region.wanted o (yielded ops a.tmps) = true then Oper.wp P o a W Kc Q else Kc (a.put o.dst undef) W := by
  obtain ⟨i0, hi, hsz⟩ := Option.map_eq_some_iff.1 hinfo
  subst hA
  obtain ⟨w1, hr, h1, h2⟩ := R_splice_run (P := P) base t o.type e i0 ht hi hsz HO HC hk c2
  rw [if_pos hw]
  unfold Oper.wp execOp
  simp only [ho, resolve, invoke, builtin, Sem.run_bind, Sem.run_pure, Result.andThen_ok, List.map_toArray, List.map_cons, List.map_nil, hs, hx, hr]
  exact h w1 h1 (HB.grown h2 hbase (fun k hk => by injection hk with hk; subst hk; exact Kd.R_base HO _ (by simp [Value.ownBlock]))) h2
end
def spec_LostParts.f (k : Nat) (l0_0 : List Int) (l0_1 : List (S41)) (a1 : Int) : Option (List Int × (List (S41)) × Bool) := (spec_psHas.f k l0_0 l0_1 a1).bind fun t144 => (if t144 = true then ((spec_psOwn.f l0_0 l0_1).bind fun bt145 => (if 0 ≤ a1 then (if a1 ≤ (bt145.2.length : Int) then (if 0 ≤ (wrap64 (a1 + 1)) then (if (wrap64 (a1 + 1)) ≤ (l0_1.length : Int) then (if (l0_1.length : Int) ≤ (bt145.2.length : Int) then (some (bt145.1, (bt145.2.take (a1 : Int).toNat ++ l0_1.drop ((wrap64 (a1 + 1)) : Int).toNat), true)) else (none)) else (none)) else (none)) else (none)) else (none))) else (some (([] : List Int), ([] : List (S41)), false)))
theorem spec_LostParts.mono : ∀ a0 a1 a2 k, LeO (spec_LostParts.f k a0 a1 a2) (spec_LostParts.f (k + 1) a0 a1 a2) := by
 intro a0 a1 a2 k
 unfold spec_LostParts.f
 repeat' first
   | (with_reducible exact spec_psHas.mono _ _ _ _)
   | (with_reducible exact LeO.refl _)
   | (with_reducible exact LeO.none _)
   | (with_reducible refine LeO.ite ?_ ?_)
   | (with_reducible refine LeO.bind ?_ (fun _ => ?_))
   | exact spec_psHas.mono _ _ _ _
   | exact LeO.none _
   | refine LeO.ite ?_ ?_
   | refine LeO.bind ?_ (fun _ => ?_)
def spec_LostParts.T4 : Bool × List (List Nat × List Nat) := (true, [([], []), ([0], [0]), ([], []), ([1, 2], [1, 2]), ([], []), ([4], [4]), ([], []), ([6], [6]), ([5, 7], [5, 7]), ([3, 8], [3, 8]), ([0, 1, 2, 3, 4, 5, 6, 7, 8, 9], []), ([10, 9, 9, 0, 1, 2, 3, 4, 5, 6, 7, 8, 9], [9, 10])])
def spec_LostParts.B4 : List Nat := [0, 1, 0, 7, 0, 16, 0, 64, 240, 511, 1023, 2047]
theorem spec_LostParts.tab4 : rtab .any (opsOf Try.f8 4) = spec_LostParts.T4 := by kernel_rfl
theorem spec_LostParts.bits4 : waitsOk spec_LostParts.T4.2 spec_LostParts.B4 = true := by kernel_rfl
set_option maxHeartbeats 8000000 in
set_option maxRecDepth 100000 in
theorem spec_LostParts.calls (k : Nat) (A0_0 : Option Addr) (c0_0 : Nat) (l0_0 : List Int) (A0_1 : Option Addr) (c0_1 : Nat) (l0_1 : List (S41)) (a1 : Int) (r1 : List Int) (r2 : List (S41)) (r3 : Bool) (w : World) (hr0_0 : Kd.C (Kd.int .i64) w A0_0 l0_0.length l0_0) (hc0_0 : l0_0.length ≤ c0_0) (hr0_1 : Kd.C k41 w A0_1 l0_1.length l0_1) (hc0_1 : l0_1.length ≤ c0_1) (h : spec_LostParts.f k l0_0 l0_1 a1 = some (r1, r2, r3)) :
  Calls Try.prog 8 #[.agg #[.slice A0_0 l0_0.length c0_0, .slice A0_1 l0_1.length c0_1], .int .i64 a1] w fun e w' => ∃ v0_ v1_ : Value, e = .returned (.tuple #[.agg #[v0_, v1_], .bool r3]) ∧ Kd.R (Kd.int .i64) 3 w' w.heap.size (fun _ => True) v0_ r1 ∧ Kd.R k41 41 w' w.heap.size (fun _ => True) v1_ r2 ∧ Below w.heap.size w w' := by
 have hu29 := Try.underlying29
 have HR0_0 := am hr0_0
 have HC0_0 := am hc0_0
 clear hr0_0 hc0_0
 have HR0_1 := am hr0_1
 have HC0_1 := am hc0_1
 clear hr0_1 hc0_1
 have HB := am (Below.refl w.heap.size w)
 have H : ((spec_psHas.f k l0_0 l0_1 a1).bind fun t144 => (if t144 = true then ((spec_psOwn.f l0_0 l0_1).bind fun bt145 => (if 0 ≤ a1 then (if a1 ≤ (bt145.2.length : Int) then (if 0 ≤ (wrap64 (a1 + 1)) then (if (wrap64 (a1 + 1)) ≤ (l0_1.length : Int) then (if (l0_1.length : Int) ≤ (bt145.2.length : Int) then (some (bt145.1, (bt145.2.take (a1 : Int).toNat ++ l0_1.drop ((wrap64 (a1 + 1)) : Int).toNat), true)) else (none)) else (none)) else (none)) else (none)) else (none))) else (some (([] : List Int), ([] : List (S41)), false)))) = some (r1, r2, r3) := h
 clear h
 obtain ⟨t144, A3, H⟩ := bindq H
 try dsimp only at H
 by_cases c4 : t144 = true
 ·subst c4
  rw [if_pos rfl] at H
  try dsimp only at H
  obtain ⟨⟨t145, t148⟩, A5, H⟩ := bindq H
  try dsimp only at H
  by_cases c6 : 0 ≤ a1
  ·rw [if_pos c6] at H
   have c6b0 := eq_true c6
   have c6b1 : decide (0 ≤ a1) = true := decide_eq_true c6
   clear c6
   by_cases c7 : a1 ≤ (t148.length : Int)
   ·rw [if_pos c7] at H
    have c7b0 := eq_true c7
    have c7b1 : decide (a1 ≤ (t148.length : Int)) = true := decide_eq_true c7
    clear c7
    obtain ⟨y152, hy152⟩ : ∃ y_ : List (S41), y_ = (t148.take (a1 : Int).toNat) := ⟨_, rfl⟩
    replace H : (if 0 ≤ (wrap64 (a1 + 1)) then (if (wrap64 (a1 + 1)) ≤ (l0_1.length : Int) then (if (l0_1.length : Int) ≤ (t148.length : Int) then (some (t145, (t148.take (a1 : Int).toNat ++ l0_1.drop ((wrap64 (a1 + 1)) : Int).toNat), true)) else (none)) else (none)) else (none)) = some (r1, r2, r3) := by first | (rw [hy152]; with_reducible exact H) | (have H2_ := (Option.bind_some _ _).symm.trans H; rw [hy152]; with_reducible exact H2_) | (have H2_ := (Option.bind_some _ _).symm.trans H; with_reducible exact H2_) | with_reducible exact H | (rw [hy152]; exact H) | exact H
    have Ny152 := am hy152
    clear hy152
    obtain ⟨ji8, hji8⟩ : ∃ j_ : Int, (wrap64 (a1 + 1)) = j_ := ⟨_, rfl⟩
    replace H : (if 0 ≤ (ji8) then (if (ji8) ≤ (l0_1.length : Int) then (if (l0_1.length : Int) ≤ (t148.length : Int) then (some (t145, (t148.take (a1 : Int).toNat ++ l0_1.drop ((ji8) : Int).toNat), true)) else (none)) else (none)) else (none)) = some (r1, r2, r3) := by first | (rw [hji8] at H; exact H) | (simp only [hji8] at H ⊢; exact H)
    (try rw [hji8] at A3)
    (try rw [hji8] at A5)
    have hji8w : (IntKind.i64.wrap (a1 + 1)) = ji8 := (i64_w _).trans hji8
    by_cases c9 : 0 ≤ (ji8)
    ·rw [if_pos c9] at H
     have c9b0 := eq_true c9
     have c9b1 : decide (0 ≤ (ji8)) = true := decide_eq_true c9
     clear c9
     by_cases c10 : (ji8) ≤ (l0_1.length : Int)
     ·rw [if_pos c10] at H
      have c10b0 := eq_true c10
      have c10b1 : decide ((ji8) ≤ (l0_1.length : Int)) = true := decide_eq_true c10
      by_cases c_ : (l0_1.length : Int) ≤ (t148.length : Int)
      ·rw [if_pos c_] at H
       have cb_ : decide ((ji8) ≤ (t148.length : Int)) = true := decide_eq_true (by omega)
       have hf_ := am c_
       clear c_ c10
       obtain ⟨y156, hy156⟩ : ∃ y_ : List (S41), y_ = (l0_1.drop ((ji8) : Int).toNat) := ⟨_, rfl⟩
       skip
       have Ny156 := am hy156
       clear hy156
       obtain ⟨y160, hy160⟩ : ∃ y_ : List (S41), y_ = (t148.take (a1 : Int).toNat ++ l0_1.drop ((ji8) : Int).toNat) := ⟨_, rfl⟩
       replace H : (some (t145, y160, true)) = some (r1, r2, r3) := by rw [hy160]; exact H
       have Ny160 := am hy160
       clear hy160
       simp only [Option.some.injEq, Prod.mk.injEq] at H
       obtain ⟨rfl, rfl, rfl⟩ := H
       go_enter Try.func8, Try.ntmps8
       try go_wp2_with (first | ((with_reducible refine gate_dst (N := 2) rfl ?_); refine box_event ?hg (N := 2) ?hd (cs := #[.slice A0_0 l0_0.length c0_0, .slice A0_1 l0_1.length c0_1]) (t := 29) ?hr ?_; (case hd => rfl); (case hg => rfl); (case hr => first | (go_simp; done) | (go_simp; rfl)); intro gb142 hg w11 hbox hb; have BK142 := am (hbox); have GW142 := am (gq hg); have GE142 := am (gq hg); replace HB := sb hb; clear hb hbox hg) | ((with_reducible refine gate_dst (N := 4) rfl ?_); refine box_event ?hg (N := 4) ?hd (cs := #[.slice none 0 0, .slice none 0 0]) (t := 29) ?hr ?_; (case hd => rfl); (case hg => rfl); (case hr => first | (go_simp; done) | (go_simp; rfl)); intro gb143 hg w12 hbox hb; have BK143 := am (hbox); have GW143 := am (gq hg); have GE143 := am (gq hg); replace HB := sb hb; have NB142_143 := nl hg BK142; have NB143_142 := ng hg BK142; replace BK142 := zb BK142 hb; clear hb hbox hg; have hnb13 := NB142_143.out; have hnc13 := NB143_142.out; have ⟨hcz14_0, hcz14_1, hfz14_0, hfz14_1⟩ := bc2 BK142) | ((with_reducible refine gate_callee (f := 23) rfl ?_); refine goesQ (some 9) Try.func23 #[.agg #[.slice A0_0 l0_0.length c0_0, .slice A0_1 l0_1.length c0_1], .int .i64 a1] ?_; (with_reducible refine (spec_psHas.calls k _ _ l0_0 _ _ l0_1 a1 true _ ?s1 ?s2 ?s3 ?s4 A3.out).mono ?_); (case s1 => exact cq (Kd.C_below HR0_0.out HB.out)); (case s2 => exact HC0_0.out); (case s3 => exact cq (Kd.C_below HR0_1.out HB.out)); (case s4 => exact HC0_1.out); rintro e w15 ⟨rfl, hb⟩; refine ⟨_, rfl, ?_⟩; replace BK142 := zb BK142 hb; replace BK143 := zb BK143 hb; replace HB := sb hb; (try clear hb); have ⟨hcz16_0, hcz16_1, hfz16_0, hfz16_1⟩ := bc2 BK142) | ((with_reducible refine gate_callee (f := 24) rfl ?_); refine goesQ (some 13) Try.func24 #[.agg #[.slice A0_0 l0_0.length c0_0, .slice A0_1 l0_1.length c0_1]] ?_; (with_reducible refine (spec_psOwn.calls _ _ l0_0 _ _ l0_1 t145 t148 _ ?s1 ?s2 ?s3 ?s4 A5.out).mono ?_); (case s1 => exact cq (Kd.C_below HR0_0.out HB.out)); (case s2 => exact HC0_0.out); (case s3 => exact cq (Kd.C_below HR0_1.out HB.out)); (case s4 => exact HC0_1.out); rintro e w17 ⟨v146, v149, rfl, ho0, ho1, hb⟩; refine ⟨_, rfl, ?_⟩; have HO147 := rl ho0; have HO150 := rl ho1; replace BK142 := zb BK142 hb; replace BK143 := zb BK143 hb; replace HB := sb hb; (try clear hb ho0 ho1)) | ((with_reducible refine gate_dst (N := 6) rfl ?_); refine box_event ?hg (N := 6) ?hd (cs := #[.slice none 0 0, .slice none 0 0]) (t := 29) ?hr ?_; (case hd => rfl); (case hg => rfl); (case hr => first | (go_simp; done) | (go_simp; rfl)); intro gb151 hg w18 hbox hb; replace HO147 := rb HO147 hb; replace HO150 := rb HO150 hb; have BK151 := am (hbox); have GW151 := am (gq hg); have GE151 := am (gq hg); replace HB := sb hb; have NB142_151 := nl hg BK142; have NB151_142 := ng hg BK142; replace BK142 := zb BK142 hb; have NB143_151 := nl hg BK143; have NB151_143 := ng hg BK143; replace BK143 := zb BK143 hb; clear hb hbox hg; obtain ⟨Ao19, co19, eo19⟩ := Kd.R_slice HO147.out; subst eo19; have hnb20 := NB151_142.out; have hnc20 := NB142_151.out; have hnb21 := NB151_143.out; have hnc21 := NB143_151.out; have ⟨hcz22_0, hcz22_1, hfz22_0, hfz22_1⟩ := bc2 BK151; obtain ⟨Ao23, co23, eo23⟩ := Kd.R_slice HO150.out; subst eo23))
       have n0_ : Aside0 (Kd.R (Kd.int .i64) 3 ((w18.setCell ⟨gb151, 0, none⟩ (.slice Ao19 t145.length co19)).setCell ⟨gb151, 1, none⟩ (.slice Ao23 t148.length co23)) w.heap.size (fun _ => True) (.slice Ao19 t145.length co19) t145) := ⟨Kd.R_mono (ff HO147 BK151) (fun _ hk => trivial)⟩
       have n1_ : Aside0 (Kd.R k41 41 ((w18.setCell ⟨gb151, 0, none⟩ (.slice Ao19 t145.length co19)).setCell ⟨gb151, 1, none⟩ (.slice Ao23 t148.length co23)) w.heap.size (fun _ => True) (.slice Ao23 t148.length co23) t148) := ⟨Kd.R_mono (ff HO150 BK151) (fun _ hk => trivial)⟩
       have n2_ : Aside0 (((w18.setCell ⟨gb151, 0, none⟩ (.slice Ao19 t145.length co19)).setCell ⟨gb151, 1, none⟩ (.slice Ao23 t148.length co23)).heap[gb142]? = some (.cells #[.slice A0_0 l0_0.length c0_0, .slice A0_1 l0_1.length c0_1] 29 (0, 0))) := ⟨zp BK142⟩
       have n3_ : Aside0 (((w18.setCell ⟨gb151, 0, none⟩ (.slice Ao19 t145.length co19)).setCell ⟨gb151, 1, none⟩ (.slice Ao23 t148.length co23)).heap[gb143]? = some (.cells #[.slice none 0 0, .slice none 0 0] 29 (0, 0))) := ⟨zp BK143⟩
       have n4_ : Aside0 (((w18.setCell ⟨gb151, 0, none⟩ (.slice Ao19 t145.length co19)).setCell ⟨gb151, 1, none⟩ (.slice Ao23 t148.length co23)).heap[gb151]? = some (.cells #[.slice Ao19 t145.length co19, .slice Ao23 t148.length co23] 29 (0, 0))) := ⟨zp BK151⟩
       have n5_ : Aside0 (Below w.heap.size w ((w18.setCell ⟨gb151, 0, none⟩ (.slice Ao19 t145.length co19)).setCell ⟨gb151, 1, none⟩ (.slice Ao23 t148.length co23))) := ⟨bq⟩
       (try clear HO147)
       (try clear HO150)
       (try clear BK142)
       (try clear BK143)
       (try clear BK151)
       (try clear HB)
       generalize ((w18.setCell ⟨gb151, 0, none⟩ (.slice Ao19 t145.length co19)).setCell ⟨gb151, 1, none⟩ (.slice Ao23 t148.length co23)) = w24 at n0_ n1_ n2_ n3_ n4_ n5_ ⊢
       have HO147 := n0_
       have HO150 := n1_
       have BK142 := n2_
       have BK143 := n3_
       have BK151 := n4_
       have HB := n5_
       clear n0_ n1_ n2_ n3_ n4_ n5_
       replace HO147 := am (Kd.R_drew HO147.out)
       replace HO150 := am (Kd.R_drew HO150.out)
       replace BK142 := am (blk_drew BK142.out)
       replace BK143 := am (blk_drew BK143.out)
       replace BK151 := am (blk_drew BK151.out)
       replace HB := am (below_drew1 HB.out)
       have q26 : (a1 : Int) ≤ ((t148.length : Int) : Int) := of_decide_eq_true aq
       obtain ⟨i026, hi026, _, hsz26, _⟩ := info_parts info41
       have hroom26 : t148.length ≤ co23 := (Kd.R_reads' HO150.out).2.1
       have hC26 : Kd.C k41 _ Ao23 t148.length t148 := (Kd.R_reads' HO150.out).2.2
       have hcut26 := cut_to (P := Try.prog) 27 41 .i64 Try.underlying27 hi026 Ao23 t148.length co23 a1 (of_decide_eq_true aq) q26 hroom26
       have hr26 := Kd.C_take (m := (a1 : Int).toNat) hC26 (by omega)
       have hy26 : y152.length = (a1 : Int).toNat := (by rw [Ny152.out, List.length_take]; omega)
       rw [← Ny152.out] at hr26
       rw [← hy26] at hcut26
       have HR155 := am hr26
       have HC155 := am (show y152.length ≤ co23 from by omega)
       clear hr26 hC26 hroom26 hi026 hsz26
       have KY26 := am hy26
       clear hy26
       have KL26 := am (show (a1 : Int).toNat ≤ t148.length from by omega)
       replace q26 := eq_true q26
       have q27 : ((ji8) : Int) ≤ ((l0_1.length : Int) : Int) := of_decide_eq_true aq
       obtain ⟨i027, hi027, _, hsz27, _⟩ := info_parts info41
       have hroom27 : l0_1.length ≤ c0_1 := HC0_1.out
       have hC27 : Kd.C k41 _ A0_1 l0_1.length l0_1 := Kd.C_below HR0_1.out HB.out
       have q027 : (0 : Int) ≤ ((ji8) : Int) := of_decide_eq_true aq
       have hcut27 := cut_from (P := Try.prog) 27 41 .i64 Try.underlying27 hi027 4 hsz27 A0_1 l0_1.length c0_1 (ji8) q027 q27
       have hr27 := Kd.C_drop (m := ((ji8) : Int).toNat) (c := c0_1) hC27 (by omega) hroom27
       obtain ⟨A27, hA27⟩ : ∃ A1, A1 = (if c0_1 = ((ji8) : Int).toNat then A0_1 else (A0_1 : Option Addr).map (·.add (((ji8) : Int).toNat * 4))) := ⟨_, rfl⟩
       obtain ⟨c27, hc27⟩ : ∃ c1, c1 = c0_1 - ((ji8) : Int).toNat := ⟨_, rfl⟩
       have hy27 : y156.length = l0_1.length - ((ji8) : Int).toNat := (by rw [Ny156.out, List.length_drop] <;> omega)
       rw [show (l0_1).drop ((ji8) : Int).toNat = y156 from Ny156.out.symm] at hr27
       replace hr27 : Kd.C k41 _ A27 y156.length y156 := (by rw [hA27]; exact hr27)
       rw [← hy27, ← hA27, ← hc27] at hcut27
       have HR159 := am hr27
       have HC159 := am (show y156.length ≤ c27 from by rw [hy27, hc27]; exact Nat.sub_le_sub_right hroom27 _)
       clear hr27 hC27 hroom27 hi027 hsz27 hc27
       have KY27 := am hy27
       have KA27 := am hA27
       clear hy27 hA27
       have KL27 := am (show ((ji8) : Int).toNat ≤ l0_1.length from by omega)
       replace q27 := eq_true q27
       obtain ⟨go29, co29, eo29, gb29, gl29, cl29, HG29⟩ := Kd.R_form HO150.out (by have hj_ : 0 ≤ (a1 : Int) := of_decide_eq_true aq; have hl_ : (ji8 : Int) ≤ (t148.length : Int) := of_decide_eq_true aq; have hh_ : (a1 : Int) ≤ (t148.length : Int) := of_decide_eq_true aq; rw [← hji8] at hl_; unfold wrap64 at hl_; omega)
       (first | cases eo29 | (injection eo29 with ea_ en_ ec_; (first | subst ea_ | (injection ea_ with ea_; subst ea_)); subst ec_; clear en_))
       have GB29 := am gb29
       have GG29 := am HG29
       clear gb29 gl29 HG29
       refine start_ (n := 12) (S := fun w' => w'.cell? ⟨gb151, 0, none⟩ = some (.slice Ao19 t145.length co19) ∧ w'.cell? ⟨gb151, 1, none⟩ = some (.slice (some ⟨go29, 0, none⟩) t148.length co23) ∧ w'.cell? ⟨gb142, 0, none⟩ = some (.slice A0_0 l0_0.length c0_0) ∧ w'.cell? ⟨gb142, 1, none⟩ = some (.slice A0_1 l0_1.length c0_1)) (ds := [11]) #[false, false, false, false, false, false, false, false, false, false, false, false] (by kernel_rfl) rfl rfl cl (fun hHeld => ?_); refine with_tabW spec_LostParts.tab4 spec_LostParts.bits4 (fun HT_ HW_ => ?_)
       generalize w24.drew = w25 at HO147 HO150 BK142 BK143 BK151 HB GG29 HR155 HR159 hHeld ⊢
       refine pure_ (i := 0) (N := some 14) (v := ?_) (a' := ?_) #[true, false, false, false, false, false, false, false, false, false, false, false] rfl rfl (any_of HT_.out (by kernel_rfl)) (fun _ _ _ h => h) (Or.inl ⟨by rfl, ?_⟩) ?_ ?_
       rotate_left
       ·intro w'
        go_simp
        with_reducible rfl
       rotate_left
       ·simp only [Act.put, List.setIfInBounds_toArray, List.set_cons_zero, List.set_cons_succ, i64_w, i32_w]
        rfl
       refine pure_ (i := 2) (N := some 16) (v := ?_) (a' := ?_) #[true, false, true, false, false, false, false, false, false, false, false, false] rfl rfl (any_of HT_.out (by kernel_rfl)) (fun _ _ _ h => h) (Or.inl ⟨by rfl, ?_⟩) ?_ ?_
       rotate_left
       ·intro w'
        go_simp
        with_reducible rfl
       rotate_left
       ·simp only [Act.put, List.setIfInBounds_toArray, List.set_cons_zero, List.set_cons_succ, i64_w, i32_w]
        rfl
       refine pure_ (i := 4) (N := some 18) (v := ?_) (a' := ?_) #[true, false, true, false, true, false, false, false, false, false, false, false] rfl rfl (any_of HT_.out (by kernel_rfl)) (fun _ _ _ h => h) (Or.inl ⟨by rfl, ?_⟩) ?_ ?_
       rotate_left
       ·intro w'
        go_simp
        with_reducible rfl
       rotate_left
       ·simp only [Act.put, List.setIfInBounds_toArray, List.set_cons_zero, List.set_cons_succ, i64_w, i32_w]
        rfl
       refine pure_ (i := 6) (N := some 20) (v := ?_) (a' := ?_) #[true, false, true, false, true, false, true, false, false, false, false, false] rfl rfl (any_of HT_.out (by kernel_rfl)) (fun _ _ _ h => h) (Or.inl ⟨by rfl, ?_⟩) ?_ ?_
       rotate_left
       ·intro w'
        go_simp
        with_reducible rfl
       rotate_left
       ·simp only [Act.put, List.setIfInBounds_toArray, List.set_cons_zero, List.set_cons_succ, i64_w, i32_w]
        rfl
       refine pure_ (i := 7) (N := some 21) (v := ?_) (a' := ?_) #[true, false, true, false, true, false, true, true, false, false, false, false] rfl rfl (any_of HT_.out (by kernel_rfl)) (fun _ _ _ h => h) (Or.inl ⟨by rfl, ?_⟩) ?_ ?_
       rotate_left
       ·intro w'
        go_simp
        with_reducible rfl
       rotate_left
       ·simp only [Act.put, List.setIfInBounds_toArray, List.set_cons_zero, List.set_cons_succ, i64_w, i32_w]
        rfl
       refine take_ (i := 1) (N := some 15) (v := ?_) (a' := ?_) #[true, true, true, false, true, false, true, true, false, false, false, false] rfl rfl (take_ofW HT_.out HW_.out (by kernel_rfl)) (fun _ _ _ h => h) (Or.inl ⟨by rfl, ?_⟩) hHeld ?_ ?_
       rotate_left
       ·rintro w' ⟨s0, s1, s2, s3⟩
        go_simp
        with_reducible rfl
       rotate_left
       ·simp only [Act.put, List.setIfInBounds_toArray, List.set_cons_zero, List.set_cons_succ, i64_w, i32_w]
        rfl
       refine pure_ (i := 3) (N := some 17) (v := ?_) (a' := ?_) #[true, true, true, true, true, false, true, true, false, false, false, false] rfl rfl (any_of HT_.out (by kernel_rfl)) (fun _ _ _ h => h) (Or.inl ⟨by rfl, ?_⟩) ?_ ?_
       rotate_left
       ·intro w'
        go_simp
        with_reducible rfl
       rotate_left
       ·simp only [Act.put, List.setIfInBounds_toArray, List.set_cons_zero, List.set_cons_succ, i64_w, i32_w]
        rfl
       refine take_ (i := 5) (N := some 19) (v := ?_) (a' := ?_) #[true, true, true, true, true, true, true, true, false, false, false, false] rfl rfl (take_ofW HT_.out HW_.out (by kernel_rfl)) (fun _ _ _ h => h) (Or.inl ⟨by rfl, ?_⟩) hHeld ?_ ?_
       rotate_left
       ·rintro w' ⟨s0, s1, s2, s3⟩
        go_simp
        with_reducible rfl
       rotate_left
       ·simp only [Act.put, List.setIfInBounds_toArray, List.set_cons_zero, List.set_cons_succ, i64_w, i32_w]
        rfl
       refine pure_ (i := 8) (N := some 22) (v := ?_) (a' := ?_) #[true, true, true, true, true, true, true, true, true, false, false, false] rfl rfl (any_of HT_.out (by kernel_rfl)) (fun _ _ _ h => h) (Or.inl ⟨by rfl, ?_⟩) ?_ ?_
       rotate_left
       ·intro w'
        go_simp
        with_reducible rfl
       rotate_left
       ·simp only [Act.put, List.setIfInBounds_toArray, List.set_cons_zero, List.set_cons_succ, i64_w, i32_w]
        rfl
       refine one_ (i := 9) (N := some 23) #[true, true, true, true, true, true, true, true, true, true, false, false] rfl rfl (one_of HT_.out (by kernel_rfl)) (by decide) (fun K hK => ?_)
       have hj_ : 0 ≤ (a1 : Int) := of_decide_eq_true aq
       have hl_ : (ji8 : Int) ≤ (t148.length : Int) := of_decide_eq_true aq
       have hh_ : (a1 : Int) ≤ (t148.length : Int) := of_decide_eq_true aq
       have hb_ := (Kd.R_reads' HO150.out).2.2.2.1
       have h0_ : (0 : Int) ≤ (ji8 : Int) := of_decide_eq_true aq
       have hy1_ := KY26.out
       have hk_ : (ji8 : Int).toNat = y152.length + 1 := (by have hw_ : (ji8 : Int) = a1 + 1 := (by have h00_ := h0_; rw [← hji8] at h00_ ⊢; unfold wrap64 at h00_ ⊢; omega); rw [hw_]; omega)
       have hjl_ : (ji8 : Int) ≤ (l0_1.length : Int) := of_decide_eq_true aq
       obtain ⟨ax_, _, hax_, _⟩ := Kd.C_get HR0_1.out z41 0 (by omega) (by omega)
       obtain ⟨a27_, ha27_⟩ : ∃ a_, A27 = some a_ := by rw [KA27.out, hax_]; split <;> exact ⟨_, rfl⟩
       have hky_ := KY27.out
       have hff_ := hf_.out
       refine R_splice_step (w0 := w) w.heap.size (by rfl) (.tmp 17) (.tmp 22) 27 41 rfl Try.underlying27 (by kernel_rfl) (g := go29) (n := t148.length) (c := co23) (k := y152.length) (ys := y156) rfl rfl ha27_ (rq HO150) HR159.out ?hk bq (below_size bq) ?_
       (case hk => omega)
       intro w28 ho hb hg
       clear hj_ hl_ hh_ hb_ hk_ h0_ hky_ hff_ hjl_
       rw [show t148.take y152.length ++ y156 = y160 from by rw [Ny160.out, hy1_, Ny156.out]] at ho
       clear hy1_
       have hn_ : y152.length + y156.length = y160.length := (by have := (Kd.R_reads' ho).1; omega)
       rw [hn_] at ho ⊢
       clear hn_
       replace BK142 := am (blk_grown (g := gb142) (o := .cells #[.slice A0_0 l0_0.length c0_0, .slice A0_1 l0_1.length c0_1] 29 (0, 0)) (zq BK142) hg (Kd.R_ne HO150.out BK142.out (by decide)))
       replace BK143 := am (blk_grown (g := gb143) (o := .cells #[.slice none 0 0, .slice none 0 0] 29 (0, 0)) (zq BK143) hg (Kd.R_ne HO150.out BK143.out (by decide)))
       replace HO147 := am (Kd.R_over' (v := (.slice (some ⟨go29, 0, none⟩) t148.length co23)) (rq HO147) (Kd.R_typed HO150.out) (by decide) hg)
       replace BK151 := am (blk_grown (g := gb151) (o := .cells #[.slice Ao19 t145.length co19, .slice (some ⟨go29, 0, none⟩) t148.length co23] 29 (0, 0)) (zq BK151) hg (Kd.R_ne HO150.out BK151.out (by decide)))
       replace HO150 := am (ho)
       replace HB := am (hb)
       clear ho hb hg
       refine hK.out _ _ cl (fun hHeld => ?_)
       clear hK K
       refine norm_ (a' := ?_) ?_ ?_
       rotate_left
       ·show Act.put _ (some 23) _ = _
        simp only [Act.put, List.setIfInBounds_toArray, List.set_cons_zero, List.set_cons_succ, i64_w, i32_w]
        rfl
       refine pure_ (i := 10) (N := some 24) (v := ?_) (a' := ?_) #[true, true, true, true, true, true, true, true, true, true, true, false] rfl rfl (any_of HT_.out (by kernel_rfl)) (fun _ _ _ h => h) (Or.inl ⟨by rfl, ?_⟩) ?_ ?_
       rotate_left
       ·intro w'
        go_simp
        with_reducible rfl
       rotate_left
       ·simp only [Act.put, List.setIfInBounds_toArray, List.set_cons_zero, List.set_cons_succ, i64_w, i32_w]
        rfl
       refine last_ (i := 11) (N := none) #[true, true, true, true, true, true, true, true, true, true, true, true] rfl rfl (one_of HT_.out (by kernel_rfl)) (by decide) (fun K hK => ?_)
       have hs30 : w28.cell? ⟨gb151, 1, none⟩ = some (.slice (some ⟨go29, 0, none⟩) t148.length co23) := (blk_cell BK151.out 1).trans rfl
       have hfs30 := blk_frozen BK151.out 1
       have hns30_0 := NB142_151.out
       have hns30_1 := NB143_151.out
       have hms30_0 := NB151_142.out
       have hms30_1 := NB151_143.out
       refine skip_ (w1 := ?_) (by rfl) rfl ?_ ?_
       rotate_left
       ·go_simp
        rfl
       refine hK.out _ _ ?_
       clear hK K
       refine done_ (done_of HT_.out (by kernel_rfl)) ?_
       have ⟨hcz31_0, hcz31_1, hfz31_0, hfz31_1⟩ := bc2 BK151
       have ⟨hcz32_0, hcz32_1, hfz32_0, hfz32_1⟩ := bc2 BK143
       try go_wp2
       refine bodyPost_ret (results_ct rfl _ _ gb143 29 #[.slice Ao19 t145.length co19, .slice (some ⟨go29, 0, none⟩) y160.length co23] (0, 0) _ rfl (zp BK143) Try.underlying29 rfl (by kernel_rfl)) rfl ?_
       exact ⟨_, _, by first | rfl | (simp [errW_none, errW_some] <;> rfl) | (simp only [← hji8]; first | rfl | (simp [errW_none, errW_some] <;> rfl)) | (simp [*, errW_none, errW_some] <;> rfl), by (with_reducible repeat (first | apply Kd.R_alloc | apply Kd.R_drewN | apply Kd.R_drew)); exact Kd.R_mono (Kd.R_far (p := ⟨gb143, 1, none⟩) (Kd.R_far (p := ⟨gb143, 0, none⟩) (Kd.R_far (p := ⟨gb151, 1, none⟩) (Kd.R_types (Kd.R_types HO147.out BK151.out (by decide)) BK143.out (by decide)) (fun _ hk => hk.1.2) (.slice (some ⟨go29, 0, none⟩) y160.length co23)) (fun _ hk => hk.2) (.slice Ao19 t145.length co19)) (fun _ hk => hk.2) (.slice (some ⟨go29, 0, none⟩) y160.length co23)) (fun _ hk => trivial), by (with_reducible repeat (first | apply Kd.R_alloc | apply Kd.R_drewN | apply Kd.R_drew)); exact Kd.R_mono (Kd.R_far (p := ⟨gb143, 1, none⟩) (Kd.R_far (p := ⟨gb143, 0, none⟩) (Kd.R_far (p := ⟨gb151, 1, none⟩) (Kd.R_types (Kd.R_types HO150.out BK151.out (by decide)) BK143.out (by decide)) (fun _ hk => hk.1.2) (.slice (some ⟨go29, 0, none⟩) y160.length co23)) (fun _ hk => hk.2) (.slice Ao19 t145.length co19)) (fun _ hk => hk.2) (.slice (some ⟨go29, 0, none⟩) y160.length co23)) (fun _ hk => trivial), bq⟩
      ·rw [if_neg c_] at H
       exact absurd H (by simp)
     ·rw [if_neg c10] at H
      exact absurd H (by simp)
    ·rw [if_neg c9] at H
     exact absurd H (by simp)
   ·rw [if_neg c7] at H
    exact absurd H (by simp)
  ·rw [if_neg c6] at H
   exact absurd H (by simp)
 ·replace c4 := Bool.eq_false_iff.mpr c4
  subst c4
  rw [if_neg (show ¬ (false = true) by decide)] at H
  try dsimp only at H
  simp only [Option.some.injEq, Prod.mk.injEq] at H
  obtain ⟨rfl, rfl, rfl⟩ := H
  go_enter Try.func8, Try.ntmps8
  go_wp2_with (first | ((with_reducible refine gate_dst (N := 2) rfl ?_); refine box_event ?hg (N := 2) ?hd (cs := #[.slice A0_0 l0_0.length c0_0, .slice A0_1 l0_1.length c0_1]) (t := 29) ?hr ?_; (case hd => rfl); (case hg => rfl); (case hr => first | (go_simp; done) | (go_simp; rfl)); intro gb142 hg w33 hbox hb; have BK142 := am (hbox); have GW142 := am (gq hg); have GE142 := am (gq hg); replace HB := sb hb; clear hb hbox hg) | ((with_reducible refine gate_dst (N := 4) rfl ?_); refine box_event ?hg (N := 4) ?hd (cs := #[.slice none 0 0, .slice none 0 0]) (t := 29) ?hr ?_; (case hd => rfl); (case hg => rfl); (case hr => first | (go_simp; done) | (go_simp; rfl)); intro gb143 hg w34 hbox hb; have BK143 := am (hbox); have GW143 := am (gq hg); have GE143 := am (gq hg); replace HB := sb hb; have NB142_143 := nl hg BK142; have NB143_142 := ng hg BK142; replace BK142 := zb BK142 hb; clear hb hbox hg; have hnb35 := NB142_143.out; have hnc35 := NB143_142.out; have ⟨hcz36_0, hcz36_1, hfz36_0, hfz36_1⟩ := bc2 BK142) | ((with_reducible refine gate_callee (f := 23) rfl ?_); refine goesQ (some 9) Try.func23 #[.agg #[.slice A0_0 l0_0.length c0_0, .slice A0_1 l0_1.length c0_1], .int .i64 a1] ?_; (with_reducible refine (spec_psHas.calls k _ _ l0_0 _ _ l0_1 a1 false _ ?s1 ?s2 ?s3 ?s4 A3.out).mono ?_); (case s1 => exact cq (Kd.C_below HR0_0.out HB.out)); (case s2 => exact HC0_0.out); (case s3 => exact cq (Kd.C_below HR0_1.out HB.out)); (case s4 => exact HC0_1.out); rintro e w37 ⟨rfl, hb⟩; refine ⟨_, rfl, ?_⟩; replace BK142 := zb BK142 hb; replace BK143 := zb BK143 hb; replace HB := sb hb; (try clear hb); have ⟨hcz38_0, hcz38_1, hfz38_0, hfz38_1⟩ := bc2 BK143))
  refine bodyPost_ret (results_ct rfl _ _ gb143 29 #[.slice none 0 0, .slice none 0 0] (0, 0) _ rfl (zp BK143) Try.underlying29 rfl (by kernel_rfl)) rfl ?_
  exact ⟨_, _, eq_, by first | exact Kd.R_nil _ _ _ _ _ | exact Kd.N_nil _ _ _ _ _ | exact Kd.V_nil _ _ _ _ _ | exact Kd.Q_nil _ _ _ _ _ | exact Kd.S_nil _ _ _ _ _, by first | exact Kd.R_nil _ _ _ _ _ | exact Kd.N_nil _ _ _ _ _ | exact Kd.V_nil _ _ _ _ _ | exact Kd.Q_nil _ _ _ _ _ | exact Kd.S_nil _ _ _ _ _, bq⟩


/-! ### laws_toIntS: function 25 -/
def laws_toIntS.l0 : Nat → List Int → List Int → Int → Option (List Int)
 | 0, _, _, _ => none
 | k + 1, x0, x3, x4 => if x4 < (x0.length : Int) then (if 0 ≤ x4 then (if x4 < (x3.length : Int) then (laws_toIntS.l0 k x0 (x3.set (x4 : Int).toNat (rd x0 x4)) (wrap64 (x4 + 1))) else (none)) else (none)) else (some x3)
def laws_toIntS.f (k : Nat) (l0 : List Int) : Option (List Int) := if 0 ≤ (l0.length : Int) then (if ((l0.length : Int) : Int).toNat ≤ 35184372088832 then (laws_toIntS.l0 k l0 (List.replicate ((l0.length : Int) : Int).toNat 0) 0) else (none)) else (none)
theorem laws_toIntS.mono_l : ∀ k, (∀ y0 y1 y2, LeO (laws_toIntS.l0 k y0 y1 y2) (laws_toIntS.l0 (k + 1) y0 y1 y2))
 | 0 => fun _ _ _ r h => by simp [laws_toIntS.l0] at h
 | k + 1 => by
  have ih0 := laws_toIntS.mono_l k
  ·intro y0 y1 y2
   unfold laws_toIntS.l0
   repeat' first
   | (with_reducible exact ih0 _ _ _)
   | (with_reducible exact LeO.refl _)
   | (with_reducible exact LeO.none _)
   | (with_reducible refine LeO.ite ?_ ?_)
   | (with_reducible refine LeO.bind ?_ (fun _ => ?_))
   | exact ih0 _ _ _
   | exact LeO.none _
   | refine LeO.ite ?_ ?_
   | refine LeO.bind ?_ (fun _ => ?_)
theorem laws_toIntS.mono : ∀ a0 k, LeO (laws_toIntS.f k a0) (laws_toIntS.f (k + 1) a0) := by
 intro a0 k
 have ih0 := laws_toIntS.mono_l k
 unfold laws_toIntS.f
 repeat' first
   | (with_reducible exact ih0 _ _ _)
   | (with_reducible exact LeO.refl _)
   | (with_reducible exact LeO.none _)
   | (with_reducible refine LeO.ite ?_ ?_)
   | (with_reducible refine LeO.bind ?_ (fun _ => ?_))
   | exact ih0 _ _ _
   | exact LeO.none _
   | refine LeO.ite ?_ ?_
   | refine LeO.bind ?_ (fun _ => ?_)
set_option maxHeartbeats 8000000 in
set_option maxRecDepth 100000 in
theorem laws_toIntS.calls (k : Nat) (A0 : Option Addr) (c0 : Nat) (l0 : List Int) (r : List Int) (w : World) (hr0 : Kd.C (Kd.int .i64) w A0 l0.length l0) (hc0 : l0.length ≤ c0) (h : laws_toIntS.f k l0 = some r) :
  Calls Try.prog 25 #[.slice A0 l0.length c0] w fun e w' => ∃ v0_ : Value, e = .returned (v0_) ∧ Kd.R (Kd.int .i64) 3 w' w.heap.size (fun _ => True) v0_ r ∧ Below w.heap.size w w' := by
 have HR0 := am hr0
 have HC0 := am hc0
 clear hr0 hc0
 have HB := am (Below.refl w.heap.size w)
 have H : (if 0 ≤ (l0.length : Int) then (if ((l0.length : Int) : Int).toNat ≤ 35184372088832 then (laws_toIntS.l0 k l0 (List.replicate ((l0.length : Int) : Int).toNat 0) 0) else (none)) else (none)) = some r := h
 clear h
 by_cases c2 : 0 ≤ (l0.length : Int)
 ·rw [if_pos c2] at H
  have c2b0 := eq_true c2
  have c2b1 : decide (0 ≤ (l0.length : Int)) = true := decide_eq_true c2
  clear c2
  by_cases c3 : ((l0.length : Int) : Int).toNat ≤ 35184372088832
  ·rw [if_pos c3] at H
   have c3b0 := eq_true c3
   have c3b1 : decide (((l0.length : Int) : Int).toNat ≤ 35184372088832) = true := decide_eq_true c3
   clear c3
   obtain ⟨y163, hy163⟩ : ∃ y_ : List Int, y_ = (List.replicate ((l0.length : Int) : Int).toNat 0) := ⟨_, rfl⟩
   replace H : (laws_toIntS.l0 k l0 y163 0) = some r := by first | (rw [hy163]; with_reducible exact H) | (have H2_ := (Option.bind_some _ _).symm.trans H; rw [hy163]; with_reducible exact H2_) | (have H2_ := (Option.bind_some _ _).symm.trans H; with_reducible exact H2_) | with_reducible exact H | (rw [hy163]; exact H) | exact H
   have Ny163 := am hy163
   clear hy163
   have H' := am H
   clear H
   go_enter Try.func25, Try.ntmps25
   go_wp2_with (first | ((with_reducible refine gate_dst (N := 7) rfl ?_); refine Kd.R_make (Kd.int .i64) _ 3 rfl (N := 7) rfl 22 _ _ rfl (l0.length : Int) rfl rfl Try.underlying22 (.int .i64 0) 8 info3 rfl (by decide) (by omega) 0 (ok := fun _ => True) (okp := fun _ => True) rfl (fun _ hk => hk) trivial (of_decide_eq_true aq) (Nat.le_trans (Nat.mul_le_mul_right _ (of_decide_eq_true aq : (l0.length : Int).toNat ≤ 35184372088832)) (by omega)) (Below.refl _ _) (Nat.le_refl _) ?_; intro v164 w4 ho5 hb hg_ hnew_; clear hg_ hnew_; (first | rw [← Ny163.out] at ho5 | (simp only [Int.reduceToNat] at ho5; rw [← Ny163.out] at ho5)); have HO165 := rl ho5; replace HB := sb hb; clear hb ho5))
   go_loopg [4] k (fun kq v4 w' => ∃ (x3_1 : List Int) (x4_1 : Int), v4 = .int .i64 x4_1 ∧ Aside0 (laws_toIntS.l0 kq l0 x3_1 x4_1 = some r) ∧ Aside0 (kq ≤ k) ∧ Aside0 (Kd.R (Kd.int .i64) 3 w' w.heap.size (fun _ => True) v164 x3_1) ∧ Aside0 (Below w.heap.size w w'))
   case atStart => exact ⟨(y163), (0), sq, H', ⟨Nat.le_refl _⟩, ⟨rq HO165⟩, ⟨bq⟩⟩
   case round =>
    clear H'
    try clear c2b0
    try clear c2b1
    try clear c3b0
    try clear c3b1
    obtain ⟨x3_1, x4_1, rfl, HA, HK1, HO_3, HB⟩ := hrel
    cases gk with
    | zero => exact absurd HA.out (by simp [laws_toIntS.l0])
    | succ k1 =>
     have H := HA.out
     clear HA
     simp only [laws_toIntS.l0] at H
     by_cases c6 : x4_1 < (l0.length : Int)
     ·rw [if_pos c6] at H
      have c6b0 : decide (x4_1 < (l0.length : Int)) = true := decide_eq_true c6
      clear c6
      by_cases c7 : 0 ≤ x4_1
      ·rw [if_pos c7] at H
       have c7b0 : decide (0 ≤ x4_1) = true := decide_eq_true c7
       clear c7
       by_cases c8 : x4_1 < (x3_1.length : Int)
       ·rw [if_pos c8] at H
        have c8b0 : decide (x4_1 < (x3_1.length : Int)) = true := decide_eq_true c8
        clear c8
        obtain ⟨y167, hy167⟩ : ∃ y_ : List Int, y_ = (x3_1.set (x4_1 : Int).toNat (rd l0 x4_1)) := ⟨_, rfl⟩
        replace H : (laws_toIntS.l0 k1 l0 y167 (wrap64 (x4_1 + 1))) = some r := by first | (rw [hy167]; with_reducible exact H) | (have H2_ := (Option.bind_some _ _).symm.trans H; rw [hy167]; with_reducible exact H2_) | (have H2_ := (Option.bind_some _ _).symm.trans H; with_reducible exact H2_) | with_reducible exact H | (rw [hy167]; exact H) | exact H
        have Ny167 := am hy167
        clear hy167
        have H' := am H
        clear H
        have p166 : 0 ≤ (x4_1 : Int) := of_decide_eq_true aq
        have q166 : x4_1 < (l0.length : Int) := of_decide_eq_true aq
        obtain ⟨ad166, e166, hx166_0⟩ := Kd.at_int HR0.out x4_1 p166 q166
        cases e166
        replace hx166_0 := (HB.out.cell (World.block_lt_of_cell? w _ hx166_0)).trans hx166_0
        replace p166 := eq_true p166
        replace q166 := eq_true q166
        have p9 : 0 ≤ (x4_1 : Int) := of_decide_eq_true aq
        have q9 : (x4_1 : Int) < ((x3_1.length : Int) : Int) := of_decide_eq_true aq
        obtain ⟨go9, co9, eo9, gb9, gl9, cl9, HG9⟩ := Kd.R_form HO_3.out (by omega)
        (first | cases eo9 | (injection eo9 with ea_ en_ ec_; (first | subst ea_ | (injection ea_ with ea_; subst ea_)); subst ec_; clear en_))
        have GB9 := am gb9
        have GG9 := am HG9
        clear gb9 gl9 HG9
        obtain ⟨hx9_0, hf9_0⟩ := Kd.R_celln 0 HO_3.out (x4_1 : Int) p9 q9
        replace p9 := eq_true p9
        replace q9 := eq_true q9
        have HP10 := Kd.R_putg HO_3.out (x4_1 : Int) (rd l0 x4_1)
        go_wp2_with (first | ((with_reducible refine gate_store (t := 3) (p := 20) rfl ?_); refine store_event (t := 3) (p := 20) (v := ?vo_w11) (w1 := (wr.setCell ⟨go9, (x4_1 : Int).toNat, none⟩ (.int .i64 (rd l0 x4_1)))) ?hg ?ho ?hn ?hr ?_; (case ho => rfl); (case hg => rfl); (case hn => rfl); (case hr => first | (go_simp; done) | (go_simp; rfl)); intro w11 hw; have hg : wr.grownBy w11 (some go9) := (by rw [hw]; exact HP10.2); have hp_ : Kd.R (Kd.int .i64) 3 w11 w.heap.size (fun _ => True) (.slice (some ⟨go9, 0, none⟩) x3_1.length co9) y167 := (by rw [hw, Ny167.out]; exact HP10.1); clear HP10; replace HO_3 := am (hp_); replace HB := am ((by rw [hw]; exact below_set (HB.out) GB9.out : Below w.heap.size w w11)); clear hg hw hp_))
        go_roundg k1
        case measure => have := HK1.out; omega
        case rel => exact ⟨(y167), (wrap64 (x4_1 + 1)), sq, H', ⟨by have := HK1.out; omega⟩, ⟨rq HO_3⟩, ⟨bq⟩⟩
       ·rw [if_neg c8] at H
        exact absurd H (by simp)
      ·rw [if_neg c7] at H
       exact absurd H (by simp)
     ·rw [if_neg c6] at H
      have c6b0 : decide (x4_1 < (l0.length : Int)) = false := decide_eq_false c6
      clear c6
      obtain rfl := Option.some.inj H
      go_wp2
      go_ret
      exact ⟨_, eq_, rq HO_3, bq⟩
  ·rw [if_neg c3] at H
   exact absurd H (by simp)
 ·rw [if_neg c2] at H
  exact absurd H (by simp)


/-! ### laws_toLoan: function 17 -/
def laws_toLoan.f (a0_0 : Int) (a0_1 : Int) (a0_2 : Int) (a0_3 : Int) : Option (Int × Int × Int × Int) := some (a0_0, a0_1, a0_2, a0_3)
set_option maxHeartbeats 8000000 in
set_option maxRecDepth 100000 in
theorem laws_toLoan.calls (a0_0 : Int) (a0_1 : Int) (a0_2 : Int) (a0_3 : Int) (r1 : Int) (r2 : Int) (r3 : Int) (r4 : Int) (w : World) (h : laws_toLoan.f a0_0 a0_1 a0_2 a0_3 = some (r1, r2, r3, r4)) :
  Calls Try.prog 17 #[.agg #[.int .i64 a0_0, .int .i64 a0_1, .int .i64 a0_2, .int .i64 a0_3]] w fun e w' => e = .returned (.agg #[.int .i64 r1, .int .i64 r2, .int .i64 r3, .int .i64 r4]) ∧ Below w.heap.size w w' := by
 have hu39 := Try.underlying39
 have hu41 := Try.underlying41
 have HB := am (Below.refl w.heap.size w)
 have H : (some (a0_0, a0_1, a0_2, a0_3)) = some (r1, r2, r3, r4) := h
 clear h
 simp only [Option.some.injEq, Prod.mk.injEq] at H
 obtain ⟨rfl, rfl, rfl, rfl⟩ := H
 go_enter Try.func17, Try.ntmps17
 go_wp2_with (first | ((with_reducible refine gate_dst (N := 1) rfl ?_); refine box_event ?hg (N := 1) ?hd (cs := #[.int .i64 a0_0, .int .i64 a0_1, .int .i64 a0_2, .int .i64 a0_3]) (t := 39) ?hr ?_; (case hd => rfl); (case hg => rfl); (case hr => first | (go_simp; done) | (go_simp; rfl)); intro gb168 hg w2 hbox hb; have BK168 := am (hbox); have GW168 := am (gq hg); have GE168 := am (gq hg); replace HB := sb hb; clear hb hbox hg) | ((with_reducible refine gate_dst (N := 2) rfl ?_); refine box_event ?hg (N := 2) ?hd (cs := #[.int .i64 0, .int .i64 0, .int .i64 0, .int .i64 0]) (t := 41) ?hr ?_; (case hd => rfl); (case hg => rfl); (case hr => first | (go_simp; done) | (go_simp; rfl)); intro gb169 hg w3 hbox hb; have BK169 := am (hbox); have GW169 := am (gq hg); have GE169 := am (gq hg); replace HB := sb hb; have NB168_169 := nl hg BK168; have NB169_168 := ng hg BK168; replace BK168 := zb BK168 hb; clear hb hbox hg) | ((with_reducible refine gate_dst (N := 3) rfl ?_); refine box_event ?hg (N := 3) ?hd (cs := #[.int .i64 0, .int .i64 0, .int .i64 0, .int .i64 0]) (t := 41) ?hr ?_; (case hd => rfl); (case hg => rfl); (case hr => first | (go_simp; done) | (go_simp; rfl)); intro gb170 hg w4 hbox hb; have BK170 := am (hbox); have GW170 := am (gq hg); have GE170 := am (gq hg); replace HB := sb hb; have NB168_170 := nl hg BK168; have NB170_168 := ng hg BK168; replace BK168 := zb BK168 hb; have NB169_170 := nl hg BK169; have NB170_169 := ng hg BK169; replace BK169 := zb BK169 hb; clear hb hbox hg; have hnb5 := NB168_169.out; have hnc5 := NB169_168.out; have hnb6 := NB168_170.out; have hnc6 := NB170_168.out; have ⟨hcz7_0, hcz7_1, hcz7_2, hcz7_3, hfz7_0, hfz7_1, hfz7_2, hfz7_3⟩ := bc4 BK168; have hnb8 := NB170_169.out; have hnc8 := NB169_170.out; have ⟨hcz9_0, hcz9_1, hcz9_2, hcz9_3, hfz9_0, hfz9_1, hfz9_2, hfz9_3⟩ := bc4 BK170; have ⟨hcz10_0, hcz10_1, hcz10_2, hcz10_3, hfz10_0, hfz10_1, hfz10_2, hfz10_3⟩ := bc4 BK169))
 refine bodyPost_ret (results_cell_row rfl _ _ gb169 41 #[.int .i64 a0_0, .int .i64 a0_1, .int .i64 a0_2, .int .i64 a0_3] (0, 0) _ rfl (zp BK169) Try.underlying41 rfl (by kernel_rfl)) rfl ?_
 exact ⟨eq_, bq⟩



/-! ### laws_toLoanS: function 26 -/
def laws_toLoanS.l0 : Nat → List (S39) → List (S41) → Int → Option ((List (S41)))
 | 0, _, _, _ => none
 | k + 1, x0, x3, x4 => if x4 < (x0.length : Int) then (if 0 ≤ x4 then ((laws_toLoan.f ((rd_T39 x0 x4).f0) ((rd_T39 x0 x4).f1) ((rd_T39 x0 x4).f2) ((rd_T39 x0 x4).f3)).bind fun bt175 => (if x4 < (x3.length : Int) then (laws_toLoanS.l0 k x0 (x3.set (x4 : Int).toNat (⟨bt175.1, bt175.2.1, bt175.2.2.1, bt175.2.2.2⟩ : S41)) (wrap64 (x4 + 1))) else (none))) else (none)) else (some x3)
def laws_toLoanS.f (k : Nat) (l0 : List (S39)) : Option ((List (S41))) := if 0 ≤ (l0.length : Int) then (if ((l0.length : Int) : Int).toNat ≤ 8796093022208 then (laws_toLoanS.l0 k l0 (List.replicate ((l0.length : Int) : Int).toNat z41) 0) else (none)) else (none)
theorem laws_toLoanS.mono_l : ∀ k, (∀ y0 y1 y2, LeO (laws_toLoanS.l0 k y0 y1 y2) (laws_toLoanS.l0 (k + 1) y0 y1 y2))
 | 0 => fun _ _ _ r h => by simp [laws_toLoanS.l0] at h
 | k + 1 => by
  have ih0 := laws_toLoanS.mono_l k
  ·intro y0 y1 y2
   unfold laws_toLoanS.l0
   repeat' first
   | (with_reducible exact ih0 _ _ _)
   | (with_reducible exact LeO.refl _)
   | (with_reducible exact LeO.none _)
   | (with_reducible refine LeO.ite ?_ ?_)
   | (with_reducible refine LeO.bind ?_ (fun _ => ?_))
   | exact ih0 _ _ _
   | exact LeO.none _
   | refine LeO.ite ?_ ?_
   | refine LeO.bind ?_ (fun _ => ?_)
theorem laws_toLoanS.mono : ∀ a0 k, LeO (laws_toLoanS.f k a0) (laws_toLoanS.f (k + 1) a0) := by
 intro a0 k
 have ih0 := laws_toLoanS.mono_l k
 unfold laws_toLoanS.f
 repeat' first
   | (with_reducible exact ih0 _ _ _)
   | (with_reducible exact LeO.refl _)
   | (with_reducible exact LeO.none _)
   | (with_reducible refine LeO.ite ?_ ?_)
   | (with_reducible refine LeO.bind ?_ (fun _ => ?_))
   | exact ih0 _ _ _
   | exact LeO.none _
   | refine LeO.ite ?_ ?_
   | refine LeO.bind ?_ (fun _ => ?_)
set_option maxHeartbeats 8000000 in
set_option maxRecDepth 100000 in
theorem laws_toLoanS.calls (k : Nat) (A0 : Option Addr) (c0 : Nat) (l0 : List (S39)) (r : List (S41)) (w : World) (hr0 : Kd.C k39 w A0 l0.length l0) (hc0 : l0.length ≤ c0) (h : laws_toLoanS.f k l0 = some r) :
  Calls Try.prog 26 #[.slice A0 l0.length c0] w fun e w' => ∃ v0_ : Value, e = .returned (v0_) ∧ Kd.R k41 41 w' w.heap.size (fun _ => True) v0_ r ∧ Below w.heap.size w w' := by
 have hu39 := Try.underlying39
 have hu41 := Try.underlying41
 have HR0 := am hr0
 have HC0 := am hc0
 clear hr0 hc0
 have HB := am (Below.refl w.heap.size w)
 have H : (if 0 ≤ (l0.length : Int) then (if ((l0.length : Int) : Int).toNat ≤ 8796093022208 then (laws_toLoanS.l0 k l0 (List.replicate ((l0.length : Int) : Int).toNat z41) 0) else (none)) else (none)) = some r := h
 clear h
 by_cases c2 : 0 ≤ (l0.length : Int)
 ·rw [if_pos c2] at H
  have c2b0 := eq_true c2
  have c2b1 : decide (0 ≤ (l0.length : Int)) = true := decide_eq_true c2
  clear c2
  by_cases c3 : ((l0.length : Int) : Int).toNat ≤ 8796093022208
  ·rw [if_pos c3] at H
   have c3b0 := eq_true c3
   have c3b1 : decide (((l0.length : Int) : Int).toNat ≤ 8796093022208) = true := decide_eq_true c3
   clear c3
   obtain ⟨y171, hy171⟩ : ∃ y_ : List (S41), y_ = (List.replicate ((l0.length : Int) : Int).toNat z41) := ⟨_, rfl⟩
   replace H : (laws_toLoanS.l0 k l0 y171 0) = some r := by first | (rw [hy171]; with_reducible exact H) | (have H2_ := (Option.bind_some _ _).symm.trans H; rw [hy171]; with_reducible exact H2_) | (have H2_ := (Option.bind_some _ _).symm.trans H; with_reducible exact H2_) | with_reducible exact H | (rw [hy171]; exact H) | exact H
   have Ny171 := am hy171
   clear hy171
   have H' := am H
   clear H
   go_enter Try.func26, Try.ntmps26
   go_wp2_with (first | ((with_reducible refine gate_dst (N := 7) rfl ?_); refine Kd.R_make k41 _ 41 rfl (N := 7) rfl 27 _ _ rfl (l0.length : Int) rfl rfl Try.underlying27 (.agg #[(.int .i64 0), (.int .i64 0), (.int .i64 0), (.int .i64 0)]) 32 info41 rfl (by decide) (by omega) z41 (ok := fun _ => True) (okp := fun _ => True) (k41_mkM _ _ _ z41 ) (fun _ hk => hk) trivial (of_decide_eq_true aq) (Nat.le_trans (Nat.mul_le_mul_right _ (of_decide_eq_true aq : (l0.length : Int).toNat ≤ 8796093022208)) (by omega)) (Below.refl _ _) (Nat.le_refl _) ?_; intro v172 w4 ho5 hb hg_ hnew_; clear hg_ hnew_; (first | rw [← Ny171.out] at ho5 | (simp only [Int.reduceToNat] at ho5; rw [← Ny171.out] at ho5)); have HO173 := rl ho5; replace HB := sb hb; clear hb ho5))
   go_loopg [4] k (fun kq v4 w' => ∃ (x3_1 : List (S41)) (x4_1 : Int), v4 = .int .i64 x4_1 ∧ Aside0 (laws_toLoanS.l0 kq l0 x3_1 x4_1 = some r) ∧ Aside0 (kq ≤ k) ∧ Aside0 (Kd.R k41 41 w' w.heap.size (fun _ => True) v172 x3_1) ∧ Aside0 (Below w.heap.size w w'))
   case atStart => exact ⟨(y171), (0), sq, H', ⟨Nat.le_refl _⟩, ⟨rq HO173⟩, ⟨bq⟩⟩
   case round =>
    clear H'
    try clear c2b0
    try clear c2b1
    try clear c3b0
    try clear c3b1
    obtain ⟨x3_1, x4_1, rfl, HA, HK1, HO_3, HB⟩ := hrel
    cases gk with
    | zero => exact absurd HA.out (by simp [laws_toLoanS.l0])
    | succ k1 =>
     have H := HA.out
     clear HA
     simp only [laws_toLoanS.l0] at H
     by_cases c6 : x4_1 < (l0.length : Int)
     ·rw [if_pos c6] at H
      have c6b0 : decide (x4_1 < (l0.length : Int)) = true := decide_eq_true c6
      clear c6
      by_cases c7 : 0 ≤ x4_1
      ·rw [if_pos c7] at H
       have c7b0 : decide (0 ≤ x4_1) = true := decide_eq_true c7
       clear c7
       obtain ⟨⟨t175, t176, t177, t178⟩, A8, H⟩ := bindq H
       try dsimp only at H
       by_cases c9 : x4_1 < (x3_1.length : Int)
       ·rw [if_pos c9] at H
        have c9b0 : decide (x4_1 < (x3_1.length : Int)) = true := decide_eq_true c9
        clear c9
        obtain ⟨y179, hy179⟩ : ∃ y_ : List (S41), y_ = (x3_1.set (x4_1 : Int).toNat (⟨t175, t176, t177, t178⟩ : S41)) := ⟨_, rfl⟩
        replace H : (laws_toLoanS.l0 k1 l0 y179 (wrap64 (x4_1 + 1))) = some r := by first | (rw [hy179]; with_reducible exact H) | (have H2_ := (Option.bind_some _ _).symm.trans H; rw [hy179]; with_reducible exact H2_) | (have H2_ := (Option.bind_some _ _).symm.trans H; with_reducible exact H2_) | with_reducible exact H | (rw [hy179]; exact H) | exact H
        have Ny179 := am hy179
        clear hy179
        have H' := am H
        clear H
        have p174 : 0 ≤ (x4_1 : Int) := of_decide_eq_true aq
        have q174 : x4_1 < (l0.length : Int) := of_decide_eq_true aq
        obtain ⟨ad174, e174, hx174_0, hx174_1, hx174_2, hx174_3⟩ := at_T39 HR0.out x4_1 p174 q174
        cases e174
        replace hx174_0 := (HB.out.cell (World.block_lt_of_cell? w _ hx174_0)).trans hx174_0
        replace hx174_1 := (HB.out.cell (World.block_lt_of_cell? w _ hx174_1)).trans hx174_1
        replace hx174_2 := (HB.out.cell (World.block_lt_of_cell? w _ hx174_2)).trans hx174_2
        replace hx174_3 := (HB.out.cell (World.block_lt_of_cell? w _ hx174_3)).trans hx174_3
        replace p174 := eq_true p174
        replace q174 := eq_true q174
        go_wp2_with (first | ((with_reducible refine gate_callee (f := 17) rfl ?_); refine goesQ (some 20) Try.func17 #[.agg #[.int .i64 ((rd_T39 l0 x4_1).f0), .int .i64 ((rd_T39 l0 x4_1).f1), .int .i64 ((rd_T39 l0 x4_1).f2), .int .i64 ((rd_T39 l0 x4_1).f3)]] ?_; (with_reducible refine (laws_toLoan.calls ((rd_T39 l0 x4_1).f0) ((rd_T39 l0 x4_1).f1) ((rd_T39 l0 x4_1).f2) ((rd_T39 l0 x4_1).f3) t175 t176 t177 t178 _ A8.out).mono ?_); rintro e w11 ⟨rfl, hb⟩; refine ⟨_, rfl, ?_⟩; replace HO_3 := rb HO_3 hb; replace HB := sb hb; (try clear hb); have p10 : 0 ≤ (x4_1 : Int) := of_decide_eq_true aq; have q10 : (x4_1 : Int) < ((x3_1.length : Int) : Int) := of_decide_eq_true aq; obtain ⟨go10, co10, eo10, gb10, gl10, cl10, HG10⟩ := Kd.R_form HO_3.out (by omega); (first | cases eo10 | (injection eo10 with ea_ en_ ec_; (first | subst ea_ | (injection ea_ with ea_; subst ea_)); subst ec_; clear en_)); have GB10 := am gb10; have GG10 := am HG10; clear gb10 gl10 HG10; obtain ⟨ce10, hcl10, hM10, hcc10, hfr10⟩ := Kd.R_elem HO_3.out z41 (x4_1 : Int) p10 q10; obtain rfl := k41_openM hM10; have hx10_0 : w11.cell? ⟨go10, (x4_1 : Int).toNat * 4, none⟩ = some (.int .i64 ((rd_T41 x3_1 x4_1).f0)) := hcc10 0 _ rfl; have hx10_1 : w11.cell? ⟨go10, (x4_1 : Int).toNat * 4 + 1, none⟩ = some (.int .i64 ((rd_T41 x3_1 x4_1).f1)) := hcc10 1 _ rfl; have hx10_2 : w11.cell? ⟨go10, (x4_1 : Int).toNat * 4 + 2, none⟩ = some (.int .i64 ((rd_T41 x3_1 x4_1).f2)) := hcc10 2 _ rfl; have hx10_3 : w11.cell? ⟨go10, (x4_1 : Int).toNat * 4 + 3, none⟩ = some (.int .i64 ((rd_T41 x3_1 x4_1).f3)) := hcc10 3 _ rfl; have hf10_0 : w11.frozen? ⟨go10, (x4_1 : Int).toNat * 4, none⟩ = false := hfr10 0; have hf10_1 : w11.frozen? ⟨go10, (x4_1 : Int).toNat * 4 + 1, none⟩ = false := hfr10 1; have hf10_2 : w11.frozen? ⟨go10, (x4_1 : Int).toNat * 4 + 2, none⟩ = false := hfr10 2; have hf10_3 : w11.frozen? ⟨go10, (x4_1 : Int).toNat * 4 + 3, none⟩ = false := hfr10 3; clear hcl10 hcc10 hfr10 hM10; replace p10 := eq_true p10; replace q10 := eq_true q10; have HX12 := am (show Kd.R k41 41 w11 w.heap.size (fun _ => True) (.slice (some ⟨go10, 0, none⟩) x3_1.length co10) x3_1 from (rq HO_3)); obtain ⟨ce12, hcl12, hM12, hcc12, hfr12⟩ := Kd.R_elem HX12.out z41 (x4_1 : Int) (of_decide_eq_true aq) (by have h_ : (x4_1 : Int) < ((x3_1.length : Int) : Int) := of_decide_eq_true aq; first | exact h_ | (have e_ := (Kd.R_reads' HO_3.out).1; omega) | simpa using h_); obtain rfl := k41_openM hM12; have HP12 := Kd.R_seg HX12.out (x4_1 : Int) (of_decide_eq_true aq) (by have h_ : (x4_1 : Int) < ((x3_1.length : Int) : Int) := of_decide_eq_true aq; first | exact h_ | (have e_ := (Kd.R_reads' HO_3.out).1; omega) | simpa using h_) (seg := [.int .i64 t175, .int .i64 t176, .int .i64 t177, .int .i64 t178]) (j := 0) hcl12 hcc12 (show 4 ≤ 4 from by decide) (x' := (⟨t175, t176, t177, t178⟩ : S41)) (k41_mkM _ _ _ (⟨t175, t176, t177, t178⟩ : S41) ) (fun _ hk => hk); have hx12_0 := hcc12 0 _ rfl; (try simp only [show (k41).sz = 4 from rfl, Nat.mul_one, Nat.add_zero] at hx12_0); have hf12_0 := hfr12 0; (try simp only [show (k41).sz = 4 from rfl, Nat.mul_one, Nat.add_zero] at hf12_0); have hx12_1 := hcc12 1 _ rfl; (try simp only [show (k41).sz = 4 from rfl, Nat.mul_one, Nat.add_zero] at hx12_1); have hf12_1 := hfr12 1; (try simp only [show (k41).sz = 4 from rfl, Nat.mul_one, Nat.add_zero] at hf12_1); have hx12_2 := hcc12 2 _ rfl; (try simp only [show (k41).sz = 4 from rfl, Nat.mul_one, Nat.add_zero] at hx12_2); have hf12_2 := hfr12 2; (try simp only [show (k41).sz = 4 from rfl, Nat.mul_one, Nat.add_zero] at hf12_2); have hx12_3 := hcc12 3 _ rfl; (try simp only [show (k41).sz = 4 from rfl, Nat.mul_one, Nat.add_zero] at hx12_3); have hf12_3 := hfr12 3; (try simp only [show (k41).sz = 4 from rfl, Nat.mul_one, Nat.add_zero] at hf12_3); clear hcl12 hcc12 hfr12 hM12) | ((with_reducible refine gate_store (t := 41) (p := 21) rfl ?_); refine store_event (t := 41) (p := 21) (v := ?vo_w13) (w1 := ((((w11.setCell ⟨go10, (x4_1 : Int).toNat * 4, none⟩ (.int .i64 t175)).setCell ⟨go10, (x4_1 : Int).toNat * 4 + 1, none⟩ (.int .i64 t176)).setCell ⟨go10, (x4_1 : Int).toNat * 4 + 2, none⟩ (.int .i64 t177)).setCell ⟨go10, (x4_1 : Int).toNat * 4 + 3, none⟩ (.int .i64 t178))) ?hg ?ho ?hn ?hr ?_; (case ho => rfl); (case hg => rfl); (case hn => rfl); (case hr => first | (go_simp; done) | (go_simp; rfl)); intro w13 hw; have hg : w11.grownBy w13 (some go10) := (by rw [hw]; exact HP12.2); have hp_ : Kd.R k41 41 w13 w.heap.size (fun _ => True) (.slice (some ⟨go10, 0, none⟩) x3_1.length co10) y179 := (by rw [hw, Ny179.out]; exact HP12.1); clear HP12; replace HO_3 := am (hp_); replace HB := am ((by rw [hw]; exact below_set (below_set (below_set (below_set (HB.out) GB10.out) GB10.out) GB10.out) GB10.out : Below w.heap.size w w13)); clear hg hw hp_))
        go_roundg k1
        case measure => have := HK1.out; omega
        case rel => exact ⟨(y179), (wrap64 (x4_1 + 1)), sq, H', ⟨by have := HK1.out; omega⟩, ⟨rq HO_3⟩, ⟨bq⟩⟩
       ·rw [if_neg c9] at H
        exact absurd H (by simp)
      ·rw [if_neg c7] at H
       exact absurd H (by simp)
     ·rw [if_neg c6] at H
      have c6b0 : decide (x4_1 < (l0.length : Int)) = false := decide_eq_false c6
      clear c6
      obtain rfl := Option.some.inj H
      go_wp2
      go_ret
      exact ⟨_, eq_, rq HO_3, bq⟩
  ·rw [if_neg c3] at H
   exact absurd H (by simp)
 ·rw [if_neg c2] at H
  exact absurd H (by simp)


/-! ### laws_toShop: function 9 -/
def laws_toShop.f (k : Nat) (l0_0 : List Int) (l0_1 : List (S39)) : Option (List Int × (List (S41))) := (laws_toIntS.f k l0_0).bind fun t183 => ((laws_toLoanS.f k l0_1).bind fun t186 => (some (t183, t186)))
theorem laws_toShop.mono : ∀ a0 a1 k, LeO (laws_toShop.f k a0 a1) (laws_toShop.f (k + 1) a0 a1) := by
 intro a0 a1 k
 unfold laws_toShop.f
 repeat' first
   | (with_reducible exact laws_toIntS.mono _ _)
   | (with_reducible exact laws_toLoanS.mono _ _)
   | (with_reducible exact LeO.refl _)
   | (with_reducible exact LeO.none _)
   | (with_reducible refine LeO.ite ?_ ?_)
   | (with_reducible refine LeO.bind ?_ (fun _ => ?_))
   | exact laws_toIntS.mono _ _
   | exact laws_toLoanS.mono _ _
   | exact LeO.none _
   | refine LeO.ite ?_ ?_
   | refine LeO.bind ?_ (fun _ => ?_)
set_option maxHeartbeats 8000000 in
set_option maxRecDepth 100000 in
theorem laws_toShop.calls (k : Nat) (A0_0 : Option Addr) (c0_0 : Nat) (l0_0 : List Int) (A0_1 : Option Addr) (c0_1 : Nat) (l0_1 : List (S39)) (r1 : List Int) (r2 : List (S41)) (w : World) (hr0_0 : Kd.C (Kd.int .i64) w A0_0 l0_0.length l0_0) (hc0_0 : l0_0.length ≤ c0_0) (hr0_1 : Kd.C k39 w A0_1 l0_1.length l0_1) (hc0_1 : l0_1.length ≤ c0_1) (h : laws_toShop.f k l0_0 l0_1 = some (r1, r2)) :
  Calls Try.prog 9 #[.agg #[.slice A0_0 l0_0.length c0_0, .slice A0_1 l0_1.length c0_1]] w fun e w' => ∃ v0_ v1_ : Value, e = .returned (.agg #[v0_, v1_]) ∧ Kd.R (Kd.int .i64) 3 w' w.heap.size (fun _ => True) v0_ r1 ∧ Kd.R k41 41 w' w.heap.size (fun _ => True) v1_ r2 ∧ Below w.heap.size w w' := by
 have hu25 := Try.underlying25
 have hu29 := Try.underlying29
 have HR0_0 := am hr0_0
 have HC0_0 := am hc0_0
 clear hr0_0 hc0_0
 have HR0_1 := am hr0_1
 have HC0_1 := am hc0_1
 clear hr0_1 hc0_1
 have HB := am (Below.refl w.heap.size w)
 have H : ((laws_toIntS.f k l0_0).bind fun t183 => ((laws_toLoanS.f k l0_1).bind fun t186 => (some (t183, t186)))) = some (r1, r2) := h
 clear h
 obtain ⟨t183, A2, H⟩ := bindq H
 try dsimp only at H
 obtain ⟨t186, A3, H⟩ := bindq H
 try dsimp only at H
 simp only [Option.some.injEq, Prod.mk.injEq] at H
 obtain ⟨rfl, rfl⟩ := H
 go_enter Try.func9, Try.ntmps9
 go_wp2_with (first | ((with_reducible refine gate_dst (N := 1) rfl ?_); refine box_event ?hg (N := 1) ?hd (cs := #[.slice A0_0 l0_0.length c0_0, .slice A0_1 l0_1.length c0_1]) (t := 25) ?hr ?_; (case hd => rfl); (case hg => rfl); (case hr => first | (go_simp; done) | (go_simp; rfl)); intro gb180 hg w4 hbox hb; have BK180 := am (hbox); have GW180 := am (gq hg); have GE180 := am (gq hg); replace HB := sb hb; clear hb hbox hg) | ((with_reducible refine gate_dst (N := 2) rfl ?_); refine box_event ?hg (N := 2) ?hd (cs := #[.slice none 0 0, .slice none 0 0]) (t := 29) ?hr ?_; (case hd => rfl); (case hg => rfl); (case hr => first | (go_simp; done) | (go_simp; rfl)); intro gb181 hg w5 hbox hb; have BK181 := am (hbox); have GW181 := am (gq hg); have GE181 := am (gq hg); replace HB := sb hb; have NB180_181 := nl hg BK180; have NB181_180 := ng hg BK180; replace BK180 := zb BK180 hb; clear hb hbox hg) | ((with_reducible refine gate_dst (N := 3) rfl ?_); refine box_event ?hg (N := 3) ?hd (cs := #[.slice none 0 0, .slice none 0 0]) (t := 29) ?hr ?_; (case hd => rfl); (case hg => rfl); (case hr => first | (go_simp; done) | (go_simp; rfl)); intro gb182 hg w6 hbox hb; have BK182 := am (hbox); have GW182 := am (gq hg); have GE182 := am (gq hg); replace HB := sb hb; have NB180_182 := nl hg BK180; have NB182_180 := ng hg BK180; replace BK180 := zb BK180 hb; have NB181_182 := nl hg BK181; have NB182_181 := ng hg BK181; replace BK181 := zb BK181 hb; clear hb hbox hg; have hnb7 := NB180_181.out; have hnc7 := NB181_180.out; have hnb8 := NB180_182.out; have hnc8 := NB182_180.out; have ⟨hcz9_0, hcz9_1, hfz9_0, hfz9_1⟩ := bc2 BK180) | ((with_reducible refine gate_callee (f := 25) rfl ?_); refine goesQ (some 6) Try.func25 #[.slice A0_0 l0_0.length c0_0] ?_; (with_reducible refine (laws_toIntS.calls k _ _ l0_0 t183 _ ?s1 ?s2 A2.out).mono ?_); (case s1 => exact cq (Kd.C_below HR0_0.out HB.out)); (case s2 => exact HC0_0.out); rintro e w10 ⟨v184, rfl, ho0, hb⟩; refine ⟨_, rfl, ?_⟩; have HO185 := rl ho0; replace BK180 := zb BK180 hb; replace BK181 := zb BK181 hb; replace BK182 := zb BK182 hb; replace HB := sb hb; (try clear hb ho0); obtain ⟨Ao11, co11, eo11⟩ := Kd.R_slice HO185.out; subst eo11; have hnb12 := NB182_181.out; have hnc12 := NB181_182.out; have ⟨hcz13_0, hcz13_1, hfz13_0, hfz13_1⟩ := bc2 BK182; have ⟨hcz14_0, hcz14_1, hfz14_0, hfz14_1⟩ := bc2 BK180) | ((with_reducible refine gate_callee (f := 26) rfl ?_); refine goesQ (some 10) Try.func26 #[.slice A0_1 l0_1.length c0_1] ?_; (with_reducible refine (laws_toLoanS.calls k _ _ l0_1 t186 _ ?s1 ?s2 A3.out).mono ?_); (case s1 => exact Kd.C_below HR0_1.out bq); (case s2 => exact HC0_1.out); rintro e w15 ⟨v187, rfl, ho0, hb⟩; refine ⟨_, rfl, ?_⟩; replace HO185 := am (Kd.R_below (fq HO185 BK182) hb); have HO188 := rl ho0; replace BK180 := am (blk_below (g := gb180) (o := .cells #[.slice A0_0 l0_0.length c0_0, .slice A0_1 l0_1.length c0_1] 25 (0, 0)) (zp BK180) hb); replace BK181 := am (blk_below (g := gb181) (o := .cells #[.slice none 0 0, .slice none 0 0] 29 (0, 0)) (zp BK181) hb); replace BK182 := am (blk_below (g := gb182) (o := .cells #[.slice Ao11 t183.length co11, .slice none 0 0] 29 (0, 0)) (zp BK182) hb); replace HB := sb hb; (try clear hb ho0); obtain ⟨Ao16, co16, eo16⟩ := Kd.R_slice HO188.out; subst eo16; have ⟨hcz17_0, hcz17_1, hfz17_0, hfz17_1⟩ := bc2 BK182; have ⟨hcz18_0, hcz18_1, hfz18_0, hfz18_1⟩ := bc2 BK181))
 refine bodyPost_ret (results_cell_row rfl _ _ gb181 29 #[.slice Ao11 t183.length co11, .slice Ao16 t186.length co16] (0, 0) _ rfl (zp BK181) Try.underlying29 rfl (by kernel_rfl)) rfl ?_
 exact ⟨_, _, eq_, by (with_reducible repeat (first | apply Kd.R_alloc | apply Kd.R_drewN | apply Kd.R_drew)); exact Kd.R_mono (Kd.R_far (p := ⟨gb181, 1, none⟩) (Kd.R_far (p := ⟨gb181, 0, none⟩) (Kd.R_far (p := ⟨gb182, 1, none⟩) (Kd.R_types (Kd.R_types HO185.out BK182.out (by decide)) BK181.out (by decide)) (fun _ hk => hk.1.2) (.slice Ao16 t186.length co16)) (fun _ hk => hk.2) (.slice Ao11 t183.length co11)) (fun _ hk => hk.2) (.slice Ao16 t186.length co16)) (fun _ hk => trivial), by (with_reducible repeat (first | apply Kd.R_alloc | apply Kd.R_drewN | apply Kd.R_drew)); exact Kd.R_mono (Kd.R_far (p := ⟨gb181, 1, none⟩) (Kd.R_far (p := ⟨gb181, 0, none⟩) (Kd.R_far (p := ⟨gb182, 1, none⟩) (Kd.R_types (Kd.R_types HO188.out BK182.out (by decide)) BK181.out (by decide)) (fun _ hk => hk.1.2) (.slice Ao16 t186.length co16)) (fun _ hk => hk.2) (.slice Ao11 t183.length co11)) (fun _ hk => hk.2) (.slice Ao16 t186.length co16)) (fun _ hk => trivial), bq⟩


/-! ### impl_isDay: function 37 -/
def impl_isDay.f (a0 : Int) : Option (Bool) := if a0 ≥ 0 then (some (decide (a0 ≤ 999))) else (some false)
set_option maxHeartbeats 8000000 in
set_option maxRecDepth 100000 in
theorem impl_isDay.calls (a0 : Int) (r : Bool) (w : World) (h : impl_isDay.f a0 = some r) :
  Calls Try.prog 37 #[.int .i64 a0] w fun e w' => e = .returned (.bool r) ∧ Drawn0 w w' := by
 have H : (if a0 ≥ 0 then (some (decide (a0 ≤ 999))) else (some false)) = some r := h
 clear h
 by_cases c2 : a0 ≥ 0
 ·rw [if_pos c2] at H
  have c2b0 : decide (0 ≤ a0) = true := decide_eq_true c2
  clear c2
  obtain rfl := Option.some.inj H
  go_enter Try.func37, Try.ntmps37
  go_wp2
  go_ret
  exact ⟨sq, by repeat (first | exact Drawn0.refl _ | apply Drawn0.step)⟩
 ·rw [if_neg c2] at H
  have c2b0 : decide (0 ≤ a0) = false := decide_eq_false c2
  clear c2
  obtain rfl := Option.some.inj H
  go_enter Try.func37, Try.ntmps37
  go_wp2
  go_ret
  exact ⟨sq, by repeat (first | exact Drawn0.refl _ | apply Drawn0.step)⟩


/-! ### impl_isLoan: function 42 -/
def impl_isLoan.f (a0_0 : Int) (a0_1 : Int) (a0_2 : Int) (a0_3 : Int) : Option (Bool) := if a0_0 ≥ 1 then (if a0_0 ≤ 99 then (if a0_1 ≥ 1 then (if a0_1 ≤ 7 then (if a0_2 ≥ 1 then (if a0_2 ≤ 99 then ((impl_isDay.f a0_3).bind fun t190 => (some t190)) else (some false)) else (some false)) else (some false)) else (some false)) else (some false)) else (some false)
set_option maxHeartbeats 8000000 in
set_option maxRecDepth 100000 in
theorem impl_isLoan.calls (a0_0 : Int) (a0_1 : Int) (a0_2 : Int) (a0_3 : Int) (r : Bool) (w : World) (h : impl_isLoan.f a0_0 a0_1 a0_2 a0_3 = some r) :
  Calls Try.prog 42 #[.agg #[.int .i64 a0_0, .int .i64 a0_1, .int .i64 a0_2, .int .i64 a0_3]] w fun e w' => e = .returned (.bool r) ∧ Below w.heap.size w w' := by
 have hu41 := Try.underlying41
 have HB := am (Below.refl w.heap.size w)
 have H : (if a0_0 ≥ 1 then (if a0_0 ≤ 99 then (if a0_1 ≥ 1 then (if a0_1 ≤ 7 then (if a0_2 ≥ 1 then (if a0_2 ≤ 99 then ((impl_isDay.f a0_3).bind fun t190 => (some t190)) else (some false)) else (some false)) else (some false)) else (some false)) else (some false)) else (some false)) = some r := h
 clear h
 by_cases c2 : a0_0 ≥ 1
 ·rw [if_pos c2] at H
  have c2b0 : decide (1 ≤ a0_0) = true := decide_eq_true c2
  clear c2
  by_cases c3 : a0_0 ≤ 99
  ·rw [if_pos c3] at H
   have c3b0 : decide (a0_0 ≤ 99) = true := decide_eq_true c3
   clear c3
   by_cases c4 : a0_1 ≥ 1
   ·rw [if_pos c4] at H
    have c4b0 : decide (1 ≤ a0_1) = true := decide_eq_true c4
    clear c4
    by_cases c5 : a0_1 ≤ 7
    ·rw [if_pos c5] at H
     have c5b0 : decide (a0_1 ≤ 7) = true := decide_eq_true c5
     clear c5
     by_cases c6 : a0_2 ≥ 1
     ·rw [if_pos c6] at H
      have c6b0 : decide (1 ≤ a0_2) = true := decide_eq_true c6
      clear c6
      by_cases c7 : a0_2 ≤ 99
      ·rw [if_pos c7] at H
       have c7b0 : decide (a0_2 ≤ 99) = true := decide_eq_true c7
       clear c7
       obtain ⟨t190, A8, H⟩ := bindq H
       try dsimp only at H
       obtain rfl := Option.some.inj H
       go_enter Try.func42, Try.ntmps42
       go_wp2_with (first | ((with_reducible refine gate_dst (N := 1) rfl ?_); refine box_event ?hg (N := 1) ?hd (cs := #[.int .i64 a0_0, .int .i64 a0_1, .int .i64 a0_2, .int .i64 a0_3]) (t := 41) ?hr ?_; (case hd => rfl); (case hg => rfl); (case hr => first | (go_simp; done) | (go_simp; rfl)); intro gb189 hg w9 hbox hb; have BK189 := am (hbox); have GW189 := am (gq hg); have GE189 := am (gq hg); replace HB := sb hb; clear hb hbox hg; have ⟨hcz10_0, hcz10_1, hcz10_2, hcz10_3, hfz10_0, hfz10_1, hfz10_2, hfz10_3⟩ := bc4 BK189) | (go_at_call 37; (with_reducible refine (impl_isDay.calls a0_3 t190 _ A8.out).mono ?_); rintro e w' ⟨rfl, ⟨nd, rfl⟩⟩))
       go_ret
       exact ⟨eq_, bq⟩
      ·rw [if_neg c7] at H
       have c7b0 : decide (a0_2 ≤ 99) = false := decide_eq_false c7
       clear c7
       obtain rfl := Option.some.inj H
       go_enter Try.func42, Try.ntmps42
       go_wp2_with (first | ((with_reducible refine gate_dst (N := 1) rfl ?_); refine box_event ?hg (N := 1) ?hd (cs := #[.int .i64 a0_0, .int .i64 a0_1, .int .i64 a0_2, .int .i64 a0_3]) (t := 41) ?hr ?_; (case hd => rfl); (case hg => rfl); (case hr => first | (go_simp; done) | (go_simp; rfl)); intro gb189 hg w11 hbox hb; have BK189 := am (hbox); have GW189 := am (gq hg); have GE189 := am (gq hg); replace HB := sb hb; clear hb hbox hg; have ⟨hcz12_0, hcz12_1, hcz12_2, hcz12_3, hfz12_0, hfz12_1, hfz12_2, hfz12_3⟩ := bc4 BK189))
       go_ret
       exact ⟨eq_, bq⟩
     ·rw [if_neg c6] at H
      have c6b0 : decide (1 ≤ a0_2) = false := decide_eq_false c6
      clear c6
      obtain rfl := Option.some.inj H
      go_enter Try.func42, Try.ntmps42
      go_wp2_with (first | ((with_reducible refine gate_dst (N := 1) rfl ?_); refine box_event ?hg (N := 1) ?hd (cs := #[.int .i64 a0_0, .int .i64 a0_1, .int .i64 a0_2, .int .i64 a0_3]) (t := 41) ?hr ?_; (case hd => rfl); (case hg => rfl); (case hr => first | (go_simp; done) | (go_simp; rfl)); intro gb189 hg w13 hbox hb; have BK189 := am (hbox); have GW189 := am (gq hg); have GE189 := am (gq hg); replace HB := sb hb; clear hb hbox hg; have ⟨hcz14_0, hcz14_1, hcz14_2, hcz14_3, hfz14_0, hfz14_1, hfz14_2, hfz14_3⟩ := bc4 BK189))
      go_ret
      exact ⟨eq_, bq⟩
    ·rw [if_neg c5] at H
     have c5b0 : decide (a0_1 ≤ 7) = false := decide_eq_false c5
     clear c5
     obtain rfl := Option.some.inj H
     go_enter Try.func42, Try.ntmps42
     go_wp2_with (first | ((with_reducible refine gate_dst (N := 1) rfl ?_); refine box_event ?hg (N := 1) ?hd (cs := #[.int .i64 a0_0, .int .i64 a0_1, .int .i64 a0_2, .int .i64 a0_3]) (t := 41) ?hr ?_; (case hd => rfl); (case hg => rfl); (case hr => first | (go_simp; done) | (go_simp; rfl)); intro gb189 hg w15 hbox hb; have BK189 := am (hbox); have GW189 := am (gq hg); have GE189 := am (gq hg); replace HB := sb hb; clear hb hbox hg; have ⟨hcz16_0, hcz16_1, hcz16_2, hcz16_3, hfz16_0, hfz16_1, hfz16_2, hfz16_3⟩ := bc4 BK189))
     go_ret
     exact ⟨eq_, bq⟩
   ·rw [if_neg c4] at H
    have c4b0 : decide (1 ≤ a0_1) = false := decide_eq_false c4
    clear c4
    obtain rfl := Option.some.inj H
    go_enter Try.func42, Try.ntmps42
    go_wp2_with (first | ((with_reducible refine gate_dst (N := 1) rfl ?_); refine box_event ?hg (N := 1) ?hd (cs := #[.int .i64 a0_0, .int .i64 a0_1, .int .i64 a0_2, .int .i64 a0_3]) (t := 41) ?hr ?_; (case hd => rfl); (case hg => rfl); (case hr => first | (go_simp; done) | (go_simp; rfl)); intro gb189 hg w17 hbox hb; have BK189 := am (hbox); have GW189 := am (gq hg); have GE189 := am (gq hg); replace HB := sb hb; clear hb hbox hg; have ⟨hcz18_0, hcz18_1, hcz18_2, hcz18_3, hfz18_0, hfz18_1, hfz18_2, hfz18_3⟩ := bc4 BK189))
    go_ret
    exact ⟨eq_, bq⟩
  ·rw [if_neg c3] at H
   have c3b0 : decide (a0_0 ≤ 99) = false := decide_eq_false c3
   clear c3
   obtain rfl := Option.some.inj H
   go_enter Try.func42, Try.ntmps42
   go_wp2_with (first | ((with_reducible refine gate_dst (N := 1) rfl ?_); refine box_event ?hg (N := 1) ?hd (cs := #[.int .i64 a0_0, .int .i64 a0_1, .int .i64 a0_2, .int .i64 a0_3]) (t := 41) ?hr ?_; (case hd => rfl); (case hg => rfl); (case hr => first | (go_simp; done) | (go_simp; rfl)); intro gb189 hg w19 hbox hb; have BK189 := am (hbox); have GW189 := am (gq hg); have GE189 := am (gq hg); replace HB := sb hb; clear hb hbox hg; have ⟨hcz20_0, hcz20_1, hcz20_2, hcz20_3, hfz20_0, hfz20_1, hfz20_2, hfz20_3⟩ := bc4 BK189))
   go_ret
   exact ⟨eq_, bq⟩
 ·rw [if_neg c2] at H
  have c2b0 : decide (1 ≤ a0_0) = false := decide_eq_false c2
  clear c2
  obtain rfl := Option.some.inj H
  go_enter Try.func42, Try.ntmps42
  go_wp2_with (first | ((with_reducible refine gate_dst (N := 1) rfl ?_); refine box_event ?hg (N := 1) ?hd (cs := #[.int .i64 a0_0, .int .i64 a0_1, .int .i64 a0_2, .int .i64 a0_3]) (t := 41) ?hr ?_; (case hd => rfl); (case hg => rfl); (case hr => first | (go_simp; done) | (go_simp; rfl)); intro gb189 hg w21 hbox hb; have BK189 := am (hbox); have GW189 := am (gq hg); have GE189 := am (gq hg); replace HB := sb hb; clear hb hbox hg; have ⟨hcz22_0, hcz22_1, hcz22_2, hcz22_3, hfz22_0, hfz22_1, hfz22_2, hfz22_3⟩ := bc4 BK189))
  go_ret
  exact ⟨eq_, bq⟩


/-! ### impl_sameLoan: function 43 -/
def impl_sameLoan.l0 : Nat → List (S41) → Int → Int → Int → Int → Int → Int → Option (Int)
 | 0, _, _, _, _, _, _, _ => none
 | k + 1, x7, x8, x9, x192000, x192001, x192002, x192003 => if x9 < x8 then (if 0 ≤ x9 then (if x9 < (x7.length : Int) then (if x192000 = ((rd_T41 x7 x9).f0) then (if x192001 = ((rd_T41 x7 x9).f1) then (if x192003 = ((rd_T41 x7 x9).f3) then (some x9) else (impl_sameLoan.l0 k x7 x8 (wrap64 (x9 + 1)) x192000 x192001 x192002 x192003)) else (impl_sameLoan.l0 k x7 x8 (wrap64 (x9 + 1)) x192000 x192001 x192002 x192003)) else (impl_sameLoan.l0 k x7 x8 (wrap64 (x9 + 1)) x192000 x192001 x192002 x192003)) else (none)) else (none)) else (some (-1))
def impl_sameLoan.f (k : Nat) (l0 : List (S41)) (a1_0 : Int) (a1_1 : Int) (a1_2 : Int) (a1_3 : Int) : Option (Int) := impl_sameLoan.l0 k l0 (l0.length : Int) 0 a1_0 a1_1 a1_2 a1_3
theorem impl_sameLoan.mono_l : ∀ k, (∀ y0 y1 y2 y3 y4 y5 y6, LeO (impl_sameLoan.l0 k y0 y1 y2 y3 y4 y5 y6) (impl_sameLoan.l0 (k + 1) y0 y1 y2 y3 y4 y5 y6))
 | 0 => fun _ _ _ _ _ _ _ r h => by simp [impl_sameLoan.l0] at h
 | k + 1 => by
  have ih0 := impl_sameLoan.mono_l k
  ·intro y0 y1 y2 y3 y4 y5 y6
   unfold impl_sameLoan.l0
   repeat' first
   | (with_reducible exact ih0 _ _ _ _ _ _ _)
   | (with_reducible exact LeO.refl _)
   | (with_reducible exact LeO.none _)
   | (with_reducible refine LeO.ite ?_ ?_)
   | (with_reducible refine LeO.bind ?_ (fun _ => ?_))
   | exact ih0 _ _ _ _ _ _ _
   | exact LeO.none _
   | refine LeO.ite ?_ ?_
   | refine LeO.bind ?_ (fun _ => ?_)
theorem impl_sameLoan.mono : ∀ a0 a1 a2 a3 a4 k, LeO (impl_sameLoan.f k a0 a1 a2 a3 a4) (impl_sameLoan.f (k + 1) a0 a1 a2 a3 a4) := by
 intro a0 a1 a2 a3 a4 k
 have ih0 := impl_sameLoan.mono_l k
 unfold impl_sameLoan.f
 repeat' first
   | (with_reducible exact ih0 _ _ _ _ _ _ _)
   | (with_reducible exact LeO.refl _)
   | (with_reducible exact LeO.none _)
   | (with_reducible refine LeO.ite ?_ ?_)
   | (with_reducible refine LeO.bind ?_ (fun _ => ?_))
   | exact ih0 _ _ _ _ _ _ _
   | exact LeO.none _
   | refine LeO.ite ?_ ?_
   | refine LeO.bind ?_ (fun _ => ?_)
set_option maxHeartbeats 8000000 in
set_option maxRecDepth 100000 in
theorem impl_sameLoan.calls (k : Nat) (A0 : Option Addr) (c0 : Nat) (l0 : List (S41)) (a1_0 : Int) (a1_1 : Int) (a1_2 : Int) (a1_3 : Int) (r : Int) (w : World) (hr0 : Kd.C k41 w A0 l0.length l0) (hc0 : l0.length ≤ c0) (h : impl_sameLoan.f k l0 a1_0 a1_1 a1_2 a1_3 = some r) :
  Calls Try.prog 43 #[.slice A0 l0.length c0, .agg #[.int .i64 a1_0, .int .i64 a1_1, .int .i64 a1_2, .int .i64 a1_3]] w fun e w' => e = .returned (.int .i64 r) ∧ Below w.heap.size w w' := by
 have hu41 := Try.underlying41
 have HR0 := am hr0
 have HC0 := am hc0
 clear hr0 hc0
 have HB := am (Below.refl w.heap.size w)
 have H : (impl_sameLoan.l0 k l0 (l0.length : Int) 0 a1_0 a1_1 a1_2 a1_3) = some r := h
 clear h
 have H' := am H
 clear H
 go_enter Try.func43, Try.ntmps43
 go_wp2_with (first | ((with_reducible refine gate_dst (N := 3) rfl ?_); refine box_event ?hg (N := 3) ?hd (cs := #[.int .i64 a1_0, .int .i64 a1_1, .int .i64 a1_2, .int .i64 a1_3]) (t := 41) ?hr ?_; (case hd => rfl); (case hg => rfl); (case hr => first | (go_simp; done) | (go_simp; rfl)); intro gb191 hg w3 hbox hb; have BK191 := am (hbox); have GW191 := am (gq hg); have GE191 := am (gq hg); replace HB := sb hb; clear hb hbox hg))
 go_loopg [9] k (fun kq v9 w' => ∃ (x9_1 : Int), v9 = .int .i64 x9_1 ∧ Aside0 (impl_sameLoan.l0 kq l0 (l0.length : Int) x9_1 a1_0 a1_1 a1_2 a1_3 = some r) ∧ Aside0 (kq ≤ k) ∧ Aside0 (w'.heap[gb191]? = some (.cells #[.int .i64 a1_0, .int .i64 a1_1, .int .i64 a1_2, .int .i64 a1_3] 41 (0, 0))) ∧ Aside0 (Below w.heap.size w w'))
 case atStart => exact ⟨(0), sq, H', ⟨Nat.le_refl _⟩, ⟨zq BK191⟩, ⟨bq⟩⟩
 case round =>
  clear H'
  obtain ⟨x9_1, rfl, HA, HK1, BK191, HB⟩ := hrel
  cases gk with
  | zero => exact absurd HA.out (by simp [impl_sameLoan.l0])
  | succ k1 =>
   have H := HA.out
   clear HA
   simp only [impl_sameLoan.l0] at H
   by_cases c4 : x9_1 < (l0.length : Int)
   ·rw [if_pos c4] at H
    have c4b0 : decide (x9_1 < (l0.length : Int)) = true := decide_eq_true c4
    clear c4
    by_cases c5 : 0 ≤ x9_1
    ·rw [if_pos c5] at H
     have c5b0 : decide (0 ≤ x9_1) = true := decide_eq_true c5
     clear c5
     by_cases c6 : x9_1 < (l0.length : Int)
     ·rw [if_pos c6] at H
      have c6b0 : decide (x9_1 < (l0.length : Int)) = true := decide_eq_true c6
      clear c6
      by_cases c7 : a1_0 = ((rd_T41 l0 x9_1).f0)
      ·rw [if_pos c7] at H
       have c7b0 : (a1_0 == ((rd_T41 l0 x9_1).f0)) = true := beq_iff_eq.mpr c7
       have c7b1 : (a1_0 != ((rd_T41 l0 x9_1).f0)) = false := bne_eq_false_iff_eq.mpr c7
       clear c7
       by_cases c8 : a1_1 = ((rd_T41 l0 x9_1).f1)
       ·rw [if_pos c8] at H
        have c8b0 : (a1_1 == ((rd_T41 l0 x9_1).f1)) = true := beq_iff_eq.mpr c8
        have c8b1 : (a1_1 != ((rd_T41 l0 x9_1).f1)) = false := bne_eq_false_iff_eq.mpr c8
        clear c8
        by_cases c9 : a1_3 = ((rd_T41 l0 x9_1).f3)
        ·rw [if_pos c9] at H
         have c9b0 : (a1_3 == ((rd_T41 l0 x9_1).f3)) = true := beq_iff_eq.mpr c9
         have c9b1 : (a1_3 != ((rd_T41 l0 x9_1).f3)) = false := bne_eq_false_iff_eq.mpr c9
         clear c9
         obtain rfl := Option.some.inj H
         have p192 : 0 ≤ (x9_1 : Int) := of_decide_eq_true aq
         have q192 : x9_1 < (l0.length : Int) := of_decide_eq_true aq
         obtain ⟨ad192, e192, hx192_0, hx192_1, hx192_2, hx192_3⟩ := at_T41 HR0.out x9_1 p192 q192
         cases e192
         replace hx192_0 := (HB.out.cell (World.block_lt_of_cell? w _ hx192_0)).trans hx192_0
         replace hx192_1 := (HB.out.cell (World.block_lt_of_cell? w _ hx192_1)).trans hx192_1
         replace hx192_2 := (HB.out.cell (World.block_lt_of_cell? w _ hx192_2)).trans hx192_2
         replace hx192_3 := (HB.out.cell (World.block_lt_of_cell? w _ hx192_3)).trans hx192_3
         replace p192 := eq_true p192
         replace q192 := eq_true q192
         go_wp2_with (first | ((with_reducible refine gate_dst (N := 6) rfl ?_); refine box_event ?hg (N := 6) ?hd (cs := #[.int .i64 0, .int .i64 0, .int .i64 0, .int .i64 0]) (t := 41) ?hr ?_; (case hd => rfl); (case hg => rfl); (case hr => first | (go_simp; done) | (go_simp; rfl)); intro gb193 hg w10 hbox hb; have BK193 := am (hbox); have GW193 := am (gq hg); have GE193 := am (gq hg); replace HB := sb hb; have NB191_193 := nl hg BK191; have NB193_191 := ng hg BK191; replace BK191 := zb BK191 hb; clear hb hbox hg; have hnb11 := NB193_191.out; have hnc11 := NB191_193.out; have ⟨hcz12_0, hcz12_1, hcz12_2, hcz12_3, hfz12_0, hfz12_1, hfz12_2, hfz12_3⟩ := bc4 BK193; have ⟨hcz13_0, hcz13_1, hcz13_2, hcz13_3, hfz13_0, hfz13_1, hfz13_2, hfz13_3⟩ := bc4 BK191))
         go_ret
         exact ⟨eq_, bq⟩
        ·rw [if_neg c9] at H
         have c9b0 : (a1_3 == ((rd_T41 l0 x9_1).f3)) = false := beq_eq_false_iff_ne.mpr c9
         have c9b1 : (a1_3 != ((rd_T41 l0 x9_1).f3)) = true := bne_iff_ne.mpr c9
         have H' := am H
         clear H
         have p192 : 0 ≤ (x9_1 : Int) := of_decide_eq_true aq
         have q192 : x9_1 < (l0.length : Int) := of_decide_eq_true aq
         obtain ⟨ad192, e192, hx192_0, hx192_1, hx192_2, hx192_3⟩ := at_T41 HR0.out x9_1 p192 q192
         cases e192
         replace hx192_0 := (HB.out.cell (World.block_lt_of_cell? w _ hx192_0)).trans hx192_0
         replace hx192_1 := (HB.out.cell (World.block_lt_of_cell? w _ hx192_1)).trans hx192_1
         replace hx192_2 := (HB.out.cell (World.block_lt_of_cell? w _ hx192_2)).trans hx192_2
         replace hx192_3 := (HB.out.cell (World.block_lt_of_cell? w _ hx192_3)).trans hx192_3
         replace p192 := eq_true p192
         replace q192 := eq_true q192
         go_wp2_with (first | ((with_reducible refine gate_dst (N := 6) rfl ?_); refine box_event ?hg (N := 6) ?hd (cs := #[.int .i64 0, .int .i64 0, .int .i64 0, .int .i64 0]) (t := 41) ?hr ?_; (case hd => rfl); (case hg => rfl); (case hr => first | (go_simp; done) | (go_simp; rfl)); intro gb193 hg w14 hbox hb; have BK193 := am (hbox); have GW193 := am (gq hg); have GE193 := am (gq hg); replace HB := sb hb; have NB191_193 := nl hg BK191; have NB193_191 := ng hg BK191; replace BK191 := zb BK191 hb; clear hb hbox hg; have hnb15 := NB193_191.out; have hnc15 := NB191_193.out; have ⟨hcz16_0, hcz16_1, hcz16_2, hcz16_3, hfz16_0, hfz16_1, hfz16_2, hfz16_3⟩ := bc4 BK193; have ⟨hcz17_0, hcz17_1, hcz17_2, hcz17_3, hfz17_0, hfz17_1, hfz17_2, hfz17_3⟩ := bc4 BK191))
         go_roundg k1
         case measure => have := HK1.out; omega
         case rel => exact ⟨(wrap64 (x9_1 + 1)), sq, H', ⟨by have := HK1.out; omega⟩, ⟨zp BK191⟩, ⟨bq⟩⟩
       ·rw [if_neg c8] at H
        have c8b0 : (a1_1 == ((rd_T41 l0 x9_1).f1)) = false := beq_eq_false_iff_ne.mpr c8
        have c8b1 : (a1_1 != ((rd_T41 l0 x9_1).f1)) = true := bne_iff_ne.mpr c8
        have H' := am H
        clear H
        have p192 : 0 ≤ (x9_1 : Int) := of_decide_eq_true aq
        have q192 : x9_1 < (l0.length : Int) := of_decide_eq_true aq
        obtain ⟨ad192, e192, hx192_0, hx192_1, hx192_2, hx192_3⟩ := at_T41 HR0.out x9_1 p192 q192
        cases e192
        replace hx192_0 := (HB.out.cell (World.block_lt_of_cell? w _ hx192_0)).trans hx192_0
        replace hx192_1 := (HB.out.cell (World.block_lt_of_cell? w _ hx192_1)).trans hx192_1
        replace hx192_2 := (HB.out.cell (World.block_lt_of_cell? w _ hx192_2)).trans hx192_2
        replace hx192_3 := (HB.out.cell (World.block_lt_of_cell? w _ hx192_3)).trans hx192_3
        replace p192 := eq_true p192
        replace q192 := eq_true q192
        go_wp2_with (first | ((with_reducible refine gate_dst (N := 6) rfl ?_); refine box_event ?hg (N := 6) ?hd (cs := #[.int .i64 0, .int .i64 0, .int .i64 0, .int .i64 0]) (t := 41) ?hr ?_; (case hd => rfl); (case hg => rfl); (case hr => first | (go_simp; done) | (go_simp; rfl)); intro gb193 hg w18 hbox hb; have BK193 := am (hbox); have GW193 := am (gq hg); have GE193 := am (gq hg); replace HB := sb hb; have NB191_193 := nl hg BK191; have NB193_191 := ng hg BK191; replace BK191 := zb BK191 hb; clear hb hbox hg; have hnb19 := NB193_191.out; have hnc19 := NB191_193.out; have ⟨hcz20_0, hcz20_1, hcz20_2, hcz20_3, hfz20_0, hfz20_1, hfz20_2, hfz20_3⟩ := bc4 BK193; have ⟨hcz21_0, hcz21_1, hcz21_2, hcz21_3, hfz21_0, hfz21_1, hfz21_2, hfz21_3⟩ := bc4 BK191))
        go_roundg k1
        case measure => have := HK1.out; omega
        case rel => exact ⟨(wrap64 (x9_1 + 1)), sq, H', ⟨by have := HK1.out; omega⟩, ⟨zp BK191⟩, ⟨bq⟩⟩
      ·rw [if_neg c7] at H
       have c7b0 : (a1_0 == ((rd_T41 l0 x9_1).f0)) = false := beq_eq_false_iff_ne.mpr c7
       have c7b1 : (a1_0 != ((rd_T41 l0 x9_1).f0)) = true := bne_iff_ne.mpr c7
       have H' := am H
       clear H
       have p192 : 0 ≤ (x9_1 : Int) := of_decide_eq_true aq
       have q192 : x9_1 < (l0.length : Int) := of_decide_eq_true aq
       obtain ⟨ad192, e192, hx192_0, hx192_1, hx192_2, hx192_3⟩ := at_T41 HR0.out x9_1 p192 q192
       cases e192
       replace hx192_0 := (HB.out.cell (World.block_lt_of_cell? w _ hx192_0)).trans hx192_0
       replace hx192_1 := (HB.out.cell (World.block_lt_of_cell? w _ hx192_1)).trans hx192_1
       replace hx192_2 := (HB.out.cell (World.block_lt_of_cell? w _ hx192_2)).trans hx192_2
       replace hx192_3 := (HB.out.cell (World.block_lt_of_cell? w _ hx192_3)).trans hx192_3
       replace p192 := eq_true p192
       replace q192 := eq_true q192
       go_wp2_with (first | ((with_reducible refine gate_dst (N := 6) rfl ?_); refine box_event ?hg (N := 6) ?hd (cs := #[.int .i64 0, .int .i64 0, .int .i64 0, .int .i64 0]) (t := 41) ?hr ?_; (case hd => rfl); (case hg => rfl); (case hr => first | (go_simp; done) | (go_simp; rfl)); intro gb193 hg w22 hbox hb; have BK193 := am (hbox); have GW193 := am (gq hg); have GE193 := am (gq hg); replace HB := sb hb; have NB191_193 := nl hg BK191; have NB193_191 := ng hg BK191; replace BK191 := zb BK191 hb; clear hb hbox hg; have hnb23 := NB193_191.out; have hnc23 := NB191_193.out; have ⟨hcz24_0, hcz24_1, hcz24_2, hcz24_3, hfz24_0, hfz24_1, hfz24_2, hfz24_3⟩ := bc4 BK193; have ⟨hcz25_0, hcz25_1, hcz25_2, hcz25_3, hfz25_0, hfz25_1, hfz25_2, hfz25_3⟩ := bc4 BK191))
       go_roundg k1
       case measure => have := HK1.out; omega
       case rel => exact ⟨(wrap64 (x9_1 + 1)), sq, H', ⟨by have := HK1.out; omega⟩, ⟨zp BK191⟩, ⟨bq⟩⟩
     ·rw [if_neg c6] at H
      exact absurd H (by simp)
    ·rw [if_neg c5] at H
     exact absurd H (by simp)
   ·rw [if_neg c4] at H
    have c4b0 : decide (x9_1 < (l0.length : Int)) = false := decide_eq_false c4
    clear c4
    obtain rfl := Option.some.inj H
    go_wp2
    go_ret
    exact ⟨eq_, bq⟩



/-! ### impl_IsShop: function 27 -/
mutual
def impl_IsShop.j0 : Nat → Bool → List Int → List (S41) → Option (Bool)
 | 0, _, _, _ => none
 | k + 1, x23, x195000, x195001 => if x23 = true then (some false) else (impl_IsShop.l0 k x195000 (x195000.length : Int) 0 x195000 x195001)
def impl_IsShop.l0 : Nat → List Int → Int → Int → List Int → List (S41) → Option (Bool)
 | 0, _, _, _, _, _ => none
 | k + 1, x25, x26, x27, x195000, x195001 => if x27 < x26 then (if 0 ≤ x27 then (if x27 < (x25.length : Int) then (if (rd x25 x27) < 0 then (some false) else (if (rd x25 x27) > 999 then (some false) else (impl_IsShop.l0 k x25 x26 (wrap64 (x27 + 1)) x195000 x195001))) else (none)) else (none)) else (impl_IsShop.l1 k x195001 (x195001.length : Int) 0 x195000 x195001)
def impl_IsShop.l1 : Nat → List (S41) → Int → Int → List Int → List (S41) → Option (Bool)
 | 0, _, _, _, _, _ => none
 | k + 1, x39, x40, x41, x195000, x195001 => if x41 < x40 then (if 0 ≤ x41 then (if x41 < (x39.length : Int) then ((impl_isLoan.f ((rd_T41 x39 x41).f0) ((rd_T41 x39 x41).f1) ((rd_T41 x39 x41).f2) ((rd_T41 x39 x41).f3)).bind fun t199 => (if t199 = true then (if x41 ≤ (x195001.length : Int) then ((impl_sameLoan.f k (x195001.take (x41 : Int).toNat) ((rd_T41 x39 x41).f0) ((rd_T41 x39 x41).f1) ((rd_T41 x39 x41).f2) ((rd_T41 x39 x41).f3)).bind fun t204 => (if t204 ≥ 0 then (some false) else (impl_IsShop.l1 k x39 x40 (wrap64 (x41 + 1)) x195000 x195001))) else (none)) else (some false))) else (none)) else (none)) else (some true)
end
def impl_IsShop.f (k : Nat) (l0_0 : List Int) (l0_1 : List (S41)) : Option (Bool) := if (l0_0.length : Int) = 8 then (if 0 < (l0_0.length : Int) then (if (rd l0_0 0) = 0 then (impl_IsShop.j0 k (decide ((l0_1.length : Int) > 20)) l0_0 l0_1) else (impl_IsShop.j0 k true l0_0 l0_1)) else (none)) else (impl_IsShop.j0 k true l0_0 l0_1)
theorem impl_IsShop.mono_l : ∀ k, (∀ y0 y1 y2, LeO (impl_IsShop.j0 k y0 y1 y2) (impl_IsShop.j0 (k + 1) y0 y1 y2)) ∧ (∀ y0 y1 y2 y3 y4, LeO (impl_IsShop.l0 k y0 y1 y2 y3 y4) (impl_IsShop.l0 (k + 1) y0 y1 y2 y3 y4)) ∧ (∀ y0 y1 y2 y3 y4, LeO (impl_IsShop.l1 k y0 y1 y2 y3 y4) (impl_IsShop.l1 (k + 1) y0 y1 y2 y3 y4))
 | 0 => ⟨fun _ _ _ r h => by simp [impl_IsShop.j0] at h, fun _ _ _ _ _ r h => by simp [impl_IsShop.l0] at h, fun _ _ _ _ _ r h => by simp [impl_IsShop.l1] at h⟩
 | k + 1 => by
  obtain ⟨ih0, ih1, ih2⟩ := impl_IsShop.mono_l k
  refine ⟨?_, ?_, ?_⟩
  ·intro y0 y1 y2
   unfold impl_IsShop.j0
   repeat' first
   | (with_reducible exact ih0 _ _ _)
   | (with_reducible exact ih1 _ _ _ _ _)
   | (with_reducible exact ih2 _ _ _ _ _)
   | (with_reducible exact impl_sameLoan.mono _ _ _ _ _ _)
   | (with_reducible exact LeO.refl _)
   | (with_reducible exact LeO.none _)
   | (with_reducible refine LeO.ite ?_ ?_)
   | (with_reducible refine LeO.bind ?_ (fun _ => ?_))
   | exact ih0 _ _ _
   | exact ih1 _ _ _ _ _
   | exact ih2 _ _ _ _ _
   | exact impl_sameLoan.mono _ _ _ _ _ _
   | exact LeO.none _
   | refine LeO.ite ?_ ?_
   | refine LeO.bind ?_ (fun _ => ?_)
  ·intro y0 y1 y2 y3 y4
   unfold impl_IsShop.l0
   repeat' first
   | (with_reducible exact ih0 _ _ _)
   | (with_reducible exact ih1 _ _ _ _ _)
   | (with_reducible exact ih2 _ _ _ _ _)
   | (with_reducible exact impl_sameLoan.mono _ _ _ _ _ _)
   | (with_reducible exact LeO.refl _)
   | (with_reducible exact LeO.none _)
   | (with_reducible refine LeO.ite ?_ ?_)
   | (with_reducible refine LeO.bind ?_ (fun _ => ?_))
   | exact ih0 _ _ _
   | exact ih1 _ _ _ _ _
   | exact ih2 _ _ _ _ _
   | exact impl_sameLoan.mono _ _ _ _ _ _
   | exact LeO.none _
   | refine LeO.ite ?_ ?_
   | refine LeO.bind ?_ (fun _ => ?_)
  ·intro y0 y1 y2 y3 y4
   unfold impl_IsShop.l1
   repeat' first
   | (with_reducible exact ih0 _ _ _)
   | (with_reducible exact ih1 _ _ _ _ _)
   | (with_reducible exact ih2 _ _ _ _ _)
   | (with_reducible exact impl_sameLoan.mono _ _ _ _ _ _)
   | (with_reducible exact LeO.refl _)
   | (with_reducible exact LeO.none _)
   | (with_reducible refine LeO.ite ?_ ?_)
   | (with_reducible refine LeO.bind ?_ (fun _ => ?_))
   | exact ih0 _ _ _
   | exact ih1 _ _ _ _ _
   | exact ih2 _ _ _ _ _
   | exact impl_sameLoan.mono _ _ _ _ _ _
   | exact LeO.none _
   | refine LeO.ite ?_ ?_
   | refine LeO.bind ?_ (fun _ => ?_)
theorem impl_IsShop.mono : ∀ a0 a1 k, LeO (impl_IsShop.f k a0 a1) (impl_IsShop.f (k + 1) a0 a1) := by
 intro a0 a1 k
 obtain ⟨ih0, ih1, ih2⟩ := impl_IsShop.mono_l k
 unfold impl_IsShop.f
 repeat' first
   | (with_reducible exact ih0 _ _ _)
   | (with_reducible exact ih1 _ _ _ _ _)
   | (with_reducible exact ih2 _ _ _ _ _)
   | (with_reducible exact impl_sameLoan.mono _ _ _ _ _ _)
   | (with_reducible exact LeO.refl _)
   | (with_reducible exact LeO.none _)
   | (with_reducible refine LeO.ite ?_ ?_)
   | (with_reducible refine LeO.bind ?_ (fun _ => ?_))
   | exact ih0 _ _ _
   | exact ih1 _ _ _ _ _
   | exact ih2 _ _ _ _ _
   | exact impl_sameLoan.mono _ _ _ _ _ _
   | exact LeO.none _
   | refine LeO.ite ?_ ?_
   | refine LeO.bind ?_ (fun _ => ?_)
def impl_IsShop.T12 : Bool × List (List Nat × List Nat) := (true, [([], []), ([0], [0]), ([1], [1]), ([2, 1], [2]), ([3], [3]), ([4, 3], [3, 4]), ([3], [3]), ([5, 6, 3], [3, 5, 6]), ([3], [3]), ([7, 8, 3, 3], [3, 7, 8]), ([9, 3], [3, 9]), ([3, 10], [3, 10])])
def impl_IsShop.B12 : List Nat := [0, 1, 3, 7, 15, 31, 15, 127, 15, 511, 1023, 2047]
theorem impl_IsShop.tab12 : rtab .any (opsOf Try.f27 12) = impl_IsShop.T12 := by kernel_rfl
theorem impl_IsShop.bits12 : waitsOk impl_IsShop.T12.2 impl_IsShop.B12 = true := by kernel_rfl
set_option maxHeartbeats 8000000 in
set_option maxRecDepth 100000 in
theorem impl_IsShop.calls (k : Nat) (A0_0 : Option Addr) (c0_0 : Nat) (l0_0 : List Int) (A0_1 : Option Addr) (c0_1 : Nat) (l0_1 : List (S41)) (r : Bool) (w : World) (hr0_0 : Kd.C (Kd.int .i64) w A0_0 l0_0.length l0_0) (hc0_0 : l0_0.length ≤ c0_0) (hr0_1 : Kd.C k41 w A0_1 l0_1.length l0_1) (hc0_1 : l0_1.length ≤ c0_1) (h : impl_IsShop.f k l0_0 l0_1 = some r) :
  Calls Try.prog 27 #[.agg #[.slice A0_0 l0_0.length c0_0, .slice A0_1 l0_1.length c0_1]] w fun e w' => e = .returned (.bool r) ∧ Below w.heap.size w w' := by
 have hu29 := Try.underlying29
 have hu41 := Try.underlying41
 have HR0_0 := am hr0_0
 have HC0_0 := am hc0_0
 clear hr0_0 hc0_0
 have HR0_1 := am hr0_1
 have HC0_1 := am hc0_1
 clear hr0_1 hc0_1
 have HB := am (Below.refl w.heap.size w)
 have H : (if (l0_0.length : Int) = 8 then (if 0 < (l0_0.length : Int) then (if (rd l0_0 0) = 0 then (impl_IsShop.j0 k (decide ((l0_1.length : Int) > 20)) l0_0 l0_1) else (impl_IsShop.j0 k true l0_0 l0_1)) else (none)) else (impl_IsShop.j0 k true l0_0 l0_1)) = some r := h
 clear h
 have HC2 := am H
 clear H
 go_enter Try.func27, Try.ntmps27
 go_upto_region 1 with (first | ((with_reducible refine gate_dst (N := 1) rfl ?_); (try (refine gate_guard (by rfl) ?_; dsimp only)); refine box_event ?hg (N := 1) ?hd (cs := #[.slice A0_0 l0_0.length c0_0, .slice A0_1 l0_1.length c0_1]) (t := 29) ?hr ?_; (case hd => rfl); (case hg => rfl); (case hr => first | (go_simp; done) | (go_simp; rfl)); intro gb194 hg w3 hbox hb; have BK194 := am (hbox); have GW194 := am (gq hg); have GE194 := am (gq hg); replace HB := sb hb; clear hb hbox hg))
 (try simp only [Act.put, List.setIfInBounds_toArray, List.set_cons_zero, List.set_cons_succ])
 go_cut [23] (fun v23 wc => ∃ (kq : Nat) (x23_1 : Bool), v23 = .bool x23_1 ∧ Aside0 (impl_IsShop.j0 kq x23_1 l0_0 l0_1 = some r) ∧ Aside0 (kq ≤ k) ∧ Aside0 (wc.heap[gb194]? = some (.cells #[(.slice A0_0 l0_0.length c0_0), (.slice A0_1 l0_1.length c0_1)] 29 (0, 0))) ∧ Aside0 (Below w.heap.size w wc))
 case first =>
  have H := HC2.out
  clear HC2
  by_cases c4 : (l0_0.length : Int) = 8
  ·rw [if_pos c4] at H
   have c4b0 : ((l0_0.length : Int) == 8) = true := beq_iff_eq.mpr c4
   have c4b1 : ((l0_0.length : Int) != 8) = false := bne_eq_false_iff_eq.mpr c4
   clear c4
   (first | rw [c4b0] | (simp only [i64_w, i32_w]; rw [c4b0]) | skip)
   by_cases c5 : 0 < (l0_0.length : Int)
   ·rw [if_pos c5] at H
    have c5b0 : decide (0 < (l0_0.length : Int)) = true := decide_eq_true c5
    have c5b1 : decide (0 < l0_0.length) = true := decide_eq_true (by omega)
    clear c5
    by_cases c6 : (rd l0_0 0) = 0
    ·rw [if_pos c6] at H
     have c6b0 : ((rd l0_0 0) == 0) = true := beq_iff_eq.mpr c6
     have c6b1 : ((rd l0_0 0) != 0) = false := bne_eq_false_iff_eq.mpr c6
     clear c6
     have H' := am H
     clear H
     have ⟨hcz7_0, hcz7_1, hfz7_0, hfz7_1⟩ := bc2 BK194
     have p195 : 0 ≤ (0 : Int) := (by omega)
     have q195 : 0 < (l0_0.length : Int) := of_decide_eq_true aq
     obtain ⟨ad195, e195, hx195_0⟩ := Kd.at_int HR0_0.out 0 p195 q195
     cases e195
     have qi195 : (0 < l0_0.length) = True := eq_true (by omega)
     (try rw [show ((0 : Int)).toNat = 0 from rfl] at hx195_0)
     (try rw [Addr.add_zero'] at hx195_0)
     replace hx195_0 := (HB.out.cell (World.block_lt_of_cell? w _ hx195_0)).trans hx195_0
     replace p195 := eq_true p195
     replace q195 := eq_true q195
     go_wp2
     go_meet
     case rel => exact ⟨_, (decide ((l0_1.length : Int) > 20)), sq, H', ⟨by first | omega | exact Nat.le_refl _⟩, ⟨zq BK194⟩, ⟨bq⟩⟩
    ·rw [if_neg c6] at H
     have c6b0 : ((rd l0_0 0) == 0) = false := beq_eq_false_iff_ne.mpr c6
     have c6b1 : ((rd l0_0 0) != 0) = true := bne_iff_ne.mpr c6
     have H' := am H
     clear H
     have ⟨hcz8_0, hcz8_1, hfz8_0, hfz8_1⟩ := bc2 BK194
     have p195 : 0 ≤ (0 : Int) := (by omega)
     have q195 : 0 < (l0_0.length : Int) := of_decide_eq_true aq
     obtain ⟨ad195, e195, hx195_0⟩ := Kd.at_int HR0_0.out 0 p195 q195
     cases e195
     have qi195 : (0 < l0_0.length) = True := eq_true (by omega)
     (try rw [show ((0 : Int)).toNat = 0 from rfl] at hx195_0)
     (try rw [Addr.add_zero'] at hx195_0)
     replace hx195_0 := (HB.out.cell (World.block_lt_of_cell? w _ hx195_0)).trans hx195_0
     replace p195 := eq_true p195
     replace q195 := eq_true q195
     go_wp2
     go_meet
     case rel => exact ⟨_, (true), sq, H', ⟨by first | omega | exact Nat.le_refl _⟩, ⟨zq BK194⟩, ⟨bq⟩⟩
   ·rw [if_neg c5] at H
    exact absurd H (by simp)
  ·rw [if_neg c4] at H
   have c4b0 : ((l0_0.length : Int) == 8) = false := beq_eq_false_iff_ne.mpr c4
   have c4b1 : ((l0_0.length : Int) != 8) = true := bne_iff_ne.mpr c4
   (first | rw [c4b0] | (simp only [i64_w, i32_w]; rw [c4b0]) | skip)
   have H' := am H
   clear H
   have ⟨hcz9_0, hcz9_1, hfz9_0, hfz9_1⟩ := bc2 BK194
   go_wp2
   go_meet
   case rel => exact ⟨_, (true), sq, H', ⟨by first | omega | exact Nat.le_refl _⟩, ⟨zq BK194⟩, ⟨bq⟩⟩
 case rest =>
  clear HC2
  try clear c4b0
  try clear c4b1
  try clear c5b0
  try clear c5b1
  try clear c6b0
  try clear c6b1
  try clear hcz7_0 hcz7_1 hfz7_0 hfz7_1
  try clear hcz8_0 hcz8_1 hfz8_0 hfz8_1
  try clear hcz9_0 hcz9_1 hfz9_0 hfz9_1
  try clear hx195_0
  try clear p195
  try clear q195
  obtain ⟨kq, x23_1, rfl, HA, HJ1, BK194, HB⟩ := hcut
  cases kq with
  | zero => exact absurd HA.out (by simp [impl_IsShop.j0])
  | succ kj1 =>
   have H := HA.out
   clear HA
   simp only [impl_IsShop.j0] at H
   by_cases c10 : x23_1 = true
   ·subst c10
    rw [if_pos rfl] at H
    try dsimp only at H
    obtain rfl := Option.some.inj H
    go_wp2
    go_ret
    exact ⟨eq_, bq⟩
   ·replace c10 := Bool.eq_false_iff.mpr c10
    subst c10
    rw [if_neg (show ¬ (false = true) by decide)] at H
    try dsimp only at H
    have H' := am H
    clear H
    have ⟨hcz11_0, hcz11_1, hfz11_0, hfz11_1⟩ := bc2 BK194
    go_wp2
    go_loopg [27] kj1 (fun kq v27 w' => ∃ (x27_2 : Int), v27 = .int .i64 x27_2 ∧ Aside0 (impl_IsShop.l0 kq l0_0 (l0_0.length : Int) x27_2 l0_0 l0_1 = some r) ∧ Aside0 (kq ≤ kj1) ∧ Aside0 (w'.heap[gb194]? = some (.cells #[(.slice A0_0 l0_0.length c0_0), (.slice A0_1 l0_1.length c0_1)] 29 (0, 0))) ∧ Aside0 (Below w.heap.size w w'))
    case atStart => exact ⟨(0), sq, H', ⟨Nat.le_refl _⟩, ⟨zq BK194⟩, ⟨bq⟩⟩
    case round =>
     clear H'
     try clear c4b0
     try clear c4b1
     try clear c5b0
     try clear c5b1
     try clear c6b0
     try clear c6b1
     try clear c10
     try clear hcz11_0 hcz11_1 hfz11_0 hfz11_1
     try clear hcz7_0 hcz7_1 hfz7_0 hfz7_1
     try clear hcz8_0 hcz8_1 hfz8_0 hfz8_1
     try clear hcz9_0 hcz9_1 hfz9_0 hfz9_1
     try clear hx195_0
     try clear p195
     try clear q195
     obtain ⟨x27_2, rfl, HA, HK2, BK194, HB⟩ := hrel
     cases gk with
     | zero => exact absurd HA.out (by simp [impl_IsShop.l0])
     | succ k2 =>
      have H := HA.out
      clear HA
      simp only [impl_IsShop.l0] at H
      by_cases c12 : x27_2 < (l0_0.length : Int)
      ·rw [if_pos c12] at H
       have c12b0 : decide (x27_2 < (l0_0.length : Int)) = true := decide_eq_true c12
       clear c12
       by_cases c13 : 0 ≤ x27_2
       ·rw [if_pos c13] at H
        have c13b0 : decide (0 ≤ x27_2) = true := decide_eq_true c13
        clear c13
        by_cases c14 : x27_2 < (l0_0.length : Int)
        ·rw [if_pos c14] at H
         have c14b0 : decide (x27_2 < (l0_0.length : Int)) = true := decide_eq_true c14
         clear c14
         by_cases c15 : (rd l0_0 x27_2) < 0
         ·rw [if_pos c15] at H
          have c15b0 : decide ((rd l0_0 x27_2) < 0) = true := decide_eq_true c15
          clear c15
          obtain rfl := Option.some.inj H
          have p196 : 0 ≤ (x27_2 : Int) := of_decide_eq_true aq
          have q196 : x27_2 < (l0_0.length : Int) := of_decide_eq_true aq
          obtain ⟨ad196, e196, hx196_0⟩ := Kd.at_int HR0_0.out x27_2 p196 q196
          cases e196
          replace hx196_0 := (HB.out.cell (World.block_lt_of_cell? w _ hx196_0)).trans hx196_0
          replace p196 := eq_true p196
          replace q196 := eq_true q196
          go_wp2
          go_ret
          exact ⟨eq_, bq⟩
         ·rw [if_neg c15] at H
          have c15b0 : decide ((rd l0_0 x27_2) < 0) = false := decide_eq_false c15
          clear c15
          by_cases c16 : (rd l0_0 x27_2) > 999
          ·rw [if_pos c16] at H
           have c16b0 : decide (999 < (rd l0_0 x27_2)) = true := decide_eq_true c16
           clear c16
           obtain rfl := Option.some.inj H
           have p196 : 0 ≤ (x27_2 : Int) := of_decide_eq_true aq
           have q196 : x27_2 < (l0_0.length : Int) := of_decide_eq_true aq
           obtain ⟨ad196, e196, hx196_0⟩ := Kd.at_int HR0_0.out x27_2 p196 q196
           cases e196
           replace hx196_0 := (HB.out.cell (World.block_lt_of_cell? w _ hx196_0)).trans hx196_0
           replace p196 := eq_true p196
           replace q196 := eq_true q196
           go_wp2
           go_ret
           exact ⟨eq_, bq⟩
          ·rw [if_neg c16] at H
           have c16b0 : decide (999 < (rd l0_0 x27_2)) = false := decide_eq_false c16
           clear c16
           have H' := am H
           clear H
           have p196 : 0 ≤ (x27_2 : Int) := of_decide_eq_true aq
           have q196 : x27_2 < (l0_0.length : Int) := of_decide_eq_true aq
           obtain ⟨ad196, e196, hx196_0⟩ := Kd.at_int HR0_0.out x27_2 p196 q196
           cases e196
           replace hx196_0 := (HB.out.cell (World.block_lt_of_cell? w _ hx196_0)).trans hx196_0
           replace p196 := eq_true p196
           replace q196 := eq_true q196
           go_wp2
           go_roundg k2
           case measure => have := HJ1.out; have := HK2.out; omega
           case rel => exact ⟨(wrap64 (x27_2 + 1)), sq, H', ⟨by have := HJ1.out; have := HK2.out; omega⟩, ⟨zq BK194⟩, ⟨bq⟩⟩
        ·rw [if_neg c14] at H
         exact absurd H (by simp)
       ·rw [if_neg c13] at H
        exact absurd H (by simp)
      ·rw [if_neg c12] at H
       have c12b0 : decide (x27_2 < (l0_0.length : Int)) = false := decide_eq_false c12
       clear c12
       have H' := am H
       clear H
       have ⟨hcz17_0, hcz17_1, hfz17_0, hfz17_1⟩ := bc2 BK194
       go_wp2
       go_loopg [41] k2 (fun kq v41 w' => ∃ (x41_3 : Int), v41 = .int .i64 x41_3 ∧ Aside0 (impl_IsShop.l1 kq l0_1 (l0_1.length : Int) x41_3 l0_0 l0_1 = some r) ∧ Aside0 (kq ≤ k2) ∧ Aside0 (w'.heap[gb194]? = some (.cells #[(.slice A0_0 l0_0.length c0_0), (.slice A0_1 l0_1.length c0_1)] 29 (0, 0))) ∧ Aside0 (Below w.heap.size w w'))
       case atStart => exact ⟨(0), sq, H', ⟨Nat.le_refl _⟩, ⟨zq BK194⟩, ⟨bq⟩⟩
       case round =>
        clear H'
        try clear c4b0
        try clear c4b1
        try clear c5b0
        try clear c5b1
        try clear c6b0
        try clear c6b1
        try clear c10
        try clear c12b0
        try clear c13b0
        try clear c14b0
        try clear c15b0
        try clear c16b0
        try clear hcz11_0 hcz11_1 hfz11_0 hfz11_1
        try clear hcz17_0 hcz17_1 hfz17_0 hfz17_1
        try clear hcz7_0 hcz7_1 hfz7_0 hfz7_1
        try clear hcz8_0 hcz8_1 hfz8_0 hfz8_1
        try clear hcz9_0 hcz9_1 hfz9_0 hfz9_1
        try clear hx195_0
        try clear hx196_0
        try clear p195
        try clear p196
        try clear q195
        try clear q196
        obtain ⟨x41_3, rfl, HA, HK3, BK194, HB⟩ := hrel
        cases gk with
        | zero => exact absurd HA.out (by simp [impl_IsShop.l1])
        | succ k3 =>
         have H := HA.out
         clear HA
         simp only [impl_IsShop.l1] at H
         by_cases c18 : x41_3 < (l0_1.length : Int)
         ·rw [if_pos c18] at H
          have c18b0 : decide (x41_3 < (l0_1.length : Int)) = true := decide_eq_true c18
          clear c18
          by_cases c19 : 0 ≤ x41_3
          ·rw [if_pos c19] at H
           have c19b0 : decide (0 ≤ x41_3) = true := decide_eq_true c19
           clear c19
           by_cases c20 : x41_3 < (l0_1.length : Int)
           ·rw [if_pos c20] at H
            have c20b0 : decide (x41_3 < (l0_1.length : Int)) = true := decide_eq_true c20
            clear c20
            obtain ⟨t199, A21, H⟩ := bindq H
            try dsimp only at H
            by_cases c22 : t199 = true
            ·subst c22
             rw [if_pos rfl] at H
             try dsimp only at H
             have c23b0 := eq_true (of_decide_eq_true aq : 0 ≤ x41_3)
             by_cases c24 : x41_3 ≤ (l0_1.length : Int)
             ·rw [if_pos c24] at H
              have c24b0 := eq_true c24
              have c24b1 : decide (x41_3 ≤ (l0_1.length : Int)) = true := decide_eq_true c24
              clear c24
              obtain ⟨y200, hy200⟩ : ∃ y_ : List (S41), y_ = (l0_1.take (x41_3 : Int).toNat) := ⟨_, rfl⟩
              replace H : ((impl_sameLoan.f k3 y200 ((rd_T41 l0_1 x41_3).f0) ((rd_T41 l0_1 x41_3).f1) ((rd_T41 l0_1 x41_3).f2) ((rd_T41 l0_1 x41_3).f3)).bind fun t204 => (if t204 ≥ 0 then (some false) else (impl_IsShop.l1 k3 l0_1 (l0_1.length : Int) (wrap64 (x41_3 + 1)) l0_0 l0_1))) = some r := by first | (rw [hy200]; with_reducible exact H) | (have H2_ := (Option.bind_some _ _).symm.trans H; rw [hy200]; with_reducible exact H2_) | (have H2_ := (Option.bind_some _ _).symm.trans H; with_reducible exact H2_) | with_reducible exact H | (rw [hy200]; exact H) | exact H
              have Ny200 := am hy200
              clear hy200
              obtain ⟨t204, A25, H⟩ := bindq H
              try dsimp only at H
              by_cases c26 : t204 ≥ 0
              ·rw [if_pos c26] at H
               have c26b0 : decide (0 ≤ t204) = true := decide_eq_true c26
               clear c26
               obtain rfl := Option.some.inj H
               have p197 : 0 ≤ (x41_3 : Int) := of_decide_eq_true aq
               have q197 : x41_3 < (l0_1.length : Int) := of_decide_eq_true aq
               obtain ⟨ad197, e197, hx197_0, hx197_1, hx197_2, hx197_3⟩ := at_T41 HR0_1.out x41_3 p197 q197
               cases e197
               replace hx197_0 := (HB.out.cell (World.block_lt_of_cell? w _ hx197_0)).trans hx197_0
               replace hx197_1 := (HB.out.cell (World.block_lt_of_cell? w _ hx197_1)).trans hx197_1
               replace hx197_2 := (HB.out.cell (World.block_lt_of_cell? w _ hx197_2)).trans hx197_2
               replace hx197_3 := (HB.out.cell (World.block_lt_of_cell? w _ hx197_3)).trans hx197_3
               replace p197 := eq_true p197
               replace q197 := eq_true q197
               try go_wp2_with (first | ((with_reducible refine gate_dst (N := 6) rfl ?_); (try (refine gate_guard (by rfl) ?_; dsimp only)); refine box_event ?hg (N := 6) ?hd (cs := #[.int .i64 0, .int .i64 0, .int .i64 0, .int .i64 0]) (t := 41) ?hr ?_; (case hd => rfl); (case hg => rfl); (case hr => first | (go_simp; done) | (go_simp; rfl)); intro gb198 hg w27 hbox hb; have BK198 := am (hbox); have GW198 := am (gq hg); have GE198 := am (gq hg); replace HB := sb hb; have NB194_198 := nl hg BK194; have NB198_194 := ng hg BK194; replace BK194 := zb BK194 hb; clear hb hbox hg; have hnb28 := NB198_194.out; have hnc28 := NB194_198.out; have ⟨hcz29_0, hcz29_1, hcz29_2, hcz29_3, hfz29_0, hfz29_1, hfz29_2, hfz29_3⟩ := bc4 BK198))
               have n0_ : Aside0 (((((w27.setCell ⟨gb198, 0, none⟩ (.int .i64 ((rd_T41 l0_1 x41_3).f0))).setCell ⟨gb198, 1, none⟩ (.int .i64 ((rd_T41 l0_1 x41_3).f1))).setCell ⟨gb198, 2, none⟩ (.int .i64 ((rd_T41 l0_1 x41_3).f2))).setCell ⟨gb198, 3, none⟩ (.int .i64 ((rd_T41 l0_1 x41_3).f3))).heap[gb194]? = some (.cells #[.slice A0_0 l0_0.length c0_0, .slice (some ad197) l0_1.length c0_1] 29 (0, 0))) := ⟨zp BK194⟩
               have n1_ : Aside0 (((((w27.setCell ⟨gb198, 0, none⟩ (.int .i64 ((rd_T41 l0_1 x41_3).f0))).setCell ⟨gb198, 1, none⟩ (.int .i64 ((rd_T41 l0_1 x41_3).f1))).setCell ⟨gb198, 2, none⟩ (.int .i64 ((rd_T41 l0_1 x41_3).f2))).setCell ⟨gb198, 3, none⟩ (.int .i64 ((rd_T41 l0_1 x41_3).f3))).heap[gb198]? = some (.cells #[.int .i64 ((rd_T41 l0_1 x41_3).f0), .int .i64 ((rd_T41 l0_1 x41_3).f1), .int .i64 ((rd_T41 l0_1 x41_3).f2), .int .i64 ((rd_T41 l0_1 x41_3).f3)] 41 (0, 0))) := ⟨zp BK198⟩
               have n2_ : Aside0 (Below w.heap.size w ((((w27.setCell ⟨gb198, 0, none⟩ (.int .i64 ((rd_T41 l0_1 x41_3).f0))).setCell ⟨gb198, 1, none⟩ (.int .i64 ((rd_T41 l0_1 x41_3).f1))).setCell ⟨gb198, 2, none⟩ (.int .i64 ((rd_T41 l0_1 x41_3).f2))).setCell ⟨gb198, 3, none⟩ (.int .i64 ((rd_T41 l0_1 x41_3).f3)))) := ⟨bq⟩
               (try clear BK194)
               (try clear BK198)
               (try clear HB)
               generalize ((((w27.setCell ⟨gb198, 0, none⟩ (.int .i64 ((rd_T41 l0_1 x41_3).f0))).setCell ⟨gb198, 1, none⟩ (.int .i64 ((rd_T41 l0_1 x41_3).f1))).setCell ⟨gb198, 2, none⟩ (.int .i64 ((rd_T41 l0_1 x41_3).f2))).setCell ⟨gb198, 3, none⟩ (.int .i64 ((rd_T41 l0_1 x41_3).f3))) = w30 at n0_ n1_ n2_ ⊢
               have BK194 := n0_
               have BK198 := n1_
               have HB := n2_
               clear n0_ n1_ n2_
               replace BK194 := am (blk_drew BK194.out)
               replace BK198 := am (blk_drew BK198.out)
               replace HB := am (below_drew1 HB.out)
               refine start_ (n := 12) (S := fun w' => w'.cell? ⟨gb198, 0, none⟩ = some (.int .i64 ((rd_T41 l0_1 x41_3).f0)) ∧ w'.cell? ⟨gb198, 1, none⟩ = some (.int .i64 ((rd_T41 l0_1 x41_3).f1)) ∧ w'.cell? ⟨gb198, 2, none⟩ = some (.int .i64 ((rd_T41 l0_1 x41_3).f2)) ∧ w'.cell? ⟨gb198, 3, none⟩ = some (.int .i64 ((rd_T41 l0_1 x41_3).f3)) ∧ w'.cell? ⟨gb194, 0, none⟩ = some (.slice A0_0 l0_0.length c0_0) ∧ w'.cell? ⟨gb194, 1, none⟩ = some (.slice (some ad197) l0_1.length c0_1)) (ds := []) #[false, false, false, false, false, false, false, false, false, false, false, false] (by kernel_rfl) rfl rfl cl (fun hHeld => ?_); refine with_tabW impl_IsShop.tab12 impl_IsShop.bits12 (fun HT_ HW_ => ?_)
               generalize w30.drew = w31 at BK194 BK198 HB hHeld ⊢
               refine take_ (i := 0) (N := some 46) (v := ?_) (a' := ?_) #[true, false, false, false, false, false, false, false, false, false, false, false] rfl rfl (take_ofW HT_.out HW_.out (by kernel_rfl)) (fun _ _ _ h => h) (Or.inl ⟨by rfl, ?_⟩) hHeld ?_ ?_
               rotate_left
               ·rintro w' ⟨s0, s1, s2, s3, s4, s5⟩
                go_simp
                with_reducible rfl
               rotate_left
               ·simp only [Act.put, List.setIfInBounds_toArray, List.set_cons_zero, List.set_cons_succ, i64_w, i32_w]
                rfl
               refine one_ (i := 1) (N := some 47) #[true, true, false, false, false, false, false, false, false, false, false, false] rfl rfl (one_of HT_.out (by kernel_rfl)) (by decide) (fun K hK => ?_)
               refine goes_ Try.func42 (by kernel_rfl) rfl #[.agg #[.int .i64 ((rd_T41 l0_1 x41_3).f0), .int .i64 ((rd_T41 l0_1 x41_3).f1), .int .i64 ((rd_T41 l0_1 x41_3).f2), .int .i64 ((rd_T41 l0_1 x41_3).f3)]] (by rfl) rfl rfl mq ?_
               with_reducible refine (impl_isLoan.calls ((rd_T41 l0_1 x41_3).f0) ((rd_T41 l0_1 x41_3).f1) ((rd_T41 l0_1 x41_3).f2) ((rd_T41 l0_1 x41_3).f3) true _ A21.out).mono ?_
               rintro e w32 ⟨rfl, hb⟩
               refine ⟨_, rfl, ?_⟩
               replace BK194 := zb BK194 hb
               replace BK198 := zb BK198 hb
               replace HB := sb hb
               (try clear hb)
               have q33 : (x41_3 : Int) ≤ ((l0_1.length : Int) : Int) := of_decide_eq_true aq
               obtain ⟨i033, hi033, _, hsz33, _⟩ := info_parts info41
               have hroom33 : l0_1.length ≤ c0_1 := HC0_1.out
               have hC33 : Kd.C k41 _ (some ad197) l0_1.length l0_1 := HR0_1.out
               have hcut33 := cut_to (P := Try.prog) 27 41 .i64 Try.underlying27 hi033 (some ad197) l0_1.length c0_1 x41_3 (of_decide_eq_true aq) q33 hroom33
               have hr33 := Kd.C_take (m := (x41_3 : Int).toNat) hC33 (by omega)
               have hy33 : y200.length = (x41_3 : Int).toNat := (by rw [Ny200.out, List.length_take]; omega)
               rw [← Ny200.out] at hr33
               rw [← hy33] at hcut33
               have HR203 := am hr33
               have HC203 := am (show y200.length ≤ c0_1 from by omega)
               clear hr33 hC33 hroom33 hi033 hsz33
               have KY33 := am hy33
               clear hy33
               replace q33 := eq_true q33
               refine hK.out _ _ cl (fun hHeld => ?_)
               clear hK K
               refine norm_ (a' := ?_) ?_ ?_
               rotate_left
               ·show Act.put _ (some 47) _ = _
                simp only [Act.put, List.setIfInBounds_toArray, List.set_cons_zero, List.set_cons_succ, i64_w, i32_w]
                rfl
               refine pure_ (i := 2) (N := some 48) (v := ?_) (a' := ?_) #[true, true, true, false, false, false, false, false, false, false, false, false] rfl rfl (any_of HT_.out (by kernel_rfl)) (fun _ _ _ h => h) (Or.inl ⟨by rfl, ?_⟩) ?_ ?_
               rotate_left
               ·intro w'
                go_simp
                with_reducible rfl
               rotate_left
               ·simp only [Act.put, List.setIfInBounds_toArray, List.set_cons_zero, List.set_cons_succ, i64_w, i32_w]
                rfl
               refine pure_ (i := 3) (N := some 49) (v := ?_) (a' := ?_) #[true, true, true, true, false, false, false, false, false, false, false, false] rfl rfl (any_of HT_.out (by kernel_rfl)) (fun _ _ _ h => h) (Or.inl ⟨by rfl, ?_⟩) ?_ ?_
               rotate_left
               ·intro w'
                go_simp
                with_reducible rfl
               rotate_left
               ·simp only [Act.put, List.setIfInBounds_toArray, List.set_cons_zero, List.set_cons_succ, i64_w, i32_w]
                rfl
               refine pure_ (i := 4) (N := some 50) (v := ?_) (a' := ?_) #[true, true, true, true, true, false, false, false, false, false, false, false] rfl rfl (any_of HT_.out (by kernel_rfl)) (fun _ _ _ h => h) (Or.inl ⟨by rfl, ?_⟩) ?_ ?_
               rotate_left
               ·intro w'
                go_simp
                with_reducible rfl
               rotate_left
               ·simp only [Act.put, List.setIfInBounds_toArray, List.set_cons_zero, List.set_cons_succ, i64_w, i32_w]
                rfl
               refine pure_ (i := 6) (N := some 52) (v := ?_) (a' := ?_) #[true, true, true, true, true, false, true, false, false, false, false, false] rfl rfl (any_of HT_.out (by kernel_rfl)) (fun _ _ _ h => h) (Or.inl ⟨by rfl, ?_⟩) ?_ ?_
               rotate_left
               ·intro w'
                go_simp
                with_reducible rfl
               rotate_left
               ·simp only [Act.put, List.setIfInBounds_toArray, List.set_cons_zero, List.set_cons_succ, i64_w, i32_w]
                rfl
               refine take_ (i := 5) (N := some 51) (v := ?_) (a' := ?_) #[true, true, true, true, true, true, true, false, false, false, false, false] rfl rfl (take_ofW HT_.out HW_.out (by kernel_rfl)) (fun _ _ _ h => h) (Or.inl ⟨by rfl, ?_⟩) hHeld ?_ ?_
               rotate_left
               ·rintro w' ⟨s0, s1, s2, s3, s4, s5⟩
                go_simp
                with_reducible rfl
               rotate_left
               ·simp only [Act.put, List.setIfInBounds_toArray, List.set_cons_zero, List.set_cons_succ, i64_w, i32_w]
                rfl
               refine pure_ (i := 7) (N := some 53) (v := ?_) (a' := ?_) #[true, true, true, true, true, true, true, true, false, false, false, false] rfl rfl (any_of HT_.out (by kernel_rfl)) (fun _ _ _ h => h) (Or.inl ⟨by rfl, ?_⟩) ?_ ?_
               rotate_left
               ·intro w'
                go_simp
                with_reducible rfl
               rotate_left
               ·simp only [Act.put, List.setIfInBounds_toArray, List.set_cons_zero, List.set_cons_succ, i64_w, i32_w]
                rfl
               refine take_ (i := 8) (N := some 54) (v := ?_) (a' := ?_) #[true, true, true, true, true, true, true, true, true, false, false, false] rfl rfl (take_ofW HT_.out HW_.out (by kernel_rfl)) (fun _ _ _ h => h) (Or.inl ⟨by rfl, ?_⟩) hHeld ?_ ?_
               rotate_left
               ·rintro w' ⟨s0, s1, s2, s3, s4, s5⟩
                go_simp
                with_reducible rfl
               rotate_left
               ·simp only [Act.put, List.setIfInBounds_toArray, List.set_cons_zero, List.set_cons_succ, i64_w, i32_w]
                rfl
               refine one_ (i := 9) (N := some 55) #[true, true, true, true, true, true, true, true, true, true, false, false] rfl rfl (one_of HT_.out (by kernel_rfl)) (by decide) (fun K hK => ?_)
               refine goes_ Try.func43 (by kernel_rfl) rfl #[.slice (some ad197) y200.length c0_1, .agg #[.int .i64 ((rd_T41 l0_1 x41_3).f0), .int .i64 ((rd_T41 l0_1 x41_3).f1), .int .i64 ((rd_T41 l0_1 x41_3).f2), .int .i64 ((rd_T41 l0_1 x41_3).f3)]] (by rfl) rfl rfl mq ?_
               with_reducible refine (impl_sameLoan.calls k3 _ _ y200 ((rd_T41 l0_1 x41_3).f0) ((rd_T41 l0_1 x41_3).f1) ((rd_T41 l0_1 x41_3).f2) ((rd_T41 l0_1 x41_3).f3) t204 _ ?s1 ?s2 A25.out).mono ?_
               (case s1 => exact cq (Kd.C_below HR203.out HB.out))
               (case s2 => exact HC203.out)
               rintro e w34 ⟨rfl, hb⟩
               refine ⟨_, rfl, ?_⟩
               replace BK194 := zb BK194 hb
               replace BK198 := zb BK198 hb
               replace HB := sb hb
               (try clear hb)
               refine hK.out _ _ cl (fun hHeld => ?_)
               clear hK K
               refine norm_ (a' := ?_) ?_ ?_
               rotate_left
               ·show Act.put _ (some 55) _ = _
                simp only [Act.put, List.setIfInBounds_toArray, List.set_cons_zero, List.set_cons_succ, i64_w, i32_w]
                rfl
               refine pure_ (i := 10) (N := some 56) (v := ?_) (a' := ?_) #[true, true, true, true, true, true, true, true, true, true, true, false] rfl rfl (any_of HT_.out (by kernel_rfl)) (fun _ _ _ h => h) (Or.inl ⟨by rfl, ?_⟩) ?_ ?_
               rotate_left
               ·intro w'
                go_simp
                with_reducible rfl
               rotate_left
               ·simp only [Act.put, List.setIfInBounds_toArray, List.set_cons_zero, List.set_cons_succ, i64_w, i32_w]
                rfl
               refine pure_ (i := 11) (N := some 57) (v := ?_) (a' := ?_) #[true, true, true, true, true, true, true, true, true, true, true, true] rfl rfl (any_of HT_.out (by kernel_rfl)) (fun _ _ _ h => h) (Or.inl ⟨by rfl, ?_⟩) ?_ ?_
               rotate_left
               ·intro w'
                go_simp
                with_reducible rfl
               rotate_left
               ·simp only [Act.put, List.setIfInBounds_toArray, List.set_cons_zero, List.set_cons_succ, i64_w, i32_w]
                rfl
               refine done_ (done_of HT_.out (by kernel_rfl)) ?_
               try go_wp2
               go_ret
               exact ⟨eq_, bq⟩
              ·rw [if_neg c26] at H
               have c26b0 : decide (0 ≤ t204) = false := decide_eq_false c26
               clear c26
               have H' := am H
               clear H
               have p197 : 0 ≤ (x41_3 : Int) := of_decide_eq_true aq
               have q197 : x41_3 < (l0_1.length : Int) := of_decide_eq_true aq
               obtain ⟨ad197, e197, hx197_0, hx197_1, hx197_2, hx197_3⟩ := at_T41 HR0_1.out x41_3 p197 q197
               cases e197
               replace hx197_0 := (HB.out.cell (World.block_lt_of_cell? w _ hx197_0)).trans hx197_0
               replace hx197_1 := (HB.out.cell (World.block_lt_of_cell? w _ hx197_1)).trans hx197_1
               replace hx197_2 := (HB.out.cell (World.block_lt_of_cell? w _ hx197_2)).trans hx197_2
               replace hx197_3 := (HB.out.cell (World.block_lt_of_cell? w _ hx197_3)).trans hx197_3
               replace p197 := eq_true p197
               replace q197 := eq_true q197
               try go_wp2_with (first | ((with_reducible refine gate_dst (N := 6) rfl ?_); (try (refine gate_guard (by rfl) ?_; dsimp only)); refine box_event ?hg (N := 6) ?hd (cs := #[.int .i64 0, .int .i64 0, .int .i64 0, .int .i64 0]) (t := 41) ?hr ?_; (case hd => rfl); (case hg => rfl); (case hr => first | (go_simp; done) | (go_simp; rfl)); intro gb198 hg w35 hbox hb; have BK198 := am (hbox); have GW198 := am (gq hg); have GE198 := am (gq hg); replace HB := sb hb; have NB194_198 := nl hg BK194; have NB198_194 := ng hg BK194; replace BK194 := zb BK194 hb; clear hb hbox hg; have hnb36 := NB198_194.out; have hnc36 := NB194_198.out; have ⟨hcz37_0, hcz37_1, hcz37_2, hcz37_3, hfz37_0, hfz37_1, hfz37_2, hfz37_3⟩ := bc4 BK198))
               have n0_ : Aside0 (((((w35.setCell ⟨gb198, 0, none⟩ (.int .i64 ((rd_T41 l0_1 x41_3).f0))).setCell ⟨gb198, 1, none⟩ (.int .i64 ((rd_T41 l0_1 x41_3).f1))).setCell ⟨gb198, 2, none⟩ (.int .i64 ((rd_T41 l0_1 x41_3).f2))).setCell ⟨gb198, 3, none⟩ (.int .i64 ((rd_T41 l0_1 x41_3).f3))).heap[gb194]? = some (.cells #[.slice A0_0 l0_0.length c0_0, .slice (some ad197) l0_1.length c0_1] 29 (0, 0))) := ⟨zp BK194⟩
               have n1_ : Aside0 (((((w35.setCell ⟨gb198, 0, none⟩ (.int .i64 ((rd_T41 l0_1 x41_3).f0))).setCell ⟨gb198, 1, none⟩ (.int .i64 ((rd_T41 l0_1 x41_3).f1))).setCell ⟨gb198, 2, none⟩ (.int .i64 ((rd_T41 l0_1 x41_3).f2))).setCell ⟨gb198, 3, none⟩ (.int .i64 ((rd_T41 l0_1 x41_3).f3))).heap[gb198]? = some (.cells #[.int .i64 ((rd_T41 l0_1 x41_3).f0), .int .i64 ((rd_T41 l0_1 x41_3).f1), .int .i64 ((rd_T41 l0_1 x41_3).f2), .int .i64 ((rd_T41 l0_1 x41_3).f3)] 41 (0, 0))) := ⟨zp BK198⟩
               have n2_ : Aside0 (Below w.heap.size w ((((w35.setCell ⟨gb198, 0, none⟩ (.int .i64 ((rd_T41 l0_1 x41_3).f0))).setCell ⟨gb198, 1, none⟩ (.int .i64 ((rd_T41 l0_1 x41_3).f1))).setCell ⟨gb198, 2, none⟩ (.int .i64 ((rd_T41 l0_1 x41_3).f2))).setCell ⟨gb198, 3, none⟩ (.int .i64 ((rd_T41 l0_1 x41_3).f3)))) := ⟨bq⟩
               (try clear BK194)
               (try clear BK198)
               (try clear HB)
               generalize ((((w35.setCell ⟨gb198, 0, none⟩ (.int .i64 ((rd_T41 l0_1 x41_3).f0))).setCell ⟨gb198, 1, none⟩ (.int .i64 ((rd_T41 l0_1 x41_3).f1))).setCell ⟨gb198, 2, none⟩ (.int .i64 ((rd_T41 l0_1 x41_3).f2))).setCell ⟨gb198, 3, none⟩ (.int .i64 ((rd_T41 l0_1 x41_3).f3))) = w38 at n0_ n1_ n2_ ⊢
               have BK194 := n0_
               have BK198 := n1_
               have HB := n2_
               clear n0_ n1_ n2_
               replace BK194 := am (blk_drew BK194.out)
               replace BK198 := am (blk_drew BK198.out)
               replace HB := am (below_drew1 HB.out)
               refine start_ (n := 12) (S := fun w' => w'.cell? ⟨gb198, 0, none⟩ = some (.int .i64 ((rd_T41 l0_1 x41_3).f0)) ∧ w'.cell? ⟨gb198, 1, none⟩ = some (.int .i64 ((rd_T41 l0_1 x41_3).f1)) ∧ w'.cell? ⟨gb198, 2, none⟩ = some (.int .i64 ((rd_T41 l0_1 x41_3).f2)) ∧ w'.cell? ⟨gb198, 3, none⟩ = some (.int .i64 ((rd_T41 l0_1 x41_3).f3)) ∧ w'.cell? ⟨gb194, 0, none⟩ = some (.slice A0_0 l0_0.length c0_0) ∧ w'.cell? ⟨gb194, 1, none⟩ = some (.slice (some ad197) l0_1.length c0_1)) (ds := []) #[false, false, false, false, false, false, false, false, false, false, false, false] (by kernel_rfl) rfl rfl cl (fun hHeld => ?_); refine with_tabW impl_IsShop.tab12 impl_IsShop.bits12 (fun HT_ HW_ => ?_)
               generalize w38.drew = w39 at BK194 BK198 HB hHeld ⊢
               refine take_ (i := 0) (N := some 46) (v := ?_) (a' := ?_) #[true, false, false, false, false, false, false, false, false, false, false, false] rfl rfl (take_ofW HT_.out HW_.out (by kernel_rfl)) (fun _ _ _ h => h) (Or.inl ⟨by rfl, ?_⟩) hHeld ?_ ?_
               rotate_left
               ·rintro w' ⟨s0, s1, s2, s3, s4, s5⟩
                go_simp
                with_reducible rfl
               rotate_left
               ·simp only [Act.put, List.setIfInBounds_toArray, List.set_cons_zero, List.set_cons_succ, i64_w, i32_w]
                rfl
               refine one_ (i := 1) (N := some 47) #[true, true, false, false, false, false, false, false, false, false, false, false] rfl rfl (one_of HT_.out (by kernel_rfl)) (by decide) (fun K hK => ?_)
               refine goes_ Try.func42 (by kernel_rfl) rfl #[.agg #[.int .i64 ((rd_T41 l0_1 x41_3).f0), .int .i64 ((rd_T41 l0_1 x41_3).f1), .int .i64 ((rd_T41 l0_1 x41_3).f2), .int .i64 ((rd_T41 l0_1 x41_3).f3)]] (by rfl) rfl rfl mq ?_
               with_reducible refine (impl_isLoan.calls ((rd_T41 l0_1 x41_3).f0) ((rd_T41 l0_1 x41_3).f1) ((rd_T41 l0_1 x41_3).f2) ((rd_T41 l0_1 x41_3).f3) true _ A21.out).mono ?_
               rintro e w40 ⟨rfl, hb⟩
               refine ⟨_, rfl, ?_⟩
               replace BK194 := zb BK194 hb
               replace BK198 := zb BK198 hb
               replace HB := sb hb
               (try clear hb)
               have q41 : (x41_3 : Int) ≤ ((l0_1.length : Int) : Int) := of_decide_eq_true aq
               obtain ⟨i041, hi041, _, hsz41, _⟩ := info_parts info41
               have hroom41 : l0_1.length ≤ c0_1 := HC0_1.out
               have hC41 : Kd.C k41 _ (some ad197) l0_1.length l0_1 := HR0_1.out
               have hcut41 := cut_to (P := Try.prog) 27 41 .i64 Try.underlying27 hi041 (some ad197) l0_1.length c0_1 x41_3 (of_decide_eq_true aq) q41 hroom41
               have hr41 := Kd.C_take (m := (x41_3 : Int).toNat) hC41 (by omega)
               have hy41 : y200.length = (x41_3 : Int).toNat := (by rw [Ny200.out, List.length_take]; omega)
               rw [← Ny200.out] at hr41
               rw [← hy41] at hcut41
               have HR203 := am hr41
               have HC203 := am (show y200.length ≤ c0_1 from by omega)
               clear hr41 hC41 hroom41 hi041 hsz41
               have KY41 := am hy41
               clear hy41
               replace q41 := eq_true q41
               refine hK.out _ _ cl (fun hHeld => ?_)
               clear hK K
               refine norm_ (a' := ?_) ?_ ?_
               rotate_left
               ·show Act.put _ (some 47) _ = _
                simp only [Act.put, List.setIfInBounds_toArray, List.set_cons_zero, List.set_cons_succ, i64_w, i32_w]
                rfl
               refine pure_ (i := 2) (N := some 48) (v := ?_) (a' := ?_) #[true, true, true, false, false, false, false, false, false, false, false, false] rfl rfl (any_of HT_.out (by kernel_rfl)) (fun _ _ _ h => h) (Or.inl ⟨by rfl, ?_⟩) ?_ ?_
               rotate_left
               ·intro w'
                go_simp
                with_reducible rfl
               rotate_left
               ·simp only [Act.put, List.setIfInBounds_toArray, List.set_cons_zero, List.set_cons_succ, i64_w, i32_w]
                rfl
               refine pure_ (i := 3) (N := some 49) (v := ?_) (a' := ?_) #[true, true, true, true, false, false, false, false, false, false, false, false] rfl rfl (any_of HT_.out (by kernel_rfl)) (fun _ _ _ h => h) (Or.inl ⟨by rfl, ?_⟩) ?_ ?_
               rotate_left
               ·intro w'
                go_simp
                with_reducible rfl
               rotate_left
               ·simp only [Act.put, List.setIfInBounds_toArray, List.set_cons_zero, List.set_cons_succ, i64_w, i32_w]
                rfl
               refine pure_ (i := 4) (N := some 50) (v := ?_) (a' := ?_) #[true, true, true, true, true, false, false, false, false, false, false, false] rfl rfl (any_of HT_.out (by kernel_rfl)) (fun _ _ _ h => h) (Or.inl ⟨by rfl, ?_⟩) ?_ ?_
               rotate_left
               ·intro w'
                go_simp
                with_reducible rfl
               rotate_left
               ·simp only [Act.put, List.setIfInBounds_toArray, List.set_cons_zero, List.set_cons_succ, i64_w, i32_w]
                rfl
               refine pure_ (i := 6) (N := some 52) (v := ?_) (a' := ?_) #[true, true, true, true, true, false, true, false, false, false, false, false] rfl rfl (any_of HT_.out (by kernel_rfl)) (fun _ _ _ h => h) (Or.inl ⟨by rfl, ?_⟩) ?_ ?_
               rotate_left
               ·intro w'
                go_simp
                with_reducible rfl
               rotate_left
               ·simp only [Act.put, List.setIfInBounds_toArray, List.set_cons_zero, List.set_cons_succ, i64_w, i32_w]
                rfl
               refine take_ (i := 5) (N := some 51) (v := ?_) (a' := ?_) #[true, true, true, true, true, true, true, false, false, false, false, false] rfl rfl (take_ofW HT_.out HW_.out (by kernel_rfl)) (fun _ _ _ h => h) (Or.inl ⟨by rfl, ?_⟩) hHeld ?_ ?_
               rotate_left
               ·rintro w' ⟨s0, s1, s2, s3, s4, s5⟩
                go_simp
                with_reducible rfl
               rotate_left
               ·simp only [Act.put, List.setIfInBounds_toArray, List.set_cons_zero, List.set_cons_succ, i64_w, i32_w]
                rfl
               refine pure_ (i := 7) (N := some 53) (v := ?_) (a' := ?_) #[true, true, true, true, true, true, true, true, false, false, false, false] rfl rfl (any_of HT_.out (by kernel_rfl)) (fun _ _ _ h => h) (Or.inl ⟨by rfl, ?_⟩) ?_ ?_
               rotate_left
               ·intro w'
                go_simp
                with_reducible rfl
               rotate_left
               ·simp only [Act.put, List.setIfInBounds_toArray, List.set_cons_zero, List.set_cons_succ, i64_w, i32_w]
                rfl
               refine take_ (i := 8) (N := some 54) (v := ?_) (a' := ?_) #[true, true, true, true, true, true, true, true, true, false, false, false] rfl rfl (take_ofW HT_.out HW_.out (by kernel_rfl)) (fun _ _ _ h => h) (Or.inl ⟨by rfl, ?_⟩) hHeld ?_ ?_
               rotate_left
               ·rintro w' ⟨s0, s1, s2, s3, s4, s5⟩
                go_simp
                with_reducible rfl
               rotate_left
               ·simp only [Act.put, List.setIfInBounds_toArray, List.set_cons_zero, List.set_cons_succ, i64_w, i32_w]
                rfl
               refine one_ (i := 9) (N := some 55) #[true, true, true, true, true, true, true, true, true, true, false, false] rfl rfl (one_of HT_.out (by kernel_rfl)) (by decide) (fun K hK => ?_)
               refine goes_ Try.func43 (by kernel_rfl) rfl #[.slice (some ad197) y200.length c0_1, .agg #[.int .i64 ((rd_T41 l0_1 x41_3).f0), .int .i64 ((rd_T41 l0_1 x41_3).f1), .int .i64 ((rd_T41 l0_1 x41_3).f2), .int .i64 ((rd_T41 l0_1 x41_3).f3)]] (by rfl) rfl rfl mq ?_
               with_reducible refine (impl_sameLoan.calls k3 _ _ y200 ((rd_T41 l0_1 x41_3).f0) ((rd_T41 l0_1 x41_3).f1) ((rd_T41 l0_1 x41_3).f2) ((rd_T41 l0_1 x41_3).f3) t204 _ ?s1 ?s2 A25.out).mono ?_
               (case s1 => exact cq (Kd.C_below HR203.out HB.out))
               (case s2 => exact HC203.out)
               rintro e w42 ⟨rfl, hb⟩
               refine ⟨_, rfl, ?_⟩
               replace BK194 := zb BK194 hb
               replace BK198 := zb BK198 hb
               replace HB := sb hb
               (try clear hb)
               refine hK.out _ _ cl (fun hHeld => ?_)
               clear hK K
               refine norm_ (a' := ?_) ?_ ?_
               rotate_left
               ·show Act.put _ (some 55) _ = _
                simp only [Act.put, List.setIfInBounds_toArray, List.set_cons_zero, List.set_cons_succ, i64_w, i32_w]
                rfl
               refine pure_ (i := 10) (N := some 56) (v := ?_) (a' := ?_) #[true, true, true, true, true, true, true, true, true, true, true, false] rfl rfl (any_of HT_.out (by kernel_rfl)) (fun _ _ _ h => h) (Or.inl ⟨by rfl, ?_⟩) ?_ ?_
               rotate_left
               ·intro w'
                go_simp
                with_reducible rfl
               rotate_left
               ·simp only [Act.put, List.setIfInBounds_toArray, List.set_cons_zero, List.set_cons_succ, i64_w, i32_w]
                rfl
               refine pure_ (i := 11) (N := some 57) (v := ?_) (a' := ?_) #[true, true, true, true, true, true, true, true, true, true, true, true] rfl rfl (any_of HT_.out (by kernel_rfl)) (fun _ _ _ h => h) (Or.inl ⟨by rfl, ?_⟩) ?_ ?_
               rotate_left
               ·intro w'
                go_simp
                with_reducible rfl
               rotate_left
               ·simp only [Act.put, List.setIfInBounds_toArray, List.set_cons_zero, List.set_cons_succ, i64_w, i32_w]
                rfl
               refine done_ (done_of HT_.out (by kernel_rfl)) ?_
               try go_wp2
               go_roundg k3
               case measure => have := HJ1.out; have := HK2.out; have := HK3.out; omega
               case rel => exact ⟨(wrap64 (x41_3 + 1)), sq, H', ⟨by have := HJ1.out; have := HK2.out; have := HK3.out; omega⟩, ⟨zq BK194⟩, ⟨bq⟩⟩
             ·rw [if_neg c24] at H
              exact absurd H (by simp)
            ·replace c22 := Bool.eq_false_iff.mpr c22
             subst c22
             rw [if_neg (show ¬ (false = true) by decide)] at H
             try dsimp only at H
             obtain rfl := Option.some.inj H
             have p197 : 0 ≤ (x41_3 : Int) := of_decide_eq_true aq
             have q197 : x41_3 < (l0_1.length : Int) := of_decide_eq_true aq
             obtain ⟨ad197, e197, hx197_0, hx197_1, hx197_2, hx197_3⟩ := at_T41 HR0_1.out x41_3 p197 q197
             cases e197
             replace hx197_0 := (HB.out.cell (World.block_lt_of_cell? w _ hx197_0)).trans hx197_0
             replace hx197_1 := (HB.out.cell (World.block_lt_of_cell? w _ hx197_1)).trans hx197_1
             replace hx197_2 := (HB.out.cell (World.block_lt_of_cell? w _ hx197_2)).trans hx197_2
             replace hx197_3 := (HB.out.cell (World.block_lt_of_cell? w _ hx197_3)).trans hx197_3
             replace p197 := eq_true p197
             replace q197 := eq_true q197
             try go_wp2_with (first | ((with_reducible refine gate_dst (N := 6) rfl ?_); (try (refine gate_guard (by rfl) ?_; dsimp only)); refine box_event ?hg (N := 6) ?hd (cs := #[.int .i64 0, .int .i64 0, .int .i64 0, .int .i64 0]) (t := 41) ?hr ?_; (case hd => rfl); (case hg => rfl); (case hr => first | (go_simp; done) | (go_simp; rfl)); intro gb198 hg w43 hbox hb; have BK198 := am (hbox); have GW198 := am (gq hg); have GE198 := am (gq hg); replace HB := sb hb; have NB194_198 := nl hg BK194; have NB198_194 := ng hg BK194; replace BK194 := zb BK194 hb; clear hb hbox hg; have hnb44 := NB198_194.out; have hnc44 := NB194_198.out; have ⟨hcz45_0, hcz45_1, hcz45_2, hcz45_3, hfz45_0, hfz45_1, hfz45_2, hfz45_3⟩ := bc4 BK198))
             have n0_ : Aside0 (((((w43.setCell ⟨gb198, 0, none⟩ (.int .i64 ((rd_T41 l0_1 x41_3).f0))).setCell ⟨gb198, 1, none⟩ (.int .i64 ((rd_T41 l0_1 x41_3).f1))).setCell ⟨gb198, 2, none⟩ (.int .i64 ((rd_T41 l0_1 x41_3).f2))).setCell ⟨gb198, 3, none⟩ (.int .i64 ((rd_T41 l0_1 x41_3).f3))).heap[gb194]? = some (.cells #[.slice A0_0 l0_0.length c0_0, .slice (some ad197) l0_1.length c0_1] 29 (0, 0))) := ⟨zp BK194⟩
             have n1_ : Aside0 (((((w43.setCell ⟨gb198, 0, none⟩ (.int .i64 ((rd_T41 l0_1 x41_3).f0))).setCell ⟨gb198, 1, none⟩ (.int .i64 ((rd_T41 l0_1 x41_3).f1))).setCell ⟨gb198, 2, none⟩ (.int .i64 ((rd_T41 l0_1 x41_3).f2))).setCell ⟨gb198, 3, none⟩ (.int .i64 ((rd_T41 l0_1 x41_3).f3))).heap[gb198]? = some (.cells #[.int .i64 ((rd_T41 l0_1 x41_3).f0), .int .i64 ((rd_T41 l0_1 x41_3).f1), .int .i64 ((rd_T41 l0_1 x41_3).f2), .int .i64 ((rd_T41 l0_1 x41_3).f3)] 41 (0, 0))) := ⟨zp BK198⟩
             have n2_ : Aside0 (Below w.heap.size w ((((w43.setCell ⟨gb198, 0, none⟩ (.int .i64 ((rd_T41 l0_1 x41_3).f0))).setCell ⟨gb198, 1, none⟩ (.int .i64 ((rd_T41 l0_1 x41_3).f1))).setCell ⟨gb198, 2, none⟩ (.int .i64 ((rd_T41 l0_1 x41_3).f2))).setCell ⟨gb198, 3, none⟩ (.int .i64 ((rd_T41 l0_1 x41_3).f3)))) := ⟨bq⟩
             (try clear BK194)
             (try clear BK198)
             (try clear HB)
             generalize ((((w43.setCell ⟨gb198, 0, none⟩ (.int .i64 ((rd_T41 l0_1 x41_3).f0))).setCell ⟨gb198, 1, none⟩ (.int .i64 ((rd_T41 l0_1 x41_3).f1))).setCell ⟨gb198, 2, none⟩ (.int .i64 ((rd_T41 l0_1 x41_3).f2))).setCell ⟨gb198, 3, none⟩ (.int .i64 ((rd_T41 l0_1 x41_3).f3))) = w46 at n0_ n1_ n2_ ⊢
             have BK194 := n0_
             have BK198 := n1_
             have HB := n2_
             clear n0_ n1_ n2_
             replace BK194 := am (blk_drew BK194.out)
             replace BK198 := am (blk_drew BK198.out)
             replace HB := am (below_drew1 HB.out)
             refine start_ (n := 12) (S := fun w' => w'.cell? ⟨gb198, 0, none⟩ = some (.int .i64 ((rd_T41 l0_1 x41_3).f0)) ∧ w'.cell? ⟨gb198, 1, none⟩ = some (.int .i64 ((rd_T41 l0_1 x41_3).f1)) ∧ w'.cell? ⟨gb198, 2, none⟩ = some (.int .i64 ((rd_T41 l0_1 x41_3).f2)) ∧ w'.cell? ⟨gb198, 3, none⟩ = some (.int .i64 ((rd_T41 l0_1 x41_3).f3))) (ds := []) #[false, false, false, false, false, false, false, false, false, false, false, false] (by kernel_rfl) rfl rfl cl (fun hHeld => ?_); refine with_tabW impl_IsShop.tab12 impl_IsShop.bits12 (fun HT_ HW_ => ?_)
             generalize w46.drew = w47 at BK194 BK198 HB hHeld ⊢
             refine take_ (i := 0) (N := some 46) (v := ?_) (a' := ?_) #[true, false, false, false, false, false, false, false, false, false, false, false] rfl rfl (take_ofW HT_.out HW_.out (by kernel_rfl)) (fun _ _ _ h => h) (Or.inl ⟨by rfl, ?_⟩) hHeld ?_ ?_
             rotate_left
             ·rintro w' ⟨s0, s1, s2, s3⟩
              go_simp
              with_reducible rfl
             rotate_left
             ·simp only [Act.put, List.setIfInBounds_toArray, List.set_cons_zero, List.set_cons_succ, i64_w, i32_w]
              rfl
             refine one_ (i := 1) (N := some 47) #[true, true, false, false, false, false, false, false, false, false, false, false] rfl rfl (one_of HT_.out (by kernel_rfl)) (by decide) (fun K hK => ?_)
             refine goes_ Try.func42 (by kernel_rfl) rfl #[.agg #[.int .i64 ((rd_T41 l0_1 x41_3).f0), .int .i64 ((rd_T41 l0_1 x41_3).f1), .int .i64 ((rd_T41 l0_1 x41_3).f2), .int .i64 ((rd_T41 l0_1 x41_3).f3)]] (by rfl) rfl rfl mq ?_
             with_reducible refine (impl_isLoan.calls ((rd_T41 l0_1 x41_3).f0) ((rd_T41 l0_1 x41_3).f1) ((rd_T41 l0_1 x41_3).f2) ((rd_T41 l0_1 x41_3).f3) false _ A21.out).mono ?_
             rintro e w48 ⟨rfl, hb⟩
             refine ⟨_, rfl, ?_⟩
             replace BK194 := zb BK194 hb
             replace BK198 := zb BK198 hb
             replace HB := sb hb
             (try clear hb)
             refine hK.out _ _ cl (fun hHeld => ?_)
             clear hK K
             refine norm_ (a' := ?_) ?_ ?_
             rotate_left
             ·show Act.put _ (some 47) _ = _
              simp only [Act.put, List.setIfInBounds_toArray, List.set_cons_zero, List.set_cons_succ, i64_w, i32_w]
              rfl
             refine pure_ (i := 2) (N := some 48) (v := ?_) (a' := ?_) #[true, true, true, false, false, false, false, false, false, false, false, false] rfl rfl (any_of HT_.out (by kernel_rfl)) (fun _ _ _ h => h) (Or.inl ⟨by rfl, ?_⟩) ?_ ?_
             rotate_left
             ·intro w'
              go_simp
              with_reducible rfl
             rotate_left
             ·simp only [Act.put, List.setIfInBounds_toArray, List.set_cons_zero, List.set_cons_succ, i64_w, i32_w]
              rfl
             refine pure_ (i := 3) (N := some 49) (v := ?_) (a' := ?_) #[true, true, true, true, false, false, false, false, false, false, false, false] rfl rfl (any_of HT_.out (by kernel_rfl)) (fun _ _ _ h => h) (Or.inl ⟨by rfl, ?_⟩) ?_ ?_
             rotate_left
             ·intro w'
              go_simp
              with_reducible rfl
             rotate_left
             ·simp only [Act.put, List.setIfInBounds_toArray, List.set_cons_zero, List.set_cons_succ, i64_w, i32_w]
              rfl
             refine pure_ (i := 4) (N := some 50) (v := undef) (a' := ?_) #[true, true, true, true, true, false, false, false, false, false, false, false] rfl rfl (any_of HT_.out (by kernel_rfl)) (fun _ _ _ h => h) (Or.inr ⟨by rfl, rfl⟩) ?_ ?_
             rotate_left
             ·simp only [Act.put, List.setIfInBounds_toArray, List.set_cons_zero, List.set_cons_succ, i64_w, i32_w]
              rfl
             refine pure_ (i := 5) (N := some 51) (v := undef) (a' := ?_) #[true, true, true, true, true, true, false, false, false, false, false, false] rfl rfl (any_of HT_.out (by kernel_rfl)) (fun _ _ _ h => h) (Or.inr ⟨by rfl, rfl⟩) ?_ ?_
             rotate_left
             ·simp only [Act.put, List.setIfInBounds_toArray, List.set_cons_zero, List.set_cons_succ, i64_w, i32_w]
              rfl
             refine pure_ (i := 6) (N := some 52) (v := undef) (a' := ?_) #[true, true, true, true, true, true, true, false, false, false, false, false] rfl rfl (any_of HT_.out (by kernel_rfl)) (fun _ _ _ h => h) (Or.inr ⟨by rfl, rfl⟩) ?_ ?_
             rotate_left
             ·simp only [Act.put, List.setIfInBounds_toArray, List.set_cons_zero, List.set_cons_succ, i64_w, i32_w]
              rfl
             refine pure_ (i := 7) (N := some 53) (v := undef) (a' := ?_) #[true, true, true, true, true, true, true, true, false, false, false, false] rfl rfl (any_of HT_.out (by kernel_rfl)) (fun _ _ _ h => h) (Or.inr ⟨by rfl, rfl⟩) ?_ ?_
             rotate_left
             ·simp only [Act.put, List.setIfInBounds_toArray, List.set_cons_zero, List.set_cons_succ, i64_w, i32_w]
              rfl
             refine pure_ (i := 8) (N := some 54) (v := undef) (a' := ?_) #[true, true, true, true, true, true, true, true, true, false, false, false] rfl rfl (any_of HT_.out (by kernel_rfl)) (fun _ _ _ h => h) (Or.inr ⟨by rfl, rfl⟩) ?_ ?_
             rotate_left
             ·simp only [Act.put, List.setIfInBounds_toArray, List.set_cons_zero, List.set_cons_succ, i64_w, i32_w]
              rfl
             refine pure_ (i := 9) (N := some 55) (v := undef) (a' := ?_) #[true, true, true, true, true, true, true, true, true, true, false, false] rfl rfl (any_of HT_.out (by kernel_rfl)) (fun _ _ _ h => h) (Or.inr ⟨by rfl, rfl⟩) ?_ ?_
             rotate_left
             ·simp only [Act.put, List.setIfInBounds_toArray, List.set_cons_zero, List.set_cons_succ, i64_w, i32_w]
              rfl
             refine pure_ (i := 10) (N := some 56) (v := undef) (a' := ?_) #[true, true, true, true, true, true, true, true, true, true, true, false] rfl rfl (any_of HT_.out (by kernel_rfl)) (fun _ _ _ h => h) (Or.inr ⟨by rfl, rfl⟩) ?_ ?_
             rotate_left
             ·simp only [Act.put, List.setIfInBounds_toArray, List.set_cons_zero, List.set_cons_succ, i64_w, i32_w]
              rfl
             refine pure_ (i := 11) (N := some 57) (v := ?_) (a' := ?_) #[true, true, true, true, true, true, true, true, true, true, true, true] rfl rfl (any_of HT_.out (by kernel_rfl)) (fun _ _ _ h => h) (Or.inl ⟨by rfl, ?_⟩) ?_ ?_
             rotate_left
             ·intro w'
              go_simp
              with_reducible rfl
             rotate_left
             ·simp only [Act.put, List.setIfInBounds_toArray, List.set_cons_zero, List.set_cons_succ, i64_w, i32_w]
              rfl
             refine done_ (done_of HT_.out (by kernel_rfl)) ?_
             try go_wp2
             go_ret
             exact ⟨eq_, bq⟩
           ·rw [if_neg c20] at H
            exact absurd H (by simp)
          ·rw [if_neg c19] at H
           exact absurd H (by simp)
         ·rw [if_neg c18] at H
          have c18b0 : decide (x41_3 < (l0_1.length : Int)) = false := decide_eq_false c18
          clear c18
          obtain rfl := Option.some.inj H
          go_wp2
          go_ret
          exact ⟨eq_, bq⟩



/-! ### impl_copyShop: function 28 -/
def impl_copyShop.f (l0_0 : List Int) (l0_1 : List (S41)) : Option (List Int × (List (S41))) := (some (([] : List Int) : List Int)).bind fun y207 => (if y207.length + l0_0.length < 17592186044416 then ((some (([] : List (S41)) : List (S41))).bind fun y213 => (if y213.length + l0_1.length < 4398046511104 then (some ((y207 ++ l0_0), (y213 ++ l0_1))) else (none))) else (none))
def impl_copyShop.T1 : Bool × List (List Nat × List Nat) := (true, [([], []), ([], []), ([1], [1]), ([0, 2], [0, 2]), ([], []), ([], []), ([5], [5]), ([4, 6, 3], [4, 6]), ([3, 7], [3, 7]), ([8, 7, 0, 1, 2, 3, 4, 5, 6, 7, 8], [8])])
def impl_copyShop.B1 : List Nat := [0, 0, 2, 7, 0, 0, 32, 127, 255, 511]
theorem impl_copyShop.tab1 : rtab .any (opsOf Try.f28 1) = impl_copyShop.T1 := by kernel_rfl
theorem impl_copyShop.bits1 : waitsOk impl_copyShop.T1.2 impl_copyShop.B1 = true := by kernel_rfl
set_option maxHeartbeats 8000000 in
set_option maxRecDepth 100000 in
theorem impl_copyShop.calls (A0_0 : Option Addr) (c0_0 : Nat) (l0_0 : List Int) (A0_1 : Option Addr) (c0_1 : Nat) (l0_1 : List (S41)) (r1 : List Int) (r2 : List (S41)) (w : World) (hr0_0 : Kd.C (Kd.int .i64) w A0_0 l0_0.length l0_0) (hc0_0 : l0_0.length ≤ c0_0) (hr0_1 : Kd.C k41 w A0_1 l0_1.length l0_1) (hc0_1 : l0_1.length ≤ c0_1) (h : impl_copyShop.f l0_0 l0_1 = some (r1, r2)) :
  Calls Try.prog 28 #[.agg #[.slice A0_0 l0_0.length c0_0, .slice A0_1 l0_1.length c0_1]] w fun e w' => ∃ v0_ v1_ : Value, e = .returned (.agg #[v0_, v1_]) ∧ Kd.R (Kd.int .i64) 3 w' w.heap.size (fun _ => True) v0_ r1 ∧ Kd.R k41 41 w' w.heap.size (fun _ => True) v1_ r2 ∧ Below w.heap.size w w' := by
 have hu29 := Try.underlying29
 have HR0_0 := am hr0_0
 have HC0_0 := am hc0_0
 clear hr0_0 hc0_0
 have HR0_1 := am hr0_1
 have HC0_1 := am hc0_1
 clear hr0_1 hc0_1
 have HB := am (Below.refl w.heap.size w)
 have H : ((some (([] : List Int) : List Int)).bind fun y207 => (if y207.length + l0_0.length < 17592186044416 then ((some (([] : List (S41)) : List (S41))).bind fun y213 => (if y213.length + l0_1.length < 4398046511104 then (some ((y207 ++ l0_0), (y213 ++ l0_1))) else (none))) else (none))) = some (r1, r2) := h
 clear h
 obtain ⟨y207, hy207⟩ : ∃ y_ : List Int, y_ = (([] : List Int)) := ⟨_, rfl⟩
 replace H : (if y207.length + l0_0.length < 17592186044416 then ((some (([] : List (S41)) : List (S41))).bind fun y213 => (if y213.length + l0_1.length < 4398046511104 then (some ((y207 ++ l0_0), (y213 ++ l0_1))) else (none))) else (none)) = some (r1, r2) := by first | (rw [hy207]; with_reducible exact H) | (have H2_ := (Option.bind_some _ _).symm.trans H; rw [hy207]; with_reducible exact H2_) | (have H2_ := (Option.bind_some _ _).symm.trans H; with_reducible exact H2_) | with_reducible exact H | (rw [hy207]; exact H) | exact H
 have Ny207 := am hy207
 clear hy207
 by_cases c2 : y207.length + l0_0.length < 17592186044416
 ·rw [if_pos c2] at H
  have LMc2 := am c2
  clear c2
  obtain ⟨y210, hy210⟩ : ∃ y_ : List Int, y_ = (y207 ++ l0_0) := ⟨_, rfl⟩
  replace H : ((some (([] : List (S41)) : List (S41))).bind fun y213 => (if y213.length + l0_1.length < 4398046511104 then (some (y210, (y213 ++ l0_1))) else (none))) = some (r1, r2) := by first | (rw [hy210]; with_reducible exact H) | (have H2_ := (Option.bind_some _ _).symm.trans H; rw [hy210]; with_reducible exact H2_) | (have H2_ := (Option.bind_some _ _).symm.trans H; with_reducible exact H2_) | with_reducible exact H | (rw [hy210]; exact H) | exact H
  have Ny210 := am hy210
  clear hy210
  obtain ⟨y213, hy213⟩ : ∃ y_ : List (S41), y_ = (([] : List (S41))) := ⟨_, rfl⟩
  replace H : (if y213.length + l0_1.length < 4398046511104 then (some (y210, (y213 ++ l0_1))) else (none)) = some (r1, r2) := by first | (rw [hy213]; with_reducible exact H) | (have H2_ := (Option.bind_some _ _).symm.trans H; rw [hy213]; with_reducible exact H2_) | (have H2_ := (Option.bind_some _ _).symm.trans H; with_reducible exact H2_) | with_reducible exact H | (rw [hy213]; exact H) | exact H
  have Ny213 := am hy213
  clear hy213
  by_cases c3 : y213.length + l0_1.length < 4398046511104
  ·rw [if_pos c3] at H
   have LMc3 := am c3
   clear c3
   obtain ⟨y216, hy216⟩ : ∃ y_ : List (S41), y_ = (y213 ++ l0_1) := ⟨_, rfl⟩
   replace H : (some (y210, y216)) = some (r1, r2) := by first | (rw [hy216]; with_reducible exact H) | (have H2_ := (Option.bind_some _ _).symm.trans H; rw [hy216]; with_reducible exact H2_) | (have H2_ := (Option.bind_some _ _).symm.trans H; with_reducible exact H2_) | with_reducible exact H | (rw [hy216]; exact H) | exact H
   have Ny216 := am hy216
   clear hy216
   simp only [Option.some.injEq, Prod.mk.injEq] at H
   obtain ⟨rfl, rfl⟩ := H
   go_enter Try.func28, Try.ntmps28
   try go_wp2_with (first | ((with_reducible refine gate_dst (N := 1) rfl ?_); refine box_event ?hg (N := 1) ?hd (cs := #[.slice A0_0 l0_0.length c0_0, .slice A0_1 l0_1.length c0_1]) (t := 29) ?hr ?_; (case hd => rfl); (case hg => rfl); (case hr => first | (go_simp; done) | (go_simp; rfl)); intro gb205 hg w4 hbox hb; have BK205 := am (hbox); have GW205 := am (gq hg); have GE205 := am (gq hg); replace HB := sb hb; clear hb hbox hg) | ((with_reducible refine gate_dst (N := 2) rfl ?_); refine box_event ?hg (N := 2) ?hd (cs := #[.slice none 0 0, .slice none 0 0]) (t := 29) ?hr ?_; (case hd => rfl); (case hg => rfl); (case hr => first | (go_simp; done) | (go_simp; rfl)); intro gb206 hg w5 hbox hb; have BK206 := am (hbox); have GW206 := am (gq hg); have GE206 := am (gq hg); replace HB := sb hb; have NB205_206 := nl hg BK205; have NB206_205 := ng hg BK205; replace BK205 := zb BK205 hb; clear hb hbox hg))
   replace BK205 := am (blk_drew BK205.out)
   replace BK206 := am (blk_drew BK206.out)
   replace HB := am (below_drew1 HB.out)
   refine start_ (n := 10) (S := fun w' => w'.cell? ⟨gb205, 0, none⟩ = some (.slice A0_0 l0_0.length c0_0) ∧ w'.cell? ⟨gb205, 1, none⟩ = some (.slice A0_1 l0_1.length c0_1)) (ds := []) #[false, false, false, false, false, false, false, false, false, false] (by kernel_rfl) rfl rfl cl (fun hHeld => ?_); refine with_tabW impl_copyShop.tab1 impl_copyShop.bits1 (fun HT_ HW_ => ?_)
   generalize w5.drew = w6 at BK205 BK206 HB hHeld ⊢
   refine pure_ (i := 1) (N := some 4) (v := ?_) (a' := ?_) #[false, true, false, false, false, false, false, false, false, false] rfl rfl (any_of HT_.out (by kernel_rfl)) (fun _ _ _ h => h) (Or.inl ⟨by rfl, ?_⟩) ?_ ?_
   rotate_left
   ·intro w'
    go_simp
    with_reducible rfl
   rotate_left
   ·simp only [Act.put, List.setIfInBounds_toArray, List.set_cons_zero, List.set_cons_succ, i64_w, i32_w]
    rfl
   refine pure_ (i := 5) (N := some 8) (v := ?_) (a' := ?_) #[false, true, false, false, false, true, false, false, false, false] rfl rfl (any_of HT_.out (by kernel_rfl)) (fun _ _ _ h => h) (Or.inl ⟨by rfl, ?_⟩) ?_ ?_
   rotate_left
   ·intro w'
    go_simp
    with_reducible rfl
   rotate_left
   ·simp only [Act.put, List.setIfInBounds_toArray, List.set_cons_zero, List.set_cons_succ, i64_w, i32_w]
    rfl
   refine take_ (i := 2) (N := some 5) (v := ?_) (a' := ?_) #[false, true, true, false, false, true, false, false, false, false] rfl rfl (take_ofW HT_.out HW_.out (by kernel_rfl)) (fun _ _ _ h => h) (Or.inl ⟨by rfl, ?_⟩) hHeld ?_ ?_
   rotate_left
   ·rintro w' ⟨s0, s1⟩
    go_simp
    with_reducible rfl
   rotate_left
   ·simp only [Act.put, List.setIfInBounds_toArray, List.set_cons_zero, List.set_cons_succ, i64_w, i32_w]
    rfl
   refine take_ (i := 6) (N := some 9) (v := ?_) (a' := ?_) #[false, true, true, false, false, true, true, false, false, false] rfl rfl (take_ofW HT_.out HW_.out (by kernel_rfl)) (fun _ _ _ h => h) (Or.inl ⟨by rfl, ?_⟩) hHeld ?_ ?_
   rotate_left
   ·rintro w' ⟨s0, s1⟩
    go_simp
    with_reducible rfl
   rotate_left
   ·simp only [Act.put, List.setIfInBounds_toArray, List.set_cons_zero, List.set_cons_succ, i64_w, i32_w]
    rfl
   refine join_ (σ := Value × Value × Value) 3 #[true, true, true, true, true, true, true, false, false, false] (fun s_ => [(3, s_.1), (6, s_.2.1), (7, s_.2.2)]) (fun s_ w' => (w'.cell? ⟨gb205, 0, none⟩ = some (.slice A0_0 l0_0.length c0_0) ∧ w'.cell? ⟨gb205, 1, none⟩ = some (.slice A0_1 l0_1.length c0_1)) ∧ (Kd.R (Kd.int .i64) 3 w' w.heap.size (fun _ => True) s_.2.1 y210) ∧ (Kd.R k41 41 w' w.heap.size (fun _ => True) s_.2.2 y213) ∧ (w'.heap[gb205]? = some (.cells #[.slice A0_0 l0_0.length c0_0, .slice A0_1 l0_1.length c0_1] 29 (0, 0))) ∧ (w'.heap[gb206]? = some (.cells #[.slice none 0 0, .slice none 0 0] 29 (0, 0))) ∧ (Below w.heap.size w w')) ?_ ?_
   rotate_left
   ·intro hCont
    refine two_ (i := 0) (j := 4) (Ni := some 3) (Nj := some 7) #[true, true, true, false, false, true, true, false, false, false] #[false, true, true, false, true, true, true, false, false, false] rfl rfl rfl rfl (two_of HT_.out (by kernel_rfl)) (by decide) (by decide) (fun K hK => ?_) (fun K hK => ?_)
    ·skip
     refine Kd.R_lit_step (Kd.int .i64) _ 3 ?hg (N := 3) ?hd (xs := ([] : List Int)) (inner := []) (ok := fun _ => True) (okp := fun _ => True) ?hr ?hp (fun _ hk => hk) trivial (Below.refl _ _) (Nat.le_refl _) (by simp) ?_; (case hd => rfl); (case hg => rfl); (case hr => first | (go_simp; done) | (go_simp; rfl)); (case hp => exact (Reps.none _ _))
     intro v208 w7 ho8 hb hg_ hnew_
     clear hg_ hnew_
     (first | rw [← Ny207.out] at ho8 | (simp only [Int.reduceToNat] at ho8; rw [← Ny207.out] at ho8))
     have HO209 := rl ho8
     replace BK205 := zb BK205 hb
     replace BK206 := zb BK206 hb
     replace HB := sb hb
     clear hb ho8
     refine hK.out _ _ cl (fun hHeld => ?_)
     clear hK K
     refine norm_ (a' := ?_) ?_ ?_
     rotate_left
     ·show Act.put _ (some 3) _ = _
      simp only [Act.put, List.setIfInBounds_toArray, List.set_cons_zero, List.set_cons_succ, i64_w, i32_w]
      rfl
     refine two_ (i := 3) (j := 4) (Ni := some 6) (Nj := some 7) #[true, true, true, true, false, true, true, false, false, false] #[true, true, true, false, true, true, true, false, false, false] rfl rfl rfl rfl (two_of HT_.out (by kernel_rfl)) (by decide) (by decide) (fun K hK => ?_) (fun K hK => ?_)
     ·skip
      refine Kd.R_append_rows_step (Kd.int .i64) (w0 := w) w.heap.size (by rfl) (.tmp 3) (.tmp 5) 22 3 (.int .i64 0) 8 rfl Try.underlying22 info3 rfl (by decide) (by omega) v208 y207 l0_0 _ _ _ (fun _ => True) (fun _ => False) rfl rfl ?aO ?aR (fun _ _ h => h) (fun _ h => h.elim) ?aF ?aB ?aS ?aL ?_
      (case aR => repeat (first | exact (Kd.C_below HR0_0.out HB.out) | (with_reducible refine Kd.C_alloc ?_ _) | (with_reducible refine Kd.C_drewN ?_ _) | (with_reducible refine Kd.C_drew ?_)))
      (case aB => exact bq)
      (case aF => exact (fun _ _ => trivial))
      (case aO => exact (rq HO209))
      (case aS => exact (below_size bq))
      (case aL => have := LMc2.out; omega)
      intro v211 w9 ho hb hg hat
      rw [← Ny210.out] at ho
      have n0_ := am (blk_grown (g := gb205) (o := .cells #[.slice A0_0 l0_0.length c0_0, .slice A0_1 l0_1.length c0_1] 29 (0, 0)) (zq BK205) hg (Kd.R_ne HO209.out BK205.out (by decide)))
      have n1_ := am (blk_grown (g := gb206) (o := .cells #[.slice none 0 0, .slice none 0 0] 29 (0, 0)) (zq BK206) hg (Kd.R_ne HO209.out BK206.out (by decide)))
      have n2_ := am (hb)
      have n3_ := am (ho)
      clear BK205 BK206 HB HO209
      have BK205 := n0_
      have BK206 := n1_
      have HB := n2_
      have HO212 := n3_
      clear n0_ n1_ n2_ n3_ ho hb hg hat
      refine hK.out _ _ cl (fun hHeld => ?_)
      clear hK K
      refine norm_ (a' := ?_) ?_ ?_
      rotate_left
      ·show Act.put _ (some 6) _ = _
       simp only [Act.put, List.setIfInBounds_toArray, List.set_cons_zero, List.set_cons_succ, i64_w, i32_w]
       rfl
      refine one_ (i := 4) (N := some 7) #[true, true, true, true, true, true, true, false, false, false] rfl rfl (one_of HT_.out (by kernel_rfl)) (by decide) (fun K hK => ?_)
      refine Kd.R_lit_step k41 _ 41 ?hg (N := 7) ?hd (xs := ([] : List (S41))) (inner := []) (ok := fun _ => True) (okp := fun _ => True) ?hr ?hp (fun _ hk => hk) trivial (Below.refl _ _) (Nat.le_refl _) (by simp) ?_; (case hd => rfl); (case hg => rfl); (case hr => first | (go_simp; done) | (go_simp; rfl)); (case hp => exact (Reps.none _ _))
      intro v214 w10 ho11 hb hg_ hnew_
      clear hg_ hnew_
      (first | rw [← Ny213.out] at ho11 | (simp only [Int.reduceToNat] at ho11; rw [← Ny213.out] at ho11))
      replace HO212 := rb HO212 hb
      have HO215 := rl ho11
      replace BK205 := zb BK205 hb
      replace BK206 := zb BK206 hb
      replace HB := sb hb
      clear hb ho11
      refine hK.out _ _ cl (fun hHeld => ?_)
      clear hK K
      refine norm_ (a' := ?_) ?_ ?_
      rotate_left
      ·show Act.put _ (some 7) _ = _
       simp only [Act.put, List.setIfInBounds_toArray, List.set_cons_zero, List.set_cons_succ, i64_w, i32_w]
       rfl
      exact norm_ (by simp only [putAll, Act.put, List.setIfInBounds_toArray, List.set_cons_zero, List.set_cons_succ]) (hCont (v208, v211, v214) _ ⟨hHeld, (rq HO212), (rq HO215), (zq BK205), (zq BK206), bq⟩)
     ·skip
      refine Kd.R_lit_step k41 _ 41 ?hg (N := 7) ?hd (xs := ([] : List (S41))) (inner := []) (ok := fun _ => True) (okp := fun _ => True) ?hr ?hp (fun _ hk => hk) trivial (Below.refl _ _) (Nat.le_refl _) (by simp) ?_; (case hd => rfl); (case hg => rfl); (case hr => first | (go_simp; done) | (go_simp; rfl)); (case hp => exact (Reps.none _ _))
      intro v214 w9 ho10 hb hg_ hnew_
      clear hg_ hnew_
      (first | rw [← Ny213.out] at ho10 | (simp only [Int.reduceToNat] at ho10; rw [← Ny213.out] at ho10))
      replace HO209 := rb HO209 hb
      have HO215 := rl ho10
      replace BK205 := zb BK205 hb
      replace BK206 := zb BK206 hb
      replace HB := sb hb
      clear hb ho10
      refine hK.out _ _ cl (fun hHeld => ?_)
      clear hK K
      refine norm_ (a' := ?_) ?_ ?_
      rotate_left
      ·show Act.put _ (some 7) _ = _
       simp only [Act.put, List.setIfInBounds_toArray, List.set_cons_zero, List.set_cons_succ, i64_w, i32_w]
       rfl
      refine one_ (i := 3) (N := some 6) #[true, true, true, true, true, true, true, false, false, false] rfl rfl (one_of HT_.out (by kernel_rfl)) (by decide) (fun K hK => ?_)
      refine Kd.R_append_rows_step (Kd.int .i64) (w0 := w) w.heap.size (by rfl) (.tmp 3) (.tmp 5) 22 3 (.int .i64 0) 8 rfl Try.underlying22 info3 rfl (by decide) (by omega) v208 y207 l0_0 _ _ _ (fun _ => True) (fun _ => False) rfl rfl ?aO ?aR (fun _ _ h => h) (fun _ h => h.elim) ?aF ?aB ?aS ?aL ?_
      (case aR => repeat (first | exact (Kd.C_below HR0_0.out HB.out) | (with_reducible refine Kd.C_alloc ?_ _) | (with_reducible refine Kd.C_drewN ?_ _) | (with_reducible refine Kd.C_drew ?_)))
      (case aB => exact bq)
      (case aF => exact (fun _ _ => trivial))
      (case aO => exact (rq HO209))
      (case aS => exact (below_size bq))
      (case aL => have := LMc2.out; omega)
      intro v211 w11 ho hb hg hat
      rw [← Ny210.out] at ho
      have n0_ := am (blk_grown (g := gb205) (o := .cells #[.slice A0_0 l0_0.length c0_0, .slice A0_1 l0_1.length c0_1] 29 (0, 0)) (zq BK205) hg (Kd.R_ne HO209.out BK205.out (by decide)))
      have n1_ := am (blk_grown (g := gb206) (o := .cells #[.slice none 0 0, .slice none 0 0] 29 (0, 0)) (zq BK206) hg (Kd.R_ne HO209.out BK206.out (by decide)))
      have n2_ := am (Kd.R_over' (rq HO215) (Kd.R_typed (rq HO209)) (by decide) hg)
      have n3_ := am (hb)
      have n4_ := am (ho)
      clear BK205 BK206 HO215 HB HO209
      have BK205 := n0_
      have BK206 := n1_
      have HO215 := n2_
      have HB := n3_
      have HO212 := n4_
      clear n0_ n1_ n2_ n3_ n4_ ho hb hg hat
      refine hK.out _ _ cl (fun hHeld => ?_)
      clear hK K
      refine norm_ (a' := ?_) ?_ ?_
      rotate_left
      ·show Act.put _ (some 6) _ = _
       simp only [Act.put, List.setIfInBounds_toArray, List.set_cons_zero, List.set_cons_succ, i64_w, i32_w]
       rfl
      exact norm_ (by simp only [putAll, Act.put, List.setIfInBounds_toArray, List.set_cons_zero, List.set_cons_succ]) (hCont (v208, v211, v214) _ ⟨hHeld, (rq HO212), (rq HO215), (zq BK205), (zq BK206), bq⟩)
    ·skip
     refine Kd.R_lit_step k41 _ 41 ?hg (N := 7) ?hd (xs := ([] : List (S41))) (inner := []) (ok := fun _ => True) (okp := fun _ => True) ?hr ?hp (fun _ hk => hk) trivial (Below.refl _ _) (Nat.le_refl _) (by simp) ?_; (case hd => rfl); (case hg => rfl); (case hr => first | (go_simp; done) | (go_simp; rfl)); (case hp => exact (Reps.none _ _))
     intro v214 w7 ho8 hb hg_ hnew_
     clear hg_ hnew_
     (first | rw [← Ny213.out] at ho8 | (simp only [Int.reduceToNat] at ho8; rw [← Ny213.out] at ho8))
     have HO215 := rl ho8
     replace BK205 := zb BK205 hb
     replace BK206 := zb BK206 hb
     replace HB := sb hb
     clear hb ho8
     refine hK.out _ _ cl (fun hHeld => ?_)
     clear hK K
     refine norm_ (a' := ?_) ?_ ?_
     rotate_left
     ·show Act.put _ (some 7) _ = _
      simp only [Act.put, List.setIfInBounds_toArray, List.set_cons_zero, List.set_cons_succ, i64_w, i32_w]
      rfl
     refine one_ (i := 0) (N := some 3) #[true, true, true, false, true, true, true, false, false, false] rfl rfl (one_of HT_.out (by kernel_rfl)) (by decide) (fun K hK => ?_)
     refine Kd.R_lit_step (Kd.int .i64) _ 3 ?hg (N := 3) ?hd (xs := ([] : List Int)) (inner := []) (ok := fun _ => True) (okp := fun _ => True) ?hr ?hp (fun _ hk => hk) trivial (Below.refl _ _) (Nat.le_refl _) (by simp) ?_; (case hd => rfl); (case hg => rfl); (case hr => first | (go_simp; done) | (go_simp; rfl)); (case hp => exact (Reps.none _ _))
     intro v208 w9 ho10 hb hg_ hnew_
     clear hg_ hnew_
     (first | rw [← Ny207.out] at ho10 | (simp only [Int.reduceToNat] at ho10; rw [← Ny207.out] at ho10))
     replace HO215 := rb HO215 hb
     have HO209 := rl ho10
     replace BK205 := zb BK205 hb
     replace BK206 := zb BK206 hb
     replace HB := sb hb
     clear hb ho10
     refine hK.out _ _ cl (fun hHeld => ?_)
     clear hK K
     refine norm_ (a' := ?_) ?_ ?_
     rotate_left
     ·show Act.put _ (some 3) _ = _
      simp only [Act.put, List.setIfInBounds_toArray, List.set_cons_zero, List.set_cons_succ, i64_w, i32_w]
      rfl
     refine one_ (i := 3) (N := some 6) #[true, true, true, true, true, true, true, false, false, false] rfl rfl (one_of HT_.out (by kernel_rfl)) (by decide) (fun K hK => ?_)
     refine Kd.R_append_rows_step (Kd.int .i64) (w0 := w) w.heap.size (by rfl) (.tmp 3) (.tmp 5) 22 3 (.int .i64 0) 8 rfl Try.underlying22 info3 rfl (by decide) (by omega) v208 y207 l0_0 _ _ _ (fun _ => True) (fun _ => False) rfl rfl ?aO ?aR (fun _ _ h => h) (fun _ h => h.elim) ?aF ?aB ?aS ?aL ?_
     (case aR => repeat (first | exact (Kd.C_below HR0_0.out HB.out) | (with_reducible refine Kd.C_alloc ?_ _) | (with_reducible refine Kd.C_drewN ?_ _) | (with_reducible refine Kd.C_drew ?_)))
     (case aB => exact bq)
     (case aF => exact (fun _ _ => trivial))
     (case aO => exact (rq HO209))
     (case aS => exact (below_size bq))
     (case aL => have := LMc2.out; omega)
     intro v211 w11 ho hb hg hat
     rw [← Ny210.out] at ho
     have n0_ := am (blk_grown (g := gb205) (o := .cells #[.slice A0_0 l0_0.length c0_0, .slice A0_1 l0_1.length c0_1] 29 (0, 0)) (zq BK205) hg (Kd.R_ne HO209.out BK205.out (by decide)))
     have n1_ := am (blk_grown (g := gb206) (o := .cells #[.slice none 0 0, .slice none 0 0] 29 (0, 0)) (zq BK206) hg (Kd.R_ne HO209.out BK206.out (by decide)))
     have n2_ := am (Kd.R_over' (rq HO215) (Kd.R_typed (rq HO209)) (by decide) hg)
     have n3_ := am (hb)
     have n4_ := am (ho)
     clear BK205 BK206 HO215 HB HO209
     have BK205 := n0_
     have BK206 := n1_
     have HO215 := n2_
     have HB := n3_
     have HO212 := n4_
     clear n0_ n1_ n2_ n3_ n4_ ho hb hg hat
     refine hK.out _ _ cl (fun hHeld => ?_)
     clear hK K
     refine norm_ (a' := ?_) ?_ ?_
     rotate_left
     ·show Act.put _ (some 6) _ = _
      simp only [Act.put, List.setIfInBounds_toArray, List.set_cons_zero, List.set_cons_succ, i64_w, i32_w]
      rfl
     exact norm_ (by simp only [putAll, Act.put, List.setIfInBounds_toArray, List.set_cons_zero, List.set_cons_succ]) (hCont (v208, v211, v214) _ ⟨hHeld, (rq HO212), (rq HO215), (zq BK205), (zq BK206), bq⟩)
   rintro ⟨v208, v211, v214⟩ w12 ⟨hS_, h0_, h1_, h2_, h3_, h4_⟩
   have n0_ : Aside0 (Kd.R (Kd.int .i64) 3 w12 w.heap.size (fun _ => True) v211 y210) := ⟨h0_⟩
   have n1_ : Aside0 (Kd.R k41 41 w12 w.heap.size (fun _ => True) v214 y213) := ⟨h1_⟩
   have n2_ : Aside0 (w12.heap[gb205]? = some (.cells #[.slice A0_0 l0_0.length c0_0, .slice A0_1 l0_1.length c0_1] 29 (0, 0))) := ⟨h2_⟩
   have n3_ : Aside0 (w12.heap[gb206]? = some (.cells #[.slice none 0 0, .slice none 0 0] 29 (0, 0))) := ⟨h3_⟩
   have n4_ : Aside0 (Below w.heap.size w w12) := ⟨h4_⟩
   clear BK205 BK206 HB h0_ h1_ h2_ h3_ h4_
   have HO212 := n0_
   have HO215 := n1_
   have BK205 := n2_
   have BK206 := n3_
   have HB := n4_
   clear n0_ n1_ n2_ n3_ n4_
   have hHeld : w12.cell? ⟨gb205, 0, none⟩ = some (.slice A0_0 l0_0.length c0_0) ∧ w12.cell? ⟨gb205, 1, none⟩ = some (.slice A0_1 l0_1.length c0_1) := hS_
   refine norm_ (a' := ?_) ?_ ?_
   rotate_left
   ·simp only [putAll, Act.put, List.setIfInBounds_toArray, List.set_cons_zero, List.set_cons_succ]
    rfl
   refine one_ (i := 7) (N := some 10) #[true, true, true, true, true, true, true, true, false, false] rfl rfl (one_of HT_.out (by kernel_rfl)) (by decide) (fun K hK => ?_)
   refine Kd.R_append_rows_step k41 (w0 := w) w.heap.size (by rfl) (.tmp 7) (.tmp 9) 27 41 (.agg #[(.int .i64 0), (.int .i64 0), (.int .i64 0), (.int .i64 0)]) 32 rfl Try.underlying27 info41 rfl (by decide) (by omega) v214 y213 l0_1 _ _ _ (fun _ => True) (fun _ => False) rfl rfl ?aO ?aR (fun _ _ h => h) (fun _ h => h.elim) ?aF ?aB ?aS ?aL ?_
   (case aR => repeat (first | exact (Kd.C_below HR0_1.out HB.out) | (with_reducible refine Kd.C_alloc ?_ _) | (with_reducible refine Kd.C_drewN ?_ _) | (with_reducible refine Kd.C_drew ?_)))
   (case aB => exact bq)
   (case aF => exact (fun _ _ => trivial))
   (case aO => exact (rq HO215))
   (case aS => exact (below_size bq))
   (case aL => have := LMc3.out; omega)
   intro v217 w13 ho hb hg hat
   rw [← Ny216.out] at ho
   have n0_ := am (blk_grown (g := gb205) (o := .cells #[.slice A0_0 l0_0.length c0_0, .slice A0_1 l0_1.length c0_1] 29 (0, 0)) (zq BK205) hg (Kd.R_ne HO215.out BK205.out (by decide)))
   have n1_ := am (blk_grown (g := gb206) (o := .cells #[.slice none 0 0, .slice none 0 0] 29 (0, 0)) (zq BK206) hg (Kd.R_ne HO215.out BK206.out (by decide)))
   have n2_ := am (Kd.R_over' (rq HO212) (Kd.R_typed (rq HO215)) (by decide) hg)
   have n3_ := am (hb)
   have n4_ := am (ho)
   clear BK205 BK206 HO212 HB HO215
   have BK205 := n0_
   have BK206 := n1_
   have HO212 := n2_
   have HB := n3_
   have HO218 := n4_
   clear n0_ n1_ n2_ n3_ n4_ ho hb hg hat
   obtain ⟨Ao14, co14, eo14⟩ := Kd.R_slice HO218.out
   (first | subst eo14 | (injection eo14 with f1_ f2_ f3_; have f4_ := f1_.symm; have f5_ := f3_.symm; clear f1_ f2_ f3_; subst f4_; subst f5_))
   obtain ⟨Ao15, co15, eo15⟩ := Kd.R_slice HO212.out
   (first | subst eo15 | (injection eo15 with f1_ f2_ f3_; have f4_ := f1_.symm; have f5_ := f3_.symm; clear f1_ f2_ f3_; subst f4_; subst f5_))
   refine hK.out _ _ cl (fun hHeld => ?_)
   clear hK K
   refine norm_ (a' := ?_) ?_ ?_
   rotate_left
   ·show Act.put _ (some 10) _ = _
    simp only [Act.put, List.setIfInBounds_toArray, List.set_cons_zero, List.set_cons_succ, i64_w, i32_w]
    rfl
   refine pure_ (i := 8) (N := some 11) (v := ?_) (a' := ?_) #[true, true, true, true, true, true, true, true, true, false] rfl rfl (any_of HT_.out (by kernel_rfl)) (fun _ _ _ h => h) (Or.inl ⟨by rfl, ?_⟩) ?_ ?_
   rotate_left
   ·intro w'
    go_simp
    with_reducible rfl
   rotate_left
   ·simp only [Act.put, List.setIfInBounds_toArray, List.set_cons_zero, List.set_cons_succ, i64_w, i32_w]
    rfl
   refine one_ (i := 9) (N := none) #[true, true, true, true, true, true, true, true, true, true] rfl rfl (one_of HT_.out (by kernel_rfl)) (by decide) (fun K hK => ?_)
   have hs16 : w13.cell? ⟨gb206, 0, none⟩ = some (.slice none 0 0) := (blk_cell BK206.out 0).trans rfl
   have hfs16 := blk_frozen BK206.out 0
   have hns16_0 := NB205_206.out
   have hms16_0 := NB206_205.out
   have hs17 : w13.cell? ⟨gb206, 1, none⟩ = some (.slice none 0 0) := (blk_cell BK206.out 1).trans rfl
   have hfs17 := blk_frozen BK206.out 1
   have hns17_0 := NB205_206.out
   have hms17_0 := NB206_205.out
   refine skip_ (w1 := ?_) (by rfl) rfl ?_ ?_
   rotate_left
   ·go_simp
    rfl
   refine hK.out _ _ (chf hHeld) (fun hHeld => ?_)
   clear hK K
   refine done_ (done_of HT_.out (by kernel_rfl)) ?_
   try go_wp2
   refine bodyPost_ret (results_cell_row rfl _ _ gb206 29 #[.slice Ao15 y210.length co15, .slice Ao14 y216.length co14] (0, 0) _ rfl (zp BK206) Try.underlying29 rfl (by kernel_rfl)) rfl ?_
   exact ⟨_, _, eq_, Kd.R_mono (ff HO212 BK206) (fun _ hk => trivial), Kd.R_mono (ff HO218 BK206) (fun _ hk => trivial), bq⟩
  ·rw [if_neg c3] at H
   exact absurd H (by simp)
 ·rw [if_neg c2] at H
  exact absurd H (by simp)



end Go.Proofs.Ytokigipkoeeddaa.Pall
