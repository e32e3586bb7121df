import Derived.Lib.AppendIntMem
import Derived.Test.YthpjjfhkebppmaaDoorShelf
import Derived.Test.YthpjjfhkebppmaaDoorProg
import Derived.Below
import Derived.Deep.Draws
import Derived.Deep.AppendLies
import Derived.Maps.AppendAt
import Derived.OwnWalk
import Derived.Laws.BytesArg
import Derived.Laws.MakeOwn
import Derived.Laws.OwnMore
import Derived.Deep.OwnRows
import Derived.Tactics
import Derived.Lib.ConvBytes
import Derived.Laws.Slices
import Derived.WalkKit
import Derived.KernelRfl
import Derived.RowKit3
import Derived.Deep.LoopGhost
import Derived.Deep.QuietTactic
import Derived.BigQuiet
import Derived.WideLaws
import Derived.Deep.DeepCutAuto
import Derived.Deep.CutBlock
import Derived.Deep.RegionHeld3
import Derived.Laws.Rows
import Derived.Lib.AppendStr
import Derived.ArgAppend
import Derived.Laws.IdiomCopy
import Derived.OrdersHeld
import Derived.Laws.BitsLemmas
import Derived.RowKit
import Derived.Test.YthpjjfhkebppmaaDoorMWFnExactShopText
namespace Go.Proofs.YthpjjfhkebppmaaDoor.Pall
open Go.RowKit Go.Proofs.YthpjjfhkebppmaaDoorW.PrintWords Go.Proofs.YthpjjfhkebppmaaDoorW.PrintLast Go.Proofs.YthpjjfhkebppmaaDoorW.PrintMore
attribute [local go_sem] max2_int min2_int max_two min_two max_three min_three max_four min_four   -- for this text's walks alone
set_option linter.unusedVariables false
set_option linter.unusedSimpArgs false
set_option maxHeartbeats 8000000
set_option maxRecDepth 100000



def errW : Option Int → Value
  | none => .nilIface
  | some c => .iface 0 (.int .i64 c)
theorem errW_none : errW none = .nilIface := rfl
theorem errW_some (c : Int) : errW (some c) = .iface 0 (.int .i64 c) := rfl

theorem info3 : (Tryd.prog.info? 3).map (fun i => (i.zero, i.size, i.bytes)) = some (some (.int .i64 0), 1, 8) := by kernel_rfl
theorem info9 : (Tryd.prog.info? 9).map (fun i => (i.zero, i.size, i.bytes)) = some (some (.string ⟨#[]⟩), 1, 16) := by kernel_rfl
theorem info40 : (Tryd.prog.info? 40).map (fun i => (i.zero, i.size, i.bytes)) = some (some (.agg #[(.int .i64 0), (.int .i64 0), (.int .i64 0), (.int .i64 0)]), 4, 32) := by kernel_rfl
structure S51 where
  f0 : Int
  f1 : Int
  f2 : Int
  f3 : Int
def z51 : S51 := ⟨(0 : Int), (0 : Int), (0 : Int), (0 : Int)⟩
def k51 : Kd S51 := Kd.iso (Kd.pair (Kd.int .i64) (Kd.pair (Kd.int .i64) (Kd.pair (Kd.int .i64) (Kd.int .i64)))) (fun x : S51 => (x.f0, x.f1, x.f2, x.f3))
theorem k51_open {w : World} {x : S51} {cs : List Value} (h : k51.K w x cs) : cs = [.int .i64 x.f0, .int .i64 x.f1, .int .i64 x.f2, .int .i64 x.f3] := by
  obtain ⟨_, _, rfl, rfl, ⟨_, _, rfl, rfl, ⟨_, _, rfl, rfl, rfl⟩⟩⟩ := h
  exact rfl
def rd_T51 (xs : List S51) (i : Int) : S51 := xs.getD i.toNat z51
theorem at_T51 {w : World} {A : Option Addr} {n : Nat} {xs : List S51} (h : Kd.C k51 w A n xs) (i : Int) (h0 : 0 ≤ i) (h1 : i < n) : ∃ ad , A = some ad ∧ w.cell? (ad.add (i.toNat * 4)) = some (.int .i64 (rd_T51 xs i).f0) ∧ w.cell? ⟨(ad.add (i.toNat * 4)).block, (ad.add (i.toNat * 4)).off + 1, none⟩ = some (.int .i64 (rd_T51 xs i).f1) ∧ w.cell? ⟨(ad.add (i.toNat * 4)).block, (ad.add (i.toNat * 4)).off + 2, none⟩ = some (.int .i64 (rd_T51 xs i).f2) ∧ w.cell? ⟨(ad.add (i.toNat * 4)).block, (ad.add (i.toNat * 4)).off + 3, none⟩ = some (.int .i64 (rd_T51 xs i).f3) := by
  obtain ⟨ad, c, e, _, hK, hc0⟩ := Kd.C_get h z51 i h0 h1
  have hc : ∀ j u, c[j]? = some u → w.cell? (ad.add (i.toNat * 4 + j)) = some u := hc0
  obtain rfl := k51_open hK
  exact ⟨ad, e, hc 0 _ rfl, by rw [← add_field _ _ 1 (by omega)]; exact hc 1 _ rfl, by rw [← add_field _ _ 2 (by omega)]; exact hc 2 _ rfl, by rw [← add_field _ _ 3 (by omega)]; exact hc 3 _ rfl⟩

structure S40 where
  f0 : Int
  f1 : Int
  f2 : Int
  f3 : Int
def z40 : S40 := ⟨(0 : Int), (0 : Int), (0 : Int), (0 : Int)⟩
def k40 : Kd S40 := Kd.iso (Kd.pair (Kd.int .i64) (Kd.pair (Kd.int .i64) (Kd.pair (Kd.int .i64) (Kd.int .i64)))) (fun x : S40 => (x.f0, x.f1, x.f2, x.f3))
theorem k40_open {w : World} {x : S40} {cs : List Value} (h : k40.K w x cs) : cs = [.int .i64 x.f0, .int .i64 x.f1, .int .i64 x.f2, .int .i64 x.f3] := by
  obtain ⟨_, _, rfl, rfl, ⟨_, _, rfl, rfl, ⟨_, _, rfl, rfl, rfl⟩⟩⟩ := h
  exact rfl
theorem k40_openM {w : World} {base : Nat} {ok : Nat → Prop} {x : S40} {cs : List Value} (h : k40.M w base ok x cs) : cs = [.int .i64 x.f0, .int .i64 x.f1, .int .i64 x.f2, .int .i64 x.f3] := by
  obtain ⟨_, _, rfl, rfl, ⟨_, _, rfl, rfl, ⟨_, _, rfl, rfl, rfl⟩⟩⟩ := h
  exact rfl
theorem k40_mkM (w : World) (base : Nat) (ok : Nat → Prop) (x : S40)  : k40.M w base ok x [.int .i64 x.f0, .int .i64 x.f1, .int .i64 x.f2, .int .i64 x.f3] := ⟨[.int .i64 x.f0], [.int .i64 x.f1, .int .i64 x.f2, .int .i64 x.f3], rfl, rfl, ⟨[.int .i64 x.f1], [.int .i64 x.f2, .int .i64 x.f3], rfl, rfl, ⟨[.int .i64 x.f2], [.int .i64 x.f3], rfl, rfl, rfl⟩⟩⟩
def rd_T40 (xs : List S40) (i : Int) : S40 := xs.getD i.toNat z40
theorem at_T40 {w : World} {A : Option Addr} {n : Nat} {xs : List S40} (h : Kd.C k40 w A n xs) (i : Int) (h0 : 0 ≤ i) (h1 : i < n) : ∃ ad , A = some ad ∧ w.cell? (ad.add (i.toNat * 4)) = some (.int .i64 (rd_T40 xs i).f0) ∧ w.cell? ⟨(ad.add (i.toNat * 4)).block, (ad.add (i.toNat * 4)).off + 1, none⟩ = some (.int .i64 (rd_T40 xs i).f1) ∧ w.cell? ⟨(ad.add (i.toNat * 4)).block, (ad.add (i.toNat * 4)).off + 2, none⟩ = some (.int .i64 (rd_T40 xs i).f2) ∧ w.cell? ⟨(ad.add (i.toNat * 4)).block, (ad.add (i.toNat * 4)).off + 3, none⟩ = some (.int .i64 (rd_T40 xs i).f3) := by
  obtain ⟨ad, c, e, _, hK, hc0⟩ := Kd.C_get h z40 i h0 h1
  have hc : ∀ j u, c[j]? = some u → w.cell? (ad.add (i.toNat * 4 + j)) = some u := hc0
  obtain rfl := k40_open hK
  exact ⟨ad, e, hc 0 _ rfl, by rw [← add_field _ _ 1 (by omega)]; exact hc 1 _ rfl, by rw [← add_field _ _ 2 (by omega)]; exact hc 2 _ rfl, by rw [← add_field _ _ 3 (by omega)]; exact hc 3 _ rfl⟩



theorem bq {B : Nat} {w w' : World} (h : Below B w w' := by repeat (first | (with_reducible first | exact HB.out | apply below_alloc | apply pw_below_drewN | apply below_drew1 | refine below_set ?_ (Aside0.out (by assumption))) | exact HB.out)) : Below B w w' := h
theorem rq {P Q : Prop} (H : Aside0 P) (h : P → Q := by intro h_; (with_reducible repeat (first | apply Kd.R_alloc | apply Kd.R_drewN | apply Kd.R_drew)); exact h_) : Q := h H.out
theorem zq {P Q : Prop} (H : Aside0 P) (h : P → Q := by intro h_; (with_reducible repeat (first | refine blk_drewN ?_ _ | refine blk_drew ?_ | refine blk_alloc ?_ _)); exact h_) : Q := h H.out
theorem cq {P Q : Prop} (H : P) (h : P → Q := by intro h_; repeat (first | exact h_ | (with_reducible refine Kd.C_alloc ?_ _) | (with_reducible refine Kd.C_drewN ?_ _) | (with_reducible refine Kd.C_drew ?_))) : Q := h H
theorem gq {B : Nat} {w w' : World} {g : Nat} (hg : g = w'.heap.size) (h : Below B w w' := by repeat (first | (with_reducible first | exact HB.out | apply below_alloc | apply pw_below_drewN | apply below_drew1 | refine below_set ?_ (Aside0.out (by assumption))) | exact HB.out)) (hB : B = w.heap.size := by rfl) : B ≤ g := by subst hB; subst hg; exact below_size h
theorem eq_ {P : Prop} (h : P := by first | rfl | (simp [errW_none, errW_some] <;> rfl) | (simp [*, errW_none, errW_some] <;> rfl)) : P := h
theorem sq {P : Prop} (h : P := by first | rfl | (simp; done) | (simp [*]; done)) : P := h
theorem aq {P : Prop} (h : P := by first | (with_reducible assumption) | assumption) : P := h
theorem mq {P : Prop} (h : P := by (try simp only [List.map_toArray, List.map_cons, List.map_nil]); first | done | rfl | (simp only [List.length_drop, List.length_take]; rfl)) : P := h
theorem bindq {α β : Type} {o : Option α} {f : α → Option β} {r : β} (h : o.bind f = some r) : ∃ a, Aside0 (o = some a) ∧ f a = some r := by
  obtain ⟨a, h1, h2⟩ := Option.bind_eq_some_iff.mp h
  exact ⟨a, ⟨h1⟩, h2⟩
theorem rb {α : Type} {d : Kd α} {e base : Nat} {ok : Nat → Prop} {W W' w' : World} {v : Value} {xs : List α} (H : Aside0 (Kd.R d e W base ok v xs)) (hb : Below W'.heap.size W' w') (h : Kd.R d e W base ok v xs → Kd.R d e W' base ok v xs := by intro h_; (with_reducible repeat (first | apply Kd.R_alloc | apply Kd.R_drewN | apply Kd.R_drew)); exact h_) : Aside0 (Kd.R d e w' base ok v xs) := ⟨Kd.R_below (h H.out) hb⟩
theorem sb {w W w' : World} (hb : Below W.heap.size W w') (h : Below w.heap.size w W := by repeat (first | (with_reducible first | exact HB.out | apply below_alloc | apply pw_below_drewN | apply below_drew1 | refine below_set ?_ (Aside0.out (by assumption))) | exact HB.out)) : Aside0 (Below w.heap.size w w') := ⟨below_step h hb⟩
theorem rl {α : Type} {d : Kd α} {e : Nat} {ok : Nat → Prop} {w W W' : World} {v : Value} {xs : List α} (ho : Kd.R d e W' W.heap.size ok v xs) (h : Below w.heap.size w W := by repeat (first | (with_reducible first | exact HB.out | apply below_alloc | apply pw_below_drewN | apply below_drew1 | refine below_set ?_ (Aside0.out (by assumption))) | exact HB.out)) : Aside0 (Kd.R d e W' w.heap.size ok v xs) := ⟨Kd.R_lower ho (below_size h)⟩
theorem nl {W W' : World} {g g' : Nat} {o : Obj} (hg : g' = W'.heap.size) (H : Aside0 (W.heap[g]? = some o)) (h : W.heap[g]? = some o → W'.heap[g]? = some o := by intro h_; (with_reducible repeat (first | refine blk_drewN ?_ _ | refine blk_drew ?_ | refine blk_alloc ?_ _)); exact h_) : Aside0 (g ≠ g') := ⟨by rw [hg]; exact Nat.ne_of_lt (blk_lt (h H.out))⟩
theorem ng {W W' : World} {g g' : Nat} {o : Obj} (hg : g' = W'.heap.size) (H : Aside0 (W.heap[g]? = some o)) (h : W.heap[g]? = some o → W'.heap[g]? = some o := by intro h_; (with_reducible repeat (first | refine blk_drewN ?_ _ | refine blk_drew ?_ | refine blk_alloc ?_ _)); exact h_) : Aside0 (g' ≠ g) := ⟨by rw [hg]; exact Nat.ne_of_gt (blk_lt (h H.out))⟩
theorem rq1 {α : Type} {d : Kd α} {e base : Nat} {ok : Nat → Prop} {W : World} {A : Option Addr} {n c : Nat} {xs : List α} (H : Aside0 (Kd.R d e W base ok (.slice A n c) xs)) : n ≤ c := (Kd.R_reads' H.out).2.1
theorem cr {α : Type} {d : Kd α} {e base : Nat} {ok : Nat → Prop} {W : World} {A : Option Addr} {n c : Nat} {xs : List α} {Q : Prop} (H : Aside0 (Kd.R d e W base ok (.slice A n c) xs)) (h : Kd.C d W A xs.length xs → Q := by intro h_; repeat (first | exact h_ | (with_reducible refine Kd.C_alloc ?_ _) | (with_reducible refine Kd.C_drewN ?_ _) | (with_reducible refine Kd.C_drew ?_))) : Q := h (Kd.R_reads' H.out).2.2
theorem fq {α : Type} {d : Kd α} {e base t g : Nat} {ok : Nat → Prop} {W W' : World} {v : Value} {xs : List α} {cs : Array Value} (H : Aside0 (Kd.R d e W base ok v xs)) (B : Aside0 (W.heap[g]? = some (.cells cs t (0, 0)))) (hne : ∀ q, q ∈ e :: d.E → q ≠ t := by decide) (h : Kd.R d e W base (fun k => ok k ∧ k ≠ g) v xs → Kd.R d e W' base (fun k => ok k ∧ k ≠ g) v xs := by intro h_; (repeat (first | (with_reducible exact h_) | (with_reducible first | apply Kd.R_alloc | apply Kd.R_drewN | apply Kd.R_drew) | (with_reducible refine Kd.R_far ?_ (fun _ hk => hk.2) _))); all_goals exact h_) : Kd.R d e W' base ok v xs := Kd.R_mono (h (Kd.R_types H.out B.out hne)) (fun _ h_ => h_.1)
theorem zp {P Q : Prop} (H : Aside0 P) (h : P → Q := by intro h_; (repeat (first | (with_reducible exact h_) | (with_reducible first | refine blk_drewN ?_ _ | refine blk_drew ?_ | refine blk_alloc ?_ _) | (with_reducible refine (Below.heap_setCell _ _ _ _ (Aside0.out (by assumption))).trans ?_) | (with_reducible apply blk_put))); all_goals (first | rfl | exact h_)) : Q := h H.out
theorem rm {α : Type} {d : Kd α} {e base : Nat} {ok ok' : Nat → Prop} {W W' : World} {v : Value} {xs : List α} (H : Aside0 (Kd.R d e W base ok v xs)) (hok : ∀ k, ok k → ok' k := by intro _ hk; first | exact trivial | exact hk | simp only [hk, ne_eq, not_false_eq_true, and_self]) (h : Kd.R d e W base ok' v xs → Kd.R d e W' base ok' v xs := by intro h_; (with_reducible repeat (first | apply Kd.R_alloc | apply Kd.R_drewN | apply Kd.R_drew)); exact h_) : Kd.R d e W' base ok' v xs := h (Kd.R_mono H.out hok)
theorem cf {α : Type} {d : Kd α} {e base t g n c : Nat} {ok : Nat → Prop} {W W' : World} {A : Option Addr} {xs : List α} {cs : Array Value} (H : Aside0 (Kd.R d e W base ok (.slice A n c) xs)) (B : Aside0 (W.heap[g]? = some (.cells cs t (0, 0)))) (hne : ∀ q, q ∈ e :: d.E → q ≠ t := by decide) (h : Kd.R d e W base (fun k => ok k ∧ k ≠ g) (.slice A n c) xs → Kd.R d e W' base (fun k => ok k ∧ k ≠ g) (.slice A n c) xs := by intro h_; (repeat (first | (with_reducible exact h_) | (with_reducible first | apply Kd.R_alloc | apply Kd.R_drewN | apply Kd.R_drew) | (with_reducible refine Kd.R_far ?_ (fun _ hk => hk.2) _))); all_goals exact h_) : Kd.C d W' A xs.length xs := (Kd.R_reads' (h (Kd.R_types H.out B.out hne))).2.2
theorem cl {P : Prop} (h : P := by (repeat' apply And.intro) <;> exact (blk_cell (Aside0.out (by assumption)) _).trans rfl) : P := h
theorem am {p : Prop} (h : p) : Aside0 p := ⟨h⟩
theorem lw {α : Type} {d : Kd α} {e base : Nat} {ok : Nat → Prop} {W W' : World} {v : Value} {xs : List α} (H : Aside0 (Kd.R d e W base ok v xs)) (h : Kd.R d e W base ok v xs → Kd.R d e W' base ok v xs := by intro h_; (with_reducible repeat (first | apply Kd.R_alloc | apply Kd.R_drewN | apply Kd.R_drew)); exact h_) : ∀ k, v.ownBlock = some k → k < W'.heap.size := Kd.R_lt (h H.out)
theorem zb {W W' w' : World} {g : Nat} {o : Obj} (H : Aside0 (W.heap[g]? = some o)) (hb : Below W'.heap.size W' w') (h : W.heap[g]? = some o → W'.heap[g]? = some o := by intro h_; (with_reducible repeat (first | refine blk_drewN ?_ _ | refine blk_drew ?_ | refine blk_alloc ?_ _)); exact h_) : Aside0 (w'.heap[g]? = some o) := ⟨blk_below (h H.out) hb⟩
abbrev I : Bool := true
abbrev O : Bool := false
theorem pu_ {P : Program} {md : Region.Mode} {ops : Array Oper} {Q : Exit → Act → World → Prop} {S : World → Prop} {ds : List Nat} {oi : Oper} {fuel : Nat} {l : Array Bool} {a : Act} {w : World} (i : Nat) (N : Option Tmp) (v : Value) (l' : Array Bool) (hi : ops[i]? = some oi) (hN : oi.dst = N) (hc : anyB md ops l l' i = true) (hy : Yields P ops oi v a) (a' : Act) (ha : a.put N v = a') (h : wpAnyLast P md ops Q S ds fuel l' a' w) (hQ : ∀ c a w, Q (.panic c) (a.put oi.dst v) w → Q (.panic c) a w := by exact fun _ _ _ h => h) : wpAnyLast P md ops Q S ds (fuel + 1) l a w := pure_ l' hi hN hc hQ hy ha h
theorem tk_ {P : Program} {md : Region.Mode} {ops : Array Oper} {Q : Exit → Act → World → Prop} {S : World → Prop} {ds : List Nat} {oi : Oper} {fuel : Nat} {l : Array Bool} {a : Act} {w : World} (i : Nat) (N : Option Tmp) (v : Value) (l' : Array Bool) (hi : ops[i]? = some oi) (hN : oi.dst = N) (hc : takeB md ops ds l l' i = true) (hy : YieldsIf P ops S oi v a) (hS : S w) (a' : Act) (ha : a.put N v = a') (h : wpAnyLast P md ops Q S ds fuel l' a' w) (hQ : ∀ c a w, Q (.panic c) (a.put oi.dst v) w → Q (.panic c) a w := by exact fun _ _ _ h => h) : wpAnyLast P md ops Q S ds (fuel + 1) l a w := take_ l' hi hN hc hQ hy hS ha h
theorem zw {W W' w' : World} {g : Nat} {o : Obj} (o' : Obj) (H : Aside0 (W.heap[g]? = some o)) (hb : Below W'.heap.size W' w') (h : W.heap[g]? = some o → W'.heap[g]? = some o' := by intro h_; (repeat (first | (with_reducible exact h_) | (with_reducible first | refine blk_drewN ?_ _ | refine blk_drew ?_ | refine blk_alloc ?_ _) | (with_reducible refine (Below.heap_setCell _ _ _ _ (Aside0.out (by assumption))).trans ?_) | (with_reducible apply blk_put))); all_goals (first | rfl | exact h_)) : Aside0 (w'.heap[g]? = some o') := ⟨blk_below (h H.out) hb⟩
theorem nn {W W' : World} {g g' : Nat} {o : Obj} (hg : g' = W'.heap.size) (H : Aside0 (W.heap[g]? = some o)) (h : W.heap[g]? = some o → W'.heap[g]? = some o := by intro h_; (with_reducible repeat (first | refine blk_drewN ?_ _ | refine blk_drew ?_ | refine blk_alloc ?_ _)); exact h_) : Aside0 (g ≠ g') ∧ Aside0 (g' ≠ g) := ⟨nl hg H h, ng hg H h⟩
theorem yq {P Q : Prop} {α : Type} {y t : α} (e : y = t) (H : P) (h : P → y = t → Q := by intro H hy; first | (rw [hy]; with_reducible exact H) | (have H2_ := (Option.bind_some _ _).symm.trans H; rw [hy]; with_reducible exact H2_) | (have H2_ := (Option.bind_some _ _).symm.trans H; with_reducible exact H2_) | with_reducible exact H | (rw [hy]; exact H) | exact H) : Q := h H e
theorem pw : (∀ (a : Act) (d : Tmp) (v : Value), a.put (some d) v = ⟨a.tmps.setIfInBounds d v, a.defers⟩) ∧ (∀ (a : Act) (v : Value), a.put none v = a) ∧ (∀ (l : List Value) (i : Nat) (a : Value), l.toArray.setIfInBounds i a = (l.set i a).toArray) ∧ (∀ (x : Value) (xs : List Value) (a : Value), (x :: xs).set 0 a = a :: xs) ∧ (∀ (x : Value) (xs : List Value) (i : Nat) (a : Value), (x :: xs).set (i + 1) a = x :: xs.set i a) ∧ (∀ n : Int, IntKind.i64.wrap n = Go.RowKit.wrap64 n) ∧ (∀ n : Int, IntKind.i32.wrap n = Go.RowKit.wrap32 n) := ⟨fun _ _ _ => rfl, fun _ _ => rfl, fun _ _ _ => List.setIfInBounds_toArray _ _ _, fun _ _ _ => rfl, fun _ _ _ _ => rfl, i64_w, i32_w⟩
theorem bc2 {w : World} {g t : Nat} {a0 a1 : Value} (h : Aside0 (w.heap[g]? = some (.cells #[a0, a1] t (0, 0)))) : w.cell? ⟨g, 0, none⟩ = some a0 ∧ w.cell? ⟨g, 1, none⟩ = some a1 ∧ w.frozen? ⟨g, 0, none⟩ = false ∧ w.frozen? ⟨g, 1, none⟩ = false := ⟨(blk_cell h.out 0).trans rfl, (blk_cell h.out 1).trans rfl, blk_frozen h.out 0, blk_frozen h.out 1⟩
theorem bc4 {w : World} {g t : Nat} {a0 a1 a2 a3 : Value} (h : Aside0 (w.heap[g]? = some (.cells #[a0, a1, a2, a3] t (0, 0)))) : w.cell? ⟨g, 0, none⟩ = some a0 ∧ w.cell? ⟨g, 1, none⟩ = some a1 ∧ w.cell? ⟨g, 2, none⟩ = some a2 ∧ w.cell? ⟨g, 3, none⟩ = some a3 ∧ w.frozen? ⟨g, 0, none⟩ = false ∧ w.frozen? ⟨g, 1, none⟩ = false ∧ w.frozen? ⟨g, 2, none⟩ = false ∧ w.frozen? ⟨g, 3, none⟩ = false := ⟨(blk_cell h.out 0).trans rfl, (blk_cell h.out 1).trans rfl, (blk_cell h.out 2).trans rfl, (blk_cell h.out 3).trans rfl, blk_frozen h.out 0, blk_frozen h.out 1, blk_frozen h.out 2, blk_frozen h.out 3⟩

def laws_szIntS.f (l0 : List Int) (a1 : Int) : Option (Int) := if (wrap64 (a1 - (l0.length : Int))) < 0 then (some (-1)) else (some (wrap64 (a1 - (l0.length : Int))))
theorem laws_szIntS.calls (A0 : Option Addr) (c0 : Nat) (l0 : List Int) (a1 : Int) (r : Int) (w : World) (hr0 : Kd.C (Kd.int .i64) w A0 l0.length l0) (hc0 : l0.length ≤ c0) (h : laws_szIntS.f l0 a1 = some r) :
  Calls Tryd.prog 9 #[.slice A0 l0.length c0, .int .i64 a1] w fun e w' => e = .returned (.int .i64 r) ∧ Drawn0 w w' := by
 have HR0 := am hr0; have HC0 := am hc0; clear hr0 hc0; have H := h; clear h
 unfold laws_szIntS.f at H
 by_cases c3 : (wrap64 (a1 - (l0.length : Int))) < 0
 ·rw [if_pos c3] at H; have c3b0 : decide ((wrap64 (a1 - (l0.length : Int))) < 0) = true := decide_eq_true c3; clear c3; obtain rfl := Option.some.inj H
  go_enter Tryd.func9, Tryd.ntmps9
  go_wp2
  go_ret
  exact ⟨sq, by repeat (first | exact Drawn0.refl _ | apply Drawn0.step)⟩
 rw [if_neg c3] at H; have c3b0 : decide ((wrap64 (a1 - (l0.length : Int))) < 0) = false := decide_eq_false c3; clear c3; obtain rfl := Option.some.inj H
 go_enter Tryd.func9, Tryd.ntmps9
 go_wp2
 go_ret
 exact ⟨sq, by repeat (first | exact Drawn0.refl _ | apply Drawn0.step)⟩


def laws_szLoanS.f (l0 : List (S51)) (a1 : Int) : Option (Int) := if (wrap64 (a1 - (l0.length : Int))) < 0 then (some (-1)) else (some (wrap64 (a1 - (l0.length : Int))))
theorem laws_szLoanS.calls (A0 : Option Addr) (c0 : Nat) (l0 : List (S51)) (a1 : Int) (r : Int) (w : World) (hr0 : Kd.C k51 w A0 l0.length l0) (hc0 : l0.length ≤ c0) (h : laws_szLoanS.f l0 a1 = some r) :
  Calls Tryd.prog 10 #[.slice A0 l0.length c0, .int .i64 a1] w fun e w' => e = .returned (.int .i64 r) ∧ Drawn0 w w' := by
 have HR0 := am hr0; have HC0 := am hc0; clear hr0 hc0; have H := h; clear h
 unfold laws_szLoanS.f at H
 by_cases c3 : (wrap64 (a1 - (l0.length : Int))) < 0
 ·rw [if_pos c3] at H; have c3b0 : decide ((wrap64 (a1 - (l0.length : Int))) < 0) = true := decide_eq_true c3; clear c3; obtain rfl := Option.some.inj H
  go_enter Tryd.func10, Tryd.ntmps10
  go_wp2
  go_ret
  exact ⟨sq, by repeat (first | exact Drawn0.refl _ | apply Drawn0.step)⟩
 rw [if_neg c3] at H; have c3b0 : decide ((wrap64 (a1 - (l0.length : Int))) < 0) = false := decide_eq_false c3; clear c3; obtain rfl := Option.some.inj H
 go_enter Tryd.func10, Tryd.ntmps10
 go_wp2
 go_ret
 exact ⟨sq, by repeat (first | exact Drawn0.refl _ | apply Drawn0.step)⟩


def laws_szShop.f (l0_0 : List Int) (l0_1 : List (S51)) (a1 : Int) : Option (Int) := (laws_szIntS.f l0_0 a1).bind fun t102 => (if t102 < 0 then (some (-1)) else ((laws_szLoanS.f l0_1 t102).bind fun t103 => (if t103 < 0 then (some (-1)) else (some t103))))
theorem laws_szShop.calls (A0_0 : Option Addr) (c0_0 : Nat) (l0_0 : List Int) (A0_1 : Option Addr) (c0_1 : Nat) (l0_1 : List (S51)) (a1 : Int) (r : Int) (w : World) (hr0_0 : Kd.C (Kd.int .i64) w A0_0 l0_0.length l0_0) (hc0_0 : l0_0.length ≤ c0_0) (hr0_1 : Kd.C k51 w A0_1 l0_1.length l0_1) (hc0_1 : l0_1.length ≤ c0_1) (h : laws_szShop.f l0_0 l0_1 a1 = some r) :
  Calls Tryd.prog 4 #[.agg #[.slice A0_0 l0_0.length c0_0, .slice A0_1 l0_1.length c0_1], .int .i64 a1] w fun e w' => e = .returned (.int .i64 r) ∧ Below w.heap.size w w' := by
 have hu25 := Tryd.underlying25; have HR0_0 := am hr0_0; have HC0_0 := am hc0_0; clear hr0_0 hc0_0; have HR0_1 := am hr0_1; have HC0_1 := am hc0_1; clear hr0_1 hc0_1; have HB := am (Below.refl w.heap.size w); have H := h; clear h
 unfold laws_szShop.f at H
 obtain ⟨t102, A3, H⟩ := bindq H; try dsimp only at H
 by_cases c4 : t102 < 0
 ·rw [if_pos c4] at H; have c4b0 : decide (t102 < 0) = true := decide_eq_true c4; clear c4; obtain rfl := Option.some.inj H
  go_enter Tryd.func4, Tryd.ntmps4
  go_wp2_with (first | ((with_reducible refine gate_dst (N := 2) rfl ?_); refine box_event ?hg (N := 2) ?hd (cs := #[.slice A0_0 l0_0.length c0_0, .slice A0_1 l0_1.length c0_1]) (t := 25) ?hr ?_; (case hd | hg => rfl); (case hr => go_simp; try rfl); intro gb101 hg w5 hbox hb; have BK101 := am (hbox); have GW101 := am (gq hg); have GE101 := am (gq hg); replace HB := sb hb; clear hb hbox hg; have ⟨b60, b61, d60, d61⟩ := bc2 BK101) | ((with_reducible refine gate_callee (f := 9) rfl ?_); refine goesL_ (some 8) rfl rfl Tryd.func9 (by kernel_rfl) rfl #[.slice A0_0 l0_0.length c0_0, .int .i64 a1] rfl mq ?_; (with_reducible refine (laws_szIntS.calls _ _ l0_0 a1 t102 _ ?s1 ?s2 A3.out).mono ?_); (case s1 => exact cq (Kd.C_below HR0_0.out HB.out)); (case s2 => exact HC0_0.out); rintro e w' ⟨rfl, ⟨nd, rfl⟩⟩; refine ⟨_, rfl, ?_⟩))
  go_ret
  exact ⟨eq_, bq⟩
 rw [if_neg c4] at H; have c4b0 : decide (t102 < 0) = false := decide_eq_false c4; clear c4; obtain ⟨t103, A7, H⟩ := bindq H; try dsimp only at H
 by_cases c8 : t103 < 0
 ·rw [if_pos c8] at H; have c8b0 : decide (t103 < 0) = true := decide_eq_true c8; clear c8; obtain rfl := Option.some.inj H
  go_enter Tryd.func4, Tryd.ntmps4
  go_wp2_with (first | ((with_reducible refine gate_dst (N := 2) rfl ?_); refine box_event ?hg (N := 2) ?hd (cs := #[.slice A0_0 l0_0.length c0_0, .slice A0_1 l0_1.length c0_1]) (t := 25) ?hr ?_; (case hd | hg => rfl); (case hr => go_simp; try rfl); intro gb101 hg w9 hbox hb; have BK101 := am (hbox); have GW101 := am (gq hg); have GE101 := am (gq hg); replace HB := sb hb; clear hb hbox hg; have ⟨b100, b101, d100, d101⟩ := bc2 BK101) | ((with_reducible refine gate_callee (f := 9) rfl ?_); refine goesL_ (some 8) rfl rfl Tryd.func9 (by kernel_rfl) rfl #[.slice A0_0 l0_0.length c0_0, .int .i64 a1] rfl mq ?_; (with_reducible refine (laws_szIntS.calls _ _ l0_0 a1 t102 _ ?s1 ?s2 A3.out).mono ?_); (case s1 => exact cq (Kd.C_below HR0_0.out HB.out)); (case s2 => exact HC0_0.out); rintro e w' ⟨rfl, ⟨nd, rfl⟩⟩; refine ⟨_, rfl, ?_⟩) | ((with_reducible refine gate_callee (f := 10) rfl ?_); refine goesL_ (some 14) rfl rfl Tryd.func10 (by kernel_rfl) rfl #[.slice A0_1 l0_1.length c0_1, .int .i64 t102] rfl mq ?_; (with_reducible refine (laws_szLoanS.calls _ _ l0_1 t102 t103 _ ?s1 ?s2 A7.out).mono ?_); (case s1 => exact cq (Kd.C_below HR0_1.out bq)); (case s2 => exact HC0_1.out); rintro e w' ⟨rfl, ⟨nd, rfl⟩⟩; refine ⟨_, rfl, ?_⟩))
  go_ret
  exact ⟨eq_, bq⟩
 rw [if_neg c8] at H; have c8b0 : decide (t103 < 0) = false := decide_eq_false c8; clear c8; obtain rfl := Option.some.inj H
 go_enter Tryd.func4, Tryd.ntmps4
 go_wp2_with (first | ((with_reducible refine gate_dst (N := 2) rfl ?_); refine box_event ?hg (N := 2) ?hd (cs := #[.slice A0_0 l0_0.length c0_0, .slice A0_1 l0_1.length c0_1]) (t := 25) ?hr ?_; (case hd | hg => rfl); (case hr => go_simp; try rfl); intro gb101 hg w11 hbox hb; have BK101 := am (hbox); have GW101 := am (gq hg); have GE101 := am (gq hg); replace HB := sb hb; clear hb hbox hg; have ⟨b120, b121, d120, d121⟩ := bc2 BK101) | ((with_reducible refine gate_callee (f := 9) rfl ?_); refine goesL_ (some 8) rfl rfl Tryd.func9 (by kernel_rfl) rfl #[.slice A0_0 l0_0.length c0_0, .int .i64 a1] rfl mq ?_; (with_reducible refine (laws_szIntS.calls _ _ l0_0 a1 t102 _ ?s1 ?s2 A3.out).mono ?_); (case s1 => exact cq (Kd.C_below HR0_0.out HB.out)); (case s2 => exact HC0_0.out); rintro e w' ⟨rfl, ⟨nd, rfl⟩⟩; refine ⟨_, rfl, ?_⟩) | ((with_reducible refine gate_callee (f := 10) rfl ?_); refine goesL_ (some 14) rfl rfl Tryd.func10 (by kernel_rfl) rfl #[.slice A0_1 l0_1.length c0_1, .int .i64 t102] rfl mq ?_; (with_reducible refine (laws_szLoanS.calls _ _ l0_1 t102 t103 _ ?s1 ?s2 A7.out).mono ?_); (case s1 => exact cq (Kd.C_below HR0_1.out bq)); (case s2 => exact HC0_1.out); rintro e w' ⟨rfl, ⟨nd, rfl⟩⟩; refine ⟨_, rfl, ?_⟩))
 go_ret
 exact ⟨eq_, bq⟩


def spec_l1In.f (a0 : Int) (a1 : Int) (a2 : Int) : Option (Bool) := if a0 ≥ a1 then (some (decide (a0 ≤ a2))) else (some false)
theorem spec_l1In.calls (a0 : Int) (a1 : Int) (a2 : Int) (r : Bool) (w : World) (h : spec_l1In.f a0 a1 a2 = some r) :
  Calls Tryd.prog 28 #[.int .i64 a0, .int .i64 a1, .int .i64 a2] w fun e w' => e = .returned (.bool r) ∧ Drawn0 w w' := by
 have H := h; clear h
 unfold spec_l1In.f at H
 by_cases c4 : a0 ≥ a1
 ·rw [if_pos c4] at H; have c4b0 : decide (a1 ≤ a0) = true := decide_eq_true c4; clear c4; obtain rfl := Option.some.inj H
  go_enter Tryd.func28, Tryd.ntmps28
  go_wp2
  go_ret
  exact ⟨sq, by repeat (first | exact Drawn0.refl _ | apply Drawn0.step)⟩
 rw [if_neg c4] at H; have c4b0 : decide (a1 ≤ a0) = false := decide_eq_false c4; clear c4; obtain rfl := Option.some.inj H
 go_enter Tryd.func28, Tryd.ntmps28
 go_wp2
 go_ret
 exact ⟨sq, by repeat (first | exact Drawn0.refl _ | apply Drawn0.step)⟩


def spec_psLoan.f (a0_0 : Int) (a0_1 : Int) (a0_2 : Int) (a0_3 : Int) : Option (Bool) := (spec_l1In.f a0_0 1 99).bind fun t105 => (if t105 = true then ((spec_l1In.f a0_1 1 7).bind fun t106 => (if t106 = true then ((spec_l1In.f a0_2 1 99).bind fun t107 => (if t107 = true then ((spec_l1In.f a0_3 0 999).bind fun t108 => (some t108)) else (some false))) else (some false))) else (some false))
theorem spec_psLoan.calls (a0_0 : Int) (a0_1 : Int) (a0_2 : Int) (a0_3 : Int) (r : Bool) (w : World) (h : spec_psLoan.f a0_0 a0_1 a0_2 a0_3 = some r) :
  Calls Tryd.prog 19 #[.agg #[.int .i64 a0_0, .int .i64 a0_1, .int .i64 a0_2, .int .i64 a0_3]] w fun e w' => e = .returned (.bool r) ∧ Below w.heap.size w w' := by
 have hu40 := Tryd.underlying40; have HB := am (Below.refl w.heap.size w); have H := h; clear h
 unfold spec_psLoan.f at H
 obtain ⟨t105, A2, H⟩ := bindq H; try dsimp only at H
 by_cases c3 : t105 = true
 ·subst c3; rw [if_pos rfl] at H; try dsimp only at H
  obtain ⟨t106, A4, H⟩ := bindq H; try dsimp only at H
  by_cases c5 : t106 = true
  ·subst c5; rw [if_pos rfl] at H; try dsimp only at H
   obtain ⟨t107, A6, H⟩ := bindq H; try dsimp only at H
   by_cases c7 : t107 = true
   ·subst c7; rw [if_pos rfl] at H; try dsimp only at H
    obtain ⟨t108, A8, H⟩ := bindq H; try dsimp only at H
    obtain rfl := Option.some.inj H
    go_enter Tryd.func19, Tryd.ntmps19
    go_wp2_with (first | ((with_reducible refine gate_dst (N := 1) rfl ?_); refine box_event ?hg (N := 1) ?hd (cs := #[.int .i64 a0_0, .int .i64 a0_1, .int .i64 a0_2, .int .i64 a0_3]) (t := 40) ?hr ?_; (case hd | hg => rfl); (case hr => go_simp; try rfl); intro gb104 hg w9 hbox hb; have BK104 := am (hbox); have GW104 := am (gq hg); have GE104 := am (gq hg); replace HB := sb hb; clear hb hbox hg; have ⟨b100, b101, b102, b103, d100, d101, d102, d103⟩ := bc4 BK104) | ((with_reducible refine gate_callee (f := 28) rfl ?_); refine goesL_ (some 5) rfl rfl Tryd.func28 (by kernel_rfl) rfl #[.int .i64 a0_0, .int .i64 1, .int .i64 99] rfl mq ?_; (with_reducible refine (spec_l1In.calls a0_0 1 99 true _ A2.out).mono ?_); rintro e w' ⟨rfl, ⟨nd, rfl⟩⟩; refine ⟨_, rfl, ?_⟩) | (go_at_call 28; (with_reducible refine (spec_l1In.calls a0_1 1 7 true _ A4.out).mono ?_); rintro e w' ⟨rfl, ⟨nd, rfl⟩⟩) | (go_at_call 28; (with_reducible refine (spec_l1In.calls a0_2 1 99 true _ A6.out).mono ?_); rintro e w' ⟨rfl, ⟨nd, rfl⟩⟩) | (go_at_call 28; (with_reducible refine (spec_l1In.calls a0_3 0 999 t108 _ A8.out).mono ?_); rintro e w' ⟨rfl, ⟨nd, rfl⟩⟩))
    go_ret
    exact ⟨eq_, bq⟩
   replace c7 := Bool.eq_false_iff.mpr c7; subst c7; rw [if_neg (show ¬ (false = true) by decide)] at H; try dsimp only at H
   obtain rfl := Option.some.inj H
   go_enter Tryd.func19, Tryd.ntmps19
   go_wp2_with (first | ((with_reducible refine gate_dst (N := 1) rfl ?_); refine box_event ?hg (N := 1) ?hd (cs := #[.int .i64 a0_0, .int .i64 a0_1, .int .i64 a0_2, .int .i64 a0_3]) (t := 40) ?hr ?_; (case hd | hg => rfl); (case hr => go_simp; try rfl); intro gb104 hg w11 hbox hb; have BK104 := am (hbox); have GW104 := am (gq hg); have GE104 := am (gq hg); replace HB := sb hb; clear hb hbox hg; have ⟨b120, b121, b122, b123, d120, d121, d122, d123⟩ := bc4 BK104) | ((with_reducible refine gate_callee (f := 28) rfl ?_); refine goesL_ (some 5) rfl rfl Tryd.func28 (by kernel_rfl) rfl #[.int .i64 a0_0, .int .i64 1, .int .i64 99] rfl mq ?_; (with_reducible refine (spec_l1In.calls a0_0 1 99 true _ A2.out).mono ?_); rintro e w' ⟨rfl, ⟨nd, rfl⟩⟩; refine ⟨_, rfl, ?_⟩) | (go_at_call 28; (with_reducible refine (spec_l1In.calls a0_1 1 7 true _ A4.out).mono ?_); rintro e w' ⟨rfl, ⟨nd, rfl⟩⟩) | (go_at_call 28; (with_reducible refine (spec_l1In.calls a0_2 1 99 false _ A6.out).mono ?_); rintro e w' ⟨rfl, ⟨nd, rfl⟩⟩))
   go_ret
   exact ⟨eq_, bq⟩
  replace c5 := Bool.eq_false_iff.mpr c5; subst c5; rw [if_neg (show ¬ (false = true) by decide)] at H; try dsimp only at H
  obtain rfl := Option.some.inj H
  go_enter Tryd.func19, Tryd.ntmps19
  go_wp2_with (first | ((with_reducible refine gate_dst (N := 1) rfl ?_); refine box_event ?hg (N := 1) ?hd (cs := #[.int .i64 a0_0, .int .i64 a0_1, .int .i64 a0_2, .int .i64 a0_3]) (t := 40) ?hr ?_; (case hd | hg => rfl); (case hr => go_simp; try rfl); intro gb104 hg w13 hbox hb; have BK104 := am (hbox); have GW104 := am (gq hg); have GE104 := am (gq hg); replace HB := sb hb; clear hb hbox hg; have ⟨b140, b141, b142, b143, d140, d141, d142, d143⟩ := bc4 BK104) | ((with_reducible refine gate_callee (f := 28) rfl ?_); refine goesL_ (some 5) rfl rfl Tryd.func28 (by kernel_rfl) rfl #[.int .i64 a0_0, .int .i64 1, .int .i64 99] rfl mq ?_; (with_reducible refine (spec_l1In.calls a0_0 1 99 true _ A2.out).mono ?_); rintro e w' ⟨rfl, ⟨nd, rfl⟩⟩; refine ⟨_, rfl, ?_⟩) | (go_at_call 28; (with_reducible refine (spec_l1In.calls a0_1 1 7 false _ A4.out).mono ?_); rintro e w' ⟨rfl, ⟨nd, rfl⟩⟩))
  go_ret
  exact ⟨eq_, bq⟩
 replace c3 := Bool.eq_false_iff.mpr c3; subst c3; rw [if_neg (show ¬ (false = true) by decide)] at H; try dsimp only at H
 obtain rfl := Option.some.inj H
 go_enter Tryd.func19, Tryd.ntmps19
 go_wp2_with (first | ((with_reducible refine gate_dst (N := 1) rfl ?_); refine box_event ?hg (N := 1) ?hd (cs := #[.int .i64 a0_0, .int .i64 a0_1, .int .i64 a0_2, .int .i64 a0_3]) (t := 40) ?hr ?_; (case hd | hg => rfl); (case hr => go_simp; try rfl); intro gb104 hg w15 hbox hb; have BK104 := am (hbox); have GW104 := am (gq hg); have GE104 := am (gq hg); replace HB := sb hb; clear hb hbox hg; have ⟨b160, b161, b162, b163, d160, d161, d162, d163⟩ := bc4 BK104) | ((with_reducible refine gate_callee (f := 28) rfl ?_); refine goesL_ (some 5) rfl rfl Tryd.func28 (by kernel_rfl) rfl #[.int .i64 a0_0, .int .i64 1, .int .i64 99] rfl mq ?_; (with_reducible refine (spec_l1In.calls a0_0 1 99 false _ A2.out).mono ?_); rintro e w' ⟨rfl, ⟨nd, rfl⟩⟩; refine ⟨_, rfl, ?_⟩))
 go_ret
 exact ⟨eq_, bq⟩


def spec_psSame.l0 : Nat → List (S40) → Int → Int → Int → Int → Int → Int → Option (Int)
 | 0, _, _, _, _, _, _, _ => none
 | k + 1, x8, x9, x10, x2, x4, x6, x5 => if x10 < x9 then (if 0 ≤ x10 then (if x10 < (x8.length : Int) then (if ((rd_T40 x8 x10).f0) = x2 then (if ((rd_T40 x8 x10).f1) = x4 then (if ((rd_T40 x8 x10).f3) = x5 then (some x10) else (spec_psSame.l0 k x8 x9 (wrap64 (x10 + 1)) x2 x4 x6 x5)) else (spec_psSame.l0 k x8 x9 (wrap64 (x10 + 1)) x2 x4 x6 x5)) else (spec_psSame.l0 k x8 x9 (wrap64 (x10 + 1)) x2 x4 x6 x5)) else (none)) else (none)) else (some (-1))
def spec_psSame.f (k : Nat) (l0_0 : List Int) (l0_1 : List (S40)) (a1_0 : Int) (a1_1 : Int) (a1_2 : Int) (a1_3 : Int) : Option (Int) := spec_psSame.l0 k l0_1 (l0_1.length : Int) 0 a1_0 a1_1 a1_2 a1_3
theorem spec_psSame.calls (k : Nat) (A0_0 : Option Addr) (c0_0 : Nat) (l0_0 : List Int) (A0_1 : Option Addr) (c0_1 : Nat) (l0_1 : List (S40)) (a1_0 : Int) (a1_1 : Int) (a1_2 : Int) (a1_3 : Int) (r : Int) (w : World) (hr0_0 : Kd.C (Kd.int .i64) w A0_0 l0_0.length l0_0) (hc0_0 : l0_0.length ≤ c0_0) (hr0_1 : Kd.C k40 w A0_1 l0_1.length l0_1) (hc0_1 : l0_1.length ≤ c0_1) (h : spec_psSame.f k l0_0 l0_1 a1_0 a1_1 a1_2 a1_3 = some r) :
  Calls Tryd.prog 20 #[.agg #[.slice A0_0 l0_0.length c0_0, .slice A0_1 l0_1.length c0_1], .agg #[.int .i64 a1_0, .int .i64 a1_1, .int .i64 a1_2, .int .i64 a1_3]] w fun e w' => e = .returned (.int .i64 r) ∧ Below w.heap.size w w' := by
 have hu31 := Tryd.underlying31; have hu40 := Tryd.underlying40; have HR0_0 := am hr0_0; have HC0_0 := am hc0_0; clear hr0_0 hc0_0; have HR0_1 := am hr0_1; have HC0_1 := am hc0_1; clear hr0_1 hc0_1; have HB := am (Below.refl w.heap.size w); have H := h; clear h
 unfold spec_psSame.f at H
 have H' := am H; clear H
 go_enter Tryd.func20, Tryd.ntmps20
 go_wp2_with (first | ((with_reducible refine gate_dst (N := 2) rfl ?_); refine box_event ?hg (N := 2) ?hd (cs := #[.slice A0_0 l0_0.length c0_0, .slice A0_1 l0_1.length c0_1]) (t := 31) ?hr ?_; (case hd | hg => rfl); (case hr => go_simp; try rfl); intro gb109 hg w3 hbox hb; have BK109 := am (hbox); have GW109 := am (gq hg); have GE109 := am (gq hg); replace HB := sb hb; clear hb hbox hg) | ((with_reducible refine gate_dst (N := 3) rfl ?_); refine box_event ?hg (N := 3) ?hd (cs := #[.int .i64 a1_0, .int .i64 a1_1, .int .i64 a1_2, .int .i64 a1_3]) (t := 40) ?hr ?_; (case hd | hg => rfl); (case hr => go_simp; try rfl); intro gb110 hg w4 hbox hb; have BK110 := am (hbox); have GW110 := am (gq hg); have GE110 := am (gq hg); replace HB := sb hb; have ⟨NB109_110, NB110_109⟩ := nn hg BK109; replace BK109 := zb BK109 hb; clear hb hbox hg; have hnb5 := NB109_110.out; have hnc5 := NB110_109.out; have ⟨b60, b61, d60, d61⟩ := bc2 BK109))
 go_loopg [10] k (fun kq v10 w' => ∃ (x10_1 : Int), v10 = .int .i64 x10_1 ∧ Aside0 (spec_psSame.l0 kq l0_1 (l0_1.length : Int) x10_1 a1_0 a1_1 a1_2 a1_3 = some r) ∧ Aside0 (kq ≤ k) ∧ Aside0 (w'.heap[gb109]? = some (.cells #[(.slice A0_0 l0_0.length c0_0), (.slice A0_1 l0_1.length c0_1)] 31 (0, 0))) ∧ Aside0 (w'.heap[gb110]? = some (.cells #[.int .i64 a1_0, .int .i64 a1_1, .int .i64 a1_2, .int .i64 a1_3] 40 (0, 0))) ∧ Aside0 (Below w.heap.size w w'))
 case atStart => exact ⟨(0), sq, H', ⟨Nat.le_refl _⟩, ⟨zq BK109⟩, ⟨zq BK110⟩, ⟨bq⟩⟩
 case round =>
  clear H'; try clear b60 b61 d60 d61
  obtain ⟨x10_1, rfl, HA, HK1, BK109, BK110, HB⟩ := hrel
  cases gk with
  | zero => exact absurd HA.out (by simp [spec_psSame.l0])
  | succ k1 =>
   have H := HA.out; clear HA; simp only [spec_psSame.l0] at H; by_cases c7 : x10_1 < (l0_1.length : Int)
   ·rw [if_pos c7] at H; have c7b0 : decide (x10_1 < (l0_1.length : Int)) = true := decide_eq_true c7; clear c7; by_cases c8 : 0 ≤ x10_1
    ·rw [if_pos c8] at H; have c8b0 : decide (0 ≤ x10_1) = true := decide_eq_true c8; clear c8; by_cases c9 : x10_1 < (l0_1.length : Int)
     ·rw [if_pos c9] at H; have c9b0 : decide (x10_1 < (l0_1.length : Int)) = true := decide_eq_true c9; clear c9; by_cases c10 : ((rd_T40 l0_1 x10_1).f0) = a1_0
      ·rw [if_pos c10] at H; have c10b0 : (((rd_T40 l0_1 x10_1).f0) == a1_0) = true := beq_iff_eq.mpr c10; have c10b1 : (((rd_T40 l0_1 x10_1).f0) != a1_0) = false := bne_eq_false_iff_eq.mpr c10; clear c10; by_cases c11 : ((rd_T40 l0_1 x10_1).f1) = a1_1
       ·rw [if_pos c11] at H; have c11b0 : (((rd_T40 l0_1 x10_1).f1) == a1_1) = true := beq_iff_eq.mpr c11; have c11b1 : (((rd_T40 l0_1 x10_1).f1) != a1_1) = false := bne_eq_false_iff_eq.mpr c11; clear c11; by_cases c12 : ((rd_T40 l0_1 x10_1).f3) = a1_3
        ·rw [if_pos c12] at H; have c12b0 : (((rd_T40 l0_1 x10_1).f3) == a1_3) = true := beq_iff_eq.mpr c12; have c12b1 : (((rd_T40 l0_1 x10_1).f3) != a1_3) = false := bne_eq_false_iff_eq.mpr c12; clear c12; obtain rfl := Option.some.inj H; have p111 : 0 ≤ (x10_1 : Int) := of_decide_eq_true aq; have q111 : x10_1 < (l0_1.length : Int) := of_decide_eq_true aq; obtain ⟨ad111, e111, hx111_0, hx111_1, hx111_2, hx111_3⟩ := at_T40 HR0_1.out x10_1 p111 q111
         cases e111
         replace hx111_0 := (HB.out.cell (World.block_lt_of_cell? w _ hx111_0)).trans hx111_0; replace hx111_1 := (HB.out.cell (World.block_lt_of_cell? w _ hx111_1)).trans hx111_1; replace hx111_2 := (HB.out.cell (World.block_lt_of_cell? w _ hx111_2)).trans hx111_2; replace hx111_3 := (HB.out.cell (World.block_lt_of_cell? w _ hx111_3)).trans hx111_3; replace p111 := eq_true p111; replace q111 := eq_true q111; go_wp2_with (first | ((with_reducible refine gate_dst (N := 6) rfl ?_); refine box_event ?hg (N := 6) ?hd (cs := #[.int .i64 0, .int .i64 0, .int .i64 0, .int .i64 0]) (t := 40) ?hr ?_; (case hd | hg => rfl); (case hr => go_simp; try rfl); intro gb112 hg w13 hbox hb; have BK112 := am (hbox); have GW112 := am (gq hg); have GE112 := am (gq hg); replace HB := sb hb; have ⟨NB109_112, NB112_109⟩ := nn hg BK109; replace BK109 := zb BK109 hb; have ⟨NB110_112, NB112_110⟩ := nn hg BK110; replace BK110 := zb BK110 hb; clear hb hbox hg; have hnb14 := NB112_109.out; have hnc14 := NB109_112.out; have hnb15 := NB112_110.out; have hnc15 := NB110_112.out; have ⟨b160, b161, b162, b163, d160, d161, d162, d163⟩ := bc4 BK112; have hnb17 := NB110_109.out; have hnc17 := NB109_110.out; have ⟨b180, b181, b182, b183, d180, d181, d182, d183⟩ := bc4 BK110))
         go_ret
         exact ⟨eq_, bq⟩
        rw [if_neg c12] at H; have c12b0 : (((rd_T40 l0_1 x10_1).f3) == a1_3) = false := beq_eq_false_iff_ne.mpr c12; have c12b1 : (((rd_T40 l0_1 x10_1).f3) != a1_3) = true := bne_iff_ne.mpr c12; have H' := am H; clear H; have p111 : 0 ≤ (x10_1 : Int) := of_decide_eq_true aq; have q111 : x10_1 < (l0_1.length : Int) := of_decide_eq_true aq; obtain ⟨ad111, e111, hx111_0, hx111_1, hx111_2, hx111_3⟩ := at_T40 HR0_1.out x10_1 p111 q111
        cases e111
        replace hx111_0 := (HB.out.cell (World.block_lt_of_cell? w _ hx111_0)).trans hx111_0; replace hx111_1 := (HB.out.cell (World.block_lt_of_cell? w _ hx111_1)).trans hx111_1; replace hx111_2 := (HB.out.cell (World.block_lt_of_cell? w _ hx111_2)).trans hx111_2; replace hx111_3 := (HB.out.cell (World.block_lt_of_cell? w _ hx111_3)).trans hx111_3; replace p111 := eq_true p111; replace q111 := eq_true q111; go_wp2_with (first | ((with_reducible refine gate_dst (N := 6) rfl ?_); refine box_event ?hg (N := 6) ?hd (cs := #[.int .i64 0, .int .i64 0, .int .i64 0, .int .i64 0]) (t := 40) ?hr ?_; (case hd | hg => rfl); (case hr => go_simp; try rfl); intro gb112 hg w19 hbox hb; have BK112 := am (hbox); have GW112 := am (gq hg); have GE112 := am (gq hg); replace HB := sb hb; have ⟨NB109_112, NB112_109⟩ := nn hg BK109; replace BK109 := zb BK109 hb; have ⟨NB110_112, NB112_110⟩ := nn hg BK110; replace BK110 := zb BK110 hb; clear hb hbox hg; have hnb20 := NB112_109.out; have hnc20 := NB109_112.out; have hnb21 := NB112_110.out; have hnc21 := NB110_112.out; have ⟨b220, b221, b222, b223, d220, d221, d222, d223⟩ := bc4 BK112; have hnb23 := NB110_109.out; have hnc23 := NB109_110.out; have ⟨b240, b241, b242, b243, d240, d241, d242, d243⟩ := bc4 BK110))
        go_roundg k1
        case measure => have := HK1.out; omega
        case rel => exact ⟨(wrap64 (x10_1 + 1)), sq, H', ⟨by have := HK1.out; omega⟩, ⟨zp BK109⟩, ⟨zp BK110⟩, ⟨bq⟩⟩
       rw [if_neg c11] at H; have c11b0 : (((rd_T40 l0_1 x10_1).f1) == a1_1) = false := beq_eq_false_iff_ne.mpr c11; have c11b1 : (((rd_T40 l0_1 x10_1).f1) != a1_1) = true := bne_iff_ne.mpr c11; have H' := am H; clear H; have p111 : 0 ≤ (x10_1 : Int) := of_decide_eq_true aq; have q111 : x10_1 < (l0_1.length : Int) := of_decide_eq_true aq; obtain ⟨ad111, e111, hx111_0, hx111_1, hx111_2, hx111_3⟩ := at_T40 HR0_1.out x10_1 p111 q111
       cases e111
       replace hx111_0 := (HB.out.cell (World.block_lt_of_cell? w _ hx111_0)).trans hx111_0; replace hx111_1 := (HB.out.cell (World.block_lt_of_cell? w _ hx111_1)).trans hx111_1; replace hx111_2 := (HB.out.cell (World.block_lt_of_cell? w _ hx111_2)).trans hx111_2; replace hx111_3 := (HB.out.cell (World.block_lt_of_cell? w _ hx111_3)).trans hx111_3; replace p111 := eq_true p111; replace q111 := eq_true q111; go_wp2_with (first | ((with_reducible refine gate_dst (N := 6) rfl ?_); refine box_event ?hg (N := 6) ?hd (cs := #[.int .i64 0, .int .i64 0, .int .i64 0, .int .i64 0]) (t := 40) ?hr ?_; (case hd | hg => rfl); (case hr => go_simp; try rfl); intro gb112 hg w25 hbox hb; have BK112 := am (hbox); have GW112 := am (gq hg); have GE112 := am (gq hg); replace HB := sb hb; have ⟨NB109_112, NB112_109⟩ := nn hg BK109; replace BK109 := zb BK109 hb; have ⟨NB110_112, NB112_110⟩ := nn hg BK110; replace BK110 := zb BK110 hb; clear hb hbox hg; have hnb26 := NB112_109.out; have hnc26 := NB109_112.out; have hnb27 := NB112_110.out; have hnc27 := NB110_112.out; have ⟨b280, b281, b282, b283, d280, d281, d282, d283⟩ := bc4 BK112; have hnb29 := NB110_109.out; have hnc29 := NB109_110.out; have ⟨b300, b301, b302, b303, d300, d301, d302, d303⟩ := bc4 BK110))
       go_roundg k1
       case measure => have := HK1.out; omega
       case rel => exact ⟨(wrap64 (x10_1 + 1)), sq, H', ⟨by have := HK1.out; omega⟩, ⟨zp BK109⟩, ⟨zp BK110⟩, ⟨bq⟩⟩
      rw [if_neg c10] at H; have c10b0 : (((rd_T40 l0_1 x10_1).f0) == a1_0) = false := beq_eq_false_iff_ne.mpr c10; have c10b1 : (((rd_T40 l0_1 x10_1).f0) != a1_0) = true := bne_iff_ne.mpr c10; have H' := am H; clear H; have p111 : 0 ≤ (x10_1 : Int) := of_decide_eq_true aq; have q111 : x10_1 < (l0_1.length : Int) := of_decide_eq_true aq; obtain ⟨ad111, e111, hx111_0, hx111_1, hx111_2, hx111_3⟩ := at_T40 HR0_1.out x10_1 p111 q111
      cases e111
      replace hx111_0 := (HB.out.cell (World.block_lt_of_cell? w _ hx111_0)).trans hx111_0; replace hx111_1 := (HB.out.cell (World.block_lt_of_cell? w _ hx111_1)).trans hx111_1; replace hx111_2 := (HB.out.cell (World.block_lt_of_cell? w _ hx111_2)).trans hx111_2; replace hx111_3 := (HB.out.cell (World.block_lt_of_cell? w _ hx111_3)).trans hx111_3; replace p111 := eq_true p111; replace q111 := eq_true q111; go_wp2_with (first | ((with_reducible refine gate_dst (N := 6) rfl ?_); refine box_event ?hg (N := 6) ?hd (cs := #[.int .i64 0, .int .i64 0, .int .i64 0, .int .i64 0]) (t := 40) ?hr ?_; (case hd | hg => rfl); (case hr => go_simp; try rfl); intro gb112 hg w31 hbox hb; have BK112 := am (hbox); have GW112 := am (gq hg); have GE112 := am (gq hg); replace HB := sb hb; have ⟨NB109_112, NB112_109⟩ := nn hg BK109; replace BK109 := zb BK109 hb; have ⟨NB110_112, NB112_110⟩ := nn hg BK110; replace BK110 := zb BK110 hb; clear hb hbox hg; have hnb32 := NB112_109.out; have hnc32 := NB109_112.out; have hnb33 := NB112_110.out; have hnc33 := NB110_112.out; have ⟨b340, b341, b342, b343, d340, d341, d342, d343⟩ := bc4 BK112; have hnb35 := NB110_109.out; have hnc35 := NB109_110.out; have ⟨b360, b361, b362, b363, d360, d361, d362, d363⟩ := bc4 BK110))
      go_roundg k1
      case measure => have := HK1.out; omega
      case rel => exact ⟨(wrap64 (x10_1 + 1)), sq, H', ⟨by have := HK1.out; omega⟩, ⟨zp BK109⟩, ⟨zp BK110⟩, ⟨bq⟩⟩
     rw [if_neg c9] at H; exact absurd H (by simp)
    rw [if_neg c8] at H; exact absurd H (by simp)
   rw [if_neg c7] at H; have c7b0 : decide (x10_1 < (l0_1.length : Int)) = false := decide_eq_false c7; clear c7; obtain rfl := Option.some.inj H
   go_wp2
   go_ret
   exact ⟨eq_, bq⟩


def spec_l1All.l0 : Nat → Int → Int → List Int → Int → Int → Option (Bool)
 | 0, _, _, _, _, _ => none
 | k + 1, x1, x2, x9, x10, x11 => if x11 < x10 then (if 0 ≤ x11 then (if x11 < (x9.length : Int) then ((spec_l1In.f (rd x9 x11) x1 x2).bind fun t114 => (if t114 = true then (spec_l1All.l0 k x1 x2 x9 x10 (wrap64 (x11 + 1))) else (some false))) else (none)) else (none)) else (some true)
def spec_l1All.f (k : Nat) (l0 : List Int) (a1 : Int) (a2 : Int) : Option (Bool) := spec_l1All.l0 k a1 a2 l0 (l0.length : Int) 0
theorem spec_l1All.calls (k : Nat) (A0 : Option Addr) (c0 : Nat) (l0 : List Int) (a1 : Int) (a2 : Int) (r : Bool) (w : World) (hr0 : Kd.C (Kd.int .i64) w A0 l0.length l0) (hc0 : l0.length ≤ c0) (h : spec_l1All.f k l0 a1 a2 = some r) :
  Calls Tryd.prog 21 #[.slice A0 l0.length c0, .int .i64 a1, .int .i64 a2] w fun e w' => e = .returned (.bool r) ∧ Drawn0 w w' := by
 have HR0 := am hr0; have HC0 := am hc0; clear hr0 hc0; have H := h; clear h
 unfold spec_l1All.f at H
 have H' := am H; clear H
 go_enter Tryd.func21, Tryd.ntmps21
 go_wp2
 go_loopg [11] k (fun kq v11 w' => ∃ (x11_1 : Int), v11 = .int .i64 x11_1 ∧ Aside0 (spec_l1All.l0 kq a1 a2 l0 (l0.length : Int) x11_1 = some r) ∧ Aside0 (kq ≤ k) ∧ Drawn0 w w')
 case atStart => exact ⟨(0), sq, H', ⟨Nat.le_refl _⟩, by repeat (first | exact Drawn0.refl _ | apply Drawn0.step)⟩
 case round =>
  clear H'; obtain ⟨x11_1, rfl, HA, HK1, ⟨m1, rfl⟩⟩ := hrel
  cases gk with
  | zero => exact absurd HA.out (by simp [spec_l1All.l0])
  | succ k1 =>
   have H := HA.out; clear HA; simp only [spec_l1All.l0] at H; by_cases c4 : x11_1 < (l0.length : Int)
   ·rw [if_pos c4] at H; have c4b0 : decide (x11_1 < (l0.length : Int)) = true := decide_eq_true c4; clear c4; by_cases c5 : 0 ≤ x11_1
    ·rw [if_pos c5] at H; have c5b0 : decide (0 ≤ x11_1) = true := decide_eq_true c5; clear c5; by_cases c6 : x11_1 < (l0.length : Int)
     ·rw [if_pos c6] at H; have c6b0 : decide (x11_1 < (l0.length : Int)) = true := decide_eq_true c6; clear c6; obtain ⟨t114, A7, H⟩ := bindq H; try dsimp only at H
      by_cases c8 : t114 = true
      ·subst c8; rw [if_pos rfl] at H; try dsimp only at H
       have H' := am H; clear H; have p113 : 0 ≤ (x11_1 : Int) := of_decide_eq_true aq; have q113 : x11_1 < (l0.length : Int) := of_decide_eq_true aq; obtain ⟨ad113, e113, hx113_0⟩ := Kd.at_int HR0.out x11_1 p113 q113
       cases e113
       replace p113 := eq_true p113; replace q113 := eq_true q113; go_wp2_with (first | ((with_reducible refine gate_callee (f := 28) rfl ?_); refine goesL_ (some 18) rfl rfl Tryd.func28 (by kernel_rfl) rfl #[.int .i64 (rd l0 x11_1), .int .i64 a1, .int .i64 a2] rfl mq ?_; (with_reducible refine (spec_l1In.calls (rd l0 x11_1) a1 a2 true _ A7.out).mono ?_); rintro e w' ⟨rfl, ⟨nd, rfl⟩⟩; refine ⟨_, rfl, ?_⟩))
       go_roundg k1
       case measure => have := HK1.out; omega
       case rel => exact ⟨(wrap64 (x11_1 + 1)), sq, H', ⟨by have := HK1.out; omega⟩, by repeat (first | exact Drawn0.refl _ | apply Drawn0.step)⟩
      replace c8 := Bool.eq_false_iff.mpr c8; subst c8; rw [if_neg (show ¬ (false = true) by decide)] at H; try dsimp only at H
      obtain rfl := Option.some.inj H; have p113 : 0 ≤ (x11_1 : Int) := of_decide_eq_true aq; have q113 : x11_1 < (l0.length : Int) := of_decide_eq_true aq; obtain ⟨ad113, e113, hx113_0⟩ := Kd.at_int HR0.out x11_1 p113 q113
      cases e113
      replace p113 := eq_true p113; replace q113 := eq_true q113; go_wp2_with (first | ((with_reducible refine gate_callee (f := 28) rfl ?_); refine goesL_ (some 18) rfl rfl Tryd.func28 (by kernel_rfl) rfl #[.int .i64 (rd l0 x11_1), .int .i64 a1, .int .i64 a2] rfl mq ?_; (with_reducible refine (spec_l1In.calls (rd l0 x11_1) a1 a2 false _ A7.out).mono ?_); rintro e w' ⟨rfl, ⟨nd, rfl⟩⟩; refine ⟨_, rfl, ?_⟩))
      go_ret
      exact ⟨sq, by repeat (first | exact Drawn0.refl _ | apply Drawn0.step)⟩
     rw [if_neg c6] at H; exact absurd H (by simp)
    rw [if_neg c5] at H; exact absurd H (by simp)
   rw [if_neg c4] at H; have c4b0 : decide (x11_1 < (l0.length : Int)) = false := decide_eq_false c4; clear c4; obtain rfl := Option.some.inj H
   go_wp2
   go_ret
   exact ⟨sq, by repeat (first | exact Drawn0.refl _ | apply Drawn0.step)⟩


def spec_psGood.l0 : Nat → List (S40) → Int → Int → List Int → List (S40) → Option (Bool)
 | 0, _, _, _, _, _ => none
 | k + 1, x6, x7, x8, x4, x5 => if x8 < x7 then (if 0 ≤ x8 then (if x8 < (x6.length : Int) then ((spec_psLoan.f ((rd_T40 x6 x8).f0) ((rd_T40 x6 x8).f1) ((rd_T40 x6 x8).f2) ((rd_T40 x6 x8).f3)).bind fun t120 => (if t120 = true then ((spec_psSame.f k x4 x5 ((rd_T40 x6 x8).f0) ((rd_T40 x6 x8).f1) ((rd_T40 x6 x8).f2) ((rd_T40 x6 x8).f3)).bind fun t121 => (if t121 = x8 then (spec_psGood.l0 k x6 x7 (wrap64 (x8 + 1)) x4 x5) else (some false))) else (some false))) else (none)) else (none)) else (if (x4.length : Int) = 8 then ((spec_l1All.f k x4 0 999).bind fun t116 => (if t116 = true then (if 0 < (x4.length : Int) then (if (rd x4 0) = 0 then (some (decide ((x5.length : Int) ≤ 20))) else (some false)) else (none)) else (some false))) else (some false))
def spec_psGood.f (k : Nat) (l0_0 : List Int) (l0_1 : List (S40)) : Option (Bool) := spec_psGood.l0 k l0_1 (l0_1.length : Int) 0 l0_0 l0_1
theorem spec_psGood.calls (k : Nat) (A0_0 : Option Addr) (c0_0 : Nat) (l0_0 : List Int) (A0_1 : Option Addr) (c0_1 : Nat) (l0_1 : List (S40)) (r : Bool) (w : World) (hr0_0 : Kd.C (Kd.int .i64) w A0_0 l0_0.length l0_0) (hc0_0 : l0_0.length ≤ c0_0) (hr0_1 : Kd.C k40 w A0_1 l0_1.length l0_1) (hc0_1 : l0_1.length ≤ c0_1) (h : spec_psGood.f k l0_0 l0_1 = some r) :
  Calls Tryd.prog 11 #[.agg #[.slice A0_0 l0_0.length c0_0, .slice A0_1 l0_1.length c0_1]] w fun e w' => e = .returned (.bool r) ∧ Below w.heap.size w w' := by
 have hu31 := Tryd.underlying31; have hu40 := Tryd.underlying40; have HR0_0 := am hr0_0; have HC0_0 := am hc0_0; clear hr0_0 hc0_0; have HR0_1 := am hr0_1; have HC0_1 := am hc0_1; clear hr0_1 hc0_1; have HB := am (Below.refl w.heap.size w); have H := h; clear h
 unfold spec_psGood.f at H
 have H' := am H; clear H
 go_enter Tryd.func11, Tryd.ntmps11
 go_wp2_with (first | ((with_reducible refine gate_dst (N := 1) rfl ?_); (try (refine gate_guard (by rfl) ?_; dsimp only)); refine box_event ?hg (N := 1) ?hd (cs := #[.slice A0_0 l0_0.length c0_0, .slice A0_1 l0_1.length c0_1]) (t := 31) ?hr ?_; (case hd | hg => rfl); (case hr => go_simp; try rfl); intro gb115 hg w2 hbox hb; have BK115 := am (hbox); have GW115 := am (gq hg); have GE115 := am (gq hg); replace HB := sb hb; clear hb hbox hg; have ⟨b30, b31, d30, d31⟩ := bc2 BK115))
 go_loopg [8] k (fun kq v8 w' => ∃ (x8_1 : Int), v8 = .int .i64 x8_1 ∧ Aside0 (spec_psGood.l0 kq l0_1 (l0_1.length : Int) x8_1 l0_0 l0_1 = some r) ∧ Aside0 (kq ≤ k) ∧ Aside0 (w'.heap[gb115]? = some (.cells #[(.slice A0_0 l0_0.length c0_0), (.slice A0_1 l0_1.length c0_1)] 31 (0, 0))) ∧ Aside0 (Below w.heap.size w w'))
 case atStart => exact ⟨(0), sq, H', ⟨Nat.le_refl _⟩, ⟨zq BK115⟩, ⟨bq⟩⟩
 case round =>
  clear H'; try clear b30 b31 d30 d31
  obtain ⟨x8_1, rfl, HA, HK1, BK115, HB⟩ := hrel
  cases gk with
  | zero => exact absurd HA.out (by simp [spec_psGood.l0])
  | succ k1 =>
   have H := HA.out; clear HA; simp only [spec_psGood.l0] at H; by_cases c4 : x8_1 < (l0_1.length : Int)
   ·rw [if_pos c4] at H; have c4b0 : decide (x8_1 < (l0_1.length : Int)) = true := decide_eq_true c4; clear c4; by_cases c5 : 0 ≤ x8_1
    ·rw [if_pos c5] at H; have c5b0 : decide (0 ≤ x8_1) = true := decide_eq_true c5; clear c5; by_cases c6 : x8_1 < (l0_1.length : Int)
     ·rw [if_pos c6] at H; have c6b0 : decide (x8_1 < (l0_1.length : Int)) = true := decide_eq_true c6; clear c6; obtain ⟨t120, A7, H⟩ := bindq H; try dsimp only at H
      by_cases c8 : t120 = true
      ·subst c8; rw [if_pos rfl] at H; try dsimp only at H
       obtain ⟨t121, A9, H⟩ := bindq H; try dsimp only at H
       by_cases c10 : t121 = x8_1
       ·rw [if_pos c10] at H; have c10b0 : (t121 == x8_1) = true := beq_iff_eq.mpr c10; have c10b1 : (t121 != x8_1) = false := bne_eq_false_iff_eq.mpr c10; clear c10; have H' := am H; clear H; have p118 : 0 ≤ (x8_1 : Int) := of_decide_eq_true aq; have q118 : x8_1 < (l0_1.length : Int) := of_decide_eq_true aq; obtain ⟨ad118, e118, hx118_0, hx118_1, hx118_2, hx118_3⟩ := at_T40 HR0_1.out x8_1 p118 q118
        cases e118
        replace hx118_0 := (HB.out.cell (World.block_lt_of_cell? w _ hx118_0)).trans hx118_0; replace hx118_1 := (HB.out.cell (World.block_lt_of_cell? w _ hx118_1)).trans hx118_1; replace hx118_2 := (HB.out.cell (World.block_lt_of_cell? w _ hx118_2)).trans hx118_2; replace hx118_3 := (HB.out.cell (World.block_lt_of_cell? w _ hx118_3)).trans hx118_3; replace p118 := eq_true p118; replace q118 := eq_true q118; go_wp2_with (first | ((with_reducible refine gate_dst (N := 4) rfl ?_); (try (refine gate_guard (by rfl) ?_; dsimp only)); refine box_event ?hg (N := 4) ?hd (cs := #[.int .i64 0, .int .i64 0, .int .i64 0, .int .i64 0]) (t := 40) ?hr ?_; (case hd | hg => rfl); (case hr => go_simp; try rfl); intro gb119 hg w11 hbox hb; have BK119 := am (hbox); have GW119 := am (gq hg); have GE119 := am (gq hg); replace HB := sb hb; have ⟨NB115_119, NB119_115⟩ := nn hg BK115; replace BK115 := zb BK115 hb; clear hb hbox hg; have hnb12 := NB119_115.out; have hnc12 := NB115_119.out; have ⟨b130, b131, b132, b133, d130, d131, d132, d133⟩ := bc4 BK119) | ((with_reducible refine gate_callee (f := 19) rfl ?_); refine goesL_ (some 14) rfl rfl Tryd.func19 (by kernel_rfl) rfl #[.agg #[.int .i64 ((rd_T40 l0_1 x8_1).f0), .int .i64 ((rd_T40 l0_1 x8_1).f1), .int .i64 ((rd_T40 l0_1 x8_1).f2), .int .i64 ((rd_T40 l0_1 x8_1).f3)]] rfl mq ?_; (with_reducible refine (spec_psLoan.calls ((rd_T40 l0_1 x8_1).f0) ((rd_T40 l0_1 x8_1).f1) ((rd_T40 l0_1 x8_1).f2) ((rd_T40 l0_1 x8_1).f3) true _ A7.out).mono ?_); rintro e w14 ⟨rfl, hb⟩; refine ⟨_, rfl, ?_⟩; replace BK115 := zw (.cells #[.slice A0_0 l0_0.length c0_0, .slice (some ad118) l0_1.length c0_1] 31 (0, 0)) BK115 hb; replace BK119 := zw (.cells #[.int .i64 ((rd_T40 l0_1 x8_1).f0), .int .i64 ((rd_T40 l0_1 x8_1).f1), .int .i64 ((rd_T40 l0_1 x8_1).f2), .int .i64 ((rd_T40 l0_1 x8_1).f3)] 40 (0, 0)) BK119 hb; replace HB := sb hb; (try clear hb); have ⟨b150, b151, d150, d151⟩ := bc2 BK115; have ⟨b160, b161, b162, b163, d160, d161, d162, d163⟩ := bc4 BK119) | (go_at_call 20; (with_reducible refine (spec_psSame.calls k1 _ _ l0_0 _ _ l0_1 ((rd_T40 l0_1 x8_1).f0) ((rd_T40 l0_1 x8_1).f1) ((rd_T40 l0_1 x8_1).f2) ((rd_T40 l0_1 x8_1).f3) t121 _ ?s1 ?s2 ?s3 ?s4 A9.out).mono ?_); (case s1 => exact cq (Kd.C_below HR0_0.out HB.out)); (case s2 => exact HC0_0.out); (case s3 => exact cq (Kd.C_below HR0_1.out HB.out)); (case s4 => exact HC0_1.out); rintro e w17 ⟨rfl, hb⟩; replace BK115 := zb BK115 hb; replace BK119 := zb BK119 hb; replace HB := sb hb; (try clear hb)))
        go_roundg k1
        case measure => have := HK1.out; omega
        case rel => exact ⟨(wrap64 (x8_1 + 1)), sq, H', ⟨by have := HK1.out; omega⟩, ⟨zq BK115⟩, ⟨bq⟩⟩
       rw [if_neg c10] at H; have c10b0 : (t121 == x8_1) = false := beq_eq_false_iff_ne.mpr c10; have c10b1 : (t121 != x8_1) = true := bne_iff_ne.mpr c10; obtain rfl := Option.some.inj H; have p118 : 0 ≤ (x8_1 : Int) := of_decide_eq_true aq; have q118 : x8_1 < (l0_1.length : Int) := of_decide_eq_true aq; obtain ⟨ad118, e118, hx118_0, hx118_1, hx118_2, hx118_3⟩ := at_T40 HR0_1.out x8_1 p118 q118
       cases e118
       replace hx118_0 := (HB.out.cell (World.block_lt_of_cell? w _ hx118_0)).trans hx118_0; replace hx118_1 := (HB.out.cell (World.block_lt_of_cell? w _ hx118_1)).trans hx118_1; replace hx118_2 := (HB.out.cell (World.block_lt_of_cell? w _ hx118_2)).trans hx118_2; replace hx118_3 := (HB.out.cell (World.block_lt_of_cell? w _ hx118_3)).trans hx118_3; replace p118 := eq_true p118; replace q118 := eq_true q118; go_wp2_with (first | ((with_reducible refine gate_dst (N := 4) rfl ?_); (try (refine gate_guard (by rfl) ?_; dsimp only)); refine box_event ?hg (N := 4) ?hd (cs := #[.int .i64 0, .int .i64 0, .int .i64 0, .int .i64 0]) (t := 40) ?hr ?_; (case hd | hg => rfl); (case hr => go_simp; try rfl); intro gb119 hg w18 hbox hb; have BK119 := am (hbox); have GW119 := am (gq hg); have GE119 := am (gq hg); replace HB := sb hb; have ⟨NB115_119, NB119_115⟩ := nn hg BK115; replace BK115 := zb BK115 hb; clear hb hbox hg; have hnb19 := NB119_115.out; have hnc19 := NB115_119.out; have ⟨b200, b201, b202, b203, d200, d201, d202, d203⟩ := bc4 BK119) | ((with_reducible refine gate_callee (f := 19) rfl ?_); refine goesL_ (some 14) rfl rfl Tryd.func19 (by kernel_rfl) rfl #[.agg #[.int .i64 ((rd_T40 l0_1 x8_1).f0), .int .i64 ((rd_T40 l0_1 x8_1).f1), .int .i64 ((rd_T40 l0_1 x8_1).f2), .int .i64 ((rd_T40 l0_1 x8_1).f3)]] rfl mq ?_; (with_reducible refine (spec_psLoan.calls ((rd_T40 l0_1 x8_1).f0) ((rd_T40 l0_1 x8_1).f1) ((rd_T40 l0_1 x8_1).f2) ((rd_T40 l0_1 x8_1).f3) true _ A7.out).mono ?_); rintro e w21 ⟨rfl, hb⟩; refine ⟨_, rfl, ?_⟩; replace BK115 := zw (.cells #[.slice A0_0 l0_0.length c0_0, .slice (some ad118) l0_1.length c0_1] 31 (0, 0)) BK115 hb; replace BK119 := zw (.cells #[.int .i64 ((rd_T40 l0_1 x8_1).f0), .int .i64 ((rd_T40 l0_1 x8_1).f1), .int .i64 ((rd_T40 l0_1 x8_1).f2), .int .i64 ((rd_T40 l0_1 x8_1).f3)] 40 (0, 0)) BK119 hb; replace HB := sb hb; (try clear hb); have ⟨b220, b221, d220, d221⟩ := bc2 BK115; have ⟨b230, b231, b232, b233, d230, d231, d232, d233⟩ := bc4 BK119) | (go_at_call 20; (with_reducible refine (spec_psSame.calls k1 _ _ l0_0 _ _ l0_1 ((rd_T40 l0_1 x8_1).f0) ((rd_T40 l0_1 x8_1).f1) ((rd_T40 l0_1 x8_1).f2) ((rd_T40 l0_1 x8_1).f3) t121 _ ?s1 ?s2 ?s3 ?s4 A9.out).mono ?_); (case s1 => exact cq (Kd.C_below HR0_0.out HB.out)); (case s2 => exact HC0_0.out); (case s3 => exact cq (Kd.C_below HR0_1.out HB.out)); (case s4 => exact HC0_1.out); rintro e w24 ⟨rfl, hb⟩; replace BK115 := zb BK115 hb; replace BK119 := zb BK119 hb; replace HB := sb hb; (try clear hb)))
       go_ret
       exact ⟨eq_, bq⟩
      replace c8 := Bool.eq_false_iff.mpr c8; subst c8; rw [if_neg (show ¬ (false = true) by decide)] at H; try dsimp only at H
      obtain rfl := Option.some.inj H; have p118 : 0 ≤ (x8_1 : Int) := of_decide_eq_true aq; have q118 : x8_1 < (l0_1.length : Int) := of_decide_eq_true aq; obtain ⟨ad118, e118, hx118_0, hx118_1, hx118_2, hx118_3⟩ := at_T40 HR0_1.out x8_1 p118 q118
      cases e118
      replace hx118_0 := (HB.out.cell (World.block_lt_of_cell? w _ hx118_0)).trans hx118_0; replace hx118_1 := (HB.out.cell (World.block_lt_of_cell? w _ hx118_1)).trans hx118_1; replace hx118_2 := (HB.out.cell (World.block_lt_of_cell? w _ hx118_2)).trans hx118_2; replace hx118_3 := (HB.out.cell (World.block_lt_of_cell? w _ hx118_3)).trans hx118_3; replace p118 := eq_true p118; replace q118 := eq_true q118; go_wp2_with (first | ((with_reducible refine gate_dst (N := 4) rfl ?_); (try (refine gate_guard (by rfl) ?_; dsimp only)); refine box_event ?hg (N := 4) ?hd (cs := #[.int .i64 0, .int .i64 0, .int .i64 0, .int .i64 0]) (t := 40) ?hr ?_; (case hd | hg => rfl); (case hr => go_simp; try rfl); intro gb119 hg w25 hbox hb; have BK119 := am (hbox); have GW119 := am (gq hg); have GE119 := am (gq hg); replace HB := sb hb; have ⟨NB115_119, NB119_115⟩ := nn hg BK115; replace BK115 := zb BK115 hb; clear hb hbox hg; have hnb26 := NB119_115.out; have hnc26 := NB115_119.out; have ⟨b270, b271, b272, b273, d270, d271, d272, d273⟩ := bc4 BK119) | ((with_reducible refine gate_callee (f := 19) rfl ?_); refine goesL_ (some 14) rfl rfl Tryd.func19 (by kernel_rfl) rfl #[.agg #[.int .i64 ((rd_T40 l0_1 x8_1).f0), .int .i64 ((rd_T40 l0_1 x8_1).f1), .int .i64 ((rd_T40 l0_1 x8_1).f2), .int .i64 ((rd_T40 l0_1 x8_1).f3)]] rfl mq ?_; (with_reducible refine (spec_psLoan.calls ((rd_T40 l0_1 x8_1).f0) ((rd_T40 l0_1 x8_1).f1) ((rd_T40 l0_1 x8_1).f2) ((rd_T40 l0_1 x8_1).f3) false _ A7.out).mono ?_); rintro e w28 ⟨rfl, hb⟩; refine ⟨_, rfl, ?_⟩; replace BK115 := zw (.cells #[.slice A0_0 l0_0.length c0_0, .slice (some ad118) l0_1.length c0_1] 31 (0, 0)) BK115 hb; replace BK119 := zw (.cells #[.int .i64 ((rd_T40 l0_1 x8_1).f0), .int .i64 ((rd_T40 l0_1 x8_1).f1), .int .i64 ((rd_T40 l0_1 x8_1).f2), .int .i64 ((rd_T40 l0_1 x8_1).f3)] 40 (0, 0)) BK119 hb; replace HB := sb hb; (try clear hb)))
      go_ret
      exact ⟨eq_, bq⟩
     rw [if_neg c6] at H; exact absurd H (by simp)
    rw [if_neg c5] at H; exact absurd H (by simp)
   rw [if_neg c4] at H; have c4b0 : decide (x8_1 < (l0_1.length : Int)) = false := decide_eq_false c4; clear c4; by_cases c29 : (l0_0.length : Int) = 8
   ·rw [if_pos c29] at H; have c29b0 : ((l0_0.length : Int) == 8) = true := beq_iff_eq.mpr c29; have c29b1 : ((l0_0.length : Int) != 8) = false := bne_eq_false_iff_eq.mpr c29; clear c29; obtain ⟨t116, A30, H⟩ := bindq H; try dsimp only at H
    by_cases c31 : t116 = true
    ·subst c31; rw [if_pos rfl] at H; try dsimp only at H
     by_cases c32 : 0 < (l0_0.length : Int)
     ·rw [if_pos c32] at H; have c32b0 : decide (0 < (l0_0.length : Int)) = true := decide_eq_true c32; have c32b1 : decide (0 < l0_0.length) = true := decide_eq_true (by omega); clear c32; by_cases c33 : (rd l0_0 0) = 0
      ·rw [if_pos c33] at H; have c33b0 : ((rd l0_0 0) == 0) = true := beq_iff_eq.mpr c33; have c33b1 : ((rd l0_0 0) != 0) = false := bne_eq_false_iff_eq.mpr c33; clear c33; obtain rfl := Option.some.inj H; have ⟨b340, b341, d340, d341⟩ := bc2 BK115; go_wp2_with (first | (go_at_call 21; (with_reducible refine (spec_l1All.calls k1 _ _ l0_0 0 999 true _ ?s1 ?s2 A30.out).mono ?_); (case s1 => exact cq (Kd.C_below HR0_0.out HB.out)); (case s2 => exact HC0_0.out); rintro e w' ⟨rfl, ⟨nd, rfl⟩⟩; have p117 : 0 ≤ (0 : Int) := (by omega); have q117 : 0 < (l0_0.length : Int) := of_decide_eq_true aq; obtain ⟨ad117, e117, hx117_0⟩ := Kd.at_int HR0_0.out 0 p117 q117; cases e117; have qi117 : (0 < l0_0.length) = True := eq_true (by omega); (try rw [show ((0 : Int)).toNat = 0 from rfl] at hx117_0); (try rw [Addr.add_zero'] at hx117_0); replace hx117_0 := (HB.out.cell (World.block_lt_of_cell? w _ hx117_0)).trans hx117_0; replace p117 := eq_true p117; replace q117 := eq_true q117))
       go_ret
       exact ⟨eq_, bq⟩
      rw [if_neg c33] at H; have c33b0 : ((rd l0_0 0) == 0) = false := beq_eq_false_iff_ne.mpr c33; have c33b1 : ((rd l0_0 0) != 0) = true := bne_iff_ne.mpr c33; obtain rfl := Option.some.inj H; have ⟨b350, b351, d350, d351⟩ := bc2 BK115; go_wp2_with (first | (go_at_call 21; (with_reducible refine (spec_l1All.calls k1 _ _ l0_0 0 999 true _ ?s1 ?s2 A30.out).mono ?_); (case s1 => exact cq (Kd.C_below HR0_0.out HB.out)); (case s2 => exact HC0_0.out); rintro e w' ⟨rfl, ⟨nd, rfl⟩⟩; have p117 : 0 ≤ (0 : Int) := (by omega); have q117 : 0 < (l0_0.length : Int) := of_decide_eq_true aq; obtain ⟨ad117, e117, hx117_0⟩ := Kd.at_int HR0_0.out 0 p117 q117; cases e117; have qi117 : (0 < l0_0.length) = True := eq_true (by omega); (try rw [show ((0 : Int)).toNat = 0 from rfl] at hx117_0); (try rw [Addr.add_zero'] at hx117_0); replace hx117_0 := (HB.out.cell (World.block_lt_of_cell? w _ hx117_0)).trans hx117_0; replace p117 := eq_true p117; replace q117 := eq_true q117))
      go_ret
      exact ⟨eq_, bq⟩
     rw [if_neg c32] at H; exact absurd H (by simp)
    replace c31 := Bool.eq_false_iff.mpr c31; subst c31; rw [if_neg (show ¬ (false = true) by decide)] at H; try dsimp only at H
    obtain rfl := Option.some.inj H; have ⟨b360, b361, d360, d361⟩ := bc2 BK115; go_wp2_with (first | (go_at_call 21; (with_reducible refine (spec_l1All.calls k1 _ _ l0_0 0 999 false _ ?s1 ?s2 A30.out).mono ?_); (case s1 => exact cq (Kd.C_below HR0_0.out HB.out)); (case s2 => exact HC0_0.out); rintro e w' ⟨rfl, ⟨nd, rfl⟩⟩))
    go_ret
    exact ⟨eq_, bq⟩
   rw [if_neg c29] at H; have c29b0 : ((l0_0.length : Int) == 8) = false := beq_eq_false_iff_ne.mpr c29; have c29b1 : ((l0_0.length : Int) != 8) = true := bne_iff_ne.mpr c29; obtain rfl := Option.some.inj H; have ⟨b370, b371, d370, d371⟩ := bc2 BK115
   go_wp2
   go_ret
   exact ⟨eq_, bq⟩



def spec_l1Num.f : Nat → Int → Option (ByteArray)
 | 0, _ => none
 | k + 1, a0 => if a0 < 10 then (some (strOfNums (([(wrap64 (48 + a0)) % 256] : List Int)))) else ((spec_l1Num.f k (wrap64 (Int.tdiv a0 10))).bind fun t125 => ((some (([(wrap64 (48 + (Int.tmod a0 10))) % 256] : List Int) : List Int)).bind fun y126 => (if t125.size + (strOfNums y126).size ≤ 9223372036854775807 then (some (t125 ++ (strOfNums y126))) else (none))))
def spec_l1Num.T3 : Bool × List (List Nat × List Nat) := (true, [([], []), ([0], [0]), ([1], [1]), ([], []), ([3], [3]), ([4], [4]), ([5], [5]), ([6], [6]), ([7], [7]), ([2, 8], [2, 8]), ([9, 2, 0, 1, 2, 3, 4, 5, 6, 7, 8, 9], [9])])
def spec_l1Num.B3 : List Nat := [0, 1, 3, 0, 8, 24, 56, 120, 248, 511, 1023]
theorem spec_l1Num.tab3 : rtab .any (opsOf Tryd.f12 3) = spec_l1Num.T3 := by kernel_rfl
theorem spec_l1Num.bits3 : waitsOk spec_l1Num.T3.2 spec_l1Num.B3 = true := by kernel_rfl
theorem spec_l1Num.calls (k : Nat) : ∀ (a0 : Int) (r : ByteArray) (w : World) (h : spec_l1Num.f k a0 = some r),
  Calls Tryd.prog 12 #[.int .i64 a0] w fun e w' => e = .returned (.string r) ∧ Below w.heap.size w w' := by
 induction k using Nat.strongRecOn with
 | _ k ih =>
 intro a0 r w h
 cases k with
 | zero => exact absurd h (by simp [spec_l1Num.f])
 | succ k =>
 simp only [spec_l1Num.f] at h; have HB := am (Below.refl w.heap.size w); have H : (if a0 < 10 then (some (strOfNums (([(wrap64 (48 + a0)) % 256] : List Int)))) else ((spec_l1Num.f k (wrap64 (Int.tdiv a0 10))).bind fun t125 => ((some (([(wrap64 (48 + (Int.tmod a0 10))) % 256] : List Int) : List Int)).bind fun y126 => (if t125.size + (strOfNums y126).size ≤ 9223372036854775807 then (some (t125 ++ (strOfNums y126))) else (none))))) = some r := h; clear h; by_cases c2 : a0 < 10
 ·rw [if_pos c2] at H; have c2b0 : decide (a0 < 10) = true := decide_eq_true c2; clear c2; obtain ⟨y122, hy122⟩ : ∃ y_ : List Int, y_ = (([(wrap64 (48 + a0)) % 256] : List Int)) := ⟨_, rfl⟩; replace H : (some (strOfNums y122)) = some r := yq hy122 H; have Ny122 := am hy122; clear hy122; obtain rfl := Option.some.inj H
  go_enter Tryd.func12, Tryd.ntmps12
  go_wp2_with (first | ((with_reducible refine gate_dst (N := 8) rfl ?_); refine Kd.R_lit (Kd.int .u8) _ 5 ?hg (N := 8) ?hd (xs := ([(wrap64 (48 + a0)) % 256] : List Int)) (inner := [.int .u8 ((wrap64 (48 + a0)) % 256)]) (ok := fun _ => True) (okp := fun _ => True) ?hr ?hp (fun _ hk => hk) trivial (Below.refl _ _) (Nat.le_refl _) (by simp) ?_; (case hd | hg => rfl); (case hr => go_simp; try rfl); (case hp => exact (Reps.one (show Kd.M (Kd.int .u8) _ _ _ ((wrap64 (48 + a0)) % 256) [.int .u8 ((wrap64 (48 + a0)) % 256)] from rfl) (Reps.none _ _))); intro v123 w3 ho4 hb hg_ hnew_; clear hg_ hnew_; (first | rw [← Ny122.out] at ho4 | (simp only [Int.reduceToNat] at ho4; rw [← Ny122.out] at ho4)); have HO124 := rl ho4; replace HB := sb hb; clear hb ho4; have hcv5 := own_string (P := Tryd.prog) Tryd.underlying49 Tryd.underlying5 Tryd.underlying9 (Kd.own_of_R HO124.out)))
  go_ret
  exact ⟨eq_, bq⟩
 rw [if_neg c2] at H; have c2b0 : decide (a0 < 10) = false := decide_eq_false c2; clear c2; obtain ⟨t125, A6, H⟩ := bindq H; try dsimp only at H
 obtain ⟨y126, hy126⟩ : ∃ y_ : List Int, y_ = (([(wrap64 (48 + (Int.tmod a0 10))) % 256] : List Int)) := ⟨_, rfl⟩; replace H : (if t125.size + (strOfNums y126).size ≤ 9223372036854775807 then (some (t125 ++ (strOfNums y126))) else (none)) = some r := yq hy126 H; have Ny126 := am hy126; clear hy126; by_cases c7 : t125.size + (strOfNums y126).size ≤ 9223372036854775807
 ·rw [if_pos c7] at H; have c7b0 := eq_true c7; have c7b1 : decide (t125.size + (strOfNums y126).size ≤ 9223372036854775807) = true := decide_eq_true c7; try have c7b2 : (9223372036854775807 < t125.size + (strOfNums y126).size) = False := eq_false (Nat.not_lt.2 c7)
  obtain rfl := Option.some.inj H
  go_enter Tryd.func12, Tryd.ntmps12
  try go_wp2
  have n0_ := am (below_drew1 HB.out); clear HB; have HB := n0_; clear n0_; refine start_ (n := 11) (S := fun w' => True) (ds := []) #[O, O, O, O, O, O, O, O, O, O, O] (by kernel_rfl) rfl rfl trivial (fun hHeld => ?_); refine with_tabW spec_l1Num.tab3 spec_l1Num.bits3 (fun HT_ HW_ => ?_); generalize w.drew = w8 at HB hHeld ⊢; refine pu_ 0 (some 10) ?_ #[I, O, O, O, O, O, O, O, O, O, O] rfl rfl (any_of HT_.out (by kernel_rfl)) (.inl ⟨by rfl, ?_⟩) ?_ ?_ ?_; rotate_left; (intro w'; go_simp; with_reducible rfl); rotate_left; (simp only [pw]; rfl); refine pu_ 1 (some 11) ?_ #[I, I, O, O, O, O, O, O, O, O, O] rfl rfl (any_of HT_.out (by kernel_rfl)) (.inl ⟨by rfl, ?_⟩) ?_ ?_ ?_; rotate_left; (intro w'; go_simp; with_reducible rfl); rotate_left; (simp only [pw]; rfl); refine pu_ 3 (some 13) ?_ #[I, I, O, I, O, O, O, O, O, O, O] rfl rfl (any_of HT_.out (by kernel_rfl)) (.inl ⟨by rfl, ?_⟩) ?_ ?_ ?_; rotate_left; (intro w'; go_simp; with_reducible rfl); rotate_left; (simp only [pw]; rfl); refine pu_ 4 (some 14) ?_ #[I, I, O, I, I, O, O, O, O, O, O] rfl rfl (any_of HT_.out (by kernel_rfl)) (.inl ⟨by rfl, ?_⟩) ?_ ?_ ?_; rotate_left; (intro w'; go_simp; with_reducible rfl); rotate_left; (simp only [pw]; rfl); refine pu_ 5 (some 15) ?_ #[I, I, O, I, I, I, O, O, O, O, O] rfl rfl (any_of HT_.out (by kernel_rfl)) (.inl ⟨by rfl, ?_⟩) ?_ ?_ ?_; rotate_left; (intro w'; go_simp; with_reducible rfl); rotate_left; (simp only [pw]; rfl); refine pu_ 6 (some 16) ?_ #[I, I, O, I, I, I, I, O, O, O, O] rfl rfl (any_of HT_.out (by kernel_rfl)) (.inl ⟨by rfl, ?_⟩) ?_ ?_ ?_; rotate_left; (intro w'; go_simp; with_reducible rfl); rotate_left; (simp only [pw]; rfl); refine join_ (σ := Value) 2 #[I, I, I, I, I, I, I, I, I, O, O] (fun s_ => [(12, .string t125), (17, s_), (18, .string (strOfNums y126))]) (fun s_ w' => (Kd.R (Kd.int .u8) 5 w' w.heap.size (fun _ => True) s_ y126) ∧ (Below w.heap.size w w')) ?_ ?_; rotate_left
  ·intro hCont; refine two_ (i := 2) (j := 7) (Ni := some 12) (Nj := some 17) #[I, I, I, I, I, I, I, O, O, O, O] #[I, I, O, I, I, I, I, I, O, O, O] rfl rfl rfl rfl (two_of HT_.out (by kernel_rfl)) (by decide) (by decide) (fun K hK => ?_) (fun K hK => ?_)
   ·skip
    refine goes_ Tryd.func12 (by kernel_rfl) rfl #[.int .i64 (wrap64 (Int.tdiv a0 10))] (by rfl) rfl rfl mq ?_; with_reducible refine (ih k (by omega) (wrap64 (Int.tdiv a0 10)) t125 _ A6.out).mono ?_
    rintro e w9 ⟨rfl, hb⟩; refine ⟨_, rfl, ?_⟩; have n0_ := sb hb; clear HB; have HB := n0_; clear n0_; (try clear hb); refine hK.out _ _ trivial (fun hHeld => ?_); clear hK K; refine norm_ (a' := ?_) ?_ ?_; rotate_left
    ·show Act.put _ (some 12) _ = _
     simp only [pw]; rfl
    refine one_ (i := 7) (N := some 17) #[I, I, I, I, I, I, I, I, O, O, O] rfl rfl (one_of HT_.out (by kernel_rfl)) (by decide) (fun K hK => ?_); refine Kd.R_lit_step (Kd.int .u8) _ 5 ?hg (N := 17) ?hd (xs := ([(wrap64 (48 + (Int.tmod a0 10))) % 256] : List Int)) (inner := [.int .u8 ((wrap64 (48 + (Int.tmod a0 10))) % 256)]) (ok := fun _ => True) (okp := fun _ => True) ?hr ?hp (fun _ hk => hk) trivial (Below.refl _ _) (Nat.le_refl _) (by simp) ?_; (case hd | hg => rfl); (case hr => go_simp; try rfl); (case hp => exact (Reps.one (show Kd.M (Kd.int .u8) _ _ _ ((wrap64 (48 + (Int.tmod a0 10))) % 256) [.int .u8 ((wrap64 (48 + (Int.tmod a0 10))) % 256)] from rfl) (Reps.none _ _))); intro v127 w10 ho11 hb hg_ hnew_; clear hg_ hnew_; (first | rw [← Ny126.out] at ho11 | (simp only [Int.reduceToNat] at ho11; rw [← Ny126.out] at ho11)); have HO128 := rl ho11; replace HB := sb hb; clear hb ho11; refine hK.out _ _ trivial (fun hHeld => ?_); clear hK K; refine norm_ (a' := ?_) ?_ ?_; rotate_left
    ·show Act.put _ (some 17) _ = _
     simp only [pw]; rfl
    refine one_ (i := 8) (N := some 18) #[I, I, I, I, I, I, I, I, I, O, O] rfl rfl (one_of HT_.out (by kernel_rfl)) (by decide) (fun K hK => ?_); have hcv12 := own_string (P := Tryd.prog) Tryd.underlying49 Tryd.underlying5 Tryd.underlying9 (Kd.own_of_R HO128.out); refine value_ (w1 := ?_) (v := ?_) (by rfl) rfl ?_ ?_; rotate_left 2
    ·go_simp
     constructor
     (rfl); rfl
    clear hcv12; refine hK.out _ _ trivial (fun hHeld => ?_); clear hK K; refine norm_ (a' := ?_) ?_ ?_; rotate_left
    ·show Act.put _ (some 18) _ = _
     simp only [pw]; rfl
    exact norm_ (by simp only [putAll, Act.put, List.setIfInBounds_toArray, List.set_cons_zero, List.set_cons_succ]) (hCont (v127) _ ⟨(rq HO128), bq⟩)
   skip
   refine Kd.R_lit_step (Kd.int .u8) _ 5 ?hg (N := 17) ?hd (xs := ([(wrap64 (48 + (Int.tmod a0 10))) % 256] : List Int)) (inner := [.int .u8 ((wrap64 (48 + (Int.tmod a0 10))) % 256)]) (ok := fun _ => True) (okp := fun _ => True) ?hr ?hp (fun _ hk => hk) trivial (Below.refl _ _) (Nat.le_refl _) (by simp) ?_; (case hd | hg => rfl); (case hr => go_simp; try rfl); (case hp => exact (Reps.one (show Kd.M (Kd.int .u8) _ _ _ ((wrap64 (48 + (Int.tmod a0 10))) % 256) [.int .u8 ((wrap64 (48 + (Int.tmod a0 10))) % 256)] from rfl) (Reps.none _ _))); intro v127 w9 ho10 hb hg_ hnew_; clear hg_ hnew_; (first | rw [← Ny126.out] at ho10 | (simp only [Int.reduceToNat] at ho10; rw [← Ny126.out] at ho10)); have HO128 := rl ho10; replace HB := sb hb; clear hb ho10; refine hK.out _ _ trivial (fun hHeld => ?_); clear hK K; refine norm_ (a' := ?_) ?_ ?_; rotate_left
   ·show Act.put _ (some 17) _ = _
    simp only [pw]; rfl
   refine two_ (i := 2) (j := 8) (Ni := some 12) (Nj := some 18) #[I, I, I, I, I, I, I, I, O, O, O] #[I, I, O, I, I, I, I, I, I, O, O] rfl rfl rfl rfl (two_of HT_.out (by kernel_rfl)) (by decide) (by decide) (fun K hK => ?_) (fun K hK => ?_)
   ·skip
    refine goes_ Tryd.func12 (by kernel_rfl) rfl #[.int .i64 (wrap64 (Int.tdiv a0 10))] (by rfl) rfl rfl mq ?_; with_reducible refine (ih k (by omega) (wrap64 (Int.tdiv a0 10)) t125 _ A6.out).mono ?_
    rintro e w11 ⟨rfl, hb⟩; refine ⟨_, rfl, ?_⟩; replace HO128 := rb HO128 hb; replace HB := sb hb; (try clear hb); refine hK.out _ _ trivial (fun hHeld => ?_); clear hK K; refine norm_ (a' := ?_) ?_ ?_; rotate_left
    ·show Act.put _ (some 12) _ = _
     simp only [pw]; rfl
    refine one_ (i := 8) (N := some 18) #[I, I, I, I, I, I, I, I, I, O, O] rfl rfl (one_of HT_.out (by kernel_rfl)) (by decide) (fun K hK => ?_); have hcv12 := own_string (P := Tryd.prog) Tryd.underlying49 Tryd.underlying5 Tryd.underlying9 (Kd.own_of_R HO128.out); refine value_ (w1 := ?_) (v := ?_) (by rfl) rfl ?_ ?_; rotate_left 2
    ·go_simp
     constructor
     (rfl); rfl
    clear hcv12; refine hK.out _ _ trivial (fun hHeld => ?_); clear hK K; refine norm_ (a' := ?_) ?_ ?_; rotate_left
    ·show Act.put _ (some 18) _ = _
     simp only [pw]; rfl
    exact norm_ (by simp only [putAll, Act.put, List.setIfInBounds_toArray, List.set_cons_zero, List.set_cons_succ]) (hCont (v127) _ ⟨(rq HO128), bq⟩)
   skip
   have hcv11 := own_string (P := Tryd.prog) Tryd.underlying49 Tryd.underlying5 Tryd.underlying9 (Kd.own_of_R HO128.out); refine value_ (w1 := ?_) (v := ?_) (by rfl) rfl ?_ ?_; rotate_left 2
   ·go_simp
    constructor
    (rfl); rfl
   clear hcv11; refine hK.out _ _ trivial (fun hHeld => ?_); clear hK K; refine norm_ (a' := ?_) ?_ ?_; rotate_left
   ·show Act.put _ (some 18) _ = _
    simp only [pw]; rfl
   refine one_ (i := 2) (N := some 12) #[I, I, I, I, I, I, I, I, I, O, O] rfl rfl (one_of HT_.out (by kernel_rfl)) (by decide) (fun K hK => ?_); refine goes_ Tryd.func12 (by kernel_rfl) rfl #[.int .i64 (wrap64 (Int.tdiv a0 10))] (by rfl) rfl rfl mq ?_; with_reducible refine (ih k (by omega) (wrap64 (Int.tdiv a0 10)) t125 _ A6.out).mono ?_
   rintro e w12 ⟨rfl, hb⟩; refine ⟨_, rfl, ?_⟩; replace HO128 := rb HO128 hb; replace HB := sb hb; (try clear hb); refine hK.out _ _ trivial (fun hHeld => ?_); clear hK K; refine norm_ (a' := ?_) ?_ ?_; rotate_left
   ·show Act.put _ (some 12) _ = _
    simp only [pw]; rfl
   exact norm_ (by simp only [putAll, Act.put, List.setIfInBounds_toArray, List.set_cons_zero, List.set_cons_succ]) (hCont (v127) _ ⟨(rq HO128), bq⟩)
  rintro v127 w13 ⟨h0_, h1_⟩; have n0_ : Aside0 (Kd.R (Kd.int .u8) 5 w13 w.heap.size (fun _ => True) v127 y126) := ⟨h0_⟩; have n1_ : Aside0 (Below w.heap.size w w13) := ⟨h1_⟩; clear HB h0_ h1_; have HB := n1_; clear n0_ n1_; have hHeld := trivial; refine norm_ (a' := ?_) ?_ ?_; rotate_left; (simp only [putAll, Act.put, List.setIfInBounds_toArray, List.set_cons_zero, List.set_cons_succ]; rfl); refine pu_ 9 (some 19) ?_ #[I, I, I, I, I, I, I, I, I, I, O] rfl rfl (any_of HT_.out (by kernel_rfl)) (.inl ⟨by rfl, ?_⟩) ?_ ?_ ?_; rotate_left; (intro w'; go_simp; with_reducible rfl); rotate_left; (simp only [pw]; rfl); refine pu_ 10 (some 2) ?_ #[I, I, I, I, I, I, I, I, I, I, I] rfl rfl (any_of HT_.out (by kernel_rfl)) (.inl ⟨by rfl, ?_⟩) ?_ ?_ ?_; rotate_left; (intro w'; go_simp; with_reducible rfl); rotate_left; (simp only [pw]; rfl); refine done_ (done_of HT_.out (by kernel_rfl)) ?_; try go_wp2
  go_ret
  exact ⟨eq_, bq⟩
 rw [if_neg c7] at H; exact absurd H (by simp)



mutual
def spec_ShopText.l0 : Nat → ByteArray → List Int → Int → Int → List Int → List (S40) → Option (ByteArray × Bool)
 | 0, _, _, _, _, _, _ => none
 | k + 1, x4, x14, x15, x16, x3, x2 => if x16 < x15 then (if 0 ≤ x16 then (if x16 < (x14.length : Int) then (if x16 > 0 then (if x4.size + 1 ≤ 9223372036854775807 then ((spec_l1Num.f k (rd x14 x16)).bind fun t133 => (if (x4 ++ (⟨#[32]⟩ : ByteArray)).size + t133.size ≤ 9223372036854775807 then (spec_ShopText.l0 k ((x4 ++ (⟨#[32]⟩ : ByteArray)) ++ t133) x14 x15 (wrap64 (x16 + 1)) x3 x2) else (none))) else (none)) else ((spec_l1Num.f k (rd x14 x16)).bind fun t134 => (if x4.size + t134.size ≤ 9223372036854775807 then (spec_ShopText.l0 k (x4 ++ t134) x14 x15 (wrap64 (x16 + 1)) x3 x2) else (none)))) else (none)) else (none)) else (if x4.size + 1 ≤ 9223372036854775807 then (spec_ShopText.l1 k (x4 ++ (⟨#[10]⟩ : ByteArray)) x2 (x2.length : Int) 0) else (none))
def spec_ShopText.l1 : Nat → ByteArray → List (S40) → Int → Int → Option (ByteArray × Bool)
 | 0, _, _, _, _ => none
 | k + 1, x4, x33, x34, x35 => if x35 < x34 then (if 0 ≤ x35 then (if x35 < (x33.length : Int) then ((spec_l1Num.f k ((rd_T40 x33 x35).f0)).bind fun t137 => (if t137.size + 1 ≤ 9223372036854775807 then ((spec_l1Num.f k ((rd_T40 x33 x35).f1)).bind fun t138 => (if (t137 ++ (⟨#[32]⟩ : ByteArray)).size + t138.size ≤ 9223372036854775807 then (if ((t137 ++ (⟨#[32]⟩ : ByteArray)) ++ t138).size + 1 ≤ 9223372036854775807 then ((spec_l1Num.f k ((rd_T40 x33 x35).f2)).bind fun t139 => (if (((t137 ++ (⟨#[32]⟩ : ByteArray)) ++ t138) ++ (⟨#[32]⟩ : ByteArray)).size + t139.size ≤ 9223372036854775807 then (if ((((t137 ++ (⟨#[32]⟩ : ByteArray)) ++ t138) ++ (⟨#[32]⟩ : ByteArray)) ++ t139).size + 1 ≤ 9223372036854775807 then ((spec_l1Num.f k ((rd_T40 x33 x35).f3)).bind fun t140 => (if (((((t137 ++ (⟨#[32]⟩ : ByteArray)) ++ t138) ++ (⟨#[32]⟩ : ByteArray)) ++ t139) ++ (⟨#[32]⟩ : ByteArray)).size + t140.size ≤ 9223372036854775807 then (if ((((((t137 ++ (⟨#[32]⟩ : ByteArray)) ++ t138) ++ (⟨#[32]⟩ : ByteArray)) ++ t139) ++ (⟨#[32]⟩ : ByteArray)) ++ t140).size + 1 ≤ 9223372036854775807 then (if x4.size + (((((((t137 ++ (⟨#[32]⟩ : ByteArray)) ++ t138) ++ (⟨#[32]⟩ : ByteArray)) ++ t139) ++ (⟨#[32]⟩ : ByteArray)) ++ t140) ++ (⟨#[10]⟩ : ByteArray)).size ≤ 9223372036854775807 then (spec_ShopText.l1 k (x4 ++ (((((((t137 ++ (⟨#[32]⟩ : ByteArray)) ++ t138) ++ (⟨#[32]⟩ : ByteArray)) ++ t139) ++ (⟨#[32]⟩ : ByteArray)) ++ t140) ++ (⟨#[10]⟩ : ByteArray))) x33 x34 (wrap64 (x35 + 1))) else (none)) else (none)) else (none))) else (none)) else (none))) else (none)) else (none))) else (none))) else (none)) else (none)) else (some (x4, true))
end
def spec_ShopText.f (k : Nat) (l0_0 : List Int) (l0_1 : List (S40)) : Option (ByteArray × Bool) := (spec_psGood.f k l0_0 l0_1).bind fun t130 => (if t130 = true then (if 1 ≤ (l0_0.length : Int) then (spec_ShopText.l0 k (⟨#[]⟩ : ByteArray) (l0_0.drop 1) ((l0_0.drop 1).length : Int) 0 l0_0 l0_1) else (none)) else (some ((⟨#[]⟩ : ByteArray), false)))
def spec_ShopText.T15 : Bool × List (List Nat × List Nat) := (true, [([], []), ([], []), ([1], [1]), ([2], [2]), ([3], [3]), ([], []), ([5], [5]), ([6, 3], [6]), ([4, 7], [4, 7]), ([8], [8]), ([], []), ([10], [10]), ([11, 7], [11]), ([9, 12], [9, 12]), ([13], [13]), ([], []), ([15], [15]), ([16, 12], [16]), ([14, 17], [14, 17]), ([18], [18]), ([0, 19], [0, 19]), ([20, 17, 0, 1, 2, 3, 4, 5, 6, 7, 8, 9, 10, 11, 12, 13, 14, 15, 16, 17, 18, 19, 20], [0, 20])])
def spec_ShopText.B15 : List Nat := [0, 0, 2, 6, 14, 0, 32, 110, 254, 510, 0, 1024, 3310, 8190, 16382, 0, 32768, 105710, 262142, 524286, 1048575, 2097151]
theorem spec_ShopText.tab15 : rtab .any (opsOf Tryd.f5 15) = spec_ShopText.T15 := by kernel_rfl
theorem spec_ShopText.bits15 : waitsOk spec_ShopText.T15.2 spec_ShopText.B15 = true := by kernel_rfl
attribute [-simp] List.drop_one in
theorem spec_ShopText.calls (k : Nat) (A0_0 : Option Addr) (c0_0 : Nat) (l0_0 : List Int) (A0_1 : Option Addr) (c0_1 : Nat) (l0_1 : List (S40)) (r1 : ByteArray) (r2 : Bool) (w : World) (hr0_0 : Kd.C (Kd.int .i64) w A0_0 l0_0.length l0_0) (hc0_0 : l0_0.length ≤ c0_0) (hr0_1 : Kd.C k40 w A0_1 l0_1.length l0_1) (hc0_1 : l0_1.length ≤ c0_1) (h : spec_ShopText.f k l0_0 l0_1 = some (r1, r2)) :
  Calls Tryd.prog 5 #[.agg #[.slice A0_0 l0_0.length c0_0, .slice A0_1 l0_1.length c0_1]] w fun e w' => e = .returned (.tuple #[.string r1, .bool r2]) ∧ Below w.heap.size w w' := by
 have hu31 := Tryd.underlying31; have hu40 := Tryd.underlying40; have HR0_0 := am hr0_0; have HC0_0 := am hc0_0; clear hr0_0 hc0_0; have HR0_1 := am hr0_1; have HC0_1 := am hc0_1; clear hr0_1 hc0_1; have HB := am (Below.refl w.heap.size w); have H := h; clear h
 unfold spec_ShopText.f at H
 obtain ⟨t130, A2, H⟩ := bindq H; try dsimp only at H
 by_cases c3 : t130 = true
 ·subst c3; rw [if_pos rfl] at H; try dsimp only at H
  by_cases c4 : 1 ≤ (l0_0.length : Int)
  ·rw [if_pos c4] at H; have c4b0 := eq_true c4; have c4b1 : decide (1 ≤ (l0_0.length : Int)) = true := decide_eq_true c4; clear c4; have H' := am H; clear H
   go_enter Tryd.func5, Tryd.ntmps5
   go_wp2_with (first | ((with_reducible refine gate_dst (N := 1) rfl ?_); refine box_event ?hg (N := 1) ?hd (cs := #[.slice A0_0 l0_0.length c0_0, .slice A0_1 l0_1.length c0_1]) (t := 31) ?hr ?_; (case hd | hg => rfl); (case hr => go_simp; try rfl); intro gb129 hg w5 hbox hb; have BK129 := am (hbox); have GW129 := am (gq hg); have GE129 := am (gq hg); replace HB := sb hb; clear hb hbox hg; have ⟨b60, b61, d60, d61⟩ := bc2 BK129) | ((with_reducible refine gate_callee (f := 11) rfl ?_); refine goesL_ (some 10) rfl rfl Tryd.func11 (by kernel_rfl) rfl #[.agg #[.slice A0_0 l0_0.length c0_0, .slice A0_1 l0_1.length c0_1]] rfl mq ?_; (with_reducible refine (spec_psGood.calls k _ _ l0_0 _ _ l0_1 true _ ?s1 ?s2 ?s3 ?s4 A2.out).mono ?_); (case s1 => exact cq (Kd.C_below HR0_0.out HB.out)); (case s2 => exact HC0_0.out); (case s3 => exact cq (Kd.C_below HR0_1.out HB.out)); (case s4 => exact HC0_1.out); rintro e w7 ⟨rfl, hb⟩; refine ⟨_, rfl, ?_⟩; replace BK129 := zb BK129 hb; replace HB := sb hb; (try clear hb); have ⟨b80, b81, d80, d81⟩ := bc2 BK129; obtain ⟨i09, hi09, _, hsz9, _⟩ := info_parts info3; obtain ⟨A9, hcut9, hA9, hC9⟩ := print_drop_of (P := Tryd.prog) (Value.int .i64) 0 22 3 .i64 Tryd.underlying22 hi09 hsz9 A0_0 c0_0 l0_0 1 (by omega) (of_decide_eq_true aq) HC0_0.out; have HR131 := am (Kd.C_of_reads (h1 := fun _ => rfl) (hA9 _ (Kd.reads_of_C HR0_0.out))); have HC131 := am hC9; clear hA9 hC9 hi09 hsz9))
   go_loopg [4, 16] k (fun kq v4 v16 w' => ∃ (x4_1 : ByteArray) (x16_1 : Int), v4 = .string x4_1 ∧ v16 = .int .i64 x16_1 ∧ Aside0 (spec_ShopText.l0 kq x4_1 (l0_0.drop 1) ((l0_0.drop 1).length : Int) x16_1 l0_0 l0_1 = some (r1, r2)) ∧ Aside0 (kq ≤ k) ∧ Aside0 (w'.heap[gb129]? = some (.cells #[(.slice A0_0 l0_0.length c0_0), (.slice A0_1 l0_1.length c0_1)] 31 (0, 0))) ∧ Aside0 (Below w.heap.size w w'))
   case atStart => exact ⟨((⟨#[]⟩ : ByteArray)), (0), sq, sq, H', ⟨Nat.le_refl _⟩, ⟨zq BK129⟩, ⟨bq⟩⟩
   case round =>
    clear H'; try clear c3
    try clear c4b0
    try clear c4b1
    try clear b60 b61 d60 d61
    try clear b80 b81 d80 d81
    obtain ⟨x4_1, x16_1, rfl, rfl, HA, HK1, BK129, HB⟩ := hrel
    cases gk with
    | zero => exact absurd HA.out (by simp [spec_ShopText.l0])
    | succ k1 =>
     have H := HA.out; clear HA; simp only [spec_ShopText.l0] at H; by_cases c10 : x16_1 < ((l0_0.drop 1).length : Int)
     ·rw [if_pos c10] at H; have c10b0 : decide (x16_1 < ((l0_0.drop 1).length : Int)) = true := decide_eq_true c10; have c10b8 : decide (x16_1 < ((l0_0.length - 1 : Nat) : Int)) = true := by have h_ := c10b0; rw [List.length_drop] at h_; exact h_
      clear c10; by_cases c11 : 0 ≤ x16_1
      ·rw [if_pos c11] at H; have c11b0 : decide (0 ≤ x16_1) = true := decide_eq_true c11; clear c11; by_cases c12 : x16_1 < ((l0_0.drop 1).length : Int)
       ·rw [if_pos c12] at H; have c12b0 : decide (x16_1 < ((l0_0.drop 1).length : Int)) = true := decide_eq_true c12; have c12b8 : decide (x16_1 < ((l0_0.length - 1 : Nat) : Int)) = true := by have h_ := c12b0; rw [List.length_drop] at h_; exact h_
        clear c12; by_cases c13 : x16_1 > 0
        ·rw [if_pos c13] at H; have c13b0 : decide (0 < x16_1) = true := decide_eq_true c13; clear c13; by_cases c14 : x4_1.size + 1 ≤ 9223372036854775807
         ·rw [if_pos c14] at H; have c14b0 := eq_true c14; have c14b1 : decide (x4_1.size + 1 ≤ 9223372036854775807) = true := decide_eq_true c14; try have c14b2 : (9223372036854775807 < x4_1.size + 1) = False := eq_false (Nat.not_lt.2 c14)
          obtain ⟨t133, A15, H⟩ := bindq H; try dsimp only at H
          by_cases c16 : (x4_1 ++ (⟨#[32]⟩ : ByteArray)).size + t133.size ≤ 9223372036854775807
          ·rw [if_pos c16] at H; have c16b0 := eq_true c16; have c16b1 : decide ((x4_1 ++ (⟨#[32]⟩ : ByteArray)).size + t133.size ≤ 9223372036854775807) = true := decide_eq_true c16; try have c16b2 : (9223372036854775807 < (x4_1 ++ (⟨#[32]⟩ : ByteArray)).size + t133.size) = False := eq_false (Nat.not_lt.2 c16)
           have c16b9 : (9223372036854775807 < x4_1.size + 1 + t133.size) = False := eq_false (Nat.not_lt.2 (by have h_ := c16; simp only [ByteArray.size_append] at h_; exact h_)); have H' := am H; clear H; have p132 : 0 ≤ (x16_1 : Int) := of_decide_eq_true aq; have q132 : x16_1 < ((l0_0.drop 1).length : Int) := of_decide_eq_true aq; obtain ⟨ad132, e132, hx132_0⟩ := Kd.at_int HR131.out x16_1 p132 q132
           cases e132
           replace hx132_0 := (HB.out.cell (World.block_lt_of_cell? w _ hx132_0)).trans hx132_0; replace p132 := eq_true p132; replace q132 := eq_true q132; have q132d : (x16_1 < ((l0_0.length - 1 : Nat) : Int)) = True := by have h_ := q132; rw [List.length_drop] at h_; exact h_
           go_wp2_with (first | ((with_reducible refine gate_callee (f := 12) rfl ?_); refine goesL_ (some 27) rfl rfl Tryd.func12 (by kernel_rfl) rfl #[.int .i64 (rd (l0_0.drop 1) x16_1)] rfl mq ?_; (with_reducible refine (spec_l1Num.calls k1 (rd (l0_0.drop 1) x16_1) t133 _ A15.out).mono ?_); rintro e w17 ⟨rfl, hb⟩; refine ⟨_, rfl, ?_⟩; replace BK129 := zb BK129 hb; replace HB := sb hb; (try clear hb)))
           go_roundg k1
           case measure => have := HK1.out; omega
           case rel => exact ⟨((x4_1 ++ (⟨#[32]⟩ : ByteArray)) ++ t133), (wrap64 (x16_1 + 1)), sq, sq, H', ⟨by have := HK1.out; omega⟩, ⟨zq BK129⟩, ⟨bq⟩⟩
          rw [if_neg c16] at H; exact absurd H (by simp)
         rw [if_neg c14] at H; exact absurd H (by simp)
        rw [if_neg c13] at H; have c13b0 : decide (0 < x16_1) = false := decide_eq_false c13; clear c13; obtain ⟨t134, A18, H⟩ := bindq H; try dsimp only at H
        by_cases c19 : x4_1.size + t134.size ≤ 9223372036854775807
        ·rw [if_pos c19] at H; have c19b0 := eq_true c19; have c19b1 : decide (x4_1.size + t134.size ≤ 9223372036854775807) = true := decide_eq_true c19; try have c19b2 : (9223372036854775807 < x4_1.size + t134.size) = False := eq_false (Nat.not_lt.2 c19)
         have H' := am H; clear H; have p132 : 0 ≤ (x16_1 : Int) := of_decide_eq_true aq; have q132 : x16_1 < ((l0_0.drop 1).length : Int) := of_decide_eq_true aq; obtain ⟨ad132, e132, hx132_0⟩ := Kd.at_int HR131.out x16_1 p132 q132
         cases e132
         replace hx132_0 := (HB.out.cell (World.block_lt_of_cell? w _ hx132_0)).trans hx132_0; replace p132 := eq_true p132; replace q132 := eq_true q132; have q132d : (x16_1 < ((l0_0.length - 1 : Nat) : Int)) = True := by have h_ := q132; rw [List.length_drop] at h_; exact h_
         go_wp2_with (first | ((with_reducible refine gate_callee (f := 12) rfl ?_); refine goesL_ (some 27) rfl rfl Tryd.func12 (by kernel_rfl) rfl #[.int .i64 (rd (l0_0.drop 1) x16_1)] rfl mq ?_; (with_reducible refine (spec_l1Num.calls k1 (rd (l0_0.drop 1) x16_1) t134 _ A18.out).mono ?_); rintro e w20 ⟨rfl, hb⟩; refine ⟨_, rfl, ?_⟩; replace BK129 := zb BK129 hb; replace HB := sb hb; (try clear hb)))
         go_roundg k1
         case measure => have := HK1.out; omega
         case rel => exact ⟨(x4_1 ++ t134), (wrap64 (x16_1 + 1)), sq, sq, H', ⟨by have := HK1.out; omega⟩, ⟨zq BK129⟩, ⟨bq⟩⟩
        rw [if_neg c19] at H; exact absurd H (by simp)
       rw [if_neg c12] at H; exact absurd H (by simp)
      rw [if_neg c11] at H; exact absurd H (by simp)
     rw [if_neg c10] at H; have c10b0 : decide (x16_1 < ((l0_0.drop 1).length : Int)) = false := decide_eq_false c10; have c10b8 : decide (x16_1 < ((l0_0.length - 1 : Nat) : Int)) = false := by have h_ := c10b0; rw [List.length_drop] at h_; exact h_
     clear c10; by_cases c21 : x4_1.size + 1 ≤ 9223372036854775807
     ·rw [if_pos c21] at H; have c21b0 := eq_true c21; have c21b1 : decide (x4_1.size + 1 ≤ 9223372036854775807) = true := decide_eq_true c21; try have c21b2 : (9223372036854775807 < x4_1.size + 1) = False := eq_false (Nat.not_lt.2 c21)
      have H' := am H; clear H; have ⟨b220, b221, d220, d221⟩ := bc2 BK129
      go_wp2
      go_loopg [4, 35] k1 (fun kq v4 v35 w' => ∃ (x4_2 : ByteArray) (x35_2 : Int), v4 = .string x4_2 ∧ v35 = .int .i64 x35_2 ∧ Aside0 (spec_ShopText.l1 kq x4_2 l0_1 (l0_1.length : Int) x35_2 = some (r1, r2)) ∧ Aside0 (kq ≤ k1) ∧ Aside0 (w'.heap[gb129]? = some (.cells #[(.slice A0_0 l0_0.length c0_0), (.slice A0_1 l0_1.length c0_1)] 31 (0, 0))) ∧ Aside0 (Below w.heap.size w w'))
      case atStart => exact ⟨(x4_1 ++ (⟨#[10]⟩ : ByteArray)), (0), sq, sq, H', ⟨Nat.le_refl _⟩, ⟨zq BK129⟩, ⟨bq⟩⟩
      case round =>
       clear H'; try clear c3
       try clear c4b0
       try clear c4b1
       try clear c10b0
       try clear c11b0
       try clear c12b0
       try clear c13b0
       try clear c14
       try clear c14b0
       try clear c14b1
       try clear c14b2
       try clear c16
       try clear c16b0
       try clear c16b1
       try clear c16b2
       try clear c19
       try clear c19b0
       try clear c19b1
       try clear c19b2
       try clear c21
       try clear c21b0
       try clear c21b1
       try clear c21b2
       try clear b220 b221 d220 d221
       try clear b60 b61 d60 d61
       try clear b80 b81 d80 d81
       try clear hx132_0
       try clear p132
       try clear q132
       obtain ⟨x4_2, x35_2, rfl, rfl, HA, HK2, BK129, HB⟩ := hrel
       cases gk with
       | zero => exact absurd HA.out (by simp [spec_ShopText.l1])
       | succ k2 =>
        have H := HA.out; clear HA; simp only [spec_ShopText.l1] at H; by_cases c23 : x35_2 < (l0_1.length : Int)
        ·rw [if_pos c23] at H; have c23b0 : decide (x35_2 < (l0_1.length : Int)) = true := decide_eq_true c23; clear c23; by_cases c24 : 0 ≤ x35_2
         ·rw [if_pos c24] at H; have c24b0 : decide (0 ≤ x35_2) = true := decide_eq_true c24; clear c24; by_cases c25 : x35_2 < (l0_1.length : Int)
          ·rw [if_pos c25] at H; have c25b0 : decide (x35_2 < (l0_1.length : Int)) = true := decide_eq_true c25; clear c25; obtain ⟨t137, A26, H⟩ := bindq H; try dsimp only at H
           by_cases c27 : t137.size + 1 ≤ 9223372036854775807
           ·rw [if_pos c27] at H; have c27b0 := eq_true c27; have c27b1 : decide (t137.size + 1 ≤ 9223372036854775807) = true := decide_eq_true c27; try have c27b2 : (9223372036854775807 < t137.size + 1) = False := eq_false (Nat.not_lt.2 c27)
            obtain ⟨t138, A28, H⟩ := bindq H; try dsimp only at H
            by_cases c29 : (t137 ++ (⟨#[32]⟩ : ByteArray)).size + t138.size ≤ 9223372036854775807
            ·rw [if_pos c29] at H; have c29b0 := eq_true c29; have c29b1 : decide ((t137 ++ (⟨#[32]⟩ : ByteArray)).size + t138.size ≤ 9223372036854775807) = true := decide_eq_true c29; try have c29b2 : (9223372036854775807 < (t137 ++ (⟨#[32]⟩ : ByteArray)).size + t138.size) = False := eq_false (Nat.not_lt.2 c29)
             have c29b9 : (9223372036854775807 < t137.size + 1 + t138.size) = False := eq_false (Nat.not_lt.2 (by have h_ := c29; simp only [ByteArray.size_append] at h_; exact h_)); by_cases c30 : ((t137 ++ (⟨#[32]⟩ : ByteArray)) ++ t138).size + 1 ≤ 9223372036854775807
             ·rw [if_pos c30] at H; have c30b0 := eq_true c30; have c30b1 : decide (((t137 ++ (⟨#[32]⟩ : ByteArray)) ++ t138).size + 1 ≤ 9223372036854775807) = true := decide_eq_true c30; try have c30b2 : (9223372036854775807 < ((t137 ++ (⟨#[32]⟩ : ByteArray)) ++ t138).size + 1) = False := eq_false (Nat.not_lt.2 c30)
              have c30b9 : (9223372036854775807 < t137.size + 1 + t138.size + 1) = False := eq_false (Nat.not_lt.2 (by have h_ := c30; simp only [ByteArray.size_append] at h_; exact h_)); obtain ⟨t139, A31, H⟩ := bindq H; try dsimp only at H
              by_cases c32 : (((t137 ++ (⟨#[32]⟩ : ByteArray)) ++ t138) ++ (⟨#[32]⟩ : ByteArray)).size + t139.size ≤ 9223372036854775807
              ·rw [if_pos c32] at H; have c32b0 := eq_true c32; have c32b1 : decide ((((t137 ++ (⟨#[32]⟩ : ByteArray)) ++ t138) ++ (⟨#[32]⟩ : ByteArray)).size + t139.size ≤ 9223372036854775807) = true := decide_eq_true c32; try have c32b2 : (9223372036854775807 < (((t137 ++ (⟨#[32]⟩ : ByteArray)) ++ t138) ++ (⟨#[32]⟩ : ByteArray)).size + t139.size) = False := eq_false (Nat.not_lt.2 c32)
               have c32b9 : (9223372036854775807 < t137.size + 1 + t138.size + 1 + t139.size) = False := eq_false (Nat.not_lt.2 (by have h_ := c32; simp only [ByteArray.size_append] at h_; exact h_)); by_cases c33 : ((((t137 ++ (⟨#[32]⟩ : ByteArray)) ++ t138) ++ (⟨#[32]⟩ : ByteArray)) ++ t139).size + 1 ≤ 9223372036854775807
               ·rw [if_pos c33] at H; have c33b0 := eq_true c33; have c33b1 : decide (((((t137 ++ (⟨#[32]⟩ : ByteArray)) ++ t138) ++ (⟨#[32]⟩ : ByteArray)) ++ t139).size + 1 ≤ 9223372036854775807) = true := decide_eq_true c33; try have c33b2 : (9223372036854775807 < ((((t137 ++ (⟨#[32]⟩ : ByteArray)) ++ t138) ++ (⟨#[32]⟩ : ByteArray)) ++ t139).size + 1) = False := eq_false (Nat.not_lt.2 c33)
                have c33b9 : (9223372036854775807 < t137.size + 1 + t138.size + 1 + t139.size + 1) = False := eq_false (Nat.not_lt.2 (by have h_ := c33; simp only [ByteArray.size_append] at h_; exact h_)); obtain ⟨t140, A34, H⟩ := bindq H; try dsimp only at H
                by_cases c35 : (((((t137 ++ (⟨#[32]⟩ : ByteArray)) ++ t138) ++ (⟨#[32]⟩ : ByteArray)) ++ t139) ++ (⟨#[32]⟩ : ByteArray)).size + t140.size ≤ 9223372036854775807
                ·rw [if_pos c35] at H; have c35b0 := eq_true c35; have c35b1 : decide ((((((t137 ++ (⟨#[32]⟩ : ByteArray)) ++ t138) ++ (⟨#[32]⟩ : ByteArray)) ++ t139) ++ (⟨#[32]⟩ : ByteArray)).size + t140.size ≤ 9223372036854775807) = true := decide_eq_true c35; try have c35b2 : (9223372036854775807 < (((((t137 ++ (⟨#[32]⟩ : ByteArray)) ++ t138) ++ (⟨#[32]⟩ : ByteArray)) ++ t139) ++ (⟨#[32]⟩ : ByteArray)).size + t140.size) = False := eq_false (Nat.not_lt.2 c35)
                 have c35b9 : (9223372036854775807 < t137.size + 1 + t138.size + 1 + t139.size + 1 + t140.size) = False := eq_false (Nat.not_lt.2 (by have h_ := c35; simp only [ByteArray.size_append] at h_; exact h_)); by_cases c36 : ((((((t137 ++ (⟨#[32]⟩ : ByteArray)) ++ t138) ++ (⟨#[32]⟩ : ByteArray)) ++ t139) ++ (⟨#[32]⟩ : ByteArray)) ++ t140).size + 1 ≤ 9223372036854775807
                 ·rw [if_pos c36] at H; have c36b0 := eq_true c36; have c36b1 : decide (((((((t137 ++ (⟨#[32]⟩ : ByteArray)) ++ t138) ++ (⟨#[32]⟩ : ByteArray)) ++ t139) ++ (⟨#[32]⟩ : ByteArray)) ++ t140).size + 1 ≤ 9223372036854775807) = true := decide_eq_true c36; try have c36b2 : (9223372036854775807 < ((((((t137 ++ (⟨#[32]⟩ : ByteArray)) ++ t138) ++ (⟨#[32]⟩ : ByteArray)) ++ t139) ++ (⟨#[32]⟩ : ByteArray)) ++ t140).size + 1) = False := eq_false (Nat.not_lt.2 c36)
                  have c36b9 : (9223372036854775807 < t137.size + 1 + t138.size + 1 + t139.size + 1 + t140.size + 1) = False := eq_false (Nat.not_lt.2 (by have h_ := c36; simp only [ByteArray.size_append] at h_; exact h_)); by_cases c37 : x4_2.size + (((((((t137 ++ (⟨#[32]⟩ : ByteArray)) ++ t138) ++ (⟨#[32]⟩ : ByteArray)) ++ t139) ++ (⟨#[32]⟩ : ByteArray)) ++ t140) ++ (⟨#[10]⟩ : ByteArray)).size ≤ 9223372036854775807
                  ·rw [if_pos c37] at H; have c37b0 := eq_true c37; have c37b1 : decide (x4_2.size + (((((((t137 ++ (⟨#[32]⟩ : ByteArray)) ++ t138) ++ (⟨#[32]⟩ : ByteArray)) ++ t139) ++ (⟨#[32]⟩ : ByteArray)) ++ t140) ++ (⟨#[10]⟩ : ByteArray)).size ≤ 9223372036854775807) = true := decide_eq_true c37; try have c37b2 : (9223372036854775807 < x4_2.size + (((((((t137 ++ (⟨#[32]⟩ : ByteArray)) ++ t138) ++ (⟨#[32]⟩ : ByteArray)) ++ t139) ++ (⟨#[32]⟩ : ByteArray)) ++ t140) ++ (⟨#[10]⟩ : ByteArray)).size) = False := eq_false (Nat.not_lt.2 c37)
                   have c37b9 : (9223372036854775807 < x4_2.size + (t137.size + 1 + t138.size + 1 + t139.size + 1 + t140.size + 1)) = False := eq_false (Nat.not_lt.2 (by have h_ := c37; simp only [ByteArray.size_append] at h_; exact h_)); have H' := am H; clear H; have p135 : 0 ≤ (x35_2 : Int) := of_decide_eq_true aq; have q135 : x35_2 < (l0_1.length : Int) := of_decide_eq_true aq; obtain ⟨ad135, e135, hx135_0, hx135_1, hx135_2, hx135_3⟩ := at_T40 HR0_1.out x35_2 p135 q135
                   cases e135
                   replace hx135_0 := (HB.out.cell (World.block_lt_of_cell? w _ hx135_0)).trans hx135_0; replace hx135_1 := (HB.out.cell (World.block_lt_of_cell? w _ hx135_1)).trans hx135_1; replace hx135_2 := (HB.out.cell (World.block_lt_of_cell? w _ hx135_2)).trans hx135_2; replace hx135_3 := (HB.out.cell (World.block_lt_of_cell? w _ hx135_3)).trans hx135_3; replace p135 := eq_true p135; replace q135 := eq_true q135; try go_wp2_with (first | ((with_reducible refine gate_dst (N := 8) rfl ?_); refine box_event ?hg (N := 8) ?hd (cs := #[.int .i64 0, .int .i64 0, .int .i64 0, .int .i64 0]) (t := 40) ?hr ?_; (case hd | hg => rfl); (case hr => go_simp; try rfl); intro gb136 hg w38 hbox hb; have BK136 := am (hbox); have GW136 := am (gq hg); have GE136 := am (gq hg); replace HB := sb hb; have ⟨NB129_136, NB136_129⟩ := nn hg BK129; replace BK129 := zb BK129 hb; clear hb hbox hg; have hnb39 := NB136_129.out; have hnc39 := NB129_136.out; have ⟨b400, b401, b402, b403, d400, d401, d402, d403⟩ := bc4 BK136))
                   have n0_ : Aside0 (((((w38.setCell ⟨gb136, 0, none⟩ (.int .i64 ((rd_T40 l0_1 x35_2).f0))).setCell ⟨gb136, 1, none⟩ (.int .i64 ((rd_T40 l0_1 x35_2).f1))).setCell ⟨gb136, 2, none⟩ (.int .i64 ((rd_T40 l0_1 x35_2).f2))).setCell ⟨gb136, 3, none⟩ (.int .i64 ((rd_T40 l0_1 x35_2).f3))).heap[gb129]? = some (.cells #[.slice A0_0 l0_0.length c0_0, .slice (some ad135) l0_1.length c0_1] 31 (0, 0))) := ⟨zp BK129⟩; have n1_ : Aside0 (((((w38.setCell ⟨gb136, 0, none⟩ (.int .i64 ((rd_T40 l0_1 x35_2).f0))).setCell ⟨gb136, 1, none⟩ (.int .i64 ((rd_T40 l0_1 x35_2).f1))).setCell ⟨gb136, 2, none⟩ (.int .i64 ((rd_T40 l0_1 x35_2).f2))).setCell ⟨gb136, 3, none⟩ (.int .i64 ((rd_T40 l0_1 x35_2).f3))).heap[gb136]? = some (.cells #[.int .i64 ((rd_T40 l0_1 x35_2).f0), .int .i64 ((rd_T40 l0_1 x35_2).f1), .int .i64 ((rd_T40 l0_1 x35_2).f2), .int .i64 ((rd_T40 l0_1 x35_2).f3)] 40 (0, 0))) := ⟨zp BK136⟩; have n2_ : Aside0 (Below w.heap.size w ((((w38.setCell ⟨gb136, 0, none⟩ (.int .i64 ((rd_T40 l0_1 x35_2).f0))).setCell ⟨gb136, 1, none⟩ (.int .i64 ((rd_T40 l0_1 x35_2).f1))).setCell ⟨gb136, 2, none⟩ (.int .i64 ((rd_T40 l0_1 x35_2).f2))).setCell ⟨gb136, 3, none⟩ (.int .i64 ((rd_T40 l0_1 x35_2).f3)))) := ⟨bq⟩; (try clear BK129); (try clear BK136); (try clear HB); generalize ((((w38.setCell ⟨gb136, 0, none⟩ (.int .i64 ((rd_T40 l0_1 x35_2).f0))).setCell ⟨gb136, 1, none⟩ (.int .i64 ((rd_T40 l0_1 x35_2).f1))).setCell ⟨gb136, 2, none⟩ (.int .i64 ((rd_T40 l0_1 x35_2).f2))).setCell ⟨gb136, 3, none⟩ (.int .i64 ((rd_T40 l0_1 x35_2).f3))) = w41 at n0_ n1_ n2_ ⊢; have BK129 := n0_; have BK136 := n1_; have HB := n2_; clear n0_ n1_ n2_; replace BK129 := am (blk_drew BK129.out); replace BK136 := am (blk_drew BK136.out); replace HB := am (below_drew1 HB.out); refine start_ (n := 22) (S := fun w' => w'.cell? ⟨gb136, 0, none⟩ = some (.int .i64 ((rd_T40 l0_1 x35_2).f0)) ∧ w'.cell? ⟨gb136, 1, none⟩ = some (.int .i64 ((rd_T40 l0_1 x35_2).f1)) ∧ w'.cell? ⟨gb136, 2, none⟩ = some (.int .i64 ((rd_T40 l0_1 x35_2).f2)) ∧ w'.cell? ⟨gb136, 3, none⟩ = some (.int .i64 ((rd_T40 l0_1 x35_2).f3))) (ds := []) #[O, O, O, O, O, O, O, O, O, O, O, O, O, O, O, O, O, O, O, O, O, O] (by kernel_rfl) rfl rfl cl (fun hHeld => ?_); refine with_tabW spec_ShopText.tab15 spec_ShopText.bits15 (fun HT_ HW_ => ?_); generalize w41.drew = w42 at BK129 BK136 HB hHeld ⊢; refine pu_ 0 (some 39) ?_ #[I, O, O, O, O, O, O, O, O, O, O, O, O, O, O, O, O, O, O, O, O, O] rfl rfl (any_of HT_.out (by kernel_rfl)) (.inl ⟨by rfl, ?_⟩) ?_ ?_ ?_; rotate_left; (intro w'; go_simp; with_reducible rfl); rotate_left; (simp only [pw]; rfl); refine pu_ 1 (some 40) ?_ #[I, I, O, O, O, O, O, O, O, O, O, O, O, O, O, O, O, O, O, O, O, O] rfl rfl (any_of HT_.out (by kernel_rfl)) (.inl ⟨by rfl, ?_⟩) ?_ ?_ ?_; rotate_left; (intro w'; go_simp; with_reducible rfl); rotate_left; (simp only [pw]; rfl); refine pu_ 5 (some 44) ?_ #[I, I, O, O, O, I, O, O, O, O, O, O, O, O, O, O, O, O, O, O, O, O] rfl rfl (any_of HT_.out (by kernel_rfl)) (.inl ⟨by rfl, ?_⟩) ?_ ?_ ?_; rotate_left; (intro w'; go_simp; with_reducible rfl); rotate_left; (simp only [pw]; rfl); refine pu_ 10 (some 49) ?_ #[I, I, O, O, O, I, O, O, O, O, I, O, O, O, O, O, O, O, O, O, O, O] rfl rfl (any_of HT_.out (by kernel_rfl)) (.inl ⟨by rfl, ?_⟩) ?_ ?_ ?_; rotate_left; (intro w'; go_simp; with_reducible rfl); rotate_left; (simp only [pw]; rfl); refine pu_ 15 (some 54) ?_ #[I, I, O, O, O, I, O, O, O, O, I, O, O, O, O, I, O, O, O, O, O, O] rfl rfl (any_of HT_.out (by kernel_rfl)) (.inl ⟨by rfl, ?_⟩) ?_ ?_ ?_; rotate_left; (intro w'; go_simp; with_reducible rfl); rotate_left; (simp only [pw]; rfl); refine tk_ 2 (some 41) ?_ #[I, I, I, O, O, I, O, O, O, O, I, O, O, O, O, I, O, O, O, O, O, O] rfl rfl (take_ofW HT_.out HW_.out (by kernel_rfl)) (.inl ⟨by rfl, ?_⟩) hHeld ?_ ?_ ?_; rotate_left; (rintro w' ⟨s0, s1, s2, s3⟩; go_simp; with_reducible rfl); rotate_left; (simp only [pw]; rfl); refine tk_ 6 (some 45) ?_ #[I, I, I, O, O, I, I, O, O, O, I, O, O, O, O, I, O, O, O, O, O, O] rfl rfl (take_ofW HT_.out HW_.out (by kernel_rfl)) (.inl ⟨by rfl, ?_⟩) hHeld ?_ ?_ ?_; rotate_left; (rintro w' ⟨s0, s1, s2, s3⟩; go_simp; with_reducible rfl); rotate_left; (simp only [pw]; rfl); refine tk_ 11 (some 50) ?_ #[I, I, I, O, O, I, I, O, O, O, I, I, O, O, O, I, O, O, O, O, O, O] rfl rfl (take_ofW HT_.out HW_.out (by kernel_rfl)) (.inl ⟨by rfl, ?_⟩) hHeld ?_ ?_ ?_; rotate_left; (rintro w' ⟨s0, s1, s2, s3⟩; go_simp; with_reducible rfl); rotate_left; (simp only [pw]; rfl); refine tk_ 16 (some 55) ?_ #[I, I, I, O, O, I, I, O, O, O, I, I, O, O, O, I, I, O, O, O, O, O] rfl rfl (take_ofW HT_.out HW_.out (by kernel_rfl)) (.inl ⟨by rfl, ?_⟩) hHeld ?_ ?_ ?_; rotate_left; (rintro w' ⟨s0, s1, s2, s3⟩; go_simp; with_reducible rfl); rotate_left; (simp only [pw]; rfl); refine one_ (i := 3) (N := some 42) #[I, I, I, I, O, I, I, O, O, O, I, I, O, O, O, I, I, O, O, O, O, O] rfl rfl (one_of HT_.out (by kernel_rfl)) (by decide) (fun K hK => ?_); refine goes_ Tryd.func12 (by kernel_rfl) rfl #[.int .i64 ((rd_T40 l0_1 x35_2).f0)] (by rfl) rfl rfl mq ?_; with_reducible refine (spec_l1Num.calls k2 ((rd_T40 l0_1 x35_2).f0) t137 _ A26.out).mono ?_
                   rintro e w43 ⟨rfl, hb⟩; refine ⟨_, rfl, ?_⟩; replace BK129 := zb BK129 hb; replace BK136 := zb BK136 hb; replace HB := sb hb; (try clear hb); refine hK.out _ _ cl (fun hHeld => ?_); clear hK K; refine norm_ (a' := ?_) ?_ ?_; rotate_left
                   ·show Act.put _ (some 42) _ = _
                    simp only [pw]; rfl
                   refine pu_ 4 (some 43) ?_ #[I, I, I, I, I, I, I, O, O, O, I, I, O, O, O, I, I, O, O, O, O, O] rfl rfl (any_of HT_.out (by kernel_rfl)) (.inl ⟨by rfl, ?_⟩) ?_ ?_ ?_; rotate_left; (intro w'; go_simp; with_reducible rfl); rotate_left; (simp only [pw]; rfl); refine one_ (i := 7) (N := some 46) #[I, I, I, I, I, I, I, I, O, O, I, I, O, O, O, I, I, O, O, O, O, O] rfl rfl (one_of HT_.out (by kernel_rfl)) (by decide) (fun K hK => ?_); refine goes_ Tryd.func12 (by kernel_rfl) rfl #[.int .i64 ((rd_T40 l0_1 x35_2).f1)] (by rfl) rfl rfl mq ?_; with_reducible refine (spec_l1Num.calls k2 ((rd_T40 l0_1 x35_2).f1) t138 _ A28.out).mono ?_
                   rintro e w44 ⟨rfl, hb⟩; refine ⟨_, rfl, ?_⟩; replace BK129 := zb BK129 hb; replace BK136 := zb BK136 hb; replace HB := sb hb; (try clear hb); refine hK.out _ _ cl (fun hHeld => ?_); clear hK K; refine norm_ (a' := ?_) ?_ ?_; rotate_left
                   ·show Act.put _ (some 46) _ = _
                    simp only [pw]; rfl
                   refine pu_ 8 (some 47) ?_ #[I, I, I, I, I, I, I, I, I, O, I, I, O, O, O, I, I, O, O, O, O, O] rfl rfl (any_of HT_.out (by kernel_rfl)) (.inl ⟨by rfl, ?_⟩) ?_ ?_ ?_; rotate_left; (intro w'; go_simp; with_reducible rfl); rotate_left; (simp only [pw]; rfl); refine pu_ 9 (some 48) ?_ #[I, I, I, I, I, I, I, I, I, I, I, I, O, O, O, I, I, O, O, O, O, O] rfl rfl (any_of HT_.out (by kernel_rfl)) (.inl ⟨by rfl, ?_⟩) ?_ ?_ ?_; rotate_left; (intro w'; go_simp; with_reducible rfl); rotate_left; (simp only [pw]; rfl); refine one_ (i := 12) (N := some 51) #[I, I, I, I, I, I, I, I, I, I, I, I, I, O, O, I, I, O, O, O, O, O] rfl rfl (one_of HT_.out (by kernel_rfl)) (by decide) (fun K hK => ?_); refine goes_ Tryd.func12 (by kernel_rfl) rfl #[.int .i64 ((rd_T40 l0_1 x35_2).f2)] (by rfl) rfl rfl mq ?_; with_reducible refine (spec_l1Num.calls k2 ((rd_T40 l0_1 x35_2).f2) t139 _ A31.out).mono ?_
                   rintro e w45 ⟨rfl, hb⟩; refine ⟨_, rfl, ?_⟩; replace BK129 := zb BK129 hb; replace BK136 := zb BK136 hb; replace HB := sb hb; (try clear hb); refine hK.out _ _ cl (fun hHeld => ?_); clear hK K; refine norm_ (a' := ?_) ?_ ?_; rotate_left
                   ·show Act.put _ (some 51) _ = _
                    simp only [pw]; rfl
                   refine pu_ 13 (some 52) ?_ #[I, I, I, I, I, I, I, I, I, I, I, I, I, I, O, I, I, O, O, O, O, O] rfl rfl (any_of HT_.out (by kernel_rfl)) (.inl ⟨by rfl, ?_⟩) ?_ ?_ ?_; rotate_left; (intro w'; go_simp; with_reducible rfl); rotate_left; (simp only [pw]; rfl); refine pu_ 14 (some 53) ?_ #[I, I, I, I, I, I, I, I, I, I, I, I, I, I, I, I, I, O, O, O, O, O] rfl rfl (any_of HT_.out (by kernel_rfl)) (.inl ⟨by rfl, ?_⟩) ?_ ?_ ?_; rotate_left; (intro w'; go_simp; with_reducible rfl); rotate_left; (simp only [pw]; rfl); refine one_ (i := 17) (N := some 56) #[I, I, I, I, I, I, I, I, I, I, I, I, I, I, I, I, I, I, O, O, O, O] rfl rfl (one_of HT_.out (by kernel_rfl)) (by decide) (fun K hK => ?_); refine goes_ Tryd.func12 (by kernel_rfl) rfl #[.int .i64 ((rd_T40 l0_1 x35_2).f3)] (by rfl) rfl rfl mq ?_; with_reducible refine (spec_l1Num.calls k2 ((rd_T40 l0_1 x35_2).f3) t140 _ A34.out).mono ?_
                   rintro e w46 ⟨rfl, hb⟩; refine ⟨_, rfl, ?_⟩; replace BK129 := zb BK129 hb; replace BK136 := zb BK136 hb; replace HB := sb hb; (try clear hb); refine hK.out _ _ cl (fun hHeld => ?_); clear hK K; refine norm_ (a' := ?_) ?_ ?_; rotate_left
                   ·show Act.put _ (some 56) _ = _
                    simp only [pw]; rfl
                   refine pu_ 18 (some 57) ?_ #[I, I, I, I, I, I, I, I, I, I, I, I, I, I, I, I, I, I, I, O, O, O] rfl rfl (any_of HT_.out (by kernel_rfl)) (.inl ⟨by rfl, ?_⟩) ?_ ?_ ?_; rotate_left; (intro w'; go_simp; with_reducible rfl); rotate_left; (simp only [pw]; rfl); refine pu_ 19 (some 58) ?_ #[I, I, I, I, I, I, I, I, I, I, I, I, I, I, I, I, I, I, I, I, O, O] rfl rfl (any_of HT_.out (by kernel_rfl)) (.inl ⟨by rfl, ?_⟩) ?_ ?_ ?_; rotate_left; (intro w'; go_simp; with_reducible rfl); rotate_left; (simp only [pw]; rfl); refine pu_ 20 (some 59) ?_ #[I, I, I, I, I, I, I, I, I, I, I, I, I, I, I, I, I, I, I, I, I, O] rfl rfl (any_of HT_.out (by kernel_rfl)) (.inl ⟨by rfl, ?_⟩) ?_ ?_ ?_; rotate_left; (intro w'; go_simp; with_reducible rfl); rotate_left; (simp only [pw]; rfl); refine pu_ 21 (some 4) ?_ #[I, I, I, I, I, I, I, I, I, I, I, I, I, I, I, I, I, I, I, I, I, I] rfl rfl (any_of HT_.out (by kernel_rfl)) (.inl ⟨by rfl, ?_⟩) ?_ ?_ ?_; rotate_left; (intro w'; go_simp; with_reducible rfl); rotate_left; (simp only [pw]; rfl); refine done_ (done_of HT_.out (by kernel_rfl)) ?_; try go_wp2
                   go_roundg k2
                   case measure => have := HK1.out; have := HK2.out; omega
                   case rel => exact ⟨(x4_2 ++ (((((((t137 ++ (⟨#[32]⟩ : ByteArray)) ++ t138) ++ (⟨#[32]⟩ : ByteArray)) ++ t139) ++ (⟨#[32]⟩ : ByteArray)) ++ t140) ++ (⟨#[10]⟩ : ByteArray))), (wrap64 (x35_2 + 1)), sq, sq, H', ⟨by have := HK1.out; have := HK2.out; omega⟩, ⟨zq BK129⟩, ⟨bq⟩⟩
                  rw [if_neg c37] at H; exact absurd H (by simp)
                 rw [if_neg c36] at H; exact absurd H (by simp)
                rw [if_neg c35] at H; exact absurd H (by simp)
               rw [if_neg c33] at H; exact absurd H (by simp)
              rw [if_neg c32] at H; exact absurd H (by simp)
             rw [if_neg c30] at H; exact absurd H (by simp)
            rw [if_neg c29] at H; exact absurd H (by simp)
           rw [if_neg c27] at H; exact absurd H (by simp)
          rw [if_neg c25] at H; exact absurd H (by simp)
         rw [if_neg c24] at H; exact absurd H (by simp)
        rw [if_neg c23] at H; have c23b0 : decide (x35_2 < (l0_1.length : Int)) = false := decide_eq_false c23; clear c23; simp only [Option.some.injEq, Prod.mk.injEq] at H; obtain ⟨rfl, rfl⟩ := H
        go_wp2
        go_ret2
        exact ⟨eq_, bq⟩
     rw [if_neg c21] at H; exact absurd H (by simp)
  rw [if_neg c4] at H; exact absurd H (by simp)
 replace c3 := Bool.eq_false_iff.mpr c3; subst c3; rw [if_neg (show ¬ (false = true) by decide)] at H; try dsimp only at H
 simp only [Option.some.injEq, Prod.mk.injEq] at H; obtain ⟨rfl, rfl⟩ := H
 go_enter Tryd.func5, Tryd.ntmps5
 go_wp2_with (first | ((with_reducible refine gate_dst (N := 1) rfl ?_); refine box_event ?hg (N := 1) ?hd (cs := #[.slice A0_0 l0_0.length c0_0, .slice A0_1 l0_1.length c0_1]) (t := 31) ?hr ?_; (case hd | hg => rfl); (case hr => go_simp; try rfl); intro gb129 hg w47 hbox hb; have BK129 := am (hbox); have GW129 := am (gq hg); have GE129 := am (gq hg); replace HB := sb hb; clear hb hbox hg; have ⟨b480, b481, d480, d481⟩ := bc2 BK129) | ((with_reducible refine gate_callee (f := 11) rfl ?_); refine goesL_ (some 10) rfl rfl Tryd.func11 (by kernel_rfl) rfl #[.agg #[.slice A0_0 l0_0.length c0_0, .slice A0_1 l0_1.length c0_1]] rfl mq ?_; (with_reducible refine (spec_psGood.calls k _ _ l0_0 _ _ l0_1 false _ ?s1 ?s2 ?s3 ?s4 A2.out).mono ?_); (case s1 => exact cq (Kd.C_below HR0_0.out HB.out)); (case s2 => exact HC0_0.out); (case s3 => exact cq (Kd.C_below HR0_1.out HB.out)); (case s4 => exact HC0_1.out); rintro e w49 ⟨rfl, hb⟩; refine ⟨_, rfl, ?_⟩; replace BK129 := zb BK129 hb; replace HB := sb hb; (try clear hb)))
 go_ret2
 exact ⟨eq_, bq⟩


def laws_toIntS.l0 : Nat → List Int → List Int → Int → Option (List Int)
 | 0, _, _, _ => none
 | k + 1, x0, x3, x4 => if x4 < (x0.length : Int) then (if 0 ≤ x4 then (if x4 < (x3.length : Int) then (laws_toIntS.l0 k x0 (x3.set (x4 : Int).toNat (rd x0 x4)) (wrap64 (x4 + 1))) else (none)) else (none)) else (some x3)
def laws_toIntS.f (k : Nat) (l0 : List Int) : Option (List Int) := if 0 ≤ (l0.length : Int) then (if ((l0.length : Int) : Int).toNat ≤ 35184372088832 then (laws_toIntS.l0 k l0 (List.replicate ((l0.length : Int) : Int).toNat 0) 0) else (none)) else (none)
theorem laws_toIntS.calls (k : Nat) (A0 : Option Addr) (c0 : Nat) (l0 : List Int) (r : List Int) (w : World) (hr0 : Kd.C (Kd.int .i64) w A0 l0.length l0) (hc0 : l0.length ≤ c0) (h : laws_toIntS.f k l0 = some r) :
  Calls Tryd.prog 13 #[.slice A0 l0.length c0] w fun e w' => ∃ v0_ : Value, e = .returned (v0_) ∧ Kd.R (Kd.int .i64) 3 w' w.heap.size (fun _ => True) v0_ r ∧ Below w.heap.size w w' := by
 have HR0 := am hr0; have HC0 := am hc0; clear hr0 hc0; have HB := am (Below.refl w.heap.size w); have H := h; clear h
 unfold laws_toIntS.f at H
 by_cases c2 : 0 ≤ (l0.length : Int)
 ·rw [if_pos c2] at H; have c2b0 := eq_true c2; have c2b1 : decide (0 ≤ (l0.length : Int)) = true := decide_eq_true c2; clear c2; by_cases c3 : ((l0.length : Int) : Int).toNat ≤ 35184372088832
  ·rw [if_pos c3] at H; have c3b0 := eq_true c3; have c3b1 : decide (((l0.length : Int) : Int).toNat ≤ 35184372088832) = true := decide_eq_true c3; clear c3; obtain ⟨y141, hy141⟩ : ∃ y_ : List Int, y_ = (List.replicate ((l0.length : Int) : Int).toNat 0) := ⟨_, rfl⟩; replace H : (laws_toIntS.l0 k l0 y141 0) = some r := yq hy141 H; have Ny141 := am hy141; clear hy141; have H' := am H; clear H
   go_enter Tryd.func13, Tryd.ntmps13
   go_wp2_with (first | ((with_reducible refine gate_dst (N := 7) rfl ?_); refine Kd.R_make (Kd.int .i64) _ 3 rfl (N := 7) rfl 22 _ _ rfl (l0.length : Int) rfl rfl Tryd.underlying22 (.int .i64 0) 8 info3 rfl (by decide) (by omega) 0 (ok := fun _ => True) (okp := fun _ => True) rfl (fun _ hk => hk) trivial (of_decide_eq_true aq) (Nat.le_trans (Nat.mul_le_mul_right _ (of_decide_eq_true aq : (l0.length : Int).toNat ≤ 35184372088832)) (by omega)) (Below.refl _ _) (Nat.le_refl _) ?_; intro v142 w4 ho5 hb hg_ hnew_; clear hg_ hnew_; (first | rw [← Ny141.out] at ho5 | (simp only [Int.reduceToNat] at ho5; rw [← Ny141.out] at ho5)); have HO143 := rl ho5; replace HB := sb hb; clear hb ho5))
   go_loopg [4] k (fun kq v4 w' => ∃ (x3_1 : List Int) (x4_1 : Int), v4 = .int .i64 x4_1 ∧ Aside0 (laws_toIntS.l0 kq l0 x3_1 x4_1 = some r) ∧ Aside0 (kq ≤ k) ∧ Aside0 (Kd.R (Kd.int .i64) 3 w' w.heap.size (fun _ => True) v142 x3_1) ∧ Aside0 (Below w.heap.size w w'))
   case atStart => exact ⟨(y141), (0), sq, H', ⟨Nat.le_refl _⟩, ⟨rq HO143⟩, ⟨bq⟩⟩
   case round =>
    clear H'; try clear c2b0
    try clear c2b1
    try clear c3b0
    try clear c3b1
    obtain ⟨x3_1, x4_1, rfl, HA, HK1, HO_3, HB⟩ := hrel
    cases gk with
    | zero => exact absurd HA.out (by simp [laws_toIntS.l0])
    | succ k1 =>
     have H := HA.out; clear HA; simp only [laws_toIntS.l0] at H; by_cases c6 : x4_1 < (l0.length : Int)
     ·rw [if_pos c6] at H; have c6b0 : decide (x4_1 < (l0.length : Int)) = true := decide_eq_true c6; clear c6; by_cases c7 : 0 ≤ x4_1
      ·rw [if_pos c7] at H; have c7b0 : decide (0 ≤ x4_1) = true := decide_eq_true c7; clear c7; by_cases c8 : x4_1 < (x3_1.length : Int)
       ·rw [if_pos c8] at H; have c8b0 : decide (x4_1 < (x3_1.length : Int)) = true := decide_eq_true c8; clear c8; obtain ⟨y145, hy145⟩ : ∃ y_ : List Int, y_ = (x3_1.set (x4_1 : Int).toNat (rd l0 x4_1)) := ⟨_, rfl⟩; replace H : (laws_toIntS.l0 k1 l0 y145 (wrap64 (x4_1 + 1))) = some r := yq hy145 H; have Ny145 := am hy145; clear hy145; have H' := am H; clear H; have p144 : 0 ≤ (x4_1 : Int) := of_decide_eq_true aq; have q144 : x4_1 < (l0.length : Int) := of_decide_eq_true aq; obtain ⟨ad144, e144, hx144_0⟩ := Kd.at_int HR0.out x4_1 p144 q144
        cases e144
        replace hx144_0 := (HB.out.cell (World.block_lt_of_cell? w _ hx144_0)).trans hx144_0; replace p144 := eq_true p144; replace q144 := eq_true q144; have p9 : 0 ≤ (x4_1 : Int) := of_decide_eq_true aq; have q9 : (x4_1 : Int) < ((x3_1.length : Int) : Int) := of_decide_eq_true aq; obtain ⟨go9, co9, eo9, gb9, gl9, cl9, HG9⟩ := Kd.R_form HO_3.out (by omega); (first | cases eo9 | (injection eo9 with ea_ en_ ec_; (first | subst ea_ | (injection ea_ with ea_; subst ea_)); subst ec_; clear en_)); have GB9 := am gb9; have GG9 := am HG9; clear gb9 gl9 HG9; obtain ⟨hx9_0, hf9_0⟩ := Kd.R_celln 0 HO_3.out (x4_1 : Int) p9 q9; replace p9 := eq_true p9; replace q9 := eq_true q9; have HP10 := Kd.R_putg HO_3.out (x4_1 : Int) (rd l0 x4_1); go_wp2_with (first | ((with_reducible refine gate_store (t := 3) (p := 20) rfl ?_); refine store_event (t := 3) (p := 20) (v := ?vo_w11) (w1 := (wr.setCell ⟨go9, (x4_1 : Int).toNat, none⟩ (.int .i64 (rd l0 x4_1)))) ?hg ?ho ?hn ?hr ?_; (case ho => rfl); (case hg => rfl); (case hn => rfl); (case hr => go_simp; try rfl); intro w11 hw; have hg : wr.grownBy w11 (some go9) := (by rw [hw]; exact HP10.2); have hp_ : Kd.R (Kd.int .i64) 3 w11 w.heap.size (fun _ => True) (.slice (some ⟨go9, 0, none⟩) x3_1.length co9) y145 := (by rw [hw, Ny145.out]; exact HP10.1); clear HP10; replace HO_3 := am (hp_); replace HB := am ((by rw [hw]; exact below_set (HB.out) GB9.out : Below w.heap.size w w11)); clear hg hw hp_))
        go_roundg k1
        case measure => have := HK1.out; omega
        case rel => exact ⟨(y145), (wrap64 (x4_1 + 1)), sq, H', ⟨by have := HK1.out; omega⟩, ⟨rq HO_3⟩, ⟨bq⟩⟩
       rw [if_neg c8] at H; exact absurd H (by simp)
      rw [if_neg c7] at H; exact absurd H (by simp)
     rw [if_neg c6] at H; have c6b0 : decide (x4_1 < (l0.length : Int)) = false := decide_eq_false c6; clear c6; obtain rfl := Option.some.inj H
     go_wp2
     go_ret
     exact ⟨_, eq_, rq HO_3, bq⟩
  rw [if_neg c3] at H; exact absurd H (by simp)
 rw [if_neg c2] at H; exact absurd H (by simp)


def laws_toLoan.f (a0_0 : Int) (a0_1 : Int) (a0_2 : Int) (a0_3 : Int) : Option (Int × Int × Int × Int) := some (a0_0, a0_1, a0_2, a0_3)
theorem laws_toLoan.calls (a0_0 : Int) (a0_1 : Int) (a0_2 : Int) (a0_3 : Int) (r1 : Int) (r2 : Int) (r3 : Int) (r4 : Int) (w : World) (h : laws_toLoan.f a0_0 a0_1 a0_2 a0_3 = some (r1, r2, r3, r4)) :
  Calls Tryd.prog 22 #[.agg #[.int .i64 a0_0, .int .i64 a0_1, .int .i64 a0_2, .int .i64 a0_3]] w fun e w' => e = .returned (.agg #[.int .i64 r1, .int .i64 r2, .int .i64 r3, .int .i64 r4]) ∧ Below w.heap.size w w' := by
 have hu51 := Tryd.underlying51; have hu40 := Tryd.underlying40; have HB := am (Below.refl w.heap.size w); have H := h; clear h
 unfold laws_toLoan.f at H
 simp only [Option.some.injEq, Prod.mk.injEq] at H; obtain ⟨rfl, rfl, rfl, rfl⟩ := H
 go_enter Tryd.func22, Tryd.ntmps22
 go_wp2_with (first | ((with_reducible refine gate_dst (N := 1) rfl ?_); refine box_event ?hg (N := 1) ?hd (cs := #[.int .i64 a0_0, .int .i64 a0_1, .int .i64 a0_2, .int .i64 a0_3]) (t := 51) ?hr ?_; (case hd | hg => rfl); (case hr => go_simp; try rfl); intro gb146 hg w2 hbox hb; have BK146 := am (hbox); have GW146 := am (gq hg); have GE146 := am (gq hg); replace HB := sb hb; clear hb hbox hg) | ((with_reducible refine gate_dst (N := 2) rfl ?_); refine box_event ?hg (N := 2) ?hd (cs := #[.int .i64 0, .int .i64 0, .int .i64 0, .int .i64 0]) (t := 40) ?hr ?_; (case hd | hg => rfl); (case hr => go_simp; try rfl); intro gb147 hg w3 hbox hb; have BK147 := am (hbox); have GW147 := am (gq hg); have GE147 := am (gq hg); replace HB := sb hb; have ⟨NB146_147, NB147_146⟩ := nn hg BK146; replace BK146 := zb BK146 hb; clear hb hbox hg) | ((with_reducible refine gate_dst (N := 3) rfl ?_); refine box_event ?hg (N := 3) ?hd (cs := #[.int .i64 0, .int .i64 0, .int .i64 0, .int .i64 0]) (t := 40) ?hr ?_; (case hd | hg => rfl); (case hr => go_simp; try rfl); intro gb148 hg w4 hbox hb; have BK148 := am (hbox); have GW148 := am (gq hg); have GE148 := am (gq hg); replace HB := sb hb; have ⟨NB146_148, NB148_146⟩ := nn hg BK146; replace BK146 := zb BK146 hb; have ⟨NB147_148, NB148_147⟩ := nn hg BK147; replace BK147 := zb BK147 hb; clear hb hbox hg; have hnb5 := NB146_147.out; have hnc5 := NB147_146.out; have hnb6 := NB146_148.out; have hnc6 := NB148_146.out; have ⟨b70, b71, b72, b73, d70, d71, d72, d73⟩ := bc4 BK146; have hnb8 := NB148_147.out; have hnc8 := NB147_148.out; have ⟨b90, b91, b92, b93, d90, d91, d92, d93⟩ := bc4 BK148; have ⟨b100, b101, b102, b103, d100, d101, d102, d103⟩ := bc4 BK147))
 refine bodyPost_ret (results_cell_row rfl _ _ gb147 40 #[.int .i64 a0_0, .int .i64 a0_1, .int .i64 a0_2, .int .i64 a0_3] (0, 0) _ rfl (zp BK147) Tryd.underlying40 rfl (by kernel_rfl)) rfl ?_; exact ⟨eq_, bq⟩



def laws_toLoanS.l0 : Nat → List (S51) → List (S40) → Int → Option ((List (S40)))
 | 0, _, _, _ => none
 | k + 1, x0, x3, x4 => if x4 < (x0.length : Int) then (if 0 ≤ x4 then ((laws_toLoan.f ((rd_T51 x0 x4).f0) ((rd_T51 x0 x4).f1) ((rd_T51 x0 x4).f2) ((rd_T51 x0 x4).f3)).bind fun bt153 => (if x4 < (x3.length : Int) then (laws_toLoanS.l0 k x0 (x3.set (x4 : Int).toNat (⟨bt153.1, bt153.2.1, bt153.2.2.1, bt153.2.2.2⟩ : S40)) (wrap64 (x4 + 1))) else (none))) else (none)) else (some x3)
def laws_toLoanS.f (k : Nat) (l0 : List (S51)) : Option ((List (S40))) := if 0 ≤ (l0.length : Int) then (if ((l0.length : Int) : Int).toNat ≤ 8796093022208 then (laws_toLoanS.l0 k l0 (List.replicate ((l0.length : Int) : Int).toNat z40) 0) else (none)) else (none)
theorem laws_toLoanS.calls (k : Nat) (A0 : Option Addr) (c0 : Nat) (l0 : List (S51)) (r : List (S40)) (w : World) (hr0 : Kd.C k51 w A0 l0.length l0) (hc0 : l0.length ≤ c0) (h : laws_toLoanS.f k l0 = some r) :
  Calls Tryd.prog 14 #[.slice A0 l0.length c0] w fun e w' => ∃ v0_ : Value, e = .returned (v0_) ∧ Kd.R k40 40 w' w.heap.size (fun _ => True) v0_ r ∧ Below w.heap.size w w' := by
 have hu51 := Tryd.underlying51; have hu40 := Tryd.underlying40; have HR0 := am hr0; have HC0 := am hc0; clear hr0 hc0; have HB := am (Below.refl w.heap.size w); have H := h; clear h
 unfold laws_toLoanS.f at H
 by_cases c2 : 0 ≤ (l0.length : Int)
 ·rw [if_pos c2] at H; have c2b0 := eq_true c2; have c2b1 : decide (0 ≤ (l0.length : Int)) = true := decide_eq_true c2; clear c2; by_cases c3 : ((l0.length : Int) : Int).toNat ≤ 8796093022208
  ·rw [if_pos c3] at H; have c3b0 := eq_true c3; have c3b1 : decide (((l0.length : Int) : Int).toNat ≤ 8796093022208) = true := decide_eq_true c3; clear c3; obtain ⟨y149, hy149⟩ : ∃ y_ : List (S40), y_ = (List.replicate ((l0.length : Int) : Int).toNat z40) := ⟨_, rfl⟩; replace H : (laws_toLoanS.l0 k l0 y149 0) = some r := yq hy149 H; have Ny149 := am hy149; clear hy149; have H' := am H; clear H
   go_enter Tryd.func14, Tryd.ntmps14
   go_wp2_with (first | ((with_reducible refine gate_dst (N := 7) rfl ?_); refine Kd.R_make k40 _ 40 rfl (N := 7) rfl 29 _ _ rfl (l0.length : Int) rfl rfl Tryd.underlying29 (.agg #[(.int .i64 0), (.int .i64 0), (.int .i64 0), (.int .i64 0)]) 32 info40 rfl (by decide) (by omega) z40 (ok := fun _ => True) (okp := fun _ => True) (k40_mkM _ _ _ z40 ) (fun _ hk => hk) trivial (of_decide_eq_true aq) (Nat.le_trans (Nat.mul_le_mul_right _ (of_decide_eq_true aq : (l0.length : Int).toNat ≤ 8796093022208)) (by omega)) (Below.refl _ _) (Nat.le_refl _) ?_; intro v150 w4 ho5 hb hg_ hnew_; clear hg_ hnew_; (first | rw [← Ny149.out] at ho5 | (simp only [Int.reduceToNat] at ho5; rw [← Ny149.out] at ho5)); have HO151 := rl ho5; replace HB := sb hb; clear hb ho5))
   go_loopg [4] k (fun kq v4 w' => ∃ (x3_1 : List (S40)) (x4_1 : Int), v4 = .int .i64 x4_1 ∧ Aside0 (laws_toLoanS.l0 kq l0 x3_1 x4_1 = some r) ∧ Aside0 (kq ≤ k) ∧ Aside0 (Kd.R k40 40 w' w.heap.size (fun _ => True) v150 x3_1) ∧ Aside0 (Below w.heap.size w w'))
   case atStart => exact ⟨(y149), (0), sq, H', ⟨Nat.le_refl _⟩, ⟨rq HO151⟩, ⟨bq⟩⟩
   case round =>
    clear H'; try clear c2b0
    try clear c2b1
    try clear c3b0
    try clear c3b1
    obtain ⟨x3_1, x4_1, rfl, HA, HK1, HO_3, HB⟩ := hrel
    cases gk with
    | zero => exact absurd HA.out (by simp [laws_toLoanS.l0])
    | succ k1 =>
     have H := HA.out; clear HA; simp only [laws_toLoanS.l0] at H; by_cases c6 : x4_1 < (l0.length : Int)
     ·rw [if_pos c6] at H; have c6b0 : decide (x4_1 < (l0.length : Int)) = true := decide_eq_true c6; clear c6; by_cases c7 : 0 ≤ x4_1
      ·rw [if_pos c7] at H; have c7b0 : decide (0 ≤ x4_1) = true := decide_eq_true c7; clear c7; obtain ⟨⟨t153, t154, t155, t156⟩, A8, H⟩ := bindq H; try dsimp only at H
       by_cases c9 : x4_1 < (x3_1.length : Int)
       ·rw [if_pos c9] at H; have c9b0 : decide (x4_1 < (x3_1.length : Int)) = true := decide_eq_true c9; clear c9; obtain ⟨y157, hy157⟩ : ∃ y_ : List (S40), y_ = (x3_1.set (x4_1 : Int).toNat (⟨t153, t154, t155, t156⟩ : S40)) := ⟨_, rfl⟩; replace H : (laws_toLoanS.l0 k1 l0 y157 (wrap64 (x4_1 + 1))) = some r := yq hy157 H; have Ny157 := am hy157; clear hy157; have H' := am H; clear H; have p152 : 0 ≤ (x4_1 : Int) := of_decide_eq_true aq; have q152 : x4_1 < (l0.length : Int) := of_decide_eq_true aq; obtain ⟨ad152, e152, hx152_0, hx152_1, hx152_2, hx152_3⟩ := at_T51 HR0.out x4_1 p152 q152
        cases e152
        replace hx152_0 := (HB.out.cell (World.block_lt_of_cell? w _ hx152_0)).trans hx152_0; replace hx152_1 := (HB.out.cell (World.block_lt_of_cell? w _ hx152_1)).trans hx152_1; replace hx152_2 := (HB.out.cell (World.block_lt_of_cell? w _ hx152_2)).trans hx152_2; replace hx152_3 := (HB.out.cell (World.block_lt_of_cell? w _ hx152_3)).trans hx152_3; replace p152 := eq_true p152; replace q152 := eq_true q152; go_wp2_with (first | ((with_reducible refine gate_callee (f := 22) rfl ?_); refine goesL_ (some 20) rfl rfl Tryd.func22 (by kernel_rfl) rfl #[.agg #[.int .i64 ((rd_T51 l0 x4_1).f0), .int .i64 ((rd_T51 l0 x4_1).f1), .int .i64 ((rd_T51 l0 x4_1).f2), .int .i64 ((rd_T51 l0 x4_1).f3)]] rfl mq ?_; (with_reducible refine (laws_toLoan.calls ((rd_T51 l0 x4_1).f0) ((rd_T51 l0 x4_1).f1) ((rd_T51 l0 x4_1).f2) ((rd_T51 l0 x4_1).f3) t153 t154 t155 t156 _ A8.out).mono ?_); rintro e w11 ⟨rfl, hb⟩; refine ⟨_, rfl, ?_⟩; replace HO_3 := rb HO_3 hb; replace HB := sb hb; (try clear hb); have p10 : 0 ≤ (x4_1 : Int) := of_decide_eq_true aq; have q10 : (x4_1 : Int) < ((x3_1.length : Int) : Int) := of_decide_eq_true aq; obtain ⟨go10, co10, eo10, gb10, gl10, cl10, HG10⟩ := Kd.R_form HO_3.out (by omega); (first | cases eo10 | (injection eo10 with ea_ en_ ec_; (first | subst ea_ | (injection ea_ with ea_; subst ea_)); subst ec_; clear en_)); have GB10 := am gb10; have GG10 := am HG10; clear gb10 gl10 HG10; obtain ⟨ce10, hcl10, hM10, hcc10, hfr10⟩ := Kd.R_elem HO_3.out z40 (x4_1 : Int) p10 q10; obtain rfl := k40_openM hM10; have hx10_0 : w11.cell? ⟨go10, (x4_1 : Int).toNat * 4, none⟩ = some (.int .i64 ((rd_T40 x3_1 x4_1).f0)) := hcc10 0 _ rfl; have hx10_1 : w11.cell? ⟨go10, (x4_1 : Int).toNat * 4 + 1, none⟩ = some (.int .i64 ((rd_T40 x3_1 x4_1).f1)) := hcc10 1 _ rfl; have hx10_2 : w11.cell? ⟨go10, (x4_1 : Int).toNat * 4 + 2, none⟩ = some (.int .i64 ((rd_T40 x3_1 x4_1).f2)) := hcc10 2 _ rfl; have hx10_3 : w11.cell? ⟨go10, (x4_1 : Int).toNat * 4 + 3, none⟩ = some (.int .i64 ((rd_T40 x3_1 x4_1).f3)) := hcc10 3 _ rfl; have hf10_0 : w11.frozen? ⟨go10, (x4_1 : Int).toNat * 4, none⟩ = false := hfr10 0; have hf10_1 : w11.frozen? ⟨go10, (x4_1 : Int).toNat * 4 + 1, none⟩ = false := hfr10 1; have hf10_2 : w11.frozen? ⟨go10, (x4_1 : Int).toNat * 4 + 2, none⟩ = false := hfr10 2; have hf10_3 : w11.frozen? ⟨go10, (x4_1 : Int).toNat * 4 + 3, none⟩ = false := hfr10 3; clear hcl10 hcc10 hfr10 hM10; replace p10 := eq_true p10; replace q10 := eq_true q10; have HX12 := am (show Kd.R k40 40 w11 w.heap.size (fun _ => True) (.slice (some ⟨go10, 0, none⟩) x3_1.length co10) x3_1 from (rq HO_3)); obtain ⟨ce12, hcl12, hM12, hcc12, hfr12⟩ := Kd.R_elem HX12.out z40 (x4_1 : Int) (of_decide_eq_true aq) (by have h_ : (x4_1 : Int) < ((x3_1.length : Int) : Int) := of_decide_eq_true aq; first | exact h_ | (have e_ := (Kd.R_reads' HO_3.out).1; omega) | simpa using h_); obtain rfl := k40_openM hM12; have HP12 := Kd.R_seg HX12.out (x4_1 : Int) (of_decide_eq_true aq) (by have h_ : (x4_1 : Int) < ((x3_1.length : Int) : Int) := of_decide_eq_true aq; first | exact h_ | (have e_ := (Kd.R_reads' HO_3.out).1; omega) | simpa using h_) (seg := [.int .i64 t153, .int .i64 t154, .int .i64 t155, .int .i64 t156]) (j := 0) hcl12 hcc12 (show 4 ≤ 4 from by decide) (x' := (⟨t153, t154, t155, t156⟩ : S40)) (k40_mkM _ _ _ (⟨t153, t154, t155, t156⟩ : S40) ) (fun _ hk => hk); have hx12_0 := hcc12 0 _ rfl; (try simp only [show (k40).sz = 4 from rfl, Nat.mul_one, Nat.add_zero] at hx12_0); have hf12_0 := hfr12 0; (try simp only [show (k40).sz = 4 from rfl, Nat.mul_one, Nat.add_zero] at hf12_0); have hx12_1 := hcc12 1 _ rfl; (try simp only [show (k40).sz = 4 from rfl, Nat.mul_one, Nat.add_zero] at hx12_1); have hf12_1 := hfr12 1; (try simp only [show (k40).sz = 4 from rfl, Nat.mul_one, Nat.add_zero] at hf12_1); have hx12_2 := hcc12 2 _ rfl; (try simp only [show (k40).sz = 4 from rfl, Nat.mul_one, Nat.add_zero] at hx12_2); have hf12_2 := hfr12 2; (try simp only [show (k40).sz = 4 from rfl, Nat.mul_one, Nat.add_zero] at hf12_2); have hx12_3 := hcc12 3 _ rfl; (try simp only [show (k40).sz = 4 from rfl, Nat.mul_one, Nat.add_zero] at hx12_3); have hf12_3 := hfr12 3; (try simp only [show (k40).sz = 4 from rfl, Nat.mul_one, Nat.add_zero] at hf12_3); clear hcl12 hcc12 hfr12 hM12) | ((with_reducible refine gate_store (t := 40) (p := 21) rfl ?_); refine store_event (t := 40) (p := 21) (v := ?vo_w13) (w1 := ((((w11.setCell ⟨go10, (x4_1 : Int).toNat * 4, none⟩ (.int .i64 t153)).setCell ⟨go10, (x4_1 : Int).toNat * 4 + 1, none⟩ (.int .i64 t154)).setCell ⟨go10, (x4_1 : Int).toNat * 4 + 2, none⟩ (.int .i64 t155)).setCell ⟨go10, (x4_1 : Int).toNat * 4 + 3, none⟩ (.int .i64 t156))) ?hg ?ho ?hn ?hr ?_; (case ho => rfl); (case hg => rfl); (case hn => rfl); (case hr => go_simp; try rfl); intro w13 hw; have hg : w11.grownBy w13 (some go10) := (by rw [hw]; exact HP12.2); have hp_ : Kd.R k40 40 w13 w.heap.size (fun _ => True) (.slice (some ⟨go10, 0, none⟩) x3_1.length co10) y157 := (by rw [hw, Ny157.out]; exact HP12.1); clear HP12; replace HO_3 := am (hp_); replace HB := am ((by rw [hw]; exact below_set (below_set (below_set (below_set (HB.out) GB10.out) GB10.out) GB10.out) GB10.out : Below w.heap.size w w13)); clear hg hw hp_))
        go_roundg k1
        case measure => have := HK1.out; omega
        case rel => exact ⟨(y157), (wrap64 (x4_1 + 1)), sq, H', ⟨by have := HK1.out; omega⟩, ⟨rq HO_3⟩, ⟨bq⟩⟩
       rw [if_neg c9] at H; exact absurd H (by simp)
      rw [if_neg c7] at H; exact absurd H (by simp)
     rw [if_neg c6] at H; have c6b0 : decide (x4_1 < (l0.length : Int)) = false := decide_eq_false c6; clear c6; obtain rfl := Option.some.inj H
     go_wp2
     go_ret
     exact ⟨_, eq_, rq HO_3, bq⟩
  rw [if_neg c3] at H; exact absurd H (by simp)
 rw [if_neg c2] at H; exact absurd H (by simp)


def laws_toShop.f (k : Nat) (l0_0 : List Int) (l0_1 : List (S51)) : Option (List Int × (List (S40))) := (laws_toIntS.f k l0_0).bind fun t161 => ((laws_toLoanS.f k l0_1).bind fun t164 => (some (t161, t164)))
theorem laws_toShop.calls (k : Nat) (A0_0 : Option Addr) (c0_0 : Nat) (l0_0 : List Int) (A0_1 : Option Addr) (c0_1 : Nat) (l0_1 : List (S51)) (r1 : List Int) (r2 : List (S40)) (w : World) (hr0_0 : Kd.C (Kd.int .i64) w A0_0 l0_0.length l0_0) (hc0_0 : l0_0.length ≤ c0_0) (hr0_1 : Kd.C k51 w A0_1 l0_1.length l0_1) (hc0_1 : l0_1.length ≤ c0_1) (h : laws_toShop.f k l0_0 l0_1 = some (r1, r2)) :
  Calls Tryd.prog 6 #[.agg #[.slice A0_0 l0_0.length c0_0, .slice A0_1 l0_1.length c0_1]] w fun e w' => ∃ v0_ v1_ : Value, e = .returned (.agg #[v0_, v1_]) ∧ Kd.R (Kd.int .i64) 3 w' w.heap.size (fun _ => True) v0_ r1 ∧ Kd.R k40 40 w' w.heap.size (fun _ => True) v1_ r2 ∧ Below w.heap.size w w' := by
 have hu25 := Tryd.underlying25; have hu31 := Tryd.underlying31; have HR0_0 := am hr0_0; have HC0_0 := am hc0_0; clear hr0_0 hc0_0; have HR0_1 := am hr0_1; have HC0_1 := am hc0_1; clear hr0_1 hc0_1; have HB := am (Below.refl w.heap.size w); have H := h; clear h
 unfold laws_toShop.f at H
 obtain ⟨t161, A2, H⟩ := bindq H; try dsimp only at H
 obtain ⟨t164, A3, H⟩ := bindq H; try dsimp only at H
 simp only [Option.some.injEq, Prod.mk.injEq] at H; obtain ⟨rfl, rfl⟩ := H
 go_enter Tryd.func6, Tryd.ntmps6
 go_wp2_with (first | ((with_reducible refine gate_dst (N := 1) rfl ?_); refine box_event ?hg (N := 1) ?hd (cs := #[.slice A0_0 l0_0.length c0_0, .slice A0_1 l0_1.length c0_1]) (t := 25) ?hr ?_; (case hd | hg => rfl); (case hr => go_simp; try rfl); intro gb158 hg w4 hbox hb; have BK158 := am (hbox); have GW158 := am (gq hg); have GE158 := am (gq hg); replace HB := sb hb; clear hb hbox hg) | ((with_reducible refine gate_dst (N := 2) rfl ?_); refine box_event ?hg (N := 2) ?hd (cs := #[.slice none 0 0, .slice none 0 0]) (t := 31) ?hr ?_; (case hd | hg => rfl); (case hr => go_simp; try rfl); intro gb159 hg w5 hbox hb; have BK159 := am (hbox); have GW159 := am (gq hg); have GE159 := am (gq hg); replace HB := sb hb; have ⟨NB158_159, NB159_158⟩ := nn hg BK158; replace BK158 := zb BK158 hb; clear hb hbox hg) | ((with_reducible refine gate_dst (N := 3) rfl ?_); refine box_event ?hg (N := 3) ?hd (cs := #[.slice none 0 0, .slice none 0 0]) (t := 31) ?hr ?_; (case hd | hg => rfl); (case hr => go_simp; try rfl); intro gb160 hg w6 hbox hb; have BK160 := am (hbox); have GW160 := am (gq hg); have GE160 := am (gq hg); replace HB := sb hb; have ⟨NB158_160, NB160_158⟩ := nn hg BK158; replace BK158 := zb BK158 hb; have ⟨NB159_160, NB160_159⟩ := nn hg BK159; replace BK159 := zb BK159 hb; clear hb hbox hg; have hnb7 := NB158_159.out; have hnc7 := NB159_158.out; have hnb8 := NB158_160.out; have hnc8 := NB160_158.out; have ⟨b90, b91, d90, d91⟩ := bc2 BK158) | ((with_reducible refine gate_callee (f := 13) rfl ?_); refine goesL_ (some 6) rfl rfl Tryd.func13 (by kernel_rfl) rfl #[.slice A0_0 l0_0.length c0_0] rfl mq ?_; (with_reducible refine (laws_toIntS.calls k _ _ l0_0 t161 _ ?s1 ?s2 A2.out).mono ?_); (case s1 => exact cq (Kd.C_below HR0_0.out HB.out)); (case s2 => exact HC0_0.out); rintro e w10 ⟨v162, rfl, ho0, hb⟩; refine ⟨_, rfl, ?_⟩; have HO163 := rl ho0; replace BK158 := zb BK158 hb; replace BK159 := zb BK159 hb; replace BK160 := zb BK160 hb; replace HB := sb hb; (try clear hb ho0); obtain ⟨Ao11, co11, eo11⟩ := Kd.R_slice HO163.out; subst eo11; have hnb12 := NB160_159.out; have hnc12 := NB159_160.out; have ⟨b130, b131, d130, d131⟩ := bc2 BK160; have ⟨b140, b141, d140, d141⟩ := bc2 BK158) | ((with_reducible refine gate_callee (f := 14) rfl ?_); refine goesL_ (some 10) rfl rfl Tryd.func14 (by kernel_rfl) rfl #[.slice A0_1 l0_1.length c0_1] rfl mq ?_; (with_reducible refine (laws_toLoanS.calls k _ _ l0_1 t164 _ ?s1 ?s2 A3.out).mono ?_); (case s1 => exact Kd.C_below HR0_1.out bq); (case s2 => exact HC0_1.out); rintro e w15 ⟨v165, rfl, ho0, hb⟩; refine ⟨_, rfl, ?_⟩; replace HO163 := am (Kd.R_below (fq HO163 BK160) hb); have HO166 := rl ho0; replace BK158 := zw (.cells #[.slice A0_0 l0_0.length c0_0, .slice A0_1 l0_1.length c0_1] 25 (0, 0)) BK158 hb; replace BK159 := zw (.cells #[.slice none 0 0, .slice none 0 0] 31 (0, 0)) BK159 hb; replace BK160 := zw (.cells #[.slice Ao11 t161.length co11, .slice none 0 0] 31 (0, 0)) BK160 hb; replace HB := sb hb; (try clear hb ho0); obtain ⟨Ao16, co16, eo16⟩ := Kd.R_slice HO166.out; subst eo16; have ⟨b170, b171, d170, d171⟩ := bc2 BK160; have ⟨b180, b181, d180, d181⟩ := bc2 BK159))
 refine bodyPost_ret (results_cell_row rfl _ _ gb159 31 #[.slice Ao11 t161.length co11, .slice Ao16 t164.length co16] (0, 0) _ rfl (zp BK159) Tryd.underlying31 rfl (by kernel_rfl)) rfl ?_; exact ⟨_, _, eq_, by (with_reducible repeat (first | apply Kd.R_alloc | apply Kd.R_drewN | apply Kd.R_drew)); exact Kd.R_mono (Kd.R_far (p := ⟨gb159, 1, none⟩) (Kd.R_far (p := ⟨gb159, 0, none⟩) (Kd.R_far (p := ⟨gb160, 1, none⟩) (Kd.R_types (Kd.R_types HO163.out BK160.out (by decide)) BK159.out (by decide)) (fun _ hk => hk.1.2) (.slice Ao16 t164.length co16)) (fun _ hk => hk.2) (.slice Ao11 t161.length co11)) (fun _ hk => hk.2) (.slice Ao16 t164.length co16)) (fun _ hk => trivial), by (with_reducible repeat (first | apply Kd.R_alloc | apply Kd.R_drewN | apply Kd.R_drew)); exact Kd.R_mono (Kd.R_far (p := ⟨gb159, 1, none⟩) (Kd.R_far (p := ⟨gb159, 0, none⟩) (Kd.R_far (p := ⟨gb160, 1, none⟩) (Kd.R_types (Kd.R_types HO166.out BK160.out (by decide)) BK159.out (by decide)) (fun _ hk => hk.1.2) (.slice Ao16 t164.length co16)) (fun _ hk => hk.2) (.slice Ao11 t161.length co11)) (fun _ hk => hk.2) (.slice Ao16 t164.length co16)) (fun _ hk => trivial), bq⟩


def impl_isDay.f (a0 : Int) : Option (Bool) := if a0 ≥ 0 then (some (decide (a0 ≤ 999))) else (some false)
theorem impl_isDay.calls (a0 : Int) (r : Bool) (w : World) (h : impl_isDay.f a0 = some r) :
  Calls Tryd.prog 29 #[.int .i64 a0] w fun e w' => e = .returned (.bool r) ∧ Drawn0 w w' := by
 have H := h; clear h
 unfold impl_isDay.f at H
 by_cases c2 : a0 ≥ 0
 ·rw [if_pos c2] at H; have c2b0 : decide (0 ≤ a0) = true := decide_eq_true c2; clear c2; obtain rfl := Option.some.inj H
  go_enter Tryd.func29, Tryd.ntmps29
  go_wp2
  go_ret
  exact ⟨sq, by repeat (first | exact Drawn0.refl _ | apply Drawn0.step)⟩
 rw [if_neg c2] at H; have c2b0 : decide (0 ≤ a0) = false := decide_eq_false c2; clear c2; obtain rfl := Option.some.inj H
 go_enter Tryd.func29, Tryd.ntmps29
 go_wp2
 go_ret
 exact ⟨sq, by repeat (first | exact Drawn0.refl _ | apply Drawn0.step)⟩


def impl_isLoan.f (a0_0 : Int) (a0_1 : Int) (a0_2 : Int) (a0_3 : Int) : Option (Bool) := if a0_0 ≥ 1 then (if a0_0 ≤ 99 then (if a0_1 ≥ 1 then (if a0_1 ≤ 7 then (if a0_2 ≥ 1 then (if a0_2 ≤ 99 then ((impl_isDay.f a0_3).bind fun t168 => (some t168)) else (some false)) else (some false)) else (some false)) else (some false)) else (some false)) else (some false)
theorem impl_isLoan.calls (a0_0 : Int) (a0_1 : Int) (a0_2 : Int) (a0_3 : Int) (r : Bool) (w : World) (h : impl_isLoan.f a0_0 a0_1 a0_2 a0_3 = some r) :
  Calls Tryd.prog 23 #[.agg #[.int .i64 a0_0, .int .i64 a0_1, .int .i64 a0_2, .int .i64 a0_3]] w fun e w' => e = .returned (.bool r) ∧ Below w.heap.size w w' := by
 have hu40 := Tryd.underlying40; have HB := am (Below.refl w.heap.size w); have H := h; clear h
 unfold impl_isLoan.f at H
 by_cases c2 : a0_0 ≥ 1
 ·rw [if_pos c2] at H; have c2b0 : decide (1 ≤ a0_0) = true := decide_eq_true c2; clear c2; by_cases c3 : a0_0 ≤ 99
  ·rw [if_pos c3] at H; have c3b0 : decide (a0_0 ≤ 99) = true := decide_eq_true c3; clear c3; by_cases c4 : a0_1 ≥ 1
   ·rw [if_pos c4] at H; have c4b0 : decide (1 ≤ a0_1) = true := decide_eq_true c4; clear c4; by_cases c5 : a0_1 ≤ 7
    ·rw [if_pos c5] at H; have c5b0 : decide (a0_1 ≤ 7) = true := decide_eq_true c5; clear c5; by_cases c6 : a0_2 ≥ 1
     ·rw [if_pos c6] at H; have c6b0 : decide (1 ≤ a0_2) = true := decide_eq_true c6; clear c6; by_cases c7 : a0_2 ≤ 99
      ·rw [if_pos c7] at H; have c7b0 : decide (a0_2 ≤ 99) = true := decide_eq_true c7; clear c7; obtain ⟨t168, A8, H⟩ := bindq H; try dsimp only at H
       obtain rfl := Option.some.inj H
       go_enter Tryd.func23, Tryd.ntmps23
       go_wp2_with (first | ((with_reducible refine gate_dst (N := 1) rfl ?_); refine box_event ?hg (N := 1) ?hd (cs := #[.int .i64 a0_0, .int .i64 a0_1, .int .i64 a0_2, .int .i64 a0_3]) (t := 40) ?hr ?_; (case hd | hg => rfl); (case hr => go_simp; try rfl); intro gb167 hg w9 hbox hb; have BK167 := am (hbox); have GW167 := am (gq hg); have GE167 := am (gq hg); replace HB := sb hb; clear hb hbox hg; have ⟨b100, b101, b102, b103, d100, d101, d102, d103⟩ := bc4 BK167) | (go_at_call 29; (with_reducible refine (impl_isDay.calls a0_3 t168 _ A8.out).mono ?_); rintro e w' ⟨rfl, ⟨nd, rfl⟩⟩))
       go_ret
       exact ⟨eq_, bq⟩
      rw [if_neg c7] at H; have c7b0 : decide (a0_2 ≤ 99) = false := decide_eq_false c7; clear c7; obtain rfl := Option.some.inj H
      go_enter Tryd.func23, Tryd.ntmps23
      go_wp2_with (first | ((with_reducible refine gate_dst (N := 1) rfl ?_); refine box_event ?hg (N := 1) ?hd (cs := #[.int .i64 a0_0, .int .i64 a0_1, .int .i64 a0_2, .int .i64 a0_3]) (t := 40) ?hr ?_; (case hd | hg => rfl); (case hr => go_simp; try rfl); intro gb167 hg w11 hbox hb; have BK167 := am (hbox); have GW167 := am (gq hg); have GE167 := am (gq hg); replace HB := sb hb; clear hb hbox hg; have ⟨b120, b121, b122, b123, d120, d121, d122, d123⟩ := bc4 BK167))
      go_ret
      exact ⟨eq_, bq⟩
     rw [if_neg c6] at H; have c6b0 : decide (1 ≤ a0_2) = false := decide_eq_false c6; clear c6; obtain rfl := Option.some.inj H
     go_enter Tryd.func23, Tryd.ntmps23
     go_wp2_with (first | ((with_reducible refine gate_dst (N := 1) rfl ?_); refine box_event ?hg (N := 1) ?hd (cs := #[.int .i64 a0_0, .int .i64 a0_1, .int .i64 a0_2, .int .i64 a0_3]) (t := 40) ?hr ?_; (case hd | hg => rfl); (case hr => go_simp; try rfl); intro gb167 hg w13 hbox hb; have BK167 := am (hbox); have GW167 := am (gq hg); have GE167 := am (gq hg); replace HB := sb hb; clear hb hbox hg; have ⟨b140, b141, b142, b143, d140, d141, d142, d143⟩ := bc4 BK167))
     go_ret
     exact ⟨eq_, bq⟩
    rw [if_neg c5] at H; have c5b0 : decide (a0_1 ≤ 7) = false := decide_eq_false c5; clear c5; obtain rfl := Option.some.inj H
    go_enter Tryd.func23, Tryd.ntmps23
    go_wp2_with (first | ((with_reducible refine gate_dst (N := 1) rfl ?_); refine box_event ?hg (N := 1) ?hd (cs := #[.int .i64 a0_0, .int .i64 a0_1, .int .i64 a0_2, .int .i64 a0_3]) (t := 40) ?hr ?_; (case hd | hg => rfl); (case hr => go_simp; try rfl); intro gb167 hg w15 hbox hb; have BK167 := am (hbox); have GW167 := am (gq hg); have GE167 := am (gq hg); replace HB := sb hb; clear hb hbox hg; have ⟨b160, b161, b162, b163, d160, d161, d162, d163⟩ := bc4 BK167))
    go_ret
    exact ⟨eq_, bq⟩
   rw [if_neg c4] at H; have c4b0 : decide (1 ≤ a0_1) = false := decide_eq_false c4; clear c4; obtain rfl := Option.some.inj H
   go_enter Tryd.func23, Tryd.ntmps23
   go_wp2_with (first | ((with_reducible refine gate_dst (N := 1) rfl ?_); refine box_event ?hg (N := 1) ?hd (cs := #[.int .i64 a0_0, .int .i64 a0_1, .int .i64 a0_2, .int .i64 a0_3]) (t := 40) ?hr ?_; (case hd | hg => rfl); (case hr => go_simp; try rfl); intro gb167 hg w17 hbox hb; have BK167 := am (hbox); have GW167 := am (gq hg); have GE167 := am (gq hg); replace HB := sb hb; clear hb hbox hg; have ⟨b180, b181, b182, b183, d180, d181, d182, d183⟩ := bc4 BK167))
   go_ret
   exact ⟨eq_, bq⟩
  rw [if_neg c3] at H; have c3b0 : decide (a0_0 ≤ 99) = false := decide_eq_false c3; clear c3; obtain rfl := Option.some.inj H
  go_enter Tryd.func23, Tryd.ntmps23
  go_wp2_with (first | ((with_reducible refine gate_dst (N := 1) rfl ?_); refine box_event ?hg (N := 1) ?hd (cs := #[.int .i64 a0_0, .int .i64 a0_1, .int .i64 a0_2, .int .i64 a0_3]) (t := 40) ?hr ?_; (case hd | hg => rfl); (case hr => go_simp; try rfl); intro gb167 hg w19 hbox hb; have BK167 := am (hbox); have GW167 := am (gq hg); have GE167 := am (gq hg); replace HB := sb hb; clear hb hbox hg; have ⟨b200, b201, b202, b203, d200, d201, d202, d203⟩ := bc4 BK167))
  go_ret
  exact ⟨eq_, bq⟩
 rw [if_neg c2] at H; have c2b0 : decide (1 ≤ a0_0) = false := decide_eq_false c2; clear c2; obtain rfl := Option.some.inj H
 go_enter Tryd.func23, Tryd.ntmps23
 go_wp2_with (first | ((with_reducible refine gate_dst (N := 1) rfl ?_); refine box_event ?hg (N := 1) ?hd (cs := #[.int .i64 a0_0, .int .i64 a0_1, .int .i64 a0_2, .int .i64 a0_3]) (t := 40) ?hr ?_; (case hd | hg => rfl); (case hr => go_simp; try rfl); intro gb167 hg w21 hbox hb; have BK167 := am (hbox); have GW167 := am (gq hg); have GE167 := am (gq hg); replace HB := sb hb; clear hb hbox hg; have ⟨b220, b221, b222, b223, d220, d221, d222, d223⟩ := bc4 BK167))
 go_ret
 exact ⟨eq_, bq⟩


def impl_sameLoan.l0 : Nat → List (S40) → Int → Int → Int → Int → Int → Int → Option (Int)
 | 0, _, _, _, _, _, _, _ => none
 | k + 1, x7, x8, x9, x2, x4, x6, x5 => if x9 < x8 then (if 0 ≤ x9 then (if x9 < (x7.length : Int) then (if x2 = ((rd_T40 x7 x9).f0) then (if x4 = ((rd_T40 x7 x9).f1) then (if x5 = ((rd_T40 x7 x9).f3) then (some x9) else (impl_sameLoan.l0 k x7 x8 (wrap64 (x9 + 1)) x2 x4 x6 x5)) else (impl_sameLoan.l0 k x7 x8 (wrap64 (x9 + 1)) x2 x4 x6 x5)) else (impl_sameLoan.l0 k x7 x8 (wrap64 (x9 + 1)) x2 x4 x6 x5)) else (none)) else (none)) else (some (-1))
def impl_sameLoan.f (k : Nat) (l0 : List (S40)) (a1_0 : Int) (a1_1 : Int) (a1_2 : Int) (a1_3 : Int) : Option (Int) := impl_sameLoan.l0 k l0 (l0.length : Int) 0 a1_0 a1_1 a1_2 a1_3
theorem impl_sameLoan.calls (k : Nat) (A0 : Option Addr) (c0 : Nat) (l0 : List (S40)) (a1_0 : Int) (a1_1 : Int) (a1_2 : Int) (a1_3 : Int) (r : Int) (w : World) (hr0 : Kd.C k40 w A0 l0.length l0) (hc0 : l0.length ≤ c0) (h : impl_sameLoan.f k l0 a1_0 a1_1 a1_2 a1_3 = some r) :
  Calls Tryd.prog 24 #[.slice A0 l0.length c0, .agg #[.int .i64 a1_0, .int .i64 a1_1, .int .i64 a1_2, .int .i64 a1_3]] w fun e w' => e = .returned (.int .i64 r) ∧ Below w.heap.size w w' := by
 have hu40 := Tryd.underlying40; have HR0 := am hr0; have HC0 := am hc0; clear hr0 hc0; have HB := am (Below.refl w.heap.size w); have H := h; clear h
 unfold impl_sameLoan.f at H
 have H' := am H; clear H
 go_enter Tryd.func24, Tryd.ntmps24
 go_wp2_with (first | ((with_reducible refine gate_dst (N := 3) rfl ?_); refine box_event ?hg (N := 3) ?hd (cs := #[.int .i64 a1_0, .int .i64 a1_1, .int .i64 a1_2, .int .i64 a1_3]) (t := 40) ?hr ?_; (case hd | hg => rfl); (case hr => go_simp; try rfl); intro gb169 hg w3 hbox hb; have BK169 := am (hbox); have GW169 := am (gq hg); have GE169 := am (gq hg); replace HB := sb hb; clear hb hbox hg))
 go_loopg [9] k (fun kq v9 w' => ∃ (x9_1 : Int), v9 = .int .i64 x9_1 ∧ Aside0 (impl_sameLoan.l0 kq l0 (l0.length : Int) x9_1 a1_0 a1_1 a1_2 a1_3 = some r) ∧ Aside0 (kq ≤ k) ∧ Aside0 (w'.heap[gb169]? = some (.cells #[.int .i64 a1_0, .int .i64 a1_1, .int .i64 a1_2, .int .i64 a1_3] 40 (0, 0))) ∧ Aside0 (Below w.heap.size w w'))
 case atStart => exact ⟨(0), sq, H', ⟨Nat.le_refl _⟩, ⟨zq BK169⟩, ⟨bq⟩⟩
 case round =>
  clear H'; obtain ⟨x9_1, rfl, HA, HK1, BK169, HB⟩ := hrel
  cases gk with
  | zero => exact absurd HA.out (by simp [impl_sameLoan.l0])
  | succ k1 =>
   have H := HA.out; clear HA; simp only [impl_sameLoan.l0] at H; by_cases c4 : x9_1 < (l0.length : Int)
   ·rw [if_pos c4] at H; have c4b0 : decide (x9_1 < (l0.length : Int)) = true := decide_eq_true c4; clear c4; by_cases c5 : 0 ≤ x9_1
    ·rw [if_pos c5] at H; have c5b0 : decide (0 ≤ x9_1) = true := decide_eq_true c5; clear c5; by_cases c6 : x9_1 < (l0.length : Int)
     ·rw [if_pos c6] at H; have c6b0 : decide (x9_1 < (l0.length : Int)) = true := decide_eq_true c6; clear c6; by_cases c7 : a1_0 = ((rd_T40 l0 x9_1).f0)
      ·rw [if_pos c7] at H; have c7b0 : (a1_0 == ((rd_T40 l0 x9_1).f0)) = true := beq_iff_eq.mpr c7; have c7b1 : (a1_0 != ((rd_T40 l0 x9_1).f0)) = false := bne_eq_false_iff_eq.mpr c7; clear c7; by_cases c8 : a1_1 = ((rd_T40 l0 x9_1).f1)
       ·rw [if_pos c8] at H; have c8b0 : (a1_1 == ((rd_T40 l0 x9_1).f1)) = true := beq_iff_eq.mpr c8; have c8b1 : (a1_1 != ((rd_T40 l0 x9_1).f1)) = false := bne_eq_false_iff_eq.mpr c8; clear c8; by_cases c9 : a1_3 = ((rd_T40 l0 x9_1).f3)
        ·rw [if_pos c9] at H; have c9b0 : (a1_3 == ((rd_T40 l0 x9_1).f3)) = true := beq_iff_eq.mpr c9; have c9b1 : (a1_3 != ((rd_T40 l0 x9_1).f3)) = false := bne_eq_false_iff_eq.mpr c9; clear c9; obtain rfl := Option.some.inj H; have p170 : 0 ≤ (x9_1 : Int) := of_decide_eq_true aq; have q170 : x9_1 < (l0.length : Int) := of_decide_eq_true aq; obtain ⟨ad170, e170, hx170_0, hx170_1, hx170_2, hx170_3⟩ := at_T40 HR0.out x9_1 p170 q170
         cases e170
         replace hx170_0 := (HB.out.cell (World.block_lt_of_cell? w _ hx170_0)).trans hx170_0; replace hx170_1 := (HB.out.cell (World.block_lt_of_cell? w _ hx170_1)).trans hx170_1; replace hx170_2 := (HB.out.cell (World.block_lt_of_cell? w _ hx170_2)).trans hx170_2; replace hx170_3 := (HB.out.cell (World.block_lt_of_cell? w _ hx170_3)).trans hx170_3; replace p170 := eq_true p170; replace q170 := eq_true q170; go_wp2_with (first | ((with_reducible refine gate_dst (N := 6) rfl ?_); refine box_event ?hg (N := 6) ?hd (cs := #[.int .i64 0, .int .i64 0, .int .i64 0, .int .i64 0]) (t := 40) ?hr ?_; (case hd | hg => rfl); (case hr => go_simp; try rfl); intro gb171 hg w10 hbox hb; have BK171 := am (hbox); have GW171 := am (gq hg); have GE171 := am (gq hg); replace HB := sb hb; have ⟨NB169_171, NB171_169⟩ := nn hg BK169; replace BK169 := zb BK169 hb; clear hb hbox hg; have hnb11 := NB171_169.out; have hnc11 := NB169_171.out; have ⟨b120, b121, b122, b123, d120, d121, d122, d123⟩ := bc4 BK171; have ⟨b130, b131, b132, b133, d130, d131, d132, d133⟩ := bc4 BK169))
         go_ret
         exact ⟨eq_, bq⟩
        rw [if_neg c9] at H; have c9b0 : (a1_3 == ((rd_T40 l0 x9_1).f3)) = false := beq_eq_false_iff_ne.mpr c9; have c9b1 : (a1_3 != ((rd_T40 l0 x9_1).f3)) = true := bne_iff_ne.mpr c9; have H' := am H; clear H; have p170 : 0 ≤ (x9_1 : Int) := of_decide_eq_true aq; have q170 : x9_1 < (l0.length : Int) := of_decide_eq_true aq; obtain ⟨ad170, e170, hx170_0, hx170_1, hx170_2, hx170_3⟩ := at_T40 HR0.out x9_1 p170 q170
        cases e170
        replace hx170_0 := (HB.out.cell (World.block_lt_of_cell? w _ hx170_0)).trans hx170_0; replace hx170_1 := (HB.out.cell (World.block_lt_of_cell? w _ hx170_1)).trans hx170_1; replace hx170_2 := (HB.out.cell (World.block_lt_of_cell? w _ hx170_2)).trans hx170_2; replace hx170_3 := (HB.out.cell (World.block_lt_of_cell? w _ hx170_3)).trans hx170_3; replace p170 := eq_true p170; replace q170 := eq_true q170; go_wp2_with (first | ((with_reducible refine gate_dst (N := 6) rfl ?_); refine box_event ?hg (N := 6) ?hd (cs := #[.int .i64 0, .int .i64 0, .int .i64 0, .int .i64 0]) (t := 40) ?hr ?_; (case hd | hg => rfl); (case hr => go_simp; try rfl); intro gb171 hg w14 hbox hb; have BK171 := am (hbox); have GW171 := am (gq hg); have GE171 := am (gq hg); replace HB := sb hb; have ⟨NB169_171, NB171_169⟩ := nn hg BK169; replace BK169 := zb BK169 hb; clear hb hbox hg; have hnb15 := NB171_169.out; have hnc15 := NB169_171.out; have ⟨b160, b161, b162, b163, d160, d161, d162, d163⟩ := bc4 BK171; have ⟨b170, b171, b172, b173, d170, d171, d172, d173⟩ := bc4 BK169))
        go_roundg k1
        case measure => have := HK1.out; omega
        case rel => exact ⟨(wrap64 (x9_1 + 1)), sq, H', ⟨by have := HK1.out; omega⟩, ⟨zp BK169⟩, ⟨bq⟩⟩
       rw [if_neg c8] at H; have c8b0 : (a1_1 == ((rd_T40 l0 x9_1).f1)) = false := beq_eq_false_iff_ne.mpr c8; have c8b1 : (a1_1 != ((rd_T40 l0 x9_1).f1)) = true := bne_iff_ne.mpr c8; have H' := am H; clear H; have p170 : 0 ≤ (x9_1 : Int) := of_decide_eq_true aq; have q170 : x9_1 < (l0.length : Int) := of_decide_eq_true aq; obtain ⟨ad170, e170, hx170_0, hx170_1, hx170_2, hx170_3⟩ := at_T40 HR0.out x9_1 p170 q170
       cases e170
       replace hx170_0 := (HB.out.cell (World.block_lt_of_cell? w _ hx170_0)).trans hx170_0; replace hx170_1 := (HB.out.cell (World.block_lt_of_cell? w _ hx170_1)).trans hx170_1; replace hx170_2 := (HB.out.cell (World.block_lt_of_cell? w _ hx170_2)).trans hx170_2; replace hx170_3 := (HB.out.cell (World.block_lt_of_cell? w _ hx170_3)).trans hx170_3; replace p170 := eq_true p170; replace q170 := eq_true q170; go_wp2_with (first | ((with_reducible refine gate_dst (N := 6) rfl ?_); refine box_event ?hg (N := 6) ?hd (cs := #[.int .i64 0, .int .i64 0, .int .i64 0, .int .i64 0]) (t := 40) ?hr ?_; (case hd | hg => rfl); (case hr => go_simp; try rfl); intro gb171 hg w18 hbox hb; have BK171 := am (hbox); have GW171 := am (gq hg); have GE171 := am (gq hg); replace HB := sb hb; have ⟨NB169_171, NB171_169⟩ := nn hg BK169; replace BK169 := zb BK169 hb; clear hb hbox hg; have hnb19 := NB171_169.out; have hnc19 := NB169_171.out; have ⟨b200, b201, b202, b203, d200, d201, d202, d203⟩ := bc4 BK171; have ⟨b210, b211, b212, b213, d210, d211, d212, d213⟩ := bc4 BK169))
       go_roundg k1
       case measure => have := HK1.out; omega
       case rel => exact ⟨(wrap64 (x9_1 + 1)), sq, H', ⟨by have := HK1.out; omega⟩, ⟨zp BK169⟩, ⟨bq⟩⟩
      rw [if_neg c7] at H; have c7b0 : (a1_0 == ((rd_T40 l0 x9_1).f0)) = false := beq_eq_false_iff_ne.mpr c7; have c7b1 : (a1_0 != ((rd_T40 l0 x9_1).f0)) = true := bne_iff_ne.mpr c7; have H' := am H; clear H; have p170 : 0 ≤ (x9_1 : Int) := of_decide_eq_true aq; have q170 : x9_1 < (l0.length : Int) := of_decide_eq_true aq; obtain ⟨ad170, e170, hx170_0, hx170_1, hx170_2, hx170_3⟩ := at_T40 HR0.out x9_1 p170 q170
      cases e170
      replace hx170_0 := (HB.out.cell (World.block_lt_of_cell? w _ hx170_0)).trans hx170_0; replace hx170_1 := (HB.out.cell (World.block_lt_of_cell? w _ hx170_1)).trans hx170_1; replace hx170_2 := (HB.out.cell (World.block_lt_of_cell? w _ hx170_2)).trans hx170_2; replace hx170_3 := (HB.out.cell (World.block_lt_of_cell? w _ hx170_3)).trans hx170_3; replace p170 := eq_true p170; replace q170 := eq_true q170; go_wp2_with (first | ((with_reducible refine gate_dst (N := 6) rfl ?_); refine box_event ?hg (N := 6) ?hd (cs := #[.int .i64 0, .int .i64 0, .int .i64 0, .int .i64 0]) (t := 40) ?hr ?_; (case hd | hg => rfl); (case hr => go_simp; try rfl); intro gb171 hg w22 hbox hb; have BK171 := am (hbox); have GW171 := am (gq hg); have GE171 := am (gq hg); replace HB := sb hb; have ⟨NB169_171, NB171_169⟩ := nn hg BK169; replace BK169 := zb BK169 hb; clear hb hbox hg; have hnb23 := NB171_169.out; have hnc23 := NB169_171.out; have ⟨b240, b241, b242, b243, d240, d241, d242, d243⟩ := bc4 BK171; have ⟨b250, b251, b252, b253, d250, d251, d252, d253⟩ := bc4 BK169))
      go_roundg k1
      case measure => have := HK1.out; omega
      case rel => exact ⟨(wrap64 (x9_1 + 1)), sq, H', ⟨by have := HK1.out; omega⟩, ⟨zp BK169⟩, ⟨bq⟩⟩
     rw [if_neg c6] at H; exact absurd H (by simp)
    rw [if_neg c5] at H; exact absurd H (by simp)
   rw [if_neg c4] at H; have c4b0 : decide (x9_1 < (l0.length : Int)) = false := decide_eq_false c4; clear c4; obtain rfl := Option.some.inj H
   go_wp2
   go_ret
   exact ⟨eq_, bq⟩



mutual
def impl_IsShop.j0 : Nat → Bool → List Int → List (S40) → Option (Bool)
 | 0, _, _, _ => none
 | k + 1, x23, x1, x2 => if x23 = true then (some false) else (impl_IsShop.l0 k x1 (x1.length : Int) 0 x1 x2)
def impl_IsShop.l0 : Nat → List Int → Int → Int → List Int → List (S40) → Option (Bool)
 | 0, _, _, _, _, _ => none
 | k + 1, x25, x26, x27, x3, x2 => if x27 < x26 then (if 0 ≤ x27 then (if x27 < (x25.length : Int) then (if (rd x25 x27) < 0 then (some false) else (if (rd x25 x27) > 999 then (some false) else (impl_IsShop.l0 k x25 x26 (wrap64 (x27 + 1)) x3 x2))) else (none)) else (none)) else (impl_IsShop.l1 k x2 (x2.length : Int) 0 x3 x2)
def impl_IsShop.l1 : Nat → List (S40) → Int → Int → List Int → List (S40) → Option (Bool)
 | 0, _, _, _, _, _ => none
 | k + 1, x39, x40, x41, x5, x4 => if x41 < x40 then (if 0 ≤ x41 then (if x41 < (x39.length : Int) then ((impl_isLoan.f ((rd_T40 x39 x41).f0) ((rd_T40 x39 x41).f1) ((rd_T40 x39 x41).f2) ((rd_T40 x39 x41).f3)).bind fun t177 => (if t177 = true then (if x41 ≤ (x4.length : Int) then ((impl_sameLoan.f k (x4.take (x41 : Int).toNat) ((rd_T40 x39 x41).f0) ((rd_T40 x39 x41).f1) ((rd_T40 x39 x41).f2) ((rd_T40 x39 x41).f3)).bind fun t182 => (if t182 ≥ 0 then (some false) else (impl_IsShop.l1 k x39 x40 (wrap64 (x41 + 1)) x5 x4))) else (none)) else (some false))) else (none)) else (none)) else (some true)
end
def impl_IsShop.f (k : Nat) (l0_0 : List Int) (l0_1 : List (S40)) : Option (Bool) := if (l0_0.length : Int) = 8 then (if 0 < (l0_0.length : Int) then (if (rd l0_0 0) = 0 then (impl_IsShop.j0 k (decide ((l0_1.length : Int) > 20)) l0_0 l0_1) else (impl_IsShop.j0 k true l0_0 l0_1)) else (none)) else (impl_IsShop.j0 k true l0_0 l0_1)
def impl_IsShop.T12 : Bool × List (List Nat × List Nat) := (true, [([], []), ([0], [0]), ([1], [1]), ([2, 1], [2]), ([3], [3]), ([4, 3], [3, 4]), ([3], [3]), ([5, 6, 3], [3, 5, 6]), ([3], [3]), ([7, 8, 3, 3], [3, 7, 8]), ([9, 3], [3, 9]), ([3, 10], [3, 10])])
def impl_IsShop.B12 : List Nat := [0, 1, 3, 7, 15, 31, 15, 127, 15, 511, 1023, 2047]
theorem impl_IsShop.tab12 : rtab .any (opsOf Tryd.f15 12) = impl_IsShop.T12 := by kernel_rfl
theorem impl_IsShop.bits12 : waitsOk impl_IsShop.T12.2 impl_IsShop.B12 = true := by kernel_rfl
theorem impl_IsShop.calls (k : Nat) (A0_0 : Option Addr) (c0_0 : Nat) (l0_0 : List Int) (A0_1 : Option Addr) (c0_1 : Nat) (l0_1 : List (S40)) (r : Bool) (w : World) (hr0_0 : Kd.C (Kd.int .i64) w A0_0 l0_0.length l0_0) (hc0_0 : l0_0.length ≤ c0_0) (hr0_1 : Kd.C k40 w A0_1 l0_1.length l0_1) (hc0_1 : l0_1.length ≤ c0_1) (h : impl_IsShop.f k l0_0 l0_1 = some r) :
  Calls Tryd.prog 15 #[.agg #[.slice A0_0 l0_0.length c0_0, .slice A0_1 l0_1.length c0_1]] w fun e w' => e = .returned (.bool r) ∧ Below w.heap.size w w' := by
 have hu31 := Tryd.underlying31; have hu40 := Tryd.underlying40; have HR0_0 := am hr0_0; have HC0_0 := am hc0_0; clear hr0_0 hc0_0; have HR0_1 := am hr0_1; have HC0_1 := am hc0_1; clear hr0_1 hc0_1; have HB := am (Below.refl w.heap.size w); have H := h; clear h
 unfold impl_IsShop.f at H
 have HC2 := am H; clear H
 go_enter Tryd.func15, Tryd.ntmps15
 go_upto_region 1 with (first | ((with_reducible refine gate_dst (N := 1) rfl ?_); (try (refine gate_guard (by rfl) ?_; dsimp only)); refine box_event ?hg (N := 1) ?hd (cs := #[.slice A0_0 l0_0.length c0_0, .slice A0_1 l0_1.length c0_1]) (t := 31) ?hr ?_; (case hd | hg => rfl); (case hr => go_simp; try rfl); intro gb172 hg w3 hbox hb; have BK172 := am (hbox); have GW172 := am (gq hg); have GE172 := am (gq hg); replace HB := sb hb; clear hb hbox hg))
 (try simp only [Act.put, List.setIfInBounds_toArray, List.set_cons_zero, List.set_cons_succ])
 go_cut [23] (fun v23 wc => ∃ (kq : Nat) (x23_1 : Bool), v23 = .bool x23_1 ∧ Aside0 (impl_IsShop.j0 kq x23_1 l0_0 l0_1 = some r) ∧ Aside0 (kq ≤ k) ∧ Aside0 (wc.heap[gb172]? = some (.cells #[(.slice A0_0 l0_0.length c0_0), (.slice A0_1 l0_1.length c0_1)] 31 (0, 0))) ∧ Aside0 (Below w.heap.size w wc))
 case first =>
  have H := HC2.out; clear HC2; by_cases c4 : (l0_0.length : Int) = 8
  ·rw [if_pos c4] at H; have c4b0 : ((l0_0.length : Int) == 8) = true := beq_iff_eq.mpr c4; have c4b1 : ((l0_0.length : Int) != 8) = false := bne_eq_false_iff_eq.mpr c4; clear c4; (first | rw [c4b0] | (simp only [i64_w, i32_w]; rw [c4b0]) | skip); by_cases c5 : 0 < (l0_0.length : Int)
   ·rw [if_pos c5] at H; have c5b0 : decide (0 < (l0_0.length : Int)) = true := decide_eq_true c5; have c5b1 : decide (0 < l0_0.length) = true := decide_eq_true (by omega); clear c5; by_cases c6 : (rd l0_0 0) = 0
    ·rw [if_pos c6] at H; have c6b0 : ((rd l0_0 0) == 0) = true := beq_iff_eq.mpr c6; have c6b1 : ((rd l0_0 0) != 0) = false := bne_eq_false_iff_eq.mpr c6; clear c6; have H' := am H; clear H; have ⟨b70, b71, d70, d71⟩ := bc2 BK172; have p173 : 0 ≤ (0 : Int) := (by omega); have q173 : 0 < (l0_0.length : Int) := of_decide_eq_true aq; obtain ⟨ad173, e173, hx173_0⟩ := Kd.at_int HR0_0.out 0 p173 q173
     cases e173
     have qi173 : (0 < l0_0.length) = True := eq_true (by omega); (try rw [show ((0 : Int)).toNat = 0 from rfl] at hx173_0); (try rw [Addr.add_zero'] at hx173_0); replace hx173_0 := (HB.out.cell (World.block_lt_of_cell? w _ hx173_0)).trans hx173_0; replace p173 := eq_true p173; replace q173 := eq_true q173
     go_wp2
     go_meet
     case rel => exact ⟨_, (decide ((l0_1.length : Int) > 20)), sq, H', ⟨by first | omega | exact Nat.le_refl _⟩, ⟨zq BK172⟩, ⟨bq⟩⟩
    rw [if_neg c6] at H; have c6b0 : ((rd l0_0 0) == 0) = false := beq_eq_false_iff_ne.mpr c6; have c6b1 : ((rd l0_0 0) != 0) = true := bne_iff_ne.mpr c6; have H' := am H; clear H; have ⟨b80, b81, d80, d81⟩ := bc2 BK172; have p173 : 0 ≤ (0 : Int) := (by omega); have q173 : 0 < (l0_0.length : Int) := of_decide_eq_true aq; obtain ⟨ad173, e173, hx173_0⟩ := Kd.at_int HR0_0.out 0 p173 q173
    cases e173
    have qi173 : (0 < l0_0.length) = True := eq_true (by omega); (try rw [show ((0 : Int)).toNat = 0 from rfl] at hx173_0); (try rw [Addr.add_zero'] at hx173_0); replace hx173_0 := (HB.out.cell (World.block_lt_of_cell? w _ hx173_0)).trans hx173_0; replace p173 := eq_true p173; replace q173 := eq_true q173
    go_wp2
    go_meet
    case rel => exact ⟨_, (true), sq, H', ⟨by first | omega | exact Nat.le_refl _⟩, ⟨zq BK172⟩, ⟨bq⟩⟩
   rw [if_neg c5] at H; exact absurd H (by simp)
  rw [if_neg c4] at H; have c4b0 : ((l0_0.length : Int) == 8) = false := beq_eq_false_iff_ne.mpr c4; have c4b1 : ((l0_0.length : Int) != 8) = true := bne_iff_ne.mpr c4; (first | rw [c4b0] | (simp only [i64_w, i32_w]; rw [c4b0]) | skip); have H' := am H; clear H; have ⟨b90, b91, d90, d91⟩ := bc2 BK172
  go_wp2
  go_meet
  case rel => exact ⟨_, (true), sq, H', ⟨by first | omega | exact Nat.le_refl _⟩, ⟨zq BK172⟩, ⟨bq⟩⟩
 case rest =>
  clear HC2; try clear c4b0
  try clear c4b1
  try clear c5b0
  try clear c5b1
  try clear c6b0
  try clear c6b1
  try clear b70 b71 d70 d71
  try clear b80 b81 d80 d81
  try clear b90 b91 d90 d91
  try clear hx173_0
  try clear p173
  try clear q173
  obtain ⟨kq, x23_1, rfl, HA, HJ1, BK172, HB⟩ := hcut
  cases kq with
  | zero => exact absurd HA.out (by simp [impl_IsShop.j0])
  | succ kj1 =>
   have H := HA.out; clear HA; simp only [impl_IsShop.j0] at H; by_cases c10 : x23_1 = true
   ·subst c10; rw [if_pos rfl] at H; try dsimp only at H
    obtain rfl := Option.some.inj H
    go_wp2
    go_ret
    exact ⟨eq_, bq⟩
   replace c10 := Bool.eq_false_iff.mpr c10; subst c10; rw [if_neg (show ¬ (false = true) by decide)] at H; try dsimp only at H
   have H' := am H; clear H; have ⟨b110, b111, d110, d111⟩ := bc2 BK172
   go_wp2
   go_loopg [27] kj1 (fun kq v27 w' => ∃ (x27_2 : Int), v27 = .int .i64 x27_2 ∧ Aside0 (impl_IsShop.l0 kq l0_0 (l0_0.length : Int) x27_2 l0_0 l0_1 = some r) ∧ Aside0 (kq ≤ kj1) ∧ Aside0 (w'.heap[gb172]? = some (.cells #[(.slice A0_0 l0_0.length c0_0), (.slice A0_1 l0_1.length c0_1)] 31 (0, 0))) ∧ Aside0 (Below w.heap.size w w'))
   case atStart => exact ⟨(0), sq, H', ⟨Nat.le_refl _⟩, ⟨zq BK172⟩, ⟨bq⟩⟩
   case round =>
    clear H'; try clear c4b0
    try clear c4b1
    try clear c5b0
    try clear c5b1
    try clear c6b0
    try clear c6b1
    try clear c10
    try clear b110 b111 d110 d111
    try clear b70 b71 d70 d71
    try clear b80 b81 d80 d81
    try clear b90 b91 d90 d91
    try clear hx173_0
    try clear p173
    try clear q173
    obtain ⟨x27_2, rfl, HA, HK2, BK172, HB⟩ := hrel
    cases gk with
    | zero => exact absurd HA.out (by simp [impl_IsShop.l0])
    | succ k2 =>
     have H := HA.out; clear HA; simp only [impl_IsShop.l0] at H; by_cases c12 : x27_2 < (l0_0.length : Int)
     ·rw [if_pos c12] at H; have c12b0 : decide (x27_2 < (l0_0.length : Int)) = true := decide_eq_true c12; clear c12; by_cases c13 : 0 ≤ x27_2
      ·rw [if_pos c13] at H; have c13b0 : decide (0 ≤ x27_2) = true := decide_eq_true c13; clear c13; by_cases c14 : x27_2 < (l0_0.length : Int)
       ·rw [if_pos c14] at H; have c14b0 : decide (x27_2 < (l0_0.length : Int)) = true := decide_eq_true c14; clear c14; by_cases c15 : (rd l0_0 x27_2) < 0
        ·rw [if_pos c15] at H; have c15b0 : decide ((rd l0_0 x27_2) < 0) = true := decide_eq_true c15; clear c15; obtain rfl := Option.some.inj H; have p174 : 0 ≤ (x27_2 : Int) := of_decide_eq_true aq; have q174 : x27_2 < (l0_0.length : Int) := of_decide_eq_true aq; obtain ⟨ad174, e174, hx174_0⟩ := Kd.at_int HR0_0.out x27_2 p174 q174
         cases e174
         replace hx174_0 := (HB.out.cell (World.block_lt_of_cell? w _ hx174_0)).trans hx174_0; replace p174 := eq_true p174; replace q174 := eq_true q174
         go_wp2
         go_ret
         exact ⟨eq_, bq⟩
        rw [if_neg c15] at H; have c15b0 : decide ((rd l0_0 x27_2) < 0) = false := decide_eq_false c15; clear c15; by_cases c16 : (rd l0_0 x27_2) > 999
        ·rw [if_pos c16] at H; have c16b0 : decide (999 < (rd l0_0 x27_2)) = true := decide_eq_true c16; clear c16; obtain rfl := Option.some.inj H; have p174 : 0 ≤ (x27_2 : Int) := of_decide_eq_true aq; have q174 : x27_2 < (l0_0.length : Int) := of_decide_eq_true aq; obtain ⟨ad174, e174, hx174_0⟩ := Kd.at_int HR0_0.out x27_2 p174 q174
         cases e174
         replace hx174_0 := (HB.out.cell (World.block_lt_of_cell? w _ hx174_0)).trans hx174_0; replace p174 := eq_true p174; replace q174 := eq_true q174
         go_wp2
         go_ret
         exact ⟨eq_, bq⟩
        rw [if_neg c16] at H; have c16b0 : decide (999 < (rd l0_0 x27_2)) = false := decide_eq_false c16; clear c16; have H' := am H; clear H; have p174 : 0 ≤ (x27_2 : Int) := of_decide_eq_true aq; have q174 : x27_2 < (l0_0.length : Int) := of_decide_eq_true aq; obtain ⟨ad174, e174, hx174_0⟩ := Kd.at_int HR0_0.out x27_2 p174 q174
        cases e174
        replace hx174_0 := (HB.out.cell (World.block_lt_of_cell? w _ hx174_0)).trans hx174_0; replace p174 := eq_true p174; replace q174 := eq_true q174
        go_wp2
        go_roundg k2
        case measure => have := HJ1.out; have := HK2.out; omega
        case rel => exact ⟨(wrap64 (x27_2 + 1)), sq, H', ⟨by have := HJ1.out; have := HK2.out; omega⟩, ⟨zq BK172⟩, ⟨bq⟩⟩
       rw [if_neg c14] at H; exact absurd H (by simp)
      rw [if_neg c13] at H; exact absurd H (by simp)
     rw [if_neg c12] at H; have c12b0 : decide (x27_2 < (l0_0.length : Int)) = false := decide_eq_false c12; clear c12; have H' := am H; clear H; have ⟨b170, b171, d170, d171⟩ := bc2 BK172
     go_wp2
     go_loopg [41] k2 (fun kq v41 w' => ∃ (x41_3 : Int), v41 = .int .i64 x41_3 ∧ Aside0 (impl_IsShop.l1 kq l0_1 (l0_1.length : Int) x41_3 l0_0 l0_1 = some r) ∧ Aside0 (kq ≤ k2) ∧ Aside0 (w'.heap[gb172]? = some (.cells #[(.slice A0_0 l0_0.length c0_0), (.slice A0_1 l0_1.length c0_1)] 31 (0, 0))) ∧ Aside0 (Below w.heap.size w w'))
     case atStart => exact ⟨(0), sq, H', ⟨Nat.le_refl _⟩, ⟨zq BK172⟩, ⟨bq⟩⟩
     case round =>
      clear H'; try clear c4b0
      try clear c4b1
      try clear c5b0
      try clear c5b1
      try clear c6b0
      try clear c6b1
      try clear c10
      try clear c12b0
      try clear c13b0
      try clear c14b0
      try clear c15b0
      try clear c16b0
      try clear b110 b111 d110 d111
      try clear b170 b171 d170 d171
      try clear b70 b71 d70 d71
      try clear b80 b81 d80 d81
      try clear b90 b91 d90 d91
      try clear hx173_0
      try clear hx174_0
      try clear p173
      try clear p174
      try clear q173
      try clear q174
      obtain ⟨x41_3, rfl, HA, HK3, BK172, HB⟩ := hrel
      cases gk with
      | zero => exact absurd HA.out (by simp [impl_IsShop.l1])
      | succ k3 =>
       have H := HA.out; clear HA; simp only [impl_IsShop.l1] at H; by_cases c18 : x41_3 < (l0_1.length : Int)
       ·rw [if_pos c18] at H; have c18b0 : decide (x41_3 < (l0_1.length : Int)) = true := decide_eq_true c18; clear c18; by_cases c19 : 0 ≤ x41_3
        ·rw [if_pos c19] at H; have c19b0 : decide (0 ≤ x41_3) = true := decide_eq_true c19; clear c19; by_cases c20 : x41_3 < (l0_1.length : Int)
         ·rw [if_pos c20] at H; have c20b0 : decide (x41_3 < (l0_1.length : Int)) = true := decide_eq_true c20; clear c20; obtain ⟨t177, A21, H⟩ := bindq H; try dsimp only at H
          by_cases c22 : t177 = true
          ·subst c22; rw [if_pos rfl] at H; try dsimp only at H
           have c23b0 := eq_true (of_decide_eq_true aq : 0 ≤ x41_3); by_cases c24 : x41_3 ≤ (l0_1.length : Int)
           ·rw [if_pos c24] at H; have c24b0 := eq_true c24; have c24b1 : decide (x41_3 ≤ (l0_1.length : Int)) = true := decide_eq_true c24; clear c24; obtain ⟨y178, hy178⟩ : ∃ y_ : List (S40), y_ = (l0_1.take (x41_3 : Int).toNat) := ⟨_, rfl⟩; replace H : ((impl_sameLoan.f k3 y178 ((rd_T40 l0_1 x41_3).f0) ((rd_T40 l0_1 x41_3).f1) ((rd_T40 l0_1 x41_3).f2) ((rd_T40 l0_1 x41_3).f3)).bind fun t182 => (if t182 ≥ 0 then (some false) else (impl_IsShop.l1 k3 l0_1 (l0_1.length : Int) (wrap64 (x41_3 + 1)) l0_0 l0_1))) = some r := yq hy178 H; have Ny178 := am hy178; clear hy178; obtain ⟨t182, A25, H⟩ := bindq H; try dsimp only at H
            by_cases c26 : t182 ≥ 0
            ·rw [if_pos c26] at H; have c26b0 : decide (0 ≤ t182) = true := decide_eq_true c26; clear c26; obtain rfl := Option.some.inj H; have p175 : 0 ≤ (x41_3 : Int) := of_decide_eq_true aq; have q175 : x41_3 < (l0_1.length : Int) := of_decide_eq_true aq; obtain ⟨ad175, e175, hx175_0, hx175_1, hx175_2, hx175_3⟩ := at_T40 HR0_1.out x41_3 p175 q175
             cases e175
             replace hx175_0 := (HB.out.cell (World.block_lt_of_cell? w _ hx175_0)).trans hx175_0; replace hx175_1 := (HB.out.cell (World.block_lt_of_cell? w _ hx175_1)).trans hx175_1; replace hx175_2 := (HB.out.cell (World.block_lt_of_cell? w _ hx175_2)).trans hx175_2; replace hx175_3 := (HB.out.cell (World.block_lt_of_cell? w _ hx175_3)).trans hx175_3; replace p175 := eq_true p175; replace q175 := eq_true q175; try go_wp2_with (first | ((with_reducible refine gate_dst (N := 6) rfl ?_); (try (refine gate_guard (by rfl) ?_; dsimp only)); refine box_event ?hg (N := 6) ?hd (cs := #[.int .i64 0, .int .i64 0, .int .i64 0, .int .i64 0]) (t := 40) ?hr ?_; (case hd | hg => rfl); (case hr => go_simp; try rfl); intro gb176 hg w27 hbox hb; have BK176 := am (hbox); have GW176 := am (gq hg); have GE176 := am (gq hg); replace HB := sb hb; have ⟨NB172_176, NB176_172⟩ := nn hg BK172; replace BK172 := zb BK172 hb; clear hb hbox hg; have hnb28 := NB176_172.out; have hnc28 := NB172_176.out; have ⟨b290, b291, b292, b293, d290, d291, d292, d293⟩ := bc4 BK176))
             have n0_ : Aside0 (((((w27.setCell ⟨gb176, 0, none⟩ (.int .i64 ((rd_T40 l0_1 x41_3).f0))).setCell ⟨gb176, 1, none⟩ (.int .i64 ((rd_T40 l0_1 x41_3).f1))).setCell ⟨gb176, 2, none⟩ (.int .i64 ((rd_T40 l0_1 x41_3).f2))).setCell ⟨gb176, 3, none⟩ (.int .i64 ((rd_T40 l0_1 x41_3).f3))).heap[gb172]? = some (.cells #[.slice A0_0 l0_0.length c0_0, .slice (some ad175) l0_1.length c0_1] 31 (0, 0))) := ⟨zp BK172⟩; have n1_ : Aside0 (((((w27.setCell ⟨gb176, 0, none⟩ (.int .i64 ((rd_T40 l0_1 x41_3).f0))).setCell ⟨gb176, 1, none⟩ (.int .i64 ((rd_T40 l0_1 x41_3).f1))).setCell ⟨gb176, 2, none⟩ (.int .i64 ((rd_T40 l0_1 x41_3).f2))).setCell ⟨gb176, 3, none⟩ (.int .i64 ((rd_T40 l0_1 x41_3).f3))).heap[gb176]? = some (.cells #[.int .i64 ((rd_T40 l0_1 x41_3).f0), .int .i64 ((rd_T40 l0_1 x41_3).f1), .int .i64 ((rd_T40 l0_1 x41_3).f2), .int .i64 ((rd_T40 l0_1 x41_3).f3)] 40 (0, 0))) := ⟨zp BK176⟩; have n2_ : Aside0 (Below w.heap.size w ((((w27.setCell ⟨gb176, 0, none⟩ (.int .i64 ((rd_T40 l0_1 x41_3).f0))).setCell ⟨gb176, 1, none⟩ (.int .i64 ((rd_T40 l0_1 x41_3).f1))).setCell ⟨gb176, 2, none⟩ (.int .i64 ((rd_T40 l0_1 x41_3).f2))).setCell ⟨gb176, 3, none⟩ (.int .i64 ((rd_T40 l0_1 x41_3).f3)))) := ⟨bq⟩; (try clear BK172); (try clear BK176); (try clear HB); generalize ((((w27.setCell ⟨gb176, 0, none⟩ (.int .i64 ((rd_T40 l0_1 x41_3).f0))).setCell ⟨gb176, 1, none⟩ (.int .i64 ((rd_T40 l0_1 x41_3).f1))).setCell ⟨gb176, 2, none⟩ (.int .i64 ((rd_T40 l0_1 x41_3).f2))).setCell ⟨gb176, 3, none⟩ (.int .i64 ((rd_T40 l0_1 x41_3).f3))) = w30 at n0_ n1_ n2_ ⊢; have BK172 := n0_; have BK176 := n1_; have HB := n2_; clear n0_ n1_ n2_; replace BK172 := am (blk_drew BK172.out); replace BK176 := am (blk_drew BK176.out); replace HB := am (below_drew1 HB.out); refine start_ (n := 12) (S := fun w' => w'.cell? ⟨gb176, 0, none⟩ = some (.int .i64 ((rd_T40 l0_1 x41_3).f0)) ∧ w'.cell? ⟨gb176, 1, none⟩ = some (.int .i64 ((rd_T40 l0_1 x41_3).f1)) ∧ w'.cell? ⟨gb176, 2, none⟩ = some (.int .i64 ((rd_T40 l0_1 x41_3).f2)) ∧ w'.cell? ⟨gb176, 3, none⟩ = some (.int .i64 ((rd_T40 l0_1 x41_3).f3)) ∧ w'.cell? ⟨gb172, 0, none⟩ = some (.slice A0_0 l0_0.length c0_0) ∧ w'.cell? ⟨gb172, 1, none⟩ = some (.slice (some ad175) l0_1.length c0_1)) (ds := []) #[O, O, O, O, O, O, O, O, O, O, O, O] (by kernel_rfl) rfl rfl cl (fun hHeld => ?_); refine with_tabW impl_IsShop.tab12 impl_IsShop.bits12 (fun HT_ HW_ => ?_); generalize w30.drew = w31 at BK172 BK176 HB hHeld ⊢; refine tk_ 0 (some 46) ?_ #[I, O, O, O, O, O, O, O, O, O, O, O] rfl rfl (take_ofW HT_.out HW_.out (by kernel_rfl)) (.inl ⟨by rfl, ?_⟩) hHeld ?_ ?_ ?_; rotate_left; (rintro w' ⟨s0, s1, s2, s3, s4, s5⟩; go_simp; with_reducible rfl); rotate_left; (simp only [pw]; rfl); refine one_ (i := 1) (N := some 47) #[I, I, O, O, O, O, O, O, O, O, O, O] rfl rfl (one_of HT_.out (by kernel_rfl)) (by decide) (fun K hK => ?_); refine goes_ Tryd.func23 (by kernel_rfl) rfl #[.agg #[.int .i64 ((rd_T40 l0_1 x41_3).f0), .int .i64 ((rd_T40 l0_1 x41_3).f1), .int .i64 ((rd_T40 l0_1 x41_3).f2), .int .i64 ((rd_T40 l0_1 x41_3).f3)]] (by rfl) rfl rfl mq ?_; with_reducible refine (impl_isLoan.calls ((rd_T40 l0_1 x41_3).f0) ((rd_T40 l0_1 x41_3).f1) ((rd_T40 l0_1 x41_3).f2) ((rd_T40 l0_1 x41_3).f3) true _ A21.out).mono ?_
             rintro e w32 ⟨rfl, hb⟩; refine ⟨_, rfl, ?_⟩; replace BK172 := zb BK172 hb; replace BK176 := zb BK176 hb; replace HB := sb hb; (try clear hb); have q33 : (x41_3 : Int) ≤ ((l0_1.length : Int) : Int) := of_decide_eq_true aq; obtain ⟨i033, hi033, _, hsz33, _⟩ := info_parts info40; have hroom33 : l0_1.length ≤ c0_1 := HC0_1.out; have hC33 : Kd.C k40 _ (some ad175) l0_1.length l0_1 := HR0_1.out; have hcut33 := cut_to (P := Tryd.prog) 29 40 .i64 Tryd.underlying29 hi033 (some ad175) l0_1.length c0_1 x41_3 (of_decide_eq_true aq) q33 hroom33; have hr33 := Kd.C_take (m := (x41_3 : Int).toNat) hC33 (by omega); have hy33 : y178.length = (x41_3 : Int).toNat := (by rw [Ny178.out, List.length_take]; omega); rw [← Ny178.out] at hr33; rw [← hy33] at hcut33; have HR181 := am hr33; have HC181 := am (show y178.length ≤ c0_1 from by omega); clear hr33 hC33 hroom33 hi033 hsz33; have KY33 := am hy33; clear hy33; replace q33 := eq_true q33; refine hK.out _ _ cl (fun hHeld => ?_); clear hK K; refine norm_ (a' := ?_) ?_ ?_; rotate_left
             ·show Act.put _ (some 47) _ = _
              simp only [pw]; rfl
             refine pu_ 2 (some 48) ?_ #[I, I, I, O, O, O, O, O, O, O, O, O] rfl rfl (any_of HT_.out (by kernel_rfl)) (.inl ⟨by rfl, ?_⟩) ?_ ?_ ?_; rotate_left; (intro w'; go_simp; with_reducible rfl); rotate_left; (simp only [pw]; rfl); refine pu_ 3 (some 49) ?_ #[I, I, I, I, O, O, O, O, O, O, O, O] rfl rfl (any_of HT_.out (by kernel_rfl)) (.inl ⟨by rfl, ?_⟩) ?_ ?_ ?_; rotate_left; (intro w'; go_simp; with_reducible rfl); rotate_left; (simp only [pw]; rfl); refine pu_ 4 (some 50) ?_ #[I, I, I, I, I, O, O, O, O, O, O, O] rfl rfl (any_of HT_.out (by kernel_rfl)) (.inl ⟨by rfl, ?_⟩) ?_ ?_ ?_; rotate_left; (intro w'; go_simp; with_reducible rfl); rotate_left; (simp only [pw]; rfl); refine pu_ 6 (some 52) ?_ #[I, I, I, I, I, O, I, O, O, O, O, O] rfl rfl (any_of HT_.out (by kernel_rfl)) (.inl ⟨by rfl, ?_⟩) ?_ ?_ ?_; rotate_left; (intro w'; go_simp; with_reducible rfl); rotate_left; (simp only [pw]; rfl); refine tk_ 5 (some 51) ?_ #[I, I, I, I, I, I, I, O, O, O, O, O] rfl rfl (take_ofW HT_.out HW_.out (by kernel_rfl)) (.inl ⟨by rfl, ?_⟩) hHeld ?_ ?_ ?_; rotate_left; (rintro w' ⟨s0, s1, s2, s3, s4, s5⟩; go_simp; with_reducible rfl); rotate_left; (simp only [pw]; rfl); refine pu_ 7 (some 53) ?_ #[I, I, I, I, I, I, I, I, O, O, O, O] rfl rfl (any_of HT_.out (by kernel_rfl)) (.inl ⟨by rfl, ?_⟩) ?_ ?_ ?_; rotate_left; (intro w'; go_simp; with_reducible rfl); rotate_left; (simp only [pw]; rfl); refine tk_ 8 (some 54) ?_ #[I, I, I, I, I, I, I, I, I, O, O, O] rfl rfl (take_ofW HT_.out HW_.out (by kernel_rfl)) (.inl ⟨by rfl, ?_⟩) hHeld ?_ ?_ ?_; rotate_left; (rintro w' ⟨s0, s1, s2, s3, s4, s5⟩; go_simp; with_reducible rfl); rotate_left; (simp only [pw]; rfl); refine one_ (i := 9) (N := some 55) #[I, I, I, I, I, I, I, I, I, I, O, O] rfl rfl (one_of HT_.out (by kernel_rfl)) (by decide) (fun K hK => ?_); refine goes_ Tryd.func24 (by kernel_rfl) rfl #[.slice (some ad175) y178.length c0_1, .agg #[.int .i64 ((rd_T40 l0_1 x41_3).f0), .int .i64 ((rd_T40 l0_1 x41_3).f1), .int .i64 ((rd_T40 l0_1 x41_3).f2), .int .i64 ((rd_T40 l0_1 x41_3).f3)]] (by rfl) rfl rfl mq ?_; with_reducible refine (impl_sameLoan.calls k3 _ _ y178 ((rd_T40 l0_1 x41_3).f0) ((rd_T40 l0_1 x41_3).f1) ((rd_T40 l0_1 x41_3).f2) ((rd_T40 l0_1 x41_3).f3) t182 _ ?s1 ?s2 A25.out).mono ?_
             (case s1 => exact cq (Kd.C_below HR181.out HB.out)); (case s2 => exact HC181.out); rintro e w34 ⟨rfl, hb⟩; refine ⟨_, rfl, ?_⟩; replace BK172 := zb BK172 hb; replace BK176 := zb BK176 hb; replace HB := sb hb; (try clear hb); refine hK.out _ _ cl (fun hHeld => ?_); clear hK K; refine norm_ (a' := ?_) ?_ ?_; rotate_left
             ·show Act.put _ (some 55) _ = _
              simp only [pw]; rfl
             refine pu_ 10 (some 56) ?_ #[I, I, I, I, I, I, I, I, I, I, I, O] rfl rfl (any_of HT_.out (by kernel_rfl)) (.inl ⟨by rfl, ?_⟩) ?_ ?_ ?_; rotate_left; (intro w'; go_simp; with_reducible rfl); rotate_left; (simp only [pw]; rfl); refine pu_ 11 (some 57) ?_ #[I, I, I, I, I, I, I, I, I, I, I, I] rfl rfl (any_of HT_.out (by kernel_rfl)) (.inl ⟨by rfl, ?_⟩) ?_ ?_ ?_; rotate_left; (intro w'; go_simp; with_reducible rfl); rotate_left; (simp only [pw]; rfl); refine done_ (done_of HT_.out (by kernel_rfl)) ?_; try go_wp2
             go_ret
             exact ⟨eq_, bq⟩
            rw [if_neg c26] at H; have c26b0 : decide (0 ≤ t182) = false := decide_eq_false c26; clear c26; have H' := am H; clear H; have p175 : 0 ≤ (x41_3 : Int) := of_decide_eq_true aq; have q175 : x41_3 < (l0_1.length : Int) := of_decide_eq_true aq; obtain ⟨ad175, e175, hx175_0, hx175_1, hx175_2, hx175_3⟩ := at_T40 HR0_1.out x41_3 p175 q175
            cases e175
            replace hx175_0 := (HB.out.cell (World.block_lt_of_cell? w _ hx175_0)).trans hx175_0; replace hx175_1 := (HB.out.cell (World.block_lt_of_cell? w _ hx175_1)).trans hx175_1; replace hx175_2 := (HB.out.cell (World.block_lt_of_cell? w _ hx175_2)).trans hx175_2; replace hx175_3 := (HB.out.cell (World.block_lt_of_cell? w _ hx175_3)).trans hx175_3; replace p175 := eq_true p175; replace q175 := eq_true q175; try go_wp2_with (first | ((with_reducible refine gate_dst (N := 6) rfl ?_); (try (refine gate_guard (by rfl) ?_; dsimp only)); refine box_event ?hg (N := 6) ?hd (cs := #[.int .i64 0, .int .i64 0, .int .i64 0, .int .i64 0]) (t := 40) ?hr ?_; (case hd | hg => rfl); (case hr => go_simp; try rfl); intro gb176 hg w35 hbox hb; have BK176 := am (hbox); have GW176 := am (gq hg); have GE176 := am (gq hg); replace HB := sb hb; have ⟨NB172_176, NB176_172⟩ := nn hg BK172; replace BK172 := zb BK172 hb; clear hb hbox hg; have hnb36 := NB176_172.out; have hnc36 := NB172_176.out; have ⟨b370, b371, b372, b373, d370, d371, d372, d373⟩ := bc4 BK176))
            have n0_ : Aside0 (((((w35.setCell ⟨gb176, 0, none⟩ (.int .i64 ((rd_T40 l0_1 x41_3).f0))).setCell ⟨gb176, 1, none⟩ (.int .i64 ((rd_T40 l0_1 x41_3).f1))).setCell ⟨gb176, 2, none⟩ (.int .i64 ((rd_T40 l0_1 x41_3).f2))).setCell ⟨gb176, 3, none⟩ (.int .i64 ((rd_T40 l0_1 x41_3).f3))).heap[gb172]? = some (.cells #[.slice A0_0 l0_0.length c0_0, .slice (some ad175) l0_1.length c0_1] 31 (0, 0))) := ⟨zp BK172⟩; have n1_ : Aside0 (((((w35.setCell ⟨gb176, 0, none⟩ (.int .i64 ((rd_T40 l0_1 x41_3).f0))).setCell ⟨gb176, 1, none⟩ (.int .i64 ((rd_T40 l0_1 x41_3).f1))).setCell ⟨gb176, 2, none⟩ (.int .i64 ((rd_T40 l0_1 x41_3).f2))).setCell ⟨gb176, 3, none⟩ (.int .i64 ((rd_T40 l0_1 x41_3).f3))).heap[gb176]? = some (.cells #[.int .i64 ((rd_T40 l0_1 x41_3).f0), .int .i64 ((rd_T40 l0_1 x41_3).f1), .int .i64 ((rd_T40 l0_1 x41_3).f2), .int .i64 ((rd_T40 l0_1 x41_3).f3)] 40 (0, 0))) := ⟨zp BK176⟩; have n2_ : Aside0 (Below w.heap.size w ((((w35.setCell ⟨gb176, 0, none⟩ (.int .i64 ((rd_T40 l0_1 x41_3).f0))).setCell ⟨gb176, 1, none⟩ (.int .i64 ((rd_T40 l0_1 x41_3).f1))).setCell ⟨gb176, 2, none⟩ (.int .i64 ((rd_T40 l0_1 x41_3).f2))).setCell ⟨gb176, 3, none⟩ (.int .i64 ((rd_T40 l0_1 x41_3).f3)))) := ⟨bq⟩; (try clear BK172); (try clear BK176); (try clear HB); generalize ((((w35.setCell ⟨gb176, 0, none⟩ (.int .i64 ((rd_T40 l0_1 x41_3).f0))).setCell ⟨gb176, 1, none⟩ (.int .i64 ((rd_T40 l0_1 x41_3).f1))).setCell ⟨gb176, 2, none⟩ (.int .i64 ((rd_T40 l0_1 x41_3).f2))).setCell ⟨gb176, 3, none⟩ (.int .i64 ((rd_T40 l0_1 x41_3).f3))) = w38 at n0_ n1_ n2_ ⊢; have BK172 := n0_; have BK176 := n1_; have HB := n2_; clear n0_ n1_ n2_; replace BK172 := am (blk_drew BK172.out); replace BK176 := am (blk_drew BK176.out); replace HB := am (below_drew1 HB.out); refine start_ (n := 12) (S := fun w' => w'.cell? ⟨gb176, 0, none⟩ = some (.int .i64 ((rd_T40 l0_1 x41_3).f0)) ∧ w'.cell? ⟨gb176, 1, none⟩ = some (.int .i64 ((rd_T40 l0_1 x41_3).f1)) ∧ w'.cell? ⟨gb176, 2, none⟩ = some (.int .i64 ((rd_T40 l0_1 x41_3).f2)) ∧ w'.cell? ⟨gb176, 3, none⟩ = some (.int .i64 ((rd_T40 l0_1 x41_3).f3)) ∧ w'.cell? ⟨gb172, 0, none⟩ = some (.slice A0_0 l0_0.length c0_0) ∧ w'.cell? ⟨gb172, 1, none⟩ = some (.slice (some ad175) l0_1.length c0_1)) (ds := []) #[O, O, O, O, O, O, O, O, O, O, O, O] (by kernel_rfl) rfl rfl cl (fun hHeld => ?_); refine with_tabW impl_IsShop.tab12 impl_IsShop.bits12 (fun HT_ HW_ => ?_); generalize w38.drew = w39 at BK172 BK176 HB hHeld ⊢; refine tk_ 0 (some 46) ?_ #[I, O, O, O, O, O, O, O, O, O, O, O] rfl rfl (take_ofW HT_.out HW_.out (by kernel_rfl)) (.inl ⟨by rfl, ?_⟩) hHeld ?_ ?_ ?_; rotate_left; (rintro w' ⟨s0, s1, s2, s3, s4, s5⟩; go_simp; with_reducible rfl); rotate_left; (simp only [pw]; rfl); refine one_ (i := 1) (N := some 47) #[I, I, O, O, O, O, O, O, O, O, O, O] rfl rfl (one_of HT_.out (by kernel_rfl)) (by decide) (fun K hK => ?_); refine goes_ Tryd.func23 (by kernel_rfl) rfl #[.agg #[.int .i64 ((rd_T40 l0_1 x41_3).f0), .int .i64 ((rd_T40 l0_1 x41_3).f1), .int .i64 ((rd_T40 l0_1 x41_3).f2), .int .i64 ((rd_T40 l0_1 x41_3).f3)]] (by rfl) rfl rfl mq ?_; with_reducible refine (impl_isLoan.calls ((rd_T40 l0_1 x41_3).f0) ((rd_T40 l0_1 x41_3).f1) ((rd_T40 l0_1 x41_3).f2) ((rd_T40 l0_1 x41_3).f3) true _ A21.out).mono ?_
            rintro e w40 ⟨rfl, hb⟩; refine ⟨_, rfl, ?_⟩; replace BK172 := zb BK172 hb; replace BK176 := zb BK176 hb; replace HB := sb hb; (try clear hb); have q41 : (x41_3 : Int) ≤ ((l0_1.length : Int) : Int) := of_decide_eq_true aq; obtain ⟨i041, hi041, _, hsz41, _⟩ := info_parts info40; have hroom41 : l0_1.length ≤ c0_1 := HC0_1.out; have hC41 : Kd.C k40 _ (some ad175) l0_1.length l0_1 := HR0_1.out; have hcut41 := cut_to (P := Tryd.prog) 29 40 .i64 Tryd.underlying29 hi041 (some ad175) l0_1.length c0_1 x41_3 (of_decide_eq_true aq) q41 hroom41; have hr41 := Kd.C_take (m := (x41_3 : Int).toNat) hC41 (by omega); have hy41 : y178.length = (x41_3 : Int).toNat := (by rw [Ny178.out, List.length_take]; omega); rw [← Ny178.out] at hr41; rw [← hy41] at hcut41; have HR181 := am hr41; have HC181 := am (show y178.length ≤ c0_1 from by omega); clear hr41 hC41 hroom41 hi041 hsz41; have KY41 := am hy41; clear hy41; replace q41 := eq_true q41; refine hK.out _ _ cl (fun hHeld => ?_); clear hK K; refine norm_ (a' := ?_) ?_ ?_; rotate_left
            ·show Act.put _ (some 47) _ = _
             simp only [pw]; rfl
            refine pu_ 2 (some 48) ?_ #[I, I, I, O, O, O, O, O, O, O, O, O] rfl rfl (any_of HT_.out (by kernel_rfl)) (.inl ⟨by rfl, ?_⟩) ?_ ?_ ?_; rotate_left; (intro w'; go_simp; with_reducible rfl); rotate_left; (simp only [pw]; rfl); refine pu_ 3 (some 49) ?_ #[I, I, I, I, O, O, O, O, O, O, O, O] rfl rfl (any_of HT_.out (by kernel_rfl)) (.inl ⟨by rfl, ?_⟩) ?_ ?_ ?_; rotate_left; (intro w'; go_simp; with_reducible rfl); rotate_left; (simp only [pw]; rfl); refine pu_ 4 (some 50) ?_ #[I, I, I, I, I, O, O, O, O, O, O, O] rfl rfl (any_of HT_.out (by kernel_rfl)) (.inl ⟨by rfl, ?_⟩) ?_ ?_ ?_; rotate_left; (intro w'; go_simp; with_reducible rfl); rotate_left; (simp only [pw]; rfl); refine pu_ 6 (some 52) ?_ #[I, I, I, I, I, O, I, O, O, O, O, O] rfl rfl (any_of HT_.out (by kernel_rfl)) (.inl ⟨by rfl, ?_⟩) ?_ ?_ ?_; rotate_left; (intro w'; go_simp; with_reducible rfl); rotate_left; (simp only [pw]; rfl); refine tk_ 5 (some 51) ?_ #[I, I, I, I, I, I, I, O, O, O, O, O] rfl rfl (take_ofW HT_.out HW_.out (by kernel_rfl)) (.inl ⟨by rfl, ?_⟩) hHeld ?_ ?_ ?_; rotate_left; (rintro w' ⟨s0, s1, s2, s3, s4, s5⟩; go_simp; with_reducible rfl); rotate_left; (simp only [pw]; rfl); refine pu_ 7 (some 53) ?_ #[I, I, I, I, I, I, I, I, O, O, O, O] rfl rfl (any_of HT_.out (by kernel_rfl)) (.inl ⟨by rfl, ?_⟩) ?_ ?_ ?_; rotate_left; (intro w'; go_simp; with_reducible rfl); rotate_left; (simp only [pw]; rfl); refine tk_ 8 (some 54) ?_ #[I, I, I, I, I, I, I, I, I, O, O, O] rfl rfl (take_ofW HT_.out HW_.out (by kernel_rfl)) (.inl ⟨by rfl, ?_⟩) hHeld ?_ ?_ ?_; rotate_left; (rintro w' ⟨s0, s1, s2, s3, s4, s5⟩; go_simp; with_reducible rfl); rotate_left; (simp only [pw]; rfl); refine one_ (i := 9) (N := some 55) #[I, I, I, I, I, I, I, I, I, I, O, O] rfl rfl (one_of HT_.out (by kernel_rfl)) (by decide) (fun K hK => ?_); refine goes_ Tryd.func24 (by kernel_rfl) rfl #[.slice (some ad175) y178.length c0_1, .agg #[.int .i64 ((rd_T40 l0_1 x41_3).f0), .int .i64 ((rd_T40 l0_1 x41_3).f1), .int .i64 ((rd_T40 l0_1 x41_3).f2), .int .i64 ((rd_T40 l0_1 x41_3).f3)]] (by rfl) rfl rfl mq ?_; with_reducible refine (impl_sameLoan.calls k3 _ _ y178 ((rd_T40 l0_1 x41_3).f0) ((rd_T40 l0_1 x41_3).f1) ((rd_T40 l0_1 x41_3).f2) ((rd_T40 l0_1 x41_3).f3) t182 _ ?s1 ?s2 A25.out).mono ?_
            (case s1 => exact cq (Kd.C_below HR181.out HB.out)); (case s2 => exact HC181.out); rintro e w42 ⟨rfl, hb⟩; refine ⟨_, rfl, ?_⟩; replace BK172 := zb BK172 hb; replace BK176 := zb BK176 hb; replace HB := sb hb; (try clear hb); refine hK.out _ _ cl (fun hHeld => ?_); clear hK K; refine norm_ (a' := ?_) ?_ ?_; rotate_left
            ·show Act.put _ (some 55) _ = _
             simp only [pw]; rfl
            refine pu_ 10 (some 56) ?_ #[I, I, I, I, I, I, I, I, I, I, I, O] rfl rfl (any_of HT_.out (by kernel_rfl)) (.inl ⟨by rfl, ?_⟩) ?_ ?_ ?_; rotate_left; (intro w'; go_simp; with_reducible rfl); rotate_left; (simp only [pw]; rfl); refine pu_ 11 (some 57) ?_ #[I, I, I, I, I, I, I, I, I, I, I, I] rfl rfl (any_of HT_.out (by kernel_rfl)) (.inl ⟨by rfl, ?_⟩) ?_ ?_ ?_; rotate_left; (intro w'; go_simp; with_reducible rfl); rotate_left; (simp only [pw]; rfl); refine done_ (done_of HT_.out (by kernel_rfl)) ?_; try go_wp2
            go_roundg k3
            case measure => have := HJ1.out; have := HK2.out; have := HK3.out; omega
            case rel => exact ⟨(wrap64 (x41_3 + 1)), sq, H', ⟨by have := HJ1.out; have := HK2.out; have := HK3.out; omega⟩, ⟨zq BK172⟩, ⟨bq⟩⟩
           rw [if_neg c24] at H; exact absurd H (by simp)
          replace c22 := Bool.eq_false_iff.mpr c22; subst c22; rw [if_neg (show ¬ (false = true) by decide)] at H; try dsimp only at H
          obtain rfl := Option.some.inj H; have p175 : 0 ≤ (x41_3 : Int) := of_decide_eq_true aq; have q175 : x41_3 < (l0_1.length : Int) := of_decide_eq_true aq; obtain ⟨ad175, e175, hx175_0, hx175_1, hx175_2, hx175_3⟩ := at_T40 HR0_1.out x41_3 p175 q175
          cases e175
          replace hx175_0 := (HB.out.cell (World.block_lt_of_cell? w _ hx175_0)).trans hx175_0; replace hx175_1 := (HB.out.cell (World.block_lt_of_cell? w _ hx175_1)).trans hx175_1; replace hx175_2 := (HB.out.cell (World.block_lt_of_cell? w _ hx175_2)).trans hx175_2; replace hx175_3 := (HB.out.cell (World.block_lt_of_cell? w _ hx175_3)).trans hx175_3; replace p175 := eq_true p175; replace q175 := eq_true q175; try go_wp2_with (first | ((with_reducible refine gate_dst (N := 6) rfl ?_); (try (refine gate_guard (by rfl) ?_; dsimp only)); refine box_event ?hg (N := 6) ?hd (cs := #[.int .i64 0, .int .i64 0, .int .i64 0, .int .i64 0]) (t := 40) ?hr ?_; (case hd | hg => rfl); (case hr => go_simp; try rfl); intro gb176 hg w43 hbox hb; have BK176 := am (hbox); have GW176 := am (gq hg); have GE176 := am (gq hg); replace HB := sb hb; have ⟨NB172_176, NB176_172⟩ := nn hg BK172; replace BK172 := zb BK172 hb; clear hb hbox hg; have hnb44 := NB176_172.out; have hnc44 := NB172_176.out; have ⟨b450, b451, b452, b453, d450, d451, d452, d453⟩ := bc4 BK176))
          have n0_ : Aside0 (((((w43.setCell ⟨gb176, 0, none⟩ (.int .i64 ((rd_T40 l0_1 x41_3).f0))).setCell ⟨gb176, 1, none⟩ (.int .i64 ((rd_T40 l0_1 x41_3).f1))).setCell ⟨gb176, 2, none⟩ (.int .i64 ((rd_T40 l0_1 x41_3).f2))).setCell ⟨gb176, 3, none⟩ (.int .i64 ((rd_T40 l0_1 x41_3).f3))).heap[gb172]? = some (.cells #[.slice A0_0 l0_0.length c0_0, .slice (some ad175) l0_1.length c0_1] 31 (0, 0))) := ⟨zp BK172⟩; have n1_ : Aside0 (((((w43.setCell ⟨gb176, 0, none⟩ (.int .i64 ((rd_T40 l0_1 x41_3).f0))).setCell ⟨gb176, 1, none⟩ (.int .i64 ((rd_T40 l0_1 x41_3).f1))).setCell ⟨gb176, 2, none⟩ (.int .i64 ((rd_T40 l0_1 x41_3).f2))).setCell ⟨gb176, 3, none⟩ (.int .i64 ((rd_T40 l0_1 x41_3).f3))).heap[gb176]? = some (.cells #[.int .i64 ((rd_T40 l0_1 x41_3).f0), .int .i64 ((rd_T40 l0_1 x41_3).f1), .int .i64 ((rd_T40 l0_1 x41_3).f2), .int .i64 ((rd_T40 l0_1 x41_3).f3)] 40 (0, 0))) := ⟨zp BK176⟩; have n2_ : Aside0 (Below w.heap.size w ((((w43.setCell ⟨gb176, 0, none⟩ (.int .i64 ((rd_T40 l0_1 x41_3).f0))).setCell ⟨gb176, 1, none⟩ (.int .i64 ((rd_T40 l0_1 x41_3).f1))).setCell ⟨gb176, 2, none⟩ (.int .i64 ((rd_T40 l0_1 x41_3).f2))).setCell ⟨gb176, 3, none⟩ (.int .i64 ((rd_T40 l0_1 x41_3).f3)))) := ⟨bq⟩; (try clear BK172); (try clear BK176); (try clear HB); generalize ((((w43.setCell ⟨gb176, 0, none⟩ (.int .i64 ((rd_T40 l0_1 x41_3).f0))).setCell ⟨gb176, 1, none⟩ (.int .i64 ((rd_T40 l0_1 x41_3).f1))).setCell ⟨gb176, 2, none⟩ (.int .i64 ((rd_T40 l0_1 x41_3).f2))).setCell ⟨gb176, 3, none⟩ (.int .i64 ((rd_T40 l0_1 x41_3).f3))) = w46 at n0_ n1_ n2_ ⊢; have BK172 := n0_; have BK176 := n1_; have HB := n2_; clear n0_ n1_ n2_; replace BK172 := am (blk_drew BK172.out); replace BK176 := am (blk_drew BK176.out); replace HB := am (below_drew1 HB.out); refine start_ (n := 12) (S := fun w' => w'.cell? ⟨gb176, 0, none⟩ = some (.int .i64 ((rd_T40 l0_1 x41_3).f0)) ∧ w'.cell? ⟨gb176, 1, none⟩ = some (.int .i64 ((rd_T40 l0_1 x41_3).f1)) ∧ w'.cell? ⟨gb176, 2, none⟩ = some (.int .i64 ((rd_T40 l0_1 x41_3).f2)) ∧ w'.cell? ⟨gb176, 3, none⟩ = some (.int .i64 ((rd_T40 l0_1 x41_3).f3))) (ds := []) #[O, O, O, O, O, O, O, O, O, O, O, O] (by kernel_rfl) rfl rfl cl (fun hHeld => ?_); refine with_tabW impl_IsShop.tab12 impl_IsShop.bits12 (fun HT_ HW_ => ?_); generalize w46.drew = w47 at BK172 BK176 HB hHeld ⊢; refine tk_ 0 (some 46) ?_ #[I, O, O, O, O, O, O, O, O, O, O, O] rfl rfl (take_ofW HT_.out HW_.out (by kernel_rfl)) (.inl ⟨by rfl, ?_⟩) hHeld ?_ ?_ ?_; rotate_left; (rintro w' ⟨s0, s1, s2, s3⟩; go_simp; with_reducible rfl); rotate_left; (simp only [pw]; rfl); refine one_ (i := 1) (N := some 47) #[I, I, O, O, O, O, O, O, O, O, O, O] rfl rfl (one_of HT_.out (by kernel_rfl)) (by decide) (fun K hK => ?_); refine goes_ Tryd.func23 (by kernel_rfl) rfl #[.agg #[.int .i64 ((rd_T40 l0_1 x41_3).f0), .int .i64 ((rd_T40 l0_1 x41_3).f1), .int .i64 ((rd_T40 l0_1 x41_3).f2), .int .i64 ((rd_T40 l0_1 x41_3).f3)]] (by rfl) rfl rfl mq ?_; with_reducible refine (impl_isLoan.calls ((rd_T40 l0_1 x41_3).f0) ((rd_T40 l0_1 x41_3).f1) ((rd_T40 l0_1 x41_3).f2) ((rd_T40 l0_1 x41_3).f3) false _ A21.out).mono ?_
          rintro e w48 ⟨rfl, hb⟩; refine ⟨_, rfl, ?_⟩; replace BK172 := zb BK172 hb; replace BK176 := zb BK176 hb; replace HB := sb hb; (try clear hb); refine hK.out _ _ cl (fun hHeld => ?_); clear hK K; refine norm_ (a' := ?_) ?_ ?_; rotate_left
          ·show Act.put _ (some 47) _ = _
           simp only [pw]; rfl
          refine pu_ 2 (some 48) ?_ #[I, I, I, O, O, O, O, O, O, O, O, O] rfl rfl (any_of HT_.out (by kernel_rfl)) (.inl ⟨by rfl, ?_⟩) ?_ ?_ ?_; rotate_left; (intro w'; go_simp; with_reducible rfl); rotate_left; (simp only [pw]; rfl); refine pu_ 3 (some 49) ?_ #[I, I, I, I, O, O, O, O, O, O, O, O] rfl rfl (any_of HT_.out (by kernel_rfl)) (.inl ⟨by rfl, ?_⟩) ?_ ?_ ?_; rotate_left; (intro w'; go_simp; with_reducible rfl); rotate_left; (simp only [pw]; rfl); refine pure_ (i := 4) (N := some 50) (v := undef) (a' := ?_) #[I, I, I, I, I, O, O, O, O, O, O, O] rfl rfl (any_of HT_.out (by kernel_rfl)) (fun _ _ _ h => h) (Or.inr ⟨by rfl, rfl⟩) ?_ ?_; rotate_left; (simp only [pw]; rfl); refine pure_ (i := 5) (N := some 51) (v := undef) (a' := ?_) #[I, I, I, I, I, I, O, O, O, O, O, O] rfl rfl (any_of HT_.out (by kernel_rfl)) (fun _ _ _ h => h) (Or.inr ⟨by rfl, rfl⟩) ?_ ?_; rotate_left; (simp only [pw]; rfl); refine pure_ (i := 6) (N := some 52) (v := undef) (a' := ?_) #[I, I, I, I, I, I, I, O, O, O, O, O] rfl rfl (any_of HT_.out (by kernel_rfl)) (fun _ _ _ h => h) (Or.inr ⟨by rfl, rfl⟩) ?_ ?_; rotate_left; (simp only [pw]; rfl); refine pure_ (i := 7) (N := some 53) (v := undef) (a' := ?_) #[I, I, I, I, I, I, I, I, O, O, O, O] rfl rfl (any_of HT_.out (by kernel_rfl)) (fun _ _ _ h => h) (Or.inr ⟨by rfl, rfl⟩) ?_ ?_; rotate_left; (simp only [pw]; rfl); refine pure_ (i := 8) (N := some 54) (v := undef) (a' := ?_) #[I, I, I, I, I, I, I, I, I, O, O, O] rfl rfl (any_of HT_.out (by kernel_rfl)) (fun _ _ _ h => h) (Or.inr ⟨by rfl, rfl⟩) ?_ ?_; rotate_left; (simp only [pw]; rfl); refine pure_ (i := 9) (N := some 55) (v := undef) (a' := ?_) #[I, I, I, I, I, I, I, I, I, I, O, O] rfl rfl (any_of HT_.out (by kernel_rfl)) (fun _ _ _ h => h) (Or.inr ⟨by rfl, rfl⟩) ?_ ?_; rotate_left; (simp only [pw]; rfl); refine pure_ (i := 10) (N := some 56) (v := undef) (a' := ?_) #[I, I, I, I, I, I, I, I, I, I, I, O] rfl rfl (any_of HT_.out (by kernel_rfl)) (fun _ _ _ h => h) (Or.inr ⟨by rfl, rfl⟩) ?_ ?_; rotate_left; (simp only [pw]; rfl); refine pu_ 11 (some 57) ?_ #[I, I, I, I, I, I, I, I, I, I, I, I] rfl rfl (any_of HT_.out (by kernel_rfl)) (.inl ⟨by rfl, ?_⟩) ?_ ?_ ?_; rotate_left; (intro w'; go_simp; with_reducible rfl); rotate_left; (simp only [pw]; rfl); refine done_ (done_of HT_.out (by kernel_rfl)) ?_; try go_wp2
          go_ret
          exact ⟨eq_, bq⟩
         rw [if_neg c20] at H; exact absurd H (by simp)
        rw [if_neg c19] at H; exact absurd H (by simp)
       rw [if_neg c18] at H; have c18b0 : decide (x41_3 < (l0_1.length : Int)) = false := decide_eq_false c18; clear c18; obtain rfl := Option.some.inj H
       go_wp2
       go_ret
       exact ⟨eq_, bq⟩



def PowHeld (w : World) : Prop := Go.Lib.TabIs Tryd.prog w "internal/strconv.uint64pow10" .u64 Go.Lib.pow10Tab
theorem mh {w w1 : World} (h : PowHeld w) (b : Below w.heap.size w w1) : PowHeld w1 := by
 unfold PowHeld Go.Lib.TabIs World.var? at *
 cases hg : Tryd.prog.globalNamed "internal/strconv.uint64pow10" with
 | none => simp [hg] at h
 | some g =>
  simp only [hg, Option.bind_some] at h ⊢
  have hlt : g < w.heap.size := by
   rcases Nat.lt_or_ge g w.heap.size with h' | h'
   (exact h')
   rw [Array.getElem?_eq_none h'] at h
   simp at h
  rw [b.block g hlt]
  exact h
def strconv_Itoa_25.f (k : Nat) (a0 : Int) : Option (ByteArray) := if -9223372036854775808 ≤ a0 ∧ a0 ≤ 9223372036854775807 then (some ⟨(Go.Lib.itoa a0).toArray⟩) else (none)
theorem strconv_Itoa_25.calls (k : Nat) (a0 : Int) (r : ByteArray) (w : World) (hM : PowHeld w) (h : strconv_Itoa_25.f k a0 = some r) :
  Calls Tryd.prog 25 #[.int .i64 a0] w fun e w' => e = .returned (.string r) ∧ Below w.heap.size w w' := by
 unfold strconv_Itoa_25.f at h
 by_cases c : -9223372036854775808 ≤ a0 ∧ a0 ≤ 9223372036854775807
 ·rw [if_pos c] at h; obtain rfl := Option.some.inj h; refine (Go.Proofs.Tryd.strconv_Itoa a0 c.1 c.2 w hM).mono fun e w' hh => ?_
  obtain ⟨rfl, kk, os, rfl⟩ := hh; exact ⟨rfl, Go.Lib.below_grow _ _ (Nat.le_refl _) _ _⟩
 rw [if_neg c] at h; exact absurd h (by simp)

def strings_Join.f (k : Nat) (l0 : List ByteArray) (a1 : ByteArray) : Option (ByteArray) := if l0.length ≤ 140737488355328 ∧ (Go.Lib.join (l0.map (·.data.toList)) a1.data.toList).length ≤ 140737488355328 then (some ⟨(Go.Lib.join (l0.map (·.data.toList)) a1.data.toList).toArray⟩) else (none)
theorem strings_Join.calls (k : Nat) (A0 : Option Addr) (c0 : Nat) (l0 : List ByteArray) (a1 : ByteArray) (r : ByteArray) (w : World) (hr0 : Kd.C Kd.string w A0 l0.length l0) (hc0 : l0.length ≤ c0) (h : strings_Join.f k l0 a1 = some r) :
  Calls Tryd.prog 26 #[.slice A0 l0.length c0, .string a1] w fun e w' => e = .returned (.string r) ∧ Below w.heap.size w w' := by
 unfold strings_Join.f at h
 by_cases c : l0.length ≤ 140737488355328 ∧ (Go.Lib.join (l0.map (·.data.toList)) a1.data.toList).length ≤ 140737488355328
 ·rw [if_pos c] at h; obtain rfl := Option.some.inj h
  cases l0 with
  | nil =>
   refine (Go.Proofs.Tryd.strings_Join_none A0 c0 a1 w).mono fun e w' hh => ?_
   obtain ⟨rfl, rfl⟩ := hh; exact ⟨rfl, Below.refl _ _⟩
  | cons x q =>
   have hcell : ∀ i : Nat, i < (x :: q).length → ∃ ad, A0 = some ad ∧ w.cell? (ad.add i) = some (.string ((x :: q).getD i ⟨#[]⟩)) := by
    intro i hi; obtain ⟨ad, cs, e, _, hK, hc⟩ := Kd.C_get hr0 (⟨#[]⟩ : ByteArray) (i : Int) (by omega) (by exact_mod_cast hi); have hcs : cs = [.string ((x :: q).getD i ⟨#[]⟩)] := hK; have := hc 0 _ (by rw [hcs]; rfl); simp only [show Kd.string.sz = 1 from rfl, Nat.mul_one, Nat.add_zero, Int.toNat_natCast] at this; exact ⟨ad, e, this⟩
   obtain ⟨ad, rfl, h0⟩ := hcell 0 (by simp); have hadd0 : ad.add 0 = ad := by simp [Addr.add]
   rw [hadd0] at h0
   have hspot : ad = ⟨ad.block, ad.off, none⟩ := by
    obtain ⟨b, o, s⟩ := ad
    cases s with
    | none => rfl
    | some s =>
     simp only [World.cell?] at h0
     split at h0
     (simp at h0)
     cases h0
   rw [hspot]; refine (Go.Proofs.Tryd.strings_Join ad.block ad.off c0 (x :: q) a1 w (fun j y hj => ?_) (World.block_lt_of_cell? _ _ h0) c.1 hc0 c.2).mono fun e w' hh => hh
   have hjl := (List.getElem?_eq_some_iff.1 hj).1; obtain ⟨ad', e', h1⟩ := hcell j hjl; injection e' with e'
   subst e'; have hj2 : (x :: q).getD j ⟨#[]⟩ = y := by rw [List.getD_eq_getElem?_getD, hj]; rfl
   rw [hj2] at h1
   have hadd : ad.add j = ⟨ad.block, ad.off + j, none⟩ := by
    cases j with
    | zero => rw [hadd0, Nat.add_zero]; exact hspot
    | succ j => simp [Addr.add]
   rw [← hadd]; exact h1
 rw [if_neg c] at h; exact absurd h (by simp)

def impl_numbersText.l0 : Nat → List ByteArray → List Int → Int → Int → Option (ByteArray)
 | 0, _, _, _, _ => none
 | k + 1, x3, x7, x8, x9 => if x9 < x8 then (if 0 ≤ x9 then (if x9 < (x7.length : Int) then ((strconv_Itoa_25.f k (rd x7 x9)).bind fun t212 => (if x3.length < 8796093022208 then (impl_numbersText.l0 k (x3 ++ [t212]) x7 x8 (wrap64 (x9 + 1))) else (none))) else (none)) else (none)) else ((strings_Join.f k x3 (⟨#[32]⟩ : ByteArray)).bind fun t216 => (some t216))
def impl_numbersText.f (k : Nat) (l0 : List Int) : Option (ByteArray) := impl_numbersText.l0 k (([] : List ByteArray)) l0 (l0.length : Int) 0
theorem impl_numbersText.calls (k : Nat) (A0 : Option Addr) (c0 : Nat) (l0 : List Int) (r : ByteArray) (w : World) (hr0 : Kd.C (Kd.int .i64) w A0 l0.length l0) (hc0 : l0.length ≤ c0) (hM : PowHeld w) (h : impl_numbersText.f k l0 = some r) :
  Calls Tryd.prog 16 #[.slice A0 l0.length c0] w fun e w' => e = .returned (.string r) ∧ Below w.heap.size w w' := by
 have HR0 := am hr0; have HC0 := am hc0; clear hr0 hc0; have HM := am hM; have HB := am (Below.refl w.heap.size w); have H := h; clear h
 unfold impl_numbersText.f at H
 obtain ⟨y208, hy208⟩ : ∃ y_ : List ByteArray, y_ = (([] : List ByteArray)) := ⟨_, rfl⟩; replace H : (impl_numbersText.l0 k y208 l0 (l0.length : Int) 0) = some r := yq hy208 H; have Ny208 := am hy208; clear hy208; have H' := am H; clear H
 go_enter Tryd.func16, Tryd.ntmps16
 go_wp2_with (first | ((with_reducible refine gate_dst (N := 6) rfl ?_); refine Kd.R_lit Kd.string _ 9 ?hg (N := 6) ?hd (xs := ([] : List ByteArray)) (inner := []) (ok := fun _ => True) (okp := fun _ => True) ?hr ?hp (fun _ hk => hk) trivial (Below.refl _ _) (Nat.le_refl _) (by simp) ?_; (case hd | hg => rfl); (case hr => go_simp; try rfl); (case hp => exact (Reps.none _ _)); intro v209 w2 ho3 hb hg_ hnew_; clear hg_ hnew_; (first | rw [← Ny208.out] at ho3 | (simp only [Int.reduceToNat] at ho3; rw [← Ny208.out] at ho3)); have HO210 := rl ho3; replace HB := sb hb; clear hb ho3))
 go_loopg [3, 9] k (fun kq v3 v9 w' => ∃ (x3_1 : List ByteArray) (x9_1 : Int), v9 = .int .i64 x9_1 ∧ Aside0 (impl_numbersText.l0 kq x3_1 l0 (l0.length : Int) x9_1 = some r) ∧ Aside0 (kq ≤ k) ∧ Aside0 (Kd.R Kd.string 9 w' w.heap.size (fun _ => True) v3 x3_1) ∧ Aside0 (Below w.heap.size w w'))
 case atStart => exact ⟨(y208), (0), sq, H', ⟨Nat.le_refl _⟩, ⟨rq HO210⟩, ⟨bq⟩⟩
 case round =>
  clear H'; obtain ⟨x3_1, x9_1, rfl, HA, HK1, HO_3, HB⟩ := hrel
  cases gk with
  | zero => exact absurd HA.out (by simp [impl_numbersText.l0])
  | succ k1 =>
   have H := HA.out; clear HA; simp only [impl_numbersText.l0] at H; by_cases c4 : x9_1 < (l0.length : Int)
   ·rw [if_pos c4] at H; have c4b0 : decide (x9_1 < (l0.length : Int)) = true := decide_eq_true c4; clear c4; by_cases c5 : 0 ≤ x9_1
    ·rw [if_pos c5] at H; have c5b0 : decide (0 ≤ x9_1) = true := decide_eq_true c5; clear c5; by_cases c6 : x9_1 < (l0.length : Int)
     ·rw [if_pos c6] at H; have c6b0 : decide (x9_1 < (l0.length : Int)) = true := decide_eq_true c6; clear c6; obtain ⟨t212, A7, H⟩ := bindq H; try dsimp only at H
      by_cases c8 : x3_1.length < 8796093022208
      ·rw [if_pos c8] at H; have LMc8 := am c8; clear c8; obtain ⟨y213, hy213⟩ : ∃ y_ : List ByteArray, y_ = (x3_1 ++ [t212]) := ⟨_, rfl⟩; replace H : (impl_numbersText.l0 k1 y213 l0 (l0.length : Int) (wrap64 (x9_1 + 1))) = some r := yq hy213 H; have Ny213 := am hy213; clear hy213; have H' := am H; clear H; have p211 : 0 ≤ (x9_1 : Int) := of_decide_eq_true aq; have q211 : x9_1 < (l0.length : Int) := of_decide_eq_true aq; obtain ⟨ad211, e211, hx211_0⟩ := Kd.at_int HR0.out x9_1 p211 q211
       cases e211
       replace hx211_0 := (HB.out.cell (World.block_lt_of_cell? w _ hx211_0)).trans hx211_0; replace p211 := eq_true p211; replace q211 := eq_true q211; go_wp2_with (first | ((with_reducible refine gate_callee (f := 25) rfl ?_); refine goesL_ (some 15) rfl rfl Tryd.func25 (by kernel_rfl) rfl #[.int .i64 (rd l0 x9_1)] rfl mq ?_; (with_reducible refine (strconv_Itoa_25.calls k1 (rd l0 x9_1) t212 _ ?sM A7.out).mono ?_); (case sM => exact mh HM.out bq); rintro e w9 ⟨rfl, hb⟩; refine ⟨_, rfl, ?_⟩; replace HO_3 := rb HO_3 hb; replace HB := sb hb; (try clear hb)) | ((with_reducible refine gate_builtin (b := .append) (xs := #[.tmp 13, .tmp 16]) rfl ?_); at_builtin; refine Kd.R_append Kd.string (w0 := w) w.heap.size rfl (.tmp 13) (.tmp 16) 53 9 (.string ⟨#[]⟩) 16 rfl Tryd.underlying53 info9 rfl (by decide) (by omega) u3 x3_1 t212 [.string t212] (fun _ => True) (fun _ => False) rfl rfl ?aP (fun _ hk => hk.elim) ?aF ?aO ?aB ?aS ?aL ?_; (case aP => exact rfl); (case aB => exact bq); (case aF => exact (fun _ _ => trivial)); (case aO => exact (rq HO_3)); (case aS => exact (below_size bq)); (case aL => have := LMc8.out; omega); intro v214 w10 ho hb hg hat; rw [← Ny213.out] at ho; have n0_ := am (hb); have n1_ := am (ho); clear HB; clear HO_3; have HB := n0_; have HO215 := n1_; clear n0_ n1_; clear ho hb hg hat))
       go_roundg k1
       case measure => have := HK1.out; omega
       case rel => exact ⟨(y213), (wrap64 (x9_1 + 1)), sq, H', ⟨by have := HK1.out; omega⟩, ⟨rq HO215⟩, ⟨bq⟩⟩
      rw [if_neg c8] at H; exact absurd H (by simp)
     rw [if_neg c6] at H; exact absurd H (by simp)
    rw [if_neg c5] at H; exact absurd H (by simp)
   rw [if_neg c4] at H; have c4b0 : decide (x9_1 < (l0.length : Int)) = false := decide_eq_false c4; clear c4; obtain ⟨t216, A11, H⟩ := bindq H; try dsimp only at H
   obtain rfl := Option.some.inj H; obtain ⟨Ao12, co12, eo12⟩ := Kd.R_slice HO_3.out; subst eo12; go_wp2_with (first | ((with_reducible refine gate_callee (f := 26) rfl ?_); refine goesL_ (some 20) rfl rfl Tryd.func26 (by kernel_rfl) rfl #[.slice Ao12 x3_1.length co12, .string (⟨#[32]⟩ : ByteArray)] rfl mq ?_; (with_reducible refine (strings_Join.calls k1 _ _ x3_1 (⟨#[32]⟩ : ByteArray) t216 _ ?s1 ?s2 A11.out).mono ?_); (case s1 => exact cr HO_3); (case s2 => exact rq1 HO_3); rintro e w13 ⟨rfl, hb⟩; refine ⟨_, rfl, ?_⟩; replace HB := sb hb; (try clear hb)))
   go_ret
   exact ⟨eq_, bq⟩


def impl_ShopText.l0 : Nat → ByteArray → List (S40) → Int → Int → Option (ByteArray × Bool)
 | 0, _, _, _, _ => none
 | k + 1, x4, x16, x17, x18 => if x18 < x17 then (if 0 ≤ x18 then (if x18 < (x16.length : Int) then ((impl_numbersText.f k (([(rd_T40 x16 x18).f0, (rd_T40 x16 x18).f1, (rd_T40 x16 x18).f2, (rd_T40 x16 x18).f3] : List Int))).bind fun t226 => (if t226.size + 1 ≤ 9223372036854775807 then (if x4.size + (t226 ++ (⟨#[10]⟩ : ByteArray)).size ≤ 9223372036854775807 then (impl_ShopText.l0 k (x4 ++ (t226 ++ (⟨#[10]⟩ : ByteArray))) x16 x17 (wrap64 (x18 + 1))) else (none)) else (none))) else (none)) else (none)) else (some (x4, true))
def impl_ShopText.f (k : Nat) (l0_0 : List Int) (l0_1 : List (S40)) : Option (ByteArray × Bool) := (impl_IsShop.f k l0_0 l0_1).bind fun t218 => (if t218 = true then (if 1 ≤ (l0_0.length : Int) then ((impl_numbersText.f k (l0_0.drop 1)).bind fun t220 => (if t220.size + 1 ≤ 9223372036854775807 then (impl_ShopText.l0 k (t220 ++ (⟨#[10]⟩ : ByteArray)) l0_1 (l0_1.length : Int) 0) else (none))) else (none)) else (some ((⟨#[]⟩ : ByteArray), false)))
theorem impl_ShopText.calls (k : Nat) (A0_0 : Option Addr) (c0_0 : Nat) (l0_0 : List Int) (A0_1 : Option Addr) (c0_1 : Nat) (l0_1 : List (S40)) (r1 : ByteArray) (r2 : Bool) (w : World) (hr0_0 : Kd.C (Kd.int .i64) w A0_0 l0_0.length l0_0) (hc0_0 : l0_0.length ≤ c0_0) (hr0_1 : Kd.C k40 w A0_1 l0_1.length l0_1) (hc0_1 : l0_1.length ≤ c0_1) (hM : PowHeld w) (h : impl_ShopText.f k l0_0 l0_1 = some (r1, r2)) :
  Calls Tryd.prog 7 #[.agg #[.slice A0_0 l0_0.length c0_0, .slice A0_1 l0_1.length c0_1]] w fun e w' => e = .returned (.tuple #[.string r1, .bool r2]) ∧ Below w.heap.size w w' := by
 have hu31 := Tryd.underlying31; have hu40 := Tryd.underlying40; have HR0_0 := am hr0_0; have HC0_0 := am hc0_0; clear hr0_0 hc0_0; have HR0_1 := am hr0_1; have HC0_1 := am hc0_1; clear hr0_1 hc0_1; have HM := am hM; have HB := am (Below.refl w.heap.size w); have H := h; clear h
 unfold impl_ShopText.f at H
 obtain ⟨t218, A2, H⟩ := bindq H; try dsimp only at H
 by_cases c3 : t218 = true
 ·subst c3; rw [if_pos rfl] at H; try dsimp only at H
  by_cases c4 : 1 ≤ (l0_0.length : Int)
  ·rw [if_pos c4] at H; have c4b0 := eq_true c4; have c4b1 : decide (1 ≤ (l0_0.length : Int)) = true := decide_eq_true c4; clear c4; obtain ⟨t220, A5, H⟩ := bindq H; try dsimp only at H
   by_cases c6 : t220.size + 1 ≤ 9223372036854775807
   ·rw [if_pos c6] at H; have c6b0 := eq_true c6; have c6b1 : decide (t220.size + 1 ≤ 9223372036854775807) = true := decide_eq_true c6; try have c6b2 : (9223372036854775807 < t220.size + 1) = False := eq_false (Nat.not_lt.2 c6)
    have H' := am H; clear H
    go_enter Tryd.func7, Tryd.ntmps7
    go_wp2_with (first | ((with_reducible refine gate_dst (N := 1) rfl ?_); refine box_event ?hg (N := 1) ?hd (cs := #[.slice A0_0 l0_0.length c0_0, .slice A0_1 l0_1.length c0_1]) (t := 31) ?hr ?_; (case hd | hg => rfl); (case hr => go_simp; try rfl); intro gb217 hg w7 hbox hb; have BK217 := am (hbox); have GW217 := am (gq hg); have GE217 := am (gq hg); replace HB := sb hb; clear hb hbox hg; have ⟨b80, b81, d80, d81⟩ := bc2 BK217) | ((with_reducible refine gate_callee (f := 15) rfl ?_); refine goesL_ (some 8) rfl rfl Tryd.func15 (by kernel_rfl) rfl #[.agg #[.slice A0_0 l0_0.length c0_0, .slice A0_1 l0_1.length c0_1]] rfl mq ?_; (with_reducible refine (impl_IsShop.calls k _ _ l0_0 _ _ l0_1 true _ ?s1 ?s2 ?s3 ?s4 A2.out).mono ?_); (case s1 => exact cq (Kd.C_below HR0_0.out HB.out)); (case s2 => exact HC0_0.out); (case s3 => exact cq (Kd.C_below HR0_1.out HB.out)); (case s4 => exact HC0_1.out); rintro e w9 ⟨rfl, hb⟩; refine ⟨_, rfl, ?_⟩; replace BK217 := zb BK217 hb; replace HB := sb hb; (try clear hb); have ⟨b100, b101, d100, d101⟩ := bc2 BK217; obtain ⟨i011, hi011, _, hsz11, _⟩ := info_parts info3; obtain ⟨A11, hcut11, hA11, hC11⟩ := print_drop_of (P := Tryd.prog) (Value.int .i64) 0 22 3 .i64 Tryd.underlying22 hi011 hsz11 A0_0 c0_0 l0_0 1 (by omega) (of_decide_eq_true aq) HC0_0.out; have HR219 := am (Kd.C_of_reads (h1 := fun _ => rfl) (hA11 _ (Kd.reads_of_C HR0_0.out))); have HC219 := am hC11; clear hA11 hC11 hi011 hsz11) | ((with_reducible refine gate_callee (f := 16) rfl ?_); refine goesL_ (some 13) rfl rfl Tryd.func16 (by kernel_rfl) rfl #[.slice A11 (l0_0.drop 1).length (c0_0 - 1)] rfl (by (try simp only [List.map_toArray, List.map_cons, List.map_nil]); first | done | (rw [show (l0_0.drop 1).length = (l0_0.length - 1) from List.length_drop] <;> rfl) | rfl | (simp only [List.length_drop, List.length_take]; rfl)) ?_; (with_reducible refine (impl_numbersText.calls k _ _ (l0_0.drop 1) t220 _ ?s1 ?s2 ?sM A5.out).mono ?_); (case sM => exact mh HM.out bq); (case s1 => exact cq (Kd.C_below HR219.out HB.out)); (case s2 => exact HC219.out); rintro e w12 ⟨rfl, hb⟩; refine ⟨_, rfl, ?_⟩; replace BK217 := zb BK217 hb; replace HB := sb hb; (try clear hb); have ⟨b130, b131, d130, d131⟩ := bc2 BK217))
    go_loopg [4, 18] k (fun kq v4 v18 w' => ∃ (x4_1 : ByteArray) (x18_1 : Int), v4 = .string x4_1 ∧ v18 = .int .i64 x18_1 ∧ Aside0 (impl_ShopText.l0 kq x4_1 l0_1 (l0_1.length : Int) x18_1 = some (r1, r2)) ∧ Aside0 (kq ≤ k) ∧ Aside0 (w'.heap[gb217]? = some (.cells #[(.slice A0_0 l0_0.length c0_0), (.slice A0_1 l0_1.length c0_1)] 31 (0, 0))) ∧ Aside0 (Below w.heap.size w w'))
    case atStart => exact ⟨(t220 ++ (⟨#[10]⟩ : ByteArray)), (0), sq, sq, H', ⟨Nat.le_refl _⟩, ⟨zq BK217⟩, ⟨bq⟩⟩
    case round =>
     clear H'; try clear c3
     try clear c4b0
     try clear c4b1
     try clear c6
     try clear c6b0
     try clear c6b1
     try clear c6b2
     try clear b100 b101 d100 d101
     try clear b130 b131 d130 d131
     try clear b80 b81 d80 d81
     obtain ⟨x4_1, x18_1, rfl, rfl, HA, HK1, BK217, HB⟩ := hrel
     cases gk with
     | zero => exact absurd HA.out (by simp [impl_ShopText.l0])
     | succ k1 =>
      have H := HA.out; clear HA; simp only [impl_ShopText.l0] at H; by_cases c14 : x18_1 < (l0_1.length : Int)
      ·rw [if_pos c14] at H; have c14b0 : decide (x18_1 < (l0_1.length : Int)) = true := decide_eq_true c14; clear c14; by_cases c15 : 0 ≤ x18_1
       ·rw [if_pos c15] at H; have c15b0 : decide (0 ≤ x18_1) = true := decide_eq_true c15; clear c15; by_cases c16 : x18_1 < (l0_1.length : Int)
        ·rw [if_pos c16] at H; have c16b0 : decide (x18_1 < (l0_1.length : Int)) = true := decide_eq_true c16; clear c16; obtain ⟨y223, hy223⟩ : ∃ y_ : List Int, y_ = (([(rd_T40 l0_1 x18_1).f0, (rd_T40 l0_1 x18_1).f1, (rd_T40 l0_1 x18_1).f2, (rd_T40 l0_1 x18_1).f3] : List Int)) := ⟨_, rfl⟩; replace H : ((impl_numbersText.f k1 y223).bind fun t226 => (if t226.size + 1 ≤ 9223372036854775807 then (if x4_1.size + (t226 ++ (⟨#[10]⟩ : ByteArray)).size ≤ 9223372036854775807 then (impl_ShopText.l0 k1 (x4_1 ++ (t226 ++ (⟨#[10]⟩ : ByteArray))) l0_1 (l0_1.length : Int) (wrap64 (x18_1 + 1))) else (none)) else (none))) = some (r1, r2) := yq hy223 H; have Ny223 := am hy223; clear hy223; obtain ⟨t226, A17, H⟩ := bindq H; try dsimp only at H
         by_cases c18 : t226.size + 1 ≤ 9223372036854775807
         ·rw [if_pos c18] at H; have c18b0 := eq_true c18; have c18b1 : decide (t226.size + 1 ≤ 9223372036854775807) = true := decide_eq_true c18; try have c18b2 : (9223372036854775807 < t226.size + 1) = False := eq_false (Nat.not_lt.2 c18)
          by_cases c19 : x4_1.size + (t226 ++ (⟨#[10]⟩ : ByteArray)).size ≤ 9223372036854775807
          ·rw [if_pos c19] at H; have c19b0 := eq_true c19; have c19b1 : decide (x4_1.size + (t226 ++ (⟨#[10]⟩ : ByteArray)).size ≤ 9223372036854775807) = true := decide_eq_true c19; try have c19b2 : (9223372036854775807 < x4_1.size + (t226 ++ (⟨#[10]⟩ : ByteArray)).size) = False := eq_false (Nat.not_lt.2 c19)
           have c19b9 : (9223372036854775807 < x4_1.size + (t226.size + 1)) = False := eq_false (Nat.not_lt.2 (by have h_ := c19; simp only [ByteArray.size_append] at h_; exact h_)); have H' := am H; clear H; have p221 : 0 ≤ (x18_1 : Int) := of_decide_eq_true aq; have q221 : x18_1 < (l0_1.length : Int) := of_decide_eq_true aq; obtain ⟨ad221, e221, hx221_0, hx221_1, hx221_2, hx221_3⟩ := at_T40 HR0_1.out x18_1 p221 q221
           cases e221
           replace hx221_0 := (HB.out.cell (World.block_lt_of_cell? w _ hx221_0)).trans hx221_0; replace hx221_1 := (HB.out.cell (World.block_lt_of_cell? w _ hx221_1)).trans hx221_1; replace hx221_2 := (HB.out.cell (World.block_lt_of_cell? w _ hx221_2)).trans hx221_2; replace hx221_3 := (HB.out.cell (World.block_lt_of_cell? w _ hx221_3)).trans hx221_3; replace p221 := eq_true p221; replace q221 := eq_true q221; go_wp2_with (first | ((with_reducible refine gate_dst (N := 6) rfl ?_); refine box_event ?hg (N := 6) ?hd (cs := #[.int .i64 0, .int .i64 0, .int .i64 0, .int .i64 0]) (t := 40) ?hr ?_; (case hd | hg => rfl); (case hr => go_simp; try rfl); intro gb222 hg w20 hbox hb; have BK222 := am (hbox); have GW222 := am (gq hg); have GE222 := am (gq hg); replace HB := sb hb; have ⟨NB217_222, NB222_217⟩ := nn hg BK217; replace BK217 := zb BK217 hb; clear hb hbox hg; have hnb21 := NB222_217.out; have hnc21 := NB217_222.out; have ⟨b220, b221, b222, b223, d220, d221, d222, d223⟩ := bc4 BK222) | ((with_reducible refine gate_dst (N := 31) rfl ?_); refine Kd.R_lit (Kd.int .i64) _ 3 ?hg (N := 31) ?hd (xs := ([(rd_T40 l0_1 x18_1).f0, (rd_T40 l0_1 x18_1).f1, (rd_T40 l0_1 x18_1).f2, (rd_T40 l0_1 x18_1).f3] : List Int)) (inner := [.int .i64 ((rd_T40 l0_1 x18_1).f0), .int .i64 ((rd_T40 l0_1 x18_1).f1), .int .i64 ((rd_T40 l0_1 x18_1).f2), .int .i64 ((rd_T40 l0_1 x18_1).f3)]) (ok := fun _ => True) (okp := fun _ => True) ?hr ?hp (fun _ hk => hk) trivial (Below.refl _ _) (Nat.le_refl _) (by simp) ?_; (case hd | hg => rfl); (case hr => go_simp; try rfl); (case hp => exact (Reps.one (show Kd.M (Kd.int .i64) _ _ _ ((rd_T40 l0_1 x18_1).f0) [.int .i64 ((rd_T40 l0_1 x18_1).f0)] from rfl) (Reps.one (show Kd.M (Kd.int .i64) _ _ _ ((rd_T40 l0_1 x18_1).f1) [.int .i64 ((rd_T40 l0_1 x18_1).f1)] from rfl) (Reps.one (show Kd.M (Kd.int .i64) _ _ _ ((rd_T40 l0_1 x18_1).f2) [.int .i64 ((rd_T40 l0_1 x18_1).f2)] from rfl) (Reps.one (show Kd.M (Kd.int .i64) _ _ _ ((rd_T40 l0_1 x18_1).f3) [.int .i64 ((rd_T40 l0_1 x18_1).f3)] from rfl) (Reps.none _ _)))))); intro v224 w23 ho24 hb hg_ hnew_; clear hg_ hnew_; (first | rw [← Ny223.out] at ho24 | (simp only [Int.reduceToNat] at ho24; rw [← Ny223.out] at ho24)); have HO225 := rl ho24; replace BK217 := zw (.cells #[.slice A0_0 l0_0.length c0_0, .slice (some ad221) l0_1.length c0_1] 31 (0, 0)) BK217 hb; replace BK222 := zw (.cells #[.int .i64 ((rd_T40 l0_1 x18_1).f0), .int .i64 ((rd_T40 l0_1 x18_1).f1), .int .i64 ((rd_T40 l0_1 x18_1).f2), .int .i64 ((rd_T40 l0_1 x18_1).f3)] 40 (0, 0)) BK222 hb; replace HB := sb hb; clear hb ho24; obtain ⟨Ao25, co25, eo25⟩ := Kd.R_slice HO225.out; subst eo25) | ((with_reducible refine gate_callee (f := 16) rfl ?_); refine goesL_ (some 32) rfl rfl Tryd.func16 (by kernel_rfl) rfl #[.slice Ao25 y223.length co25] rfl mq ?_; (with_reducible refine (impl_numbersText.calls k1 _ _ y223 t226 _ ?s1 ?s2 ?sM A17.out).mono ?_); (case sM => exact mh HM.out bq); (case s1 => exact cr HO225); (case s2 => exact rq1 HO225); rintro e w26 ⟨rfl, hb⟩; refine ⟨_, rfl, ?_⟩; replace BK217 := zb BK217 hb; replace BK222 := zb BK222 hb; replace HB := sb hb; (try clear hb)))
           go_roundg k1
           case measure => have := HK1.out; omega
           case rel => exact ⟨(x4_1 ++ (t226 ++ (⟨#[10]⟩ : ByteArray))), (wrap64 (x18_1 + 1)), sq, sq, H', ⟨by have := HK1.out; omega⟩, ⟨zq BK217⟩, ⟨bq⟩⟩
          rw [if_neg c19] at H; exact absurd H (by simp)
         rw [if_neg c18] at H; exact absurd H (by simp)
        rw [if_neg c16] at H; exact absurd H (by simp)
       rw [if_neg c15] at H; exact absurd H (by simp)
      rw [if_neg c14] at H; have c14b0 : decide (x18_1 < (l0_1.length : Int)) = false := decide_eq_false c14; clear c14; simp only [Option.some.injEq, Prod.mk.injEq] at H; obtain ⟨rfl, rfl⟩ := H
      go_wp2
      go_ret2
      exact ⟨eq_, bq⟩
   rw [if_neg c6] at H; exact absurd H (by simp)
  rw [if_neg c4] at H; exact absurd H (by simp)
 replace c3 := Bool.eq_false_iff.mpr c3; subst c3; rw [if_neg (show ¬ (false = true) by decide)] at H; try dsimp only at H
 simp only [Option.some.injEq, Prod.mk.injEq] at H; obtain ⟨rfl, rfl⟩ := H
 go_enter Tryd.func7, Tryd.ntmps7
 go_wp2_with (first | ((with_reducible refine gate_dst (N := 1) rfl ?_); refine box_event ?hg (N := 1) ?hd (cs := #[.slice A0_0 l0_0.length c0_0, .slice A0_1 l0_1.length c0_1]) (t := 31) ?hr ?_; (case hd | hg => rfl); (case hr => go_simp; try rfl); intro gb217 hg w27 hbox hb; have BK217 := am (hbox); have GW217 := am (gq hg); have GE217 := am (gq hg); replace HB := sb hb; clear hb hbox hg; have ⟨b280, b281, d280, d281⟩ := bc2 BK217) | ((with_reducible refine gate_callee (f := 15) rfl ?_); refine goesL_ (some 8) rfl rfl Tryd.func15 (by kernel_rfl) rfl #[.agg #[.slice A0_0 l0_0.length c0_0, .slice A0_1 l0_1.length c0_1]] rfl mq ?_; (with_reducible refine (impl_IsShop.calls k _ _ l0_0 _ _ l0_1 false _ ?s1 ?s2 ?s3 ?s4 A2.out).mono ?_); (case s1 => exact cq (Kd.C_below HR0_0.out HB.out)); (case s2 => exact HC0_0.out); (case s3 => exact cq (Kd.C_below HR0_1.out HB.out)); (case s4 => exact HC0_1.out); rintro e w29 ⟨rfl, hb⟩; refine ⟨_, rfl, ?_⟩; replace BK217 := zb BK217 hb; replace HB := sb hb; (try clear hb)))
 go_ret2
 exact ⟨eq_, bq⟩



end Go.Proofs.YthpjjfhkebppmaaDoor.Pall
