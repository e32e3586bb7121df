import Derived.Test.YthhoobpmjgpkkaaQT
import Derived.Test.YthhoobpmjgpkkaaQW
namespace Go.Proofs.Ythhoobpmjgpkkaa.E
open Go Go.Sim Go.Proofs Go.RowKit Go.Proofs.YthhoobpmjgpkkaaW.PrintWords Go.Proofs.YthhoobpmjgpkkaaW.PrintMore
structure S72 where
  f0 : Int
  f1 : Int
  f2 : Int
def z72 : S72 := ⟨(0 : Int), (0 : Int), (0 : Int)⟩
instance : Inhabited S72 := ⟨z72⟩
def rd_T72 (xs : List S72) (i : Int) : S72 := xs.getD i.toNat z72
def rd_L3 (xs : List (List Int)) (i : Int) : (List Int) := xs.getD i.toNat ([] : List Int)
structure S116 where
  f0 : Int
  f1 : Int
def z116 : S116 := ⟨(0 : Int), (0 : Int)⟩
instance : Inhabited S116 := ⟨z116⟩
def rd_T116 (xs : List S116) (i : Int) : S116 := xs.getD i.toNat z116
def rd_L5 (xs : List (List S116)) (i : Int) : (List S116) := xs.getD i.toNat ([] : List S116)
structure S81 where
  f0 : Int
  f1 : Int
  f2 : (List S116)
def z81 : S81 := ⟨(0 : Int), (0 : Int), ([] : List S116)⟩
instance : Inhabited S81 := ⟨z81⟩
def rd_T81 (xs : List S81) (i : Int) : S81 := xs.getD i.toNat z81
structure S118 where
  f0 : Int
  f1 : Int
  f2 : Int
  f3 : S116
def z118 : S118 := ⟨(0 : Int), (0 : Int), (0 : Int), z116⟩
instance : Inhabited S118 := ⟨z118⟩
def rd_T118 (xs : List S118) (i : Int) : S118 := xs.getD i.toNat z118
def rd_L8 (xs : List (List S118)) (i : Int) : (List S118) := xs.getD i.toNat ([] : List S118)
structure S194 where
  f0 : Int
  f1 : Int
  f2 : Int
def z194 : S194 := ⟨(0 : Int), (0 : Int), (0 : Int)⟩
instance : Inhabited S194 := ⟨z194⟩
def rd_T194 (xs : List S194) (i : Int) : S194 := xs.getD i.toNat z194
structure S41 where
  f0 : Int
  f1 : Int
  f2 : Int
  f3 : Int
def z41 : S41 := ⟨(0 : Int), (0 : Int), (0 : Int), (0 : Int)⟩
instance : Inhabited S41 := ⟨z41⟩
def rd_T41 (xs : List S41) (i : Int) : S41 := xs.getD i.toNat z41
@[reducible] def eI (x : Int) : List V := [.val (.int .i64 x)]
@[reducible] def eU (x : Int) : List V := [.val (.int .u8 x)]
@[reducible] def eLI (x : List Int) : List V := [.fz 1 x.length (encL eI x)]
@[reducible] def e116 (x : S116) : List V := [.val (.int .i64 x.f0), .val (.int .i64 x.f1)]
@[reducible] def e72 (x : S72) : List V := [.val (.int .i64 x.f0), .val (.int .i64 x.f1), .val (.int .i64 x.f2)]
@[reducible] def e194 (x : S194) : List V := [.val (.int .i64 x.f0), .val (.int .i64 x.f1), .val (.int .i64 x.f2)]
@[reducible] def e41 (x : S41) : List V := [.val (.int .i64 x.f0), .val (.int .i64 x.f1), .val (.int .i64 x.f2), .val (.int .i64 x.f3)]
@[reducible] def e81 (x : S81) : List V := [.val (.int .i64 x.f0), .val (.int .i64 x.f1), .fz 2 x.f2.length (encL e116 x.f2)]
@[reducible] def e118 (x : S118) : List V := [.val (.int .i64 x.f0), .val (.int .i64 x.f1), .val (.int .i64 x.f2), .val (.int .i64 x.f3.f0), .val (.int .i64 x.f3.f1)]
@[reducible] def eL118 (x : List S118) : List V := [.fz 5 x.length (encL e118 x)]
theorem all_eI {l : List Int} {n : Nat} {g : Nat → List V} {q : Int} {K : List V → Prop} (hg : encL eI l = g) (hn : l.length = n) (h0 : 0 ≤ q) (h1 : q < (n : Int)) (h : ∀ z, rd l q = z → K (eI z)) : ∀ cs, cs = g q.toNat → K cs := all_enc hg hn h0 h1 h
theorem all_eI_old {l : List Int} {n : Nat} {g : Nat → List V} {q : Int} {K : List V → Prop} {z : Int} (hg : encL eI l = g) (hn : l.length = n) (h0 : 0 ≤ q) (h1 : q < (n : Int)) (hz : rd l q = z) (h : K (eI z)) : ∀ cs, cs = g q.toNat → K cs := all_enc_old hg hn h0 h1 hz h
theorem all_eU {l : List Int} {n : Nat} {g : Nat → List V} {q : Int} {K : List V → Prop} (hg : encL eU l = g) (hn : l.length = n) (h0 : 0 ≤ q) (h1 : q < (n : Int)) (h : ∀ z, rd l q = z → K (eU z)) : ∀ cs, cs = g q.toNat → K cs := all_enc hg hn h0 h1 h
theorem all_eU_old {l : List Int} {n : Nat} {g : Nat → List V} {q : Int} {K : List V → Prop} {z : Int} (hg : encL eU l = g) (hn : l.length = n) (h0 : 0 ≤ q) (h1 : q < (n : Int)) (hz : rd l q = z) (h : K (eU z)) : ∀ cs, cs = g q.toNat → K cs := all_enc_old hg hn h0 h1 hz h
theorem all_e116 {l : List S116} {n : Nat} {g : Nat → List V} {q : Int} {K : List V → Prop} (hg : encL e116 l = g) (hn : l.length = n) (h0 : 0 ≤ q) (h1 : q < (n : Int)) (h : ∀ z, rd_T116 l q = z → K (e116 z)) : ∀ cs, cs = g q.toNat → K cs := all_enc hg hn h0 h1 h
theorem all_e116_old {l : List S116} {n : Nat} {g : Nat → List V} {q : Int} {K : List V → Prop} {z : S116} (hg : encL e116 l = g) (hn : l.length = n) (h0 : 0 ≤ q) (h1 : q < (n : Int)) (hz : rd_T116 l q = z) (h : K (e116 z)) : ∀ cs, cs = g q.toNat → K cs := all_enc_old hg hn h0 h1 hz h
theorem all_e118 {l : List S118} {n : Nat} {g : Nat → List V} {q : Int} {K : List V → Prop} (hg : encL e118 l = g) (hn : l.length = n) (h0 : 0 ≤ q) (h1 : q < (n : Int)) (h : ∀ z, rd_T118 l q = z → K (e118 z)) : ∀ cs, cs = g q.toNat → K cs := all_enc hg hn h0 h1 h
theorem all_e118_old {l : List S118} {n : Nat} {g : Nat → List V} {q : Int} {K : List V → Prop} {z : S118} (hg : encL e118 l = g) (hn : l.length = n) (h0 : 0 ≤ q) (h1 : q < (n : Int)) (hz : rd_T118 l q = z) (h : K (e118 z)) : ∀ cs, cs = g q.toNat → K cs := all_enc_old hg hn h0 h1 hz h
theorem all_e72 {l : List S72} {n : Nat} {g : Nat → List V} {q : Int} {K : List V → Prop} (hg : encL e72 l = g) (hn : l.length = n) (h0 : 0 ≤ q) (h1 : q < (n : Int)) (h : ∀ z, rd_T72 l q = z → K (e72 z)) : ∀ cs, cs = g q.toNat → K cs := all_enc hg hn h0 h1 h
theorem all_e72_old {l : List S72} {n : Nat} {g : Nat → List V} {q : Int} {K : List V → Prop} {z : S72} (hg : encL e72 l = g) (hn : l.length = n) (h0 : 0 ≤ q) (h1 : q < (n : Int)) (hz : rd_T72 l q = z) (h : K (e72 z)) : ∀ cs, cs = g q.toNat → K cs := all_enc_old hg hn h0 h1 hz h
theorem all_e41 {l : List S41} {n : Nat} {g : Nat → List V} {q : Int} {K : List V → Prop} (hg : encL e41 l = g) (hn : l.length = n) (h0 : 0 ≤ q) (h1 : q < (n : Int)) (h : ∀ z, rd_T41 l q = z → K (e41 z)) : ∀ cs, cs = g q.toNat → K cs := all_enc hg hn h0 h1 h
theorem all_e41_old {l : List S41} {n : Nat} {g : Nat → List V} {q : Int} {K : List V → Prop} {z : S41} (hg : encL e41 l = g) (hn : l.length = n) (h0 : 0 ≤ q) (h1 : q < (n : Int)) (hz : rd_T41 l q = z) (h : K (e41 z)) : ∀ cs, cs = g q.toNat → K cs := all_enc_old hg hn h0 h1 hz h
theorem all_e194 {l : List S194} {n : Nat} {g : Nat → List V} {q : Int} {K : List V → Prop} (hg : encL e194 l = g) (hn : l.length = n) (h0 : 0 ≤ q) (h1 : q < (n : Int)) (h : ∀ z, rd_T194 l q = z → K (e194 z)) : ∀ cs, cs = g q.toNat → K cs := all_enc hg hn h0 h1 h
theorem all_e194_old {l : List S194} {n : Nat} {g : Nat → List V} {q : Int} {K : List V → Prop} {z : S194} (hg : encL e194 l = g) (hn : l.length = n) (h0 : 0 ≤ q) (h1 : q < (n : Int)) (hz : rd_T194 l q = z) (h : K (e194 z)) : ∀ cs, cs = g q.toNat → K cs := all_enc_old hg hn h0 h1 hz h
theorem all_encLI {l : List (List Int)} {n : Nat} {g : Nat → List V} {q : Int} {K : List V → Prop} (hg : encL eLI l = g) (hn : l.length = n) (h0 : 0 ≤ q) (h1 : q < (n : Int)) (h : ∀ z, rd_L3 l q = z → ∀ n, z.length = n → ∀ g, encL eI z = g → K [.fz 1 n g]) : ∀ cs, cs = g q.toNat → K cs :=
  all_enc hg hn h0 h1 fun z hz => h z hz _ rfl _ rfl
theorem all_encLI_old {l : List (List Int)} {n : Nat} {g g' : Nat → List V} {q : Int} {K : List V → Prop} {z : List Int} {n' : Nat} (hg : encL eLI l = g) (hn : l.length = n) (h0 : 0 ≤ q) (h1 : q < (n : Int)) (hz : rd_L3 l q = z) (hn' : z.length = n') (hg' : encL eI z = g') (h : K [.fz 1 n' g']) : ∀ cs, cs = g q.toNat → K cs :=
  all_enc_old hg hn h0 h1 (z := z) hz (by subst hn' hg'; exact h)
theorem all_encL118 {l : List (List S118)} {n : Nat} {g : Nat → List V} {q : Int} {K : List V → Prop} (hg : encL eL118 l = g) (hn : l.length = n) (h0 : 0 ≤ q) (h1 : q < (n : Int)) (h : ∀ z, rd_L8 l q = z → ∀ n, z.length = n → ∀ g, encL e118 z = g → K [.fz 5 n g]) : ∀ cs, cs = g q.toNat → K cs :=
  all_enc hg hn h0 h1 fun z hz => h z hz _ rfl _ rfl
theorem all_enc81 {l : List S81} {n : Nat} {g : Nat → List V} {q : Int} {K : List V → Prop} (hg : encL e81 l = g) (hn : l.length = n) (h0 : 0 ≤ q) (h1 : q < (n : Int)) (h : ∀ z, rd_T81 l q = z → ∀ n, z.f2.length = n → ∀ g, encL e116 z.f2 = g → K [.val (.int .i64 z.f0), .val (.int .i64 z.f1), .fz 2 n g]) : ∀ cs, cs = g q.toNat → K cs :=
  all_enc hg hn h0 h1 fun z hz => h z hz _ rfl _ rfl
theorem all_rdLI {l : List (List Int)} {n : Nat} {q : Int} {g : Nat → List V} {k : Nat} {K : List V → Prop} (hg : encL eLI l = g) (hn : l.length = n) (hk : q.toNat = k) (h0 : 0 ≤ q) (h1 : q < (n : Int)) (h : ∀ z, rd_L3 l q = z → ∀ n, z.length = n → ∀ g, encL eI z = g → K [.fz 1 n g]) : ∀ cs, cs = g k → K cs := by
  subst hk; exact all_encLI hg hn h0 h1 h
theorem all_rdL118 {l : List (List S118)} {n : Nat} {q : Int} {g : Nat → List V} {k : Nat} {K : List V → Prop} (hg : encL eL118 l = g) (hn : l.length = n) (hk : q.toNat = k) (h0 : 0 ≤ q) (h1 : q < (n : Int)) (h : ∀ z, rd_L8 l q = z → ∀ n, z.length = n → ∀ g, encL e118 z = g → K [.fz 5 n g]) : ∀ cs, cs = g k → K cs := by
  subst hk; exact all_encL118 hg hn h0 h1 h
theorem all_rd81 {l : List S81} {n : Nat} {q : Int} {g : Nat → List V} {k : Nat} {K : List V → Prop} (hg : encL e81 l = g) (hn : l.length = n) (hk : q.toNat = k) (h0 : 0 ≤ q) (h1 : q < (n : Int)) (h : ∀ z, rd_T81 l q = z → ∀ n, z.f2.length = n → ∀ g, encL e116 z.f2 = g → K [.val (.int .i64 z.f0), .val (.int .i64 z.f1), .fz 2 n g]) : ∀ cs, cs = g k → K cs := by
  subst hk; exact all_enc81 hg hn h0 h1 h
theorem mk81 {a b : Int} {l : List S116} {n : Nat} {g : Nat → List V} (hn : l.length = n) (hg : encL e116 l = g) : e81 ⟨a, b, l⟩ = [.val (.int .i64 a), .val (.int .i64 b), .fz 2 n g] := by subst hn hg; rfl
theorem mkLI {l : List Int} {n : Nat} {g : Nat → List V} (hn : l.length = n) (hg : encL eI l = g) : eLI l = [.fz 1 n g] := by subst hn hg; rfl
theorem all_mn {a b : Int} {K : Int → Prop} (h : ∀ y, mn a b = y → K y) : ∀ y, y = (if b < a then b else a) → K y := by
  rintro _ rfl; exact h _ rfl
theorem all_mx {a b : Int} {K : Int → Prop} (h : ∀ y, mx a b = y → K y) : ∀ y, y = (if a < b then b else a) → K y := by
  rintro _ rfl; exact h _ rfl
instance : DecidableEq S72 := fun a b => if h : a.f0 = b.f0 ∧ a.f1 = b.f1 ∧ a.f2 = b.f2 then isTrue (by cases a; cases b; simp_all) else isFalse (by rintro rfl; exact h ⟨rfl, rfl, rfl⟩)
end Go.Proofs.Ythhoobpmjgpkkaa.E
