/-
  Lemmas of this claim: a layer over the kit's calls, contracts of the functions that the law reaches, and the law's row. No condition of its own.
-/
import Derived.Test.YtjbfjochilgnbaaDoorLb
import Derived.Test.YtjbfjochilgnbaaDoorSa
namespace Go.Lift
noncomputable section
open Go Go.RowKit Go.WideShapes
set_option linter.unusedSimpArgs false
set_option linter.unusedVariables false
set_option linter.unusedSectionVars false
set_option maxRecDepth 20000
section
variable {T : Tab} {ρ : Opnd} {h : Store} {dst : Option Tmp} {ty : TypeId} {pos : String} {af : Array Edge} {gd : Option (Nat × Bool)} {α : Type} {A : α → AV}
theorem g_addI {t yt : TypeId} {x y : Operand} {a b : Int} (ex : ρ (kOf T t) x = some (.i .i64 a)) (ey : ρ (kOf T t) y = some (.i .i64 b)) (h1 : -9223372036854775808 ≤ a + b) (h2 : a + b < 9223372036854775808) :
    qop T ρ h ⟨dst, .binOp .add t x y yt, ty, pos, af, gd⟩ = some (.i .i64 (a + b)) := by
  simp only [qop, ex, ey, pbin, pint, if_true]
  rw [wrap_i64 h1 h2]
theorem g_rem {t yt : TypeId} {x y : Operand} {k : IntKind} {a b : Int} (ex : ρ (kOf T t) x = some (.i k a)) (ey : ρ (kOf T t) y = some (.i k b)) (hb : b ≠ 0) :
    qop T ρ h ⟨dst, .binOp .rem t x y yt, ty, pos, af, gd⟩ = some (.i k (a.tmod b)) := by
  simp only [qop, ex, ey, pbin, pint, if_true]
  rw [if_neg hb]
end
section
variable {H : Type} {enc : TypeId × Value → H} {P : Program} {w : World} {spare : Nat → Bool} {held : Bool} {bk : DataW H → Nat} {μ : Mu} {r : Reach} {base : Nat} {t : TypeId} {v : Value} {d : DataW H} {ps : List MemPlace} {α : Type} {A : α → AV} {sz : α → Nat}
theorem arg_slice {e : TypeId} (R : Rdg enc P w spare held bk μ t A sz) (ht : P.underlying t = some (.slice e)) (hA : ∀ a, (A a).cells = [A a]) (hval : Value.okWide P w r base t v) (hd : DataW.Trod enc P w 0 spare held t v d ps) (hb : bk d ≤ 1048576) : ∃ a, CR w μ (A a) v ∧ sz a ≤ bk d := by
  obtain ⟨x, len, cap, rfl⟩ := okWide_slice ht hval
  obtain ⟨fuel, hf⟩ := hd
  obtain ⟨a, h1, _, h3⟩ := R.rd fuel _ _ hf hb
  refine ⟨a, ?_, h3⟩
  rw [hA a] at h1
  simp only [CRs] at h1
  obtain ⟨u, r, e1, e2, e3⟩ := h1
  subst e3
  have : Value.slice x len cap = u := by simpa [Value.cells] using e1
  rw [this]; exact e2
end
theorem en8 (W : World) : ∀ (vs : Array Value) (w : World), (callFunc 8 vs).run Go.Proofs.Tryd.prog w = .ok (.enter 8 vs) w := Go.Proofs.enters_of Go.Proofs.Tryd.func8 (by kernel_rfl) rfl
theorem en10 (W : World) : ∀ (vs : Array Value) (w : World), (callFunc 10 vs).run Go.Proofs.Tryd.prog w = .ok (.enter 10 vs) w := Go.Proofs.enters_of Go.Proofs.Tryd.func10 (by kernel_rfl) rfl
theorem en15 (W : World) : ∀ (vs : Array Value) (w : World), (callFunc 15 vs).run Go.Proofs.Tryd.prog w = .ok (.enter 15 vs) w := Go.Proofs.enters_of Go.Proofs.Tryd.func15 (by kernel_rfl) rfl
end
end Go.Lift
namespace Go.Lift
noncomputable section
open Go Go.RowKit
set_option linter.unusedSimpArgs false
set_option linter.unusedVariables false
set_option linter.unusedSectionVars false
set_option maxRecDepth 20000
structure DEdge where
  outs : List ByteArray
  ins : List ByteArray
  implicit : List ByteArray
  order : List ByteArray
  command : ByteArray
  deps : Bool
  pool : ByteArray

def DEdge.av (d : DEdge) : AV := .st [(slA 1 AV.s) d.outs, (slA 1 AV.s) d.ins, (slA 1 AV.s) d.implicit, (slA 1 AV.s) d.order, AV.s d.command, AV.b d.deps, AV.s d.pool]
def DEdge.zero : DEdge := ⟨[], [], [], [], (⟨#[]⟩ : ByteArray), false, (⟨#[]⟩ : ByteArray)⟩
instance : Inhabited DEdge := ⟨DEdge.zero⟩
def DEdge.sz (d : DEdge) : Nat := (szL (fun s : ByteArray => s.size + 1)) d.outs + (szL (fun s : ByteArray => s.size + 1)) d.ins + (szL (fun s : ByteArray => s.size + 1)) d.implicit + (szL (fun s : ByteArray => s.size + 1)) d.order + (fun s : ByteArray => s.size + 1) d.command + (fun _ => 1) d.deps + (fun s : ByteArray => s.size + 1) d.pool + 1
theorem DEdge.sz_outs (d : DEdge) : (szL (fun s : ByteArray => s.size + 1)) d.outs ≤ d.sz := by unfold DEdge.sz; omega
theorem DEdge.sz_ins (d : DEdge) : (szL (fun s : ByteArray => s.size + 1)) d.ins ≤ d.sz := by unfold DEdge.sz; omega
theorem DEdge.sz_implicit (d : DEdge) : (szL (fun s : ByteArray => s.size + 1)) d.implicit ≤ d.sz := by unfold DEdge.sz; omega
theorem DEdge.sz_order (d : DEdge) : (szL (fun s : ByteArray => s.size + 1)) d.order ≤ d.sz := by unfold DEdge.sz; omega
theorem DEdge.sz_command (d : DEdge) : (fun s : ByteArray => s.size + 1) d.command ≤ d.sz := by unfold DEdge.sz; omega
theorem DEdge.sz_deps (d : DEdge) : (fun _ => 1) d.deps ≤ d.sz := by unfold DEdge.sz; omega
theorem DEdge.sz_pool (d : DEdge) : (fun s : ByteArray => s.size + 1) d.pool ≤ d.sz := by unfold DEdge.sz; omega
theorem DEdge.cl (d : DEdge) : closed d.av = true := rfl
theorem DEdge.lim_pt {d : DEdge} (h : lim (.pt d.av.cells)) : lim d.av := by simp only [DEdge.av, AV.cells, lim] at h ⊢; exact h
theorem DEdge.lim_outs {d : DEdge} (h : lim d.av) : lim ((slA 1 AV.s) d.outs) := by simp only [DEdge.av, lim, limL] at h; exact h.1
theorem DEdge.lim_ins {d : DEdge} (h : lim d.av) : lim ((slA 1 AV.s) d.ins) := by simp only [DEdge.av, lim, limL] at h; exact h.2.1
theorem DEdge.lim_implicit {d : DEdge} (h : lim d.av) : lim ((slA 1 AV.s) d.implicit) := by simp only [DEdge.av, lim, limL] at h; exact h.2.2.1
theorem DEdge.lim_order {d : DEdge} (h : lim d.av) : lim ((slA 1 AV.s) d.order) := by simp only [DEdge.av, lim, limL] at h; exact h.2.2.2.1
theorem DEdge.lim_command {d : DEdge} (h : lim d.av) : lim (AV.s d.command) := by simp only [DEdge.av, lim, limL] at h; exact h.2.2.2.2.1
theorem DEdge.lim_pool {d : DEdge} (h : lim d.av) : lim (AV.s d.pool) := by simp only [DEdge.av, lim, limL] at h; exact h.2.2.2.2.2.2.1

structure DPool where
  name : ByteArray
  depth : Int

def DPool.av (d : DPool) : AV := .st [AV.s d.name, (AV.i .i64) d.depth]
def DPool.zero : DPool := ⟨(⟨#[]⟩ : ByteArray), (0 : Int)⟩
instance : Inhabited DPool := ⟨DPool.zero⟩
def DPool.sz (d : DPool) : Nat := (fun s : ByteArray => s.size + 1) d.name + (fun _ => 1) d.depth + 1
theorem DPool.sz_name (d : DPool) : (fun s : ByteArray => s.size + 1) d.name ≤ d.sz := by unfold DPool.sz; omega
theorem DPool.sz_depth (d : DPool) : (fun _ => 1) d.depth ≤ d.sz := by unfold DPool.sz; omega
theorem DPool.cl (d : DPool) : closed d.av = true := rfl
theorem DPool.lim_pt {d : DPool} (h : lim (.pt d.av.cells)) : lim d.av := by simp only [DPool.av, AV.cells, lim] at h ⊢; exact h
theorem DPool.lim_name {d : DPool} (h : lim d.av) : lim (AV.s d.name) := by simp only [DPool.av, lim, limL] at h; exact h.1

structure DGraph where
  edges : List DEdge
  pools : List DPool
  defaults : List ByteArray

def DGraph.av (d : DGraph) : AV := .st [(slA 7 DEdge.av) d.edges, (slA 2 DPool.av) d.pools, (slA 1 AV.s) d.defaults]
def DGraph.zero : DGraph := ⟨[], [], []⟩
instance : Inhabited DGraph := ⟨DGraph.zero⟩
def DGraph.sz (d : DGraph) : Nat := (szL DEdge.sz) d.edges + (szL DPool.sz) d.pools + (szL (fun s : ByteArray => s.size + 1)) d.defaults + 1
theorem DGraph.sz_edges (d : DGraph) : (szL DEdge.sz) d.edges ≤ d.sz := by unfold DGraph.sz; omega
theorem DGraph.sz_pools (d : DGraph) : (szL DPool.sz) d.pools ≤ d.sz := by unfold DGraph.sz; omega
theorem DGraph.sz_defaults (d : DGraph) : (szL (fun s : ByteArray => s.size + 1)) d.defaults ≤ d.sz := by unfold DGraph.sz; omega
theorem DGraph.cl (d : DGraph) : closed d.av = true := rfl
theorem DGraph.lim_pt {d : DGraph} (h : lim (.pt d.av.cells)) : lim d.av := by simp only [DGraph.av, AV.cells, lim] at h ⊢; exact h
theorem DGraph.lim_edges {d : DGraph} (h : lim d.av) : lim ((slA 7 DEdge.av) d.edges) := by simp only [DGraph.av, lim, limL] at h; exact h.1
theorem DGraph.lim_pools {d : DGraph} (h : lim d.av) : lim ((slA 2 DPool.av) d.pools) := by simp only [DGraph.av, lim, limL] at h; exact h.2.1
theorem DGraph.lim_defaults {d : DGraph} (h : lim d.av) : lim ((slA 1 AV.s) d.defaults) := by simp only [DGraph.av, lim, limL] at h; exact h.2.2.1


def outsN : List DEdge → Nat
  | [] => 0
  | e :: r => e.outs.length + outsN r
def eOf (e : DEdge) : EdgeD := ⟨⟨false, e.outs⟩, ⟨false, e.ins⟩, ⟨false, e.implicit⟩, ⟨false, e.order⟩, e.command, e.deps, e.pool⟩
def pOf (p : DPool) : PoolD := ⟨p.name, p.depth⟩
def gOf (g : DGraph) : GraphD := ⟨false, g.edges.map eOf, false, g.pools.map pOf, ⟨false, g.defaults⟩⟩
def m_graph_May (g : DGraph) : Bool := mayG (gOf g)
def m_graph_Check (g : DGraph) : Int := checkS (gOf g)
def m_graph_Maker (g : DGraph) (name : ByteArray) : Int × Bool × Int := makerS (gOf g) name
def needsN (g : DGraph) (edge : Int) : Nat := (g.edges.getD edge.toNat default).ins.length + (g.edges.getD edge.toNat default).implicit.length + (g.edges.getD edge.toNat default).order.length

def m_path_Is (s' : ByteArray) : Bool :=
  (decide ((cleanS s').2 = (0 : Int)) && decide ((cleanS s').1 = s'))

def m_path_All_L1 : List ByteArray → Nat → Lp (Bool) (Unit)
  | [], v9 => Lp.brk ()
  | x1 :: rest, v9 => (bif (!(m_path_Is x1)) then Lp.ret false else m_path_All_L1 rest (v9 + 1))

def m_path_All (ss : List ByteArray) (most' : Int) : Bool :=
  (match m_path_All_L1 ss 0 with
  | Lp.ret r => r
  | Lp.brk () => decide (((ss.length : Nat) : Int) ≤ most'))

def m_name_Plain_L1 : List UInt8 → Nat → Lp (Bool) (Unit)
  | [], v8 => Lp.brk ()
  | x1 :: rest, v8 => (bif decide ((x1.toNat : Int) < (32 : Int)) then Lp.ret false else (bif decide ((126 : Int) < (x1.toNat : Int)) then Lp.ret false else m_name_Plain_L1 rest (v8 + 1)))

def m_name_Plain (s' : ByteArray) (most' : Int) : Bool :=
  (match m_name_Plain_L1 s'.data.toList 0 with
  | Lp.ret r => r
  | Lp.brk () => decide (((s'.size : Nat) : Int) ≤ most'))

def m_graph_Command (s' : ByteArray) : Bool :=
  ((!decide (s' = (⟨#[]⟩ : ByteArray))) && (m_name_Plain s' (256 : Int)))

def m_graph_Edge_L1 : List (List ByteArray) → Nat → Lp (Bool) (Unit)
  | [], v23 => Lp.brk ()
  | x1 :: rest, v23 => (bif (!(m_path_All x1 (8 : Int))) then Lp.ret false else m_graph_Edge_L1 rest (v23 + 1))

def m_graph_Edge (e : DEdge) : Bool :=
  (match m_graph_Edge_L1 [e.outs, e.ins, e.implicit, e.order] 0 with
  | Lp.ret r => r
  | Lp.brk () => (decide ((0 : Int) < ((e.outs.length : Nat) : Int)) && ((m_graph_Command e.command) && (decide (e.pool = (⟨#[]⟩ : ByteArray)) || (mayS e.pool)))))

def m_graph_Outs_L1 : List DEdge → Nat → (List ByteArray) → Lp (List ByteArray) ((List ByteArray))
  | [], v11, out => Lp.brk out
  | x1 :: rest, v11, out => m_graph_Outs_L1 rest (v11 + 1) (out ++ x1.outs)

def m_graph_Outs (g : DGraph) : List ByteArray :=
  (match m_graph_Outs_L1 g.edges 0 [] with
  | Lp.ret r => r
  | Lp.brk out' => out')

def m_ref1_has_L1 (x' : ByteArray) : List ByteArray → Nat → Lp (Bool) (Unit)
  | [], i => Lp.brk ()
  | x1 :: rest, i => (bif decide (x1 = x') then Lp.ret true else m_ref1_has_L1 x' rest (i + 1))

def m_ref1_has (xs : List ByteArray) (x' : ByteArray) : Bool :=
  (match m_ref1_has_L1 x' xs 0 with
  | Lp.ret r => r
  | Lp.brk () => false)

def m_ref1_small (c : Int) : Bool :=
  (bif decide ((97 : Int) ≤ c) then (decide (c ≤ (122 : Int)) || (decide ((48 : Int) ≤ c) && decide (c ≤ (57 : Int)))) else (decide ((48 : Int) ≤ c) && decide (c ≤ (57 : Int))))

def m_ref1_Plain_L1 : List UInt8 → Nat → Lp (Bool) (Unit)
  | [], i => Lp.brk ()
  | x1 :: rest, i => (bif decide ((x1.toNat : Int) < (32 : Int)) then Lp.ret false else (bif decide ((126 : Int) < (x1.toNat : Int)) then Lp.ret false else m_ref1_Plain_L1 rest (i + 1)))

def m_ref1_Plain (s' : ByteArray) (least : Int) (most' : Int) : Bool :=
  (match m_ref1_Plain_L1 s'.data.toList 0 with
  | Lp.ret r => r
  | Lp.brk () => (decide (least ≤ ((s'.size : Nat) : Int)) && decide (((s'.size : Nat) : Int) ≤ most')))

def m_ref1_NameMay_L1 : List UInt8 → Nat → Lp (Bool) (Unit)
  | [], i => Lp.brk ()
  | x1 :: rest, i => (bif (!(m_ref1_small (x1.toNat : Int))) then (bif (!decide ((x1.toNat : Int) = (46 : Int))) then (bif (!decide ((x1.toNat : Int) = (95 : Int))) then (bif (!decide ((x1.toNat : Int) = (45 : Int))) then (bif (!decide ((x1.toNat : Int) = (47 : Int))) then Lp.ret false else m_ref1_NameMay_L1 rest (i + 1)) else m_ref1_NameMay_L1 rest (i + 1)) else m_ref1_NameMay_L1 rest (i + 1)) else m_ref1_NameMay_L1 rest (i + 1)) else m_ref1_NameMay_L1 rest (i + 1))

def m_ref1_NameMay (s' : ByteArray) : Bool :=
  (match m_ref1_NameMay_L1 s'.data.toList 0 with
  | Lp.ret r => r
  | Lp.brk () => (decide ((1 : Int) ≤ ((s'.size : Nat) : Int)) && decide (((s'.size : Nat) : Int) ≤ (16 : Int))))

def m_ref1_Join_L1 (sign : ByteArray) : List ByteArray → Nat → ByteArray → Lp (ByteArray) (ByteArray)
  | [], i, s' => Lp.brk s'
  | x1 :: rest, i, s' => (bif decide ((0 : Int) < ((i : Nat) : Int)) then m_ref1_Join_L1 sign rest (i + 1) ((s' ++ sign) ++ x1) else m_ref1_Join_L1 sign rest (i + 1) (s' ++ x1))

def m_ref1_Join (xs : List ByteArray) (sign : ByteArray) : ByteArray :=
  (match m_ref1_Join_L1 sign xs 0 (⟨#[]⟩ : ByteArray) with
  | Lp.ret r => r
  | Lp.brk sv' => sv')

def m_ref1_split_L1 (s' : ByteArray) (sign : Int) : Nat → (List ByteArray) → Nat → Nat → Lp (List ByteArray) ((List ByteArray))
  | 0, out, from', i => Lp.brk out
  | kf + 1, out, from', i => (bif decide (((i : Nat) : Int) ≤ ((s'.size : Nat) : Int)) then (bif (decide (((i : Nat) : Int) = ((s'.size : Nat) : Int)) || decide (((s'.data.getD i 0).toNat : Int) = sign)) then m_ref1_split_L1 s' sign kf (out ++ [(s'.extract from' i)]) (i + 1) (i + 1) else m_ref1_split_L1 s' sign kf out from' (i + 1)) else Lp.brk out)

def m_ref1_split (s' : ByteArray) (sign : Int) : List ByteArray :=
  (match m_ref1_split_L1 s' sign (s'.size + 1 - 0 + 1) [] 0 0 with
  | Lp.ret r => r
  | Lp.brk out' => out')

def m_ref1_CleanPath_L1 : List ByteArray → Nat → (List ByteArray) → Lp (ByteArray × Int) ((List ByteArray))
  | [], i, kept => Lp.brk kept
  | x1 :: rest, i, kept => (bif decide (x1 = (⟨#[]⟩ : ByteArray)) then m_ref1_CleanPath_L1 rest (i + 1) kept else (bif decide (x1 = (⟨#[46]⟩ : ByteArray)) then m_ref1_CleanPath_L1 rest (i + 1) kept else (bif decide (x1 = (⟨#[46, 46]⟩ : ByteArray)) then (bif decide (((kept.length : Nat) : Int) = (0 : Int)) then Lp.ret ((⟨#[]⟩ : ByteArray), (200 : Int)) else m_ref1_CleanPath_L1 rest (i + 1) (kept.take (kept.length - 1))) else m_ref1_CleanPath_L1 rest (i + 1) (kept ++ [x1]))))

def m_ref1_CleanPath (s' : ByteArray) : ByteArray × Int :=
  (bif (!(m_ref1_NameMay s')) then ((⟨#[]⟩ : ByteArray), (200 : Int)) else (bif decide (((s'.data.getD 0 0).toNat : Int) = (47 : Int)) then ((⟨#[]⟩ : ByteArray), (200 : Int)) else (match m_ref1_CleanPath_L1 (m_ref1_split s' (47 : Int)) 0 [] with
  | Lp.ret r => r
  | Lp.brk kept' => (bif decide (((kept'.length : Nat) : Int) = (0 : Int)) then ((⟨#[]⟩ : ByteArray), (200 : Int)) else ((m_ref1_Join kept' (⟨#[47]⟩ : ByteArray)), (0 : Int))))))

def m_ref1_PathMay (s' : ByteArray) : Bool :=
  (decide ((m_ref1_CleanPath s').2 = (0 : Int)) && decide ((m_ref1_CleanPath s').1 = s'))

def m_ref1_PathsMay_L1 : List ByteArray → Nat → Lp (Bool) (Unit)
  | [], i => Lp.brk ()
  | x1 :: rest, i => (bif (!(m_ref1_PathMay x1)) then Lp.ret false else m_ref1_PathsMay_L1 rest (i + 1))

def m_ref1_PathsMay (xs : List ByteArray) : Bool :=
  (match m_ref1_PathsMay_L1 xs 0 with
  | Lp.ret r => r
  | Lp.brk () => decide (((xs.length : Nat) : Int) ≤ (8 : Int)))

def m_ref1_poolAt_L1 (name : ByteArray) : List DPool → Nat → Lp (Int) (Unit)
  | [], i => Lp.brk ()
  | x1 :: rest, i => (bif decide (x1.name = name) then Lp.ret ((i : Nat) : Int) else m_ref1_poolAt_L1 name rest (i + 1))

def m_ref1_poolAt (ps : List DPool) (name : ByteArray) : Int :=
  (match m_ref1_poolAt_L1 name ps 0 with
  | Lp.ret r => r
  | Lp.brk () => (-1 : Int))

def m_ref1_EdgeMay (e : DEdge) : Bool :=
  (decide ((0 : Int) < ((e.outs.length : Nat) : Int)) && ((m_ref1_PathsMay e.outs) && ((m_ref1_PathsMay e.ins) && ((m_ref1_PathsMay e.implicit) && ((m_ref1_PathsMay e.order) && ((m_ref1_Plain e.command (1 : Int) (256 : Int)) && (decide (e.pool = (⟨#[]⟩ : ByteArray)) || (m_ref1_NameMay e.pool))))))))

def m_ref1_GraphMay_L2 (g : DGraph) : List DEdge → Nat → Lp (Bool) (Unit)
  | [], i2 => Lp.brk ()
  | x2 :: rest, i2 => (bif (!(m_ref1_EdgeMay x2)) then Lp.ret false else (bif (!decide (x2.pool = (⟨#[]⟩ : ByteArray))) then (bif decide ((m_ref1_poolAt g.pools x2.pool) < (0 : Int)) then Lp.ret false else m_ref1_GraphMay_L2 g rest (i2 + 1)) else m_ref1_GraphMay_L2 g rest (i2 + 1)))

def m_ref1_GraphMay_L1 (g : DGraph) : List DPool → Nat → Lp (Bool) (Unit)
  | [], i => Lp.brk ()
  | x1 :: rest, i => (bif (!(m_ref1_NameMay x1.name)) then Lp.ret false else (bif decide (x1.depth < (1 : Int)) then Lp.ret false else (bif decide ((8 : Int) < x1.depth) then Lp.ret false else (bif (!decide ((m_ref1_poolAt g.pools x1.name) = ((i : Nat) : Int))) then Lp.ret false else m_ref1_GraphMay_L1 g rest (i + 1)))))

def m_ref1_GraphMay (g : DGraph) : Bool :=
  (match m_ref1_GraphMay_L1 g g.pools 0 with
  | Lp.ret r => r
  | Lp.brk () => (match m_ref1_GraphMay_L2 g g.edges 0 with
  | Lp.ret r => r
  | Lp.brk () => (decide (((g.pools.length : Nat) : Int) ≤ (4 : Int)) && (decide (((g.edges.length : Nat) : Int) ≤ (16 : Int)) && (m_ref1_PathsMay g.defaults)))))

def m_ref1_Check_L2 : List ByteArray → Nat → (List ByteArray) → Lp (Int) ((List ByteArray))
  | [], k, all2 => Lp.brk all2
  | x2 :: rest, k, all2 => (bif (m_ref1_has all2 x2) then Lp.ret (901 : Int) else m_ref1_Check_L2 rest (k + 1) (all2 ++ [x2]))

def m_ref1_Check_L1 : List DEdge → Nat → (List ByteArray) → Lp (Int) (Unit)
  | [], i, all => Lp.brk ()
  | x1 :: rest, i, all => (match m_ref1_Check_L2 x1.outs 0 all with
  | Lp.ret r => Lp.ret r
  | Lp.brk all2' => m_ref1_Check_L1 rest (i + 1) all2')

def m_ref1_Check (g : DGraph) : Int :=
  (bif (!(m_ref1_GraphMay g)) then (900 : Int) else (match m_ref1_Check_L1 g.edges 0 [] with
  | Lp.ret r => r
  | Lp.brk () => (0 : Int)))

def m_ref1_MakerOf_L1 (name : ByteArray) : List DEdge → Nat → Lp (Int) (Unit)
  | [], i => Lp.brk ()
  | x1 :: rest, i => (bif (m_ref1_has x1.outs name) then Lp.ret ((i : Nat) : Int) else m_ref1_MakerOf_L1 name rest (i + 1))

def m_ref1_MakerOf (g : DGraph) (name : ByteArray) : Int :=
  (match m_ref1_MakerOf_L1 name g.edges 0 with
  | Lp.ret r => r
  | Lp.brk () => (-1 : Int))

def m_ref1_Needs_L1 (g : DGraph) : List ByteArray → Nat → (List Int) → Lp (List Int) ((List Int))
  | [], i, out => Lp.brk out
  | x1 :: rest, i, out => (bif decide ((0 : Int) ≤ (m_ref1_MakerOf g x1)) then m_ref1_Needs_L1 g rest (i + 1) (out ++ [(m_ref1_MakerOf g x1)]) else m_ref1_Needs_L1 g rest (i + 1) out)

def m_ref1_Needs (g : DGraph) (edge : Int) : List Int :=
  (match m_ref1_Needs_L1 g (((g.edges.getD edge.toNat default).ins ++ (g.edges.getD edge.toNat default).implicit) ++ (g.edges.getD edge.toNat default).order) 0 [] with
  | Lp.ret r => r
  | Lp.brk out' => out')

def m_law0_SameInts_L1 (b : List Int) : List Int → Nat → Lp (Bool) (Unit)
  | [], i => Lp.brk ()
  | x1 :: rest, i => (bif (!decide (x1 = (b.getD i default))) then Lp.ret false else m_law0_SameInts_L1 b rest (i + 1))

def m_law0_SameInts (a : List Int) (b : List Int) : Bool :=
  (!(!decide (((a.length : Nat) : Int) = ((b.length : Nat) : Int))) && (match m_law0_SameInts_L1 b a 0 with
  | Lp.ret r => r
  | Lp.brk () => true))

def m_law0_SameBools_L1 (b : List Bool) : List Bool → Nat → Lp (Bool) (Unit)
  | [], i => Lp.brk ()
  | x1 :: rest, i => (bif (!(x1 == (b.getD i default))) then Lp.ret false else m_law0_SameBools_L1 b rest (i + 1))

def m_law0_SameBools (a : List Bool) (b : List Bool) : Bool :=
  (!(!decide (((a.length : Nat) : Int) = ((b.length : Nat) : Int))) && (match m_law0_SameBools_L1 b a 0 with
  | Lp.ret r => r
  | Lp.brk () => true))

def m_slices_Index_int_int_L1 (v : Int) : List Int → Nat → Lp (Int) (Unit)
  | [], v8 => Lp.brk ()
  | x1 :: rest, v8 => (bif decide (v = x1) then Lp.ret ((v8 : Nat) : Int) else m_slices_Index_int_int_L1 v rest (v8 + 1))

def m_slices_Index_int_int (s' : List Int) (v : Int) : Int :=
  (match m_slices_Index_int_int_L1 v s' 0 with
  | Lp.ret r => r
  | Lp.brk () => (-1 : Int))

def m_slices_Contains_int_int (s' : List Int) (v : Int) : Bool :=
  decide ((0 : Int) ≤ (m_slices_Index_int_int s' v))

def m_slices_Index_string_string_L1 (v : ByteArray) : List ByteArray → Nat → Lp (Int) (Unit)
  | [], v8 => Lp.brk ()
  | x1 :: rest, v8 => (bif decide (v = x1) then Lp.ret ((v8 : Nat) : Int) else m_slices_Index_string_string_L1 v rest (v8 + 1))

def m_slices_Index_string_string (s' : List ByteArray) (v : ByteArray) : Int :=
  (match m_slices_Index_string_string_L1 v s' 0 with
  | Lp.ret r => r
  | Lp.brk () => (-1 : Int))

def m_slices_Contains_string_string (s' : List ByteArray) (v : ByteArray) : Bool :=
  decide ((0 : Int) ≤ (m_slices_Index_string_string s' v))

def m_law10_free_L1 (told : List Bool) : List Int → Nat → Lp (Bool) (Unit)
  | [], i => Lp.brk ()
  | x1 :: rest, i => (bif (!(told.getD x1.toNat default)) then Lp.ret false else m_law10_free_L1 told rest (i + 1))

def m_law10_free (g : DGraph) (told : List Bool) (edge : Int) : Bool :=
  (match m_law10_free_L1 told (m_ref1_Needs g edge) 0 with
  | Lp.ret r => r
  | Lp.brk () => true)

def m_slices_IndexFunc_api_Pool_api_Pool_L1 (f : DPool → Bool) : List DPool → Nat → Lp (Int) (Unit)
  | [], v8 => Lp.brk ()
  | x1 :: rest, v8 => (bif (f x1) then Lp.ret ((v8 : Nat) : Int) else m_slices_IndexFunc_api_Pool_api_Pool_L1 f rest (v8 + 1))

def m_slices_IndexFunc_api_Pool_api_Pool (s' : List DPool) (f : DPool → Bool) : Int :=
  (match m_slices_IndexFunc_api_Pool_api_Pool_L1 f s' 0 with
  | Lp.ret r => r
  | Lp.brk () => (-1 : Int))

def m_graph_Pool_1 (p : DPool) (name : ByteArray) : Bool :=
  decide (p.name = name)

def m_graph_Pool (g : DGraph) (s' : ByteArray) : Int :=
  (m_slices_IndexFunc_api_Pool_api_Pool g.pools (fun z0 => m_graph_Pool_1 z0 s'))

def m_slices_IndexFunc_api_Edge_api_Edge_L1 (f : DEdge → Bool) : List DEdge → Nat → Lp (Int) (Unit)
  | [], v8 => Lp.brk ()
  | x1 :: rest, v8 => (bif (f x1) then Lp.ret ((v8 : Nat) : Int) else m_slices_IndexFunc_api_Edge_api_Edge_L1 f rest (v8 + 1))

def m_slices_IndexFunc_api_Edge_api_Edge (s' : List DEdge) (f : DEdge → Bool) : Int :=
  (match m_slices_IndexFunc_api_Edge_api_Edge_L1 f s' 0 with
  | Lp.ret r => r
  | Lp.brk () => (-1 : Int))

def m_graph_Makes_1 (e : DEdge) (name : ByteArray) : Bool :=
  (m_slices_Contains_string_string e.outs name)

def m_graph_Makes (g : DGraph) (s' : ByteArray) : Int :=
  (m_slices_IndexFunc_api_Edge_api_Edge g.edges (fun z0 => m_graph_Makes_1 z0 s'))

def m_slices_IndexFunc_int_int_L1 (f : Int → Bool) : List Int → Nat → Lp (Int) (Unit)
  | [], v8 => Lp.brk ()
  | x1 :: rest, v8 => (bif (f x1) then Lp.ret ((v8 : Nat) : Int) else m_slices_IndexFunc_int_int_L1 f rest (v8 + 1))

def m_slices_IndexFunc_int_int (s' : List Int) (f : Int → Bool) : Int :=
  (match m_slices_IndexFunc_int_int_L1 f s' 0 with
  | Lp.ret r => r
  | Lp.brk () => (-1 : Int))

def m_slices_ContainsFunc_int_int (s' : List Int) (f : Int → Bool) : Bool :=
  decide ((0 : Int) ≤ (m_slices_IndexFunc_int_int s' f))

def m_grow0 : List ByteArray :=
  []

def m_grow_string (n' : Nat) : List ByteArray :=
  (bif decide ((0 : Int) < ((n' : Nat) : Int)) then ((List.replicate n' (⟨#[]⟩ : ByteArray)).take 0) else [])

def m_slices_Concat_string_string_L2 : List (List ByteArray) → Nat → (List ByteArray) → Lp (List ByteArray) ((List ByteArray))
  | [], v27, newslice => Lp.brk newslice
  | x2 :: rest, v27, newslice => m_slices_Concat_string_string_L2 rest (v27 + 1) (newslice ++ x2)

def m_slices_Concat_string_string_L1 : List (List ByteArray) → Nat → Nat → Lp (List ByteArray) (Nat)
  | [], v11, size => Lp.brk size
  | x1 :: rest, v11, size => m_slices_Concat_string_string_L1 rest (v11 + 1) (size + x1.length)

def m_slices_Concat_string_string (slices : List (List ByteArray)) : List ByteArray :=
  (match m_slices_Concat_string_string_L1 slices 0 0 with
  | Lp.ret r => r
  | Lp.brk size' => (match m_slices_Concat_string_string_L2 slices 0 ((List.replicate size' (⟨#[]⟩ : ByteArray)).take 0) with
  | Lp.ret r => r
  | Lp.brk newslice4' => newslice4'))

def m_order_Needs_L1 (g : DGraph) : List ByteArray → Nat → (List Int) → Lp (List Int) ((List Int))
  | [], v31, out => Lp.brk out
  | x1 :: rest, v31, out => (bif decide ((0 : Int) ≤ (m_graph_Makes g x1)) then (bif (!(m_slices_Contains_int_int out (m_graph_Makes g x1))) then m_order_Needs_L1 g rest (v31 + 1) (out ++ [(m_graph_Makes g x1)]) else m_order_Needs_L1 g rest (v31 + 1) out) else m_order_Needs_L1 g rest (v31 + 1) out)

def m_order_Needs (g : DGraph) (edge : Int) : List Int :=
  (match m_order_Needs_L1 g (m_slices_Concat_string_string [(g.edges.getD edge.toNat default).ins, (g.edges.getD edge.toNat default).implicit, (g.edges.getD edge.toNat default).order]) 0 [] with
  | Lp.ret r => r
  | Lp.brk out' => out')

def m_order_Of_1 (edge : Int) (out : List Int) : Bool :=
  (m_slices_Contains_int_int out edge)

def m_order_Of_2 (edge : Int) (told : Int → Bool) : Bool :=
  (!(told edge))

def m_order_Of_L3 : List (List Int) → Nat → (List Int) → Lp (List Int × Int) (Bool × (List Int))
  | [], v38, cell2 => Lp.brk (false, cell2)
  | x3 :: rest, v38, cell2 => (bif (!(m_order_Of_1 ((v38 : Nat) : Int) cell2)) then (bif (!(m_slices_ContainsFunc_int_int x3 (fun z0 => m_order_Of_2 z0 (fun z0 => m_order_Of_1 z0 cell2)))) then Lp.brk (true, (cell2 ++ [((v38 : Nat) : Int)])) else m_order_Of_L3 rest (v38 + 1) cell2) else m_order_Of_L3 rest (v38 + 1) cell2)

def m_order_Of_L2 (g : DGraph) (row : List (List Int)) : Nat → (List Int) → Lp (List Int × Int) ((List Int))
  | 0, cell => Lp.brk cell
  | kf + 1, cell => (bif decide (((cell.length : Nat) : Int) < ((g.edges.length : Nat) : Int)) then (match m_order_Of_L3 row 0 cell with
  | Lp.ret r => Lp.ret r
  | Lp.brk (t', cell2') => (bif t' then m_order_Of_L2 g row kf cell2' else Lp.ret (([] : List Int), (1001 : Int)))) else Lp.brk cell)

def m_order_Of_L1 (g : DGraph) : List (List Int) → Nat → (List (List Int)) → Lp (List Int × Int) ((List (List Int)))
  | [], v20, row => Lp.brk row
  | x1 :: rest, v20, row => m_order_Of_L1 g rest (v20 + 1) (row.set v20 (m_order_Needs g ((v20 : Nat) : Int)))

def m_order_Of (g : DGraph) : List Int × Int :=
  (bif (!decide ((m_graph_Check g) = (0 : Int))) then (([] : List Int), (1000 : Int)) else (match m_order_Of_L1 g (List.replicate g.edges.length ([] : List Int)) 0 (List.replicate g.edges.length ([] : List Int)) with
  | Lp.ret r => r
  | Lp.brk row' => (match m_order_Of_L2 g row' (g.edges.length - 0 + 1) [] with
  | Lp.ret r => r
  | Lp.brk cell3' => (cell3', (0 : Int)))))

def m_want_Of_L3 : List Int → Nat → (List Bool) → Lp (List Bool × Int) ((List Bool))
  | [], v75, row3 => Lp.brk row3
  | x3 :: rest, v75, row3 => m_want_Of_L3 rest (v75 + 1) (row3.set x3.toNat true)

def m_want_Of_L2 (g : DGraph) : Nat → Int → (List Bool) → Lp (List Bool × Int) ((List Bool))
  | 0, k, row2 => Lp.brk row2
  | kf + 1, k, row2 => (bif decide ((0 : Int) ≤ k) then (bif (!(row2.getD (((m_order_Of g).1).getD k.toNat default).toNat default)) then m_want_Of_L2 g kf (k - (1 : Int)) row2 else (match m_want_Of_L3 (m_order_Needs g (((m_order_Of g).1).getD k.toNat default)) 0 row2 with
  | Lp.ret r => Lp.ret r
  | Lp.brk row3' => m_want_Of_L2 g kf (k - (1 : Int)) row3')) else Lp.brk row2)

def m_want_Of_L1 (g : DGraph) : List ByteArray → Nat → (List Bool) → Lp (List Bool × Int) ((List Bool))
  | [], v42, row => Lp.brk row
  | x1 :: rest, v42, row => (bif decide ((m_graph_Makes g x1) < (0 : Int)) then Lp.ret (([] : List Bool), (2001 : Int)) else m_want_Of_L1 g rest (v42 + 1) (row.set (m_graph_Makes g x1).toNat true))

def m_want_Of (g : DGraph) (names : List ByteArray) : List Bool × Int :=
  (bif (!decide ((m_order_Of g).2 = (0 : Int))) then (([] : List Bool), (2000 : Int)) else (bif (!(m_path_All names (8 : Int))) then (([] : List Bool), (2000 : Int)) else (match m_want_Of_L1 g (bif decide ((((bif decide (((names.length : Nat) : Int) = (0 : Int)) then g.defaults else names).length : Nat) : Int) = (0 : Int)) then (m_graph_Outs g) else (bif decide (((names.length : Nat) : Int) = (0 : Int)) then g.defaults else names)) 0 (List.replicate g.edges.length false) with
  | Lp.ret r => r
  | Lp.brk row' => (match m_want_Of_L2 g (((((((m_order_Of g).1).length : Nat) : Int) - (1 : Int)) + 1).toNat + 1) (((((m_order_Of g).1).length : Nat) : Int) - (1 : Int)) row' with
  | Lp.ret r => r
  | Lp.brk row4' => (row4', (0 : Int))))))

def m_law0_Num (e : Int) : Int :=
  e

def m_law9_given : DGraph :=
  (⟨[(⟨[(⟨#[108, 105, 98]⟩ : ByteArray)], [(⟨#[97, 46, 111]⟩ : ByteArray), (⟨#[98, 46, 111]⟩ : ByteArray)], [], [], (⟨#[97, 114]⟩ : ByteArray), false, (⟨#[]⟩ : ByteArray)⟩ : DEdge), (⟨[(⟨#[97, 46, 111]⟩ : ByteArray), (⟨#[97, 46, 100]⟩ : ByteArray)], [(⟨#[97, 46, 99]⟩ : ByteArray)], [(⟨#[97, 46, 104]⟩ : ByteArray)], [], (⟨#[99, 99, 32, 97]⟩ : ByteArray), true, (⟨#[116, 119, 111]⟩ : ByteArray)⟩ : DEdge), (⟨[(⟨#[98, 46, 111]⟩ : ByteArray)], [(⟨#[98, 46, 99]⟩ : ByteArray)], [], [(⟨#[97, 46, 111]⟩ : ByteArray)], (⟨#[99, 99, 32, 98]⟩ : ByteArray), false, (⟨#[116, 119, 111]⟩ : ByteArray)⟩ : DEdge)], [(⟨(⟨#[116, 119, 111]⟩ : ByteArray), (2 : Int)⟩ : DPool)], [(⟨#[108, 105, 98]⟩ : ByteArray)]⟩ : DGraph)

def m_law9_awake : Bool :=
  (decide ((m_graph_Maker (⟨[(⟨[(⟨#[108, 105, 98]⟩ : ByteArray)], [(⟨#[97, 46, 111]⟩ : ByteArray), (⟨#[98, 46, 111]⟩ : ByteArray)], [], [], (⟨#[97, 114]⟩ : ByteArray), false, (⟨#[]⟩ : ByteArray)⟩ : DEdge), (⟨[(⟨#[97, 46, 111]⟩ : ByteArray), (⟨#[97, 46, 100]⟩ : ByteArray)], [(⟨#[97, 46, 99]⟩ : ByteArray)], [(⟨#[97, 46, 104]⟩ : ByteArray)], [], (⟨#[99, 99, 32, 97]⟩ : ByteArray), true, (⟨#[116, 119, 111]⟩ : ByteArray)⟩ : DEdge), (⟨[(⟨#[98, 46, 111]⟩ : ByteArray)], [(⟨#[98, 46, 99]⟩ : ByteArray)], [], [(⟨#[97, 46, 111]⟩ : ByteArray)], (⟨#[99, 99, 32, 98]⟩ : ByteArray), false, (⟨#[116, 119, 111]⟩ : ByteArray)⟩ : DEdge)], [(⟨(⟨#[116, 119, 111]⟩ : ByteArray), (2 : Int)⟩ : DPool)], [(⟨#[108, 105, 98]⟩ : ByteArray)]⟩ : DGraph) (⟨#[97, 46, 100]⟩ : ByteArray)).1 = (1 : Int)) && ((m_graph_Maker (⟨[(⟨[(⟨#[108, 105, 98]⟩ : ByteArray)], [(⟨#[97, 46, 111]⟩ : ByteArray), (⟨#[98, 46, 111]⟩ : ByteArray)], [], [], (⟨#[97, 114]⟩ : ByteArray), false, (⟨#[]⟩ : ByteArray)⟩ : DEdge), (⟨[(⟨#[97, 46, 111]⟩ : ByteArray), (⟨#[97, 46, 100]⟩ : ByteArray)], [(⟨#[97, 46, 99]⟩ : ByteArray)], [(⟨#[97, 46, 104]⟩ : ByteArray)], [], (⟨#[99, 99, 32, 97]⟩ : ByteArray), true, (⟨#[116, 119, 111]⟩ : ByteArray)⟩ : DEdge), (⟨[(⟨#[98, 46, 111]⟩ : ByteArray)], [(⟨#[98, 46, 99]⟩ : ByteArray)], [], [(⟨#[97, 46, 111]⟩ : ByteArray)], (⟨#[99, 99, 32, 98]⟩ : ByteArray), false, (⟨#[116, 119, 111]⟩ : ByteArray)⟩ : DEdge)], [(⟨(⟨#[116, 119, 111]⟩ : ByteArray), (2 : Int)⟩ : DPool)], [(⟨#[108, 105, 98]⟩ : ByteArray)]⟩ : DGraph) (⟨#[97, 46, 100]⟩ : ByteArray)).2.1 && (decide ((m_law0_Num ((m_graph_Maker (⟨[(⟨[(⟨#[108, 105, 98]⟩ : ByteArray)], [(⟨#[97, 46, 111]⟩ : ByteArray), (⟨#[98, 46, 111]⟩ : ByteArray)], [], [], (⟨#[97, 114]⟩ : ByteArray), false, (⟨#[]⟩ : ByteArray)⟩ : DEdge), (⟨[(⟨#[97, 46, 111]⟩ : ByteArray), (⟨#[97, 46, 100]⟩ : ByteArray)], [(⟨#[97, 46, 99]⟩ : ByteArray)], [(⟨#[97, 46, 104]⟩ : ByteArray)], [], (⟨#[99, 99, 32, 97]⟩ : ByteArray), true, (⟨#[116, 119, 111]⟩ : ByteArray)⟩ : DEdge), (⟨[(⟨#[98, 46, 111]⟩ : ByteArray)], [(⟨#[98, 46, 99]⟩ : ByteArray)], [], [(⟨#[97, 46, 111]⟩ : ByteArray)], (⟨#[99, 99, 32, 98]⟩ : ByteArray), false, (⟨#[116, 119, 111]⟩ : ByteArray)⟩ : DEdge)], [(⟨(⟨#[116, 119, 111]⟩ : ByteArray), (2 : Int)⟩ : DPool)], [(⟨#[108, 105, 98]⟩ : ByteArray)]⟩ : DGraph) (⟨#[97, 46, 100]⟩ : ByteArray)).2.2)) = (0 : Int)) && ((!(m_graph_Maker (⟨[(⟨[(⟨#[108, 105, 98]⟩ : ByteArray)], [(⟨#[97, 46, 111]⟩ : ByteArray), (⟨#[98, 46, 111]⟩ : ByteArray)], [], [], (⟨#[97, 114]⟩ : ByteArray), false, (⟨#[]⟩ : ByteArray)⟩ : DEdge), (⟨[(⟨#[97, 46, 111]⟩ : ByteArray), (⟨#[97, 46, 100]⟩ : ByteArray)], [(⟨#[97, 46, 99]⟩ : ByteArray)], [(⟨#[97, 46, 104]⟩ : ByteArray)], [], (⟨#[99, 99, 32, 97]⟩ : ByteArray), true, (⟨#[116, 119, 111]⟩ : ByteArray)⟩ : DEdge), (⟨[(⟨#[98, 46, 111]⟩ : ByteArray)], [(⟨#[98, 46, 99]⟩ : ByteArray)], [], [(⟨#[97, 46, 111]⟩ : ByteArray)], (⟨#[99, 99, 32, 98]⟩ : ByteArray), false, (⟨#[116, 119, 111]⟩ : ByteArray)⟩ : DEdge)], [(⟨(⟨#[116, 119, 111]⟩ : ByteArray), (2 : Int)⟩ : DPool)], [(⟨#[108, 105, 98]⟩ : ByteArray)]⟩ : DGraph) (⟨#[97, 46, 99]⟩ : ByteArray)).2.1) && (decide ((m_law0_Num ((m_graph_Maker (⟨[(⟨[(⟨#[108, 105, 98]⟩ : ByteArray)], [(⟨#[97, 46, 111]⟩ : ByteArray), (⟨#[98, 46, 111]⟩ : ByteArray)], [], [], (⟨#[97, 114]⟩ : ByteArray), false, (⟨#[]⟩ : ByteArray)⟩ : DEdge), (⟨[(⟨#[97, 46, 111]⟩ : ByteArray), (⟨#[97, 46, 100]⟩ : ByteArray)], [(⟨#[97, 46, 99]⟩ : ByteArray)], [(⟨#[97, 46, 104]⟩ : ByteArray)], [], (⟨#[99, 99, 32, 97]⟩ : ByteArray), true, (⟨#[116, 119, 111]⟩ : ByteArray)⟩ : DEdge), (⟨[(⟨#[98, 46, 111]⟩ : ByteArray)], [(⟨#[98, 46, 99]⟩ : ByteArray)], [], [(⟨#[97, 46, 111]⟩ : ByteArray)], (⟨#[99, 99, 32, 98]⟩ : ByteArray), false, (⟨#[116, 119, 111]⟩ : ByteArray)⟩ : DEdge)], [(⟨(⟨#[116, 119, 111]⟩ : ByteArray), (2 : Int)⟩ : DPool)], [(⟨#[108, 105, 98]⟩ : ByteArray)]⟩ : DGraph) (⟨#[97, 46, 99]⟩ : ByteArray)).2.2)) = (0 : Int)) && (decide ((m_law0_Num (m_graph_Check (⟨[(⟨[(⟨#[108, 105, 98]⟩ : ByteArray)], [(⟨#[97, 46, 111]⟩ : ByteArray), (⟨#[98, 46, 111]⟩ : ByteArray)], [], [], (⟨#[97, 114]⟩ : ByteArray), false, (⟨#[]⟩ : ByteArray)⟩ : DEdge), (⟨[(⟨#[97, 46, 111]⟩ : ByteArray), (⟨#[97, 46, 100]⟩ : ByteArray)], [(⟨#[97, 46, 99]⟩ : ByteArray)], [(⟨#[97, 46, 104]⟩ : ByteArray)], [], (⟨#[99, 99, 32, 97]⟩ : ByteArray), true, (⟨#[116, 119, 111]⟩ : ByteArray)⟩ : DEdge), (⟨[(⟨#[98, 46, 111]⟩ : ByteArray)], [(⟨#[98, 46, 99]⟩ : ByteArray)], [], [(⟨#[97, 46, 111]⟩ : ByteArray)], (⟨#[99, 99, 32, 98]⟩ : ByteArray), false, (⟨#[116, 119, 111]⟩ : ByteArray)⟩ : DEdge)], [(⟨(⟨#[116, 119, 111]⟩ : ByteArray), (2 : Int)⟩ : DPool)], [(⟨#[108, 105, 98]⟩ : ByteArray)]⟩ : DGraph))) = (0 : Int)) && (decide ((m_law0_Num (m_graph_Check (⟨[(⟨[(⟨#[108, 105, 98]⟩ : ByteArray)], [(⟨#[97, 46, 111]⟩ : ByteArray), (⟨#[98, 46, 111]⟩ : ByteArray)], [], [], (⟨#[97, 114]⟩ : ByteArray), false, (⟨#[]⟩ : ByteArray)⟩ : DEdge), (⟨[(⟨#[97, 46, 111]⟩ : ByteArray), (⟨#[97, 46, 100]⟩ : ByteArray)], [(⟨#[97, 46, 99]⟩ : ByteArray)], [(⟨#[97, 46, 104]⟩ : ByteArray)], [], (⟨#[99, 99, 32, 97]⟩ : ByteArray), true, (⟨#[116, 119, 111]⟩ : ByteArray)⟩ : DEdge), (⟨[(⟨#[108, 105, 98]⟩ : ByteArray)], [(⟨#[98, 46, 99]⟩ : ByteArray)], [], [(⟨#[97, 46, 111]⟩ : ByteArray)], (⟨#[99, 99, 32, 98]⟩ : ByteArray), false, (⟨#[116, 119, 111]⟩ : ByteArray)⟩ : DEdge)], [(⟨(⟨#[116, 119, 111]⟩ : ByteArray), (2 : Int)⟩ : DPool)], [(⟨#[108, 105, 98]⟩ : ByteArray)]⟩ : DGraph))) = (901 : Int)) && (decide ((m_law0_Num (m_graph_Check (⟨[(⟨[(⟨#[108, 105, 98]⟩ : ByteArray)], [(⟨#[97, 46, 111]⟩ : ByteArray), (⟨#[98, 46, 111]⟩ : ByteArray)], [], [], (⟨#[97, 114]⟩ : ByteArray), false, (⟨#[]⟩ : ByteArray)⟩ : DEdge), (⟨[(⟨#[97, 46, 111]⟩ : ByteArray), (⟨#[97, 46, 100]⟩ : ByteArray)], [(⟨#[97, 46, 99]⟩ : ByteArray)], [(⟨#[97, 46, 104]⟩ : ByteArray)], [], (⟨#[99, 99, 32, 97]⟩ : ByteArray), true, (⟨#[116, 119, 111]⟩ : ByteArray)⟩ : DEdge), (⟨[(⟨#[98, 46, 111]⟩ : ByteArray)], [(⟨#[98, 46, 99]⟩ : ByteArray)], [], [(⟨#[97, 46, 111]⟩ : ByteArray)], (⟨#[99, 99, 32, 98]⟩ : ByteArray), false, (⟨#[111, 110, 101]⟩ : ByteArray)⟩ : DEdge)], [(⟨(⟨#[116, 119, 111]⟩ : ByteArray), (2 : Int)⟩ : DPool)], [(⟨#[108, 105, 98]⟩ : ByteArray)]⟩ : DGraph))) = (900 : Int)) && ((m_graph_May (⟨[(⟨[(⟨#[108, 105, 98]⟩ : ByteArray)], [(⟨#[97, 46, 111]⟩ : ByteArray), (⟨#[98, 46, 111]⟩ : ByteArray)], [], [], (⟨#[97, 114]⟩ : ByteArray), false, (⟨#[]⟩ : ByteArray)⟩ : DEdge), (⟨[(⟨#[97, 46, 111]⟩ : ByteArray), (⟨#[97, 46, 100]⟩ : ByteArray)], [(⟨#[97, 46, 99]⟩ : ByteArray)], [(⟨#[97, 46, 104]⟩ : ByteArray)], [], (⟨#[99, 99, 32, 97]⟩ : ByteArray), true, (⟨#[116, 119, 111]⟩ : ByteArray)⟩ : DEdge), (⟨[(⟨#[108, 105, 98]⟩ : ByteArray)], [(⟨#[98, 46, 99]⟩ : ByteArray)], [], [(⟨#[97, 46, 111]⟩ : ByteArray)], (⟨#[99, 99, 32, 98]⟩ : ByteArray), false, (⟨#[116, 119, 111]⟩ : ByteArray)⟩ : DEdge)], [(⟨(⟨#[116, 119, 111]⟩ : ByteArray), (2 : Int)⟩ : DPool)], [(⟨#[108, 105, 98]⟩ : ByteArray)]⟩ : DGraph)) && (!(m_graph_May (⟨[(⟨[(⟨#[108, 105, 98]⟩ : ByteArray)], [(⟨#[97, 46, 111]⟩ : ByteArray), (⟨#[98, 46, 111]⟩ : ByteArray)], [], [], (⟨#[97, 114]⟩ : ByteArray), false, (⟨#[]⟩ : ByteArray)⟩ : DEdge), (⟨[(⟨#[97, 46, 111]⟩ : ByteArray), (⟨#[97, 46, 100]⟩ : ByteArray)], [(⟨#[97, 46, 99]⟩ : ByteArray)], [(⟨#[97, 46, 104]⟩ : ByteArray)], [], (⟨#[99, 99, 32, 97]⟩ : ByteArray), true, (⟨#[116, 119, 111]⟩ : ByteArray)⟩ : DEdge), (⟨[(⟨#[98, 46, 111]⟩ : ByteArray)], [(⟨#[98, 46, 99]⟩ : ByteArray)], [], [(⟨#[97, 46, 111]⟩ : ByteArray)], (⟨#[99, 99, 32, 98]⟩ : ByteArray), false, (⟨#[111, 110, 101]⟩ : ByteArray)⟩ : DEdge)], [(⟨(⟨#[116, 119, 111]⟩ : ByteArray), (2 : Int)⟩ : DPool)], [(⟨#[108, 105, 98]⟩ : ByteArray)]⟩ : DGraph))))))))))))

def m_law10_given : DGraph :=
  (⟨[(⟨[(⟨#[108, 105, 98]⟩ : ByteArray)], [(⟨#[97, 46, 111]⟩ : ByteArray), (⟨#[98, 46, 111]⟩ : ByteArray)], [], [], (⟨#[97, 114]⟩ : ByteArray), false, (⟨#[]⟩ : ByteArray)⟩ : DEdge), (⟨[(⟨#[97, 46, 111]⟩ : ByteArray), (⟨#[97, 46, 100]⟩ : ByteArray)], [(⟨#[97, 46, 99]⟩ : ByteArray)], [(⟨#[97, 46, 104]⟩ : ByteArray)], [], (⟨#[99, 99, 32, 97]⟩ : ByteArray), true, (⟨#[116, 119, 111]⟩ : ByteArray)⟩ : DEdge), (⟨[(⟨#[98, 46, 111]⟩ : ByteArray)], [(⟨#[98, 46, 99]⟩ : ByteArray)], [], [(⟨#[97, 46, 111]⟩ : ByteArray)], (⟨#[99, 99, 32, 98]⟩ : ByteArray), false, (⟨#[116, 119, 111]⟩ : ByteArray)⟩ : DEdge)], [(⟨(⟨#[116, 119, 111]⟩ : ByteArray), (2 : Int)⟩ : DPool)], [(⟨#[108, 105, 98]⟩ : ByteArray)]⟩ : DGraph)

def m_law10_awake : Bool :=
  ((m_law0_SameInts ((m_order_Of (⟨[(⟨[(⟨#[108, 105, 98]⟩ : ByteArray)], [(⟨#[97, 46, 111]⟩ : ByteArray), (⟨#[98, 46, 111]⟩ : ByteArray)], [], [], (⟨#[97, 114]⟩ : ByteArray), false, (⟨#[]⟩ : ByteArray)⟩ : DEdge), (⟨[(⟨#[97, 46, 111]⟩ : ByteArray), (⟨#[97, 46, 100]⟩ : ByteArray)], [(⟨#[97, 46, 99]⟩ : ByteArray)], [(⟨#[97, 46, 104]⟩ : ByteArray)], [], (⟨#[99, 99, 32, 97]⟩ : ByteArray), true, (⟨#[116, 119, 111]⟩ : ByteArray)⟩ : DEdge), (⟨[(⟨#[98, 46, 111]⟩ : ByteArray)], [(⟨#[98, 46, 99]⟩ : ByteArray)], [], [(⟨#[97, 46, 111]⟩ : ByteArray)], (⟨#[99, 99, 32, 98]⟩ : ByteArray), false, (⟨#[116, 119, 111]⟩ : ByteArray)⟩ : DEdge)], [(⟨(⟨#[116, 119, 111]⟩ : ByteArray), (2 : Int)⟩ : DPool)], [(⟨#[108, 105, 98]⟩ : ByteArray)]⟩ : DGraph)).1) [(1 : Int), (2 : Int), (0 : Int)]) && (decide ((m_law0_Num ((m_order_Of (⟨[(⟨[(⟨#[108, 105, 98]⟩ : ByteArray)], [(⟨#[97, 46, 111]⟩ : ByteArray), (⟨#[98, 46, 111]⟩ : ByteArray)], [], [], (⟨#[97, 114]⟩ : ByteArray), false, (⟨#[]⟩ : ByteArray)⟩ : DEdge), (⟨[(⟨#[97, 46, 111]⟩ : ByteArray), (⟨#[97, 46, 100]⟩ : ByteArray)], [(⟨#[97, 46, 99]⟩ : ByteArray)], [(⟨#[97, 46, 104]⟩ : ByteArray)], [], (⟨#[99, 99, 32, 97]⟩ : ByteArray), true, (⟨#[116, 119, 111]⟩ : ByteArray)⟩ : DEdge), (⟨[(⟨#[98, 46, 111]⟩ : ByteArray)], [(⟨#[98, 46, 99]⟩ : ByteArray)], [], [(⟨#[97, 46, 111]⟩ : ByteArray)], (⟨#[99, 99, 32, 98]⟩ : ByteArray), false, (⟨#[116, 119, 111]⟩ : ByteArray)⟩ : DEdge)], [(⟨(⟨#[116, 119, 111]⟩ : ByteArray), (2 : Int)⟩ : DPool)], [(⟨#[108, 105, 98]⟩ : ByteArray)]⟩ : DGraph)).2)) = (0 : Int)) && (decide ((m_law0_Num ((m_order_Of (⟨[(⟨[(⟨#[108, 105, 98]⟩ : ByteArray)], [(⟨#[97, 46, 111]⟩ : ByteArray), (⟨#[98, 46, 111]⟩ : ByteArray)], [], [], (⟨#[97, 114]⟩ : ByteArray), false, (⟨#[]⟩ : ByteArray)⟩ : DEdge), (⟨[(⟨#[97, 46, 111]⟩ : ByteArray), (⟨#[97, 46, 100]⟩ : ByteArray)], [(⟨#[97, 46, 99]⟩ : ByteArray)], [(⟨#[97, 46, 104]⟩ : ByteArray)], [(⟨#[108, 105, 98]⟩ : ByteArray)], (⟨#[99, 99, 32, 97]⟩ : ByteArray), true, (⟨#[116, 119, 111]⟩ : ByteArray)⟩ : DEdge), (⟨[(⟨#[98, 46, 111]⟩ : ByteArray)], [(⟨#[98, 46, 99]⟩ : ByteArray)], [], [(⟨#[97, 46, 111]⟩ : ByteArray)], (⟨#[99, 99, 32, 98]⟩ : ByteArray), false, (⟨#[116, 119, 111]⟩ : ByteArray)⟩ : DEdge)], [(⟨(⟨#[116, 119, 111]⟩ : ByteArray), (2 : Int)⟩ : DPool)], [(⟨#[108, 105, 98]⟩ : ByteArray)]⟩ : DGraph)).2)) = (1001 : Int)) && decide ((m_law0_Num ((m_order_Of (⟨[(⟨[(⟨#[108, 105, 98]⟩ : ByteArray)], [(⟨#[97, 46, 111]⟩ : ByteArray), (⟨#[98, 46, 111]⟩ : ByteArray)], [], [], (⟨#[97, 114]⟩ : ByteArray), false, (⟨#[]⟩ : ByteArray)⟩ : DEdge), (⟨[(⟨#[97, 46, 111]⟩ : ByteArray), (⟨#[97, 46, 100]⟩ : ByteArray)], [(⟨#[97, 46, 99]⟩ : ByteArray)], [(⟨#[97, 46, 104]⟩ : ByteArray)], [(⟨#[108, 105, 98]⟩ : ByteArray)], (⟨#[]⟩ : ByteArray), true, (⟨#[116, 119, 111]⟩ : ByteArray)⟩ : DEdge), (⟨[(⟨#[98, 46, 111]⟩ : ByteArray)], [(⟨#[98, 46, 99]⟩ : ByteArray)], [], [(⟨#[97, 46, 111]⟩ : ByteArray)], (⟨#[99, 99, 32, 98]⟩ : ByteArray), false, (⟨#[116, 119, 111]⟩ : ByteArray)⟩ : DEdge)], [(⟨(⟨#[116, 119, 111]⟩ : ByteArray), (2 : Int)⟩ : DPool)], [(⟨#[108, 105, 98]⟩ : ByteArray)]⟩ : DGraph)).2)) = (1000 : Int)))))

def m_law20_given : DGraph :=
  (⟨[(⟨[(⟨#[108, 105, 98]⟩ : ByteArray)], [(⟨#[97, 46, 111]⟩ : ByteArray), (⟨#[98, 46, 111]⟩ : ByteArray)], [], [], (⟨#[97, 114]⟩ : ByteArray), false, (⟨#[]⟩ : ByteArray)⟩ : DEdge), (⟨[(⟨#[97, 46, 111]⟩ : ByteArray), (⟨#[97, 46, 100]⟩ : ByteArray)], [(⟨#[97, 46, 99]⟩ : ByteArray)], [(⟨#[97, 46, 104]⟩ : ByteArray)], [], (⟨#[99, 99, 32, 97]⟩ : ByteArray), true, (⟨#[116, 119, 111]⟩ : ByteArray)⟩ : DEdge), (⟨[(⟨#[98, 46, 111]⟩ : ByteArray)], [(⟨#[98, 46, 99]⟩ : ByteArray)], [], [(⟨#[97, 46, 111]⟩ : ByteArray)], (⟨#[99, 99, 32, 98]⟩ : ByteArray), false, (⟨#[116, 119, 111]⟩ : ByteArray)⟩ : DEdge)], [(⟨(⟨#[116, 119, 111]⟩ : ByteArray), (2 : Int)⟩ : DPool)], [(⟨#[108, 105, 98]⟩ : ByteArray)]⟩ : DGraph)

def m_law20_awake : Bool :=
  ((m_law0_SameBools ((m_want_Of (⟨[(⟨[(⟨#[108, 105, 98]⟩ : ByteArray)], [(⟨#[97, 46, 111]⟩ : ByteArray), (⟨#[98, 46, 111]⟩ : ByteArray)], [], [], (⟨#[97, 114]⟩ : ByteArray), false, (⟨#[]⟩ : ByteArray)⟩ : DEdge), (⟨[(⟨#[97, 46, 111]⟩ : ByteArray), (⟨#[97, 46, 100]⟩ : ByteArray)], [(⟨#[97, 46, 99]⟩ : ByteArray)], [(⟨#[97, 46, 104]⟩ : ByteArray)], [], (⟨#[99, 99, 32, 97]⟩ : ByteArray), true, (⟨#[116, 119, 111]⟩ : ByteArray)⟩ : DEdge), (⟨[(⟨#[98, 46, 111]⟩ : ByteArray)], [(⟨#[98, 46, 99]⟩ : ByteArray)], [], [(⟨#[97, 46, 111]⟩ : ByteArray)], (⟨#[99, 99, 32, 98]⟩ : ByteArray), false, (⟨#[116, 119, 111]⟩ : ByteArray)⟩ : DEdge)], [(⟨(⟨#[116, 119, 111]⟩ : ByteArray), (2 : Int)⟩ : DPool)], [(⟨#[108, 105, 98]⟩ : ByteArray)]⟩ : DGraph) []).1) [true, true, true]) && (decide ((m_law0_Num ((m_want_Of (⟨[(⟨[(⟨#[108, 105, 98]⟩ : ByteArray)], [(⟨#[97, 46, 111]⟩ : ByteArray), (⟨#[98, 46, 111]⟩ : ByteArray)], [], [], (⟨#[97, 114]⟩ : ByteArray), false, (⟨#[]⟩ : ByteArray)⟩ : DEdge), (⟨[(⟨#[97, 46, 111]⟩ : ByteArray), (⟨#[97, 46, 100]⟩ : ByteArray)], [(⟨#[97, 46, 99]⟩ : ByteArray)], [(⟨#[97, 46, 104]⟩ : ByteArray)], [], (⟨#[99, 99, 32, 97]⟩ : ByteArray), true, (⟨#[116, 119, 111]⟩ : ByteArray)⟩ : DEdge), (⟨[(⟨#[98, 46, 111]⟩ : ByteArray)], [(⟨#[98, 46, 99]⟩ : ByteArray)], [], [(⟨#[97, 46, 111]⟩ : ByteArray)], (⟨#[99, 99, 32, 98]⟩ : ByteArray), false, (⟨#[116, 119, 111]⟩ : ByteArray)⟩ : DEdge)], [(⟨(⟨#[116, 119, 111]⟩ : ByteArray), (2 : Int)⟩ : DPool)], [(⟨#[108, 105, 98]⟩ : ByteArray)]⟩ : DGraph) []).2)) = (0 : Int)) && ((m_law0_SameBools ((m_want_Of (⟨[(⟨[(⟨#[108, 105, 98]⟩ : ByteArray)], [(⟨#[97, 46, 111]⟩ : ByteArray), (⟨#[98, 46, 111]⟩ : ByteArray)], [], [], (⟨#[97, 114]⟩ : ByteArray), false, (⟨#[]⟩ : ByteArray)⟩ : DEdge), (⟨[(⟨#[97, 46, 111]⟩ : ByteArray), (⟨#[97, 46, 100]⟩ : ByteArray)], [(⟨#[97, 46, 99]⟩ : ByteArray)], [(⟨#[97, 46, 104]⟩ : ByteArray)], [], (⟨#[99, 99, 32, 97]⟩ : ByteArray), true, (⟨#[116, 119, 111]⟩ : ByteArray)⟩ : DEdge), (⟨[(⟨#[98, 46, 111]⟩ : ByteArray)], [(⟨#[98, 46, 99]⟩ : ByteArray)], [], [(⟨#[97, 46, 111]⟩ : ByteArray)], (⟨#[99, 99, 32, 98]⟩ : ByteArray), false, (⟨#[116, 119, 111]⟩ : ByteArray)⟩ : DEdge)], [(⟨(⟨#[116, 119, 111]⟩ : ByteArray), (2 : Int)⟩ : DPool)], [(⟨#[108, 105, 98]⟩ : ByteArray)]⟩ : DGraph) [(⟨#[97, 46, 100]⟩ : ByteArray)]).1) [false, true, false]) && (decide ((m_law0_Num ((m_want_Of (⟨[(⟨[(⟨#[108, 105, 98]⟩ : ByteArray)], [(⟨#[97, 46, 111]⟩ : ByteArray), (⟨#[98, 46, 111]⟩ : ByteArray)], [], [], (⟨#[97, 114]⟩ : ByteArray), false, (⟨#[]⟩ : ByteArray)⟩ : DEdge), (⟨[(⟨#[97, 46, 111]⟩ : ByteArray), (⟨#[97, 46, 100]⟩ : ByteArray)], [(⟨#[97, 46, 99]⟩ : ByteArray)], [(⟨#[97, 46, 104]⟩ : ByteArray)], [], (⟨#[99, 99, 32, 97]⟩ : ByteArray), true, (⟨#[116, 119, 111]⟩ : ByteArray)⟩ : DEdge), (⟨[(⟨#[98, 46, 111]⟩ : ByteArray)], [(⟨#[98, 46, 99]⟩ : ByteArray)], [], [(⟨#[97, 46, 111]⟩ : ByteArray)], (⟨#[99, 99, 32, 98]⟩ : ByteArray), false, (⟨#[116, 119, 111]⟩ : ByteArray)⟩ : DEdge)], [(⟨(⟨#[116, 119, 111]⟩ : ByteArray), (2 : Int)⟩ : DPool)], [(⟨#[108, 105, 98]⟩ : ByteArray)]⟩ : DGraph) [(⟨#[97, 46, 100]⟩ : ByteArray)]).2)) = (0 : Int)) && (decide ((m_law0_Num ((m_want_Of (⟨[(⟨[(⟨#[108, 105, 98]⟩ : ByteArray)], [(⟨#[97, 46, 111]⟩ : ByteArray), (⟨#[98, 46, 111]⟩ : ByteArray)], [], [], (⟨#[97, 114]⟩ : ByteArray), false, (⟨#[]⟩ : ByteArray)⟩ : DEdge), (⟨[(⟨#[97, 46, 111]⟩ : ByteArray), (⟨#[97, 46, 100]⟩ : ByteArray)], [(⟨#[97, 46, 99]⟩ : ByteArray)], [(⟨#[97, 46, 104]⟩ : ByteArray)], [], (⟨#[99, 99, 32, 97]⟩ : ByteArray), true, (⟨#[116, 119, 111]⟩ : ByteArray)⟩ : DEdge), (⟨[(⟨#[98, 46, 111]⟩ : ByteArray)], [(⟨#[98, 46, 99]⟩ : ByteArray)], [], [(⟨#[97, 46, 111]⟩ : ByteArray)], (⟨#[99, 99, 32, 98]⟩ : ByteArray), false, (⟨#[116, 119, 111]⟩ : ByteArray)⟩ : DEdge)], [(⟨(⟨#[116, 119, 111]⟩ : ByteArray), (2 : Int)⟩ : DPool)], [(⟨#[108, 105, 98]⟩ : ByteArray)]⟩ : DGraph) [(⟨#[97, 46, 99]⟩ : ByteArray)]).2)) = (2001 : Int)) && decide ((m_law0_Num ((m_want_Of (⟨[(⟨[(⟨#[108, 105, 98]⟩ : ByteArray)], [(⟨#[97, 46, 111]⟩ : ByteArray), (⟨#[98, 46, 111]⟩ : ByteArray)], [], [], (⟨#[97, 114]⟩ : ByteArray), false, (⟨#[]⟩ : ByteArray)⟩ : DEdge), (⟨[(⟨#[97, 46, 111]⟩ : ByteArray), (⟨#[97, 46, 100]⟩ : ByteArray)], [(⟨#[97, 46, 99]⟩ : ByteArray)], [(⟨#[97, 46, 104]⟩ : ByteArray)], [], (⟨#[99, 99, 32, 97]⟩ : ByteArray), true, (⟨#[116, 119, 111]⟩ : ByteArray)⟩ : DEdge), (⟨[(⟨#[98, 46, 111]⟩ : ByteArray)], [(⟨#[98, 46, 99]⟩ : ByteArray)], [], [(⟨#[97, 46, 111]⟩ : ByteArray)], (⟨#[99, 99, 32, 98]⟩ : ByteArray), false, (⟨#[116, 119, 111]⟩ : ByteArray)⟩ : DEdge)], [(⟨(⟨#[116, 119, 111]⟩ : ByteArray), (2 : Int)⟩ : DPool)], [(⟨#[108, 105, 98]⟩ : ByteArray)]⟩ : DGraph) [(⟨#[47, 97]⟩ : ByteArray)]).2)) = (2000 : Int)))))))

def m_law9_GraphMany_L2 (y : Int) : Nat → Nat → (List DPool) → Lp (Bool) ((List DPool))
  | 0, i2, cell2 => Lp.brk cell2
  | kf + 1, i2, cell2 => (bif decide (((i2 : Nat) : Int) < (bitAV .and .i64 y (7 : Int))) then m_law9_GraphMany_L2 y kf (i2 + 1) (cell2 ++ [(⟨((⟨#[112]⟩ : ByteArray) ++ (bytesStr [(IntKind.wrap .u8 ((97 + i2 : Nat) : Int))])), (1 : Int)⟩ : DPool)]) else Lp.brk cell2)

def m_law9_GraphMany_L1 (x' : Int) : Nat → Nat → (List DEdge) → Lp (Bool) ((List DEdge))
  | 0, i, cell => Lp.brk cell
  | kf + 1, i, cell => (bif decide (((i : Nat) : Int) < (bitAV .and .i64 x' (31 : Int))) then m_law9_GraphMany_L1 x' kf (i + 1) (cell ++ [(⟨[(((⟨#[111]⟩ : ByteArray) ++ (bytesStr [(IntKind.wrap .u8 (IntKind.wrap .i64 ((97 : Int) + (bitAV .and .i64 ((i : Nat) : Int) (15 : Int)))))])) ++ (bytesStr [(IntKind.wrap .u8 (IntKind.wrap .i64 ((97 : Int) + (Int.fdiv ((i : Nat) : Int) (2 ^ (min 4 IntKind.i64.bits))))))]))], [], [], [], (⟨#[120]⟩ : ByteArray), false, (⟨#[]⟩ : ByteArray)⟩ : DEdge)]) else Lp.brk cell)

def m_law9_GraphMany (x' : Int) (y : Int) : Bool :=
  (!(!m_law9_awake) && (match m_law9_GraphMany_L1 x' ((bitAV .and .i64 x' (31 : Int)).toNat - 0 + 1) 0 [] with
  | Lp.ret r => r
  | Lp.brk cell' => (match m_law9_GraphMany_L2 y ((bitAV .and .i64 y (7 : Int)).toNat - 0 + 1) 0 [] with
  | Lp.ret r => r
  | Lp.brk cell3' => (((m_graph_May (⟨cell', [], []⟩ : DGraph)) == decide ((bitAV .and .i64 x' (31 : Int)) ≤ (16 : Int))) && (((m_graph_May (⟨[], cell3', []⟩ : DGraph)) == decide ((bitAV .and .i64 y (7 : Int)) ≤ (4 : Int))) && ((m_graph_May (⟨[(⟨[(⟨#[108, 105, 98]⟩ : ByteArray)], [(⟨#[97, 46, 111]⟩ : ByteArray), (⟨#[98, 46, 111]⟩ : ByteArray)], [], [], (⟨#[97, 114]⟩ : ByteArray), false, (⟨#[]⟩ : ByteArray)⟩ : DEdge), (⟨[(⟨#[97, 46, 111]⟩ : ByteArray), (⟨#[97, 46, 100]⟩ : ByteArray)], [(⟨#[97, 46, 99]⟩ : ByteArray)], [(⟨#[97, 46, 104]⟩ : ByteArray)], [], (⟨#[99, 99, 32, 97]⟩ : ByteArray), true, (⟨#[116, 119, 111]⟩ : ByteArray)⟩ : DEdge), (⟨[(⟨#[98, 46, 111]⟩ : ByteArray), (⟨#[98, 46, 111]⟩ : ByteArray)], [(⟨#[98, 46, 99]⟩ : ByteArray)], [], [(⟨#[97, 46, 111]⟩ : ByteArray)], (⟨#[99, 99, 32, 98]⟩ : ByteArray), false, (⟨#[116, 119, 111]⟩ : ByteArray)⟩ : DEdge)], [(⟨(⟨#[116, 119, 111]⟩ : ByteArray), (2 : Int)⟩ : DPool)], [(⟨#[108, 105, 98]⟩ : ByteArray)]⟩ : DGraph)) && (decide ((m_law0_Num (m_graph_Check (⟨[(⟨[(⟨#[108, 105, 98]⟩ : ByteArray)], [(⟨#[97, 46, 111]⟩ : ByteArray), (⟨#[98, 46, 111]⟩ : ByteArray)], [], [], (⟨#[97, 114]⟩ : ByteArray), false, (⟨#[]⟩ : ByteArray)⟩ : DEdge), (⟨[(⟨#[97, 46, 111]⟩ : ByteArray), (⟨#[97, 46, 100]⟩ : ByteArray)], [(⟨#[97, 46, 99]⟩ : ByteArray)], [(⟨#[97, 46, 104]⟩ : ByteArray)], [], (⟨#[99, 99, 32, 97]⟩ : ByteArray), true, (⟨#[116, 119, 111]⟩ : ByteArray)⟩ : DEdge), (⟨[(⟨#[98, 46, 111]⟩ : ByteArray), (⟨#[98, 46, 111]⟩ : ByteArray)], [(⟨#[98, 46, 99]⟩ : ByteArray)], [], [(⟨#[97, 46, 111]⟩ : ByteArray)], (⟨#[99, 99, 32, 98]⟩ : ByteArray), false, (⟨#[116, 119, 111]⟩ : ByteArray)⟩ : DEdge)], [(⟨(⟨#[116, 119, 111]⟩ : ByteArray), (2 : Int)⟩ : DPool)], [(⟨#[108, 105, 98]⟩ : ByteArray)]⟩ : DGraph))) = (901 : Int)) && ((!(m_graph_Maker (⟨[(⟨[(⟨#[108, 105, 98]⟩ : ByteArray)], [(⟨#[97, 46, 111]⟩ : ByteArray), (⟨#[98, 46, 111]⟩ : ByteArray)], [], [], (⟨#[97, 114]⟩ : ByteArray), false, (⟨#[]⟩ : ByteArray)⟩ : DEdge), (⟨[(⟨#[97, 46, 111]⟩ : ByteArray), (⟨#[97, 46, 100]⟩ : ByteArray)], [(⟨#[97, 46, 99]⟩ : ByteArray)], [(⟨#[97, 46, 104]⟩ : ByteArray)], [], (⟨#[99, 99, 32, 97]⟩ : ByteArray), true, (⟨#[116, 119, 111]⟩ : ByteArray)⟩ : DEdge), (⟨[(⟨#[98, 46, 111]⟩ : ByteArray), (⟨#[98, 46, 111]⟩ : ByteArray)], [(⟨#[98, 46, 99]⟩ : ByteArray)], [], [(⟨#[97, 46, 111]⟩ : ByteArray)], (⟨#[99, 99, 32, 98]⟩ : ByteArray), false, (⟨#[116, 119, 111]⟩ : ByteArray)⟩ : DEdge)], [(⟨(⟨#[116, 119, 111]⟩ : ByteArray), (2 : Int)⟩ : DPool)], [(⟨#[108, 105, 98]⟩ : ByteArray)]⟩ : DGraph) (⟨#[98, 46, 111]⟩ : ByteArray)).2.1) && decide ((m_law0_Num ((m_graph_Maker (⟨[(⟨[(⟨#[108, 105, 98]⟩ : ByteArray)], [(⟨#[97, 46, 111]⟩ : ByteArray), (⟨#[98, 46, 111]⟩ : ByteArray)], [], [], (⟨#[97, 114]⟩ : ByteArray), false, (⟨#[]⟩ : ByteArray)⟩ : DEdge), (⟨[(⟨#[97, 46, 111]⟩ : ByteArray), (⟨#[97, 46, 100]⟩ : ByteArray)], [(⟨#[97, 46, 99]⟩ : ByteArray)], [(⟨#[97, 46, 104]⟩ : ByteArray)], [], (⟨#[99, 99, 32, 97]⟩ : ByteArray), true, (⟨#[116, 119, 111]⟩ : ByteArray)⟩ : DEdge), (⟨[(⟨#[98, 46, 111]⟩ : ByteArray), (⟨#[98, 46, 111]⟩ : ByteArray)], [(⟨#[98, 46, 99]⟩ : ByteArray)], [], [(⟨#[97, 46, 111]⟩ : ByteArray)], (⟨#[99, 99, 32, 98]⟩ : ByteArray), false, (⟨#[116, 119, 111]⟩ : ByteArray)⟩ : DEdge)], [(⟨(⟨#[116, 119, 111]⟩ : ByteArray), (2 : Int)⟩ : DPool)], [(⟨#[108, 105, 98]⟩ : ByteArray)]⟩ : DGraph) (⟨#[98, 46, 111]⟩ : ByteArray)).2.2)) = (901 : Int))))))))))

def m_law10_OrderNeeds_L2 (x1 : Int) (row : List Bool) (g : DGraph) : Nat → Nat → Lp (Bool) (Unit)
  | 0, k => Lp.brk ()
  | kf + 1, k => (bif decide (((k : Nat) : Int) < x1) then (bif (!(row.getD k default)) then (bif (m_law10_free g row ((k : Nat) : Int)) then Lp.ret false else m_law10_OrderNeeds_L2 x1 row g kf (k + 1)) else m_law10_OrderNeeds_L2 x1 row g kf (k + 1)) else Lp.brk ())

def m_law10_OrderNeeds_L1 (g : DGraph) : List Int → Nat → (List Bool) → Lp (Bool) ((List Bool))
  | [], i, row => Lp.brk row
  | x1 :: rest, i, row => (bif decide (x1 < (0 : Int)) then Lp.ret false else (bif decide (((g.edges.length : Nat) : Int) ≤ x1) then Lp.ret false else (bif (row.getD x1.toNat default) then Lp.ret false else (bif (!(m_law10_free g row x1)) then Lp.ret false else (match m_law10_OrderNeeds_L2 x1 row g (x1.toNat - 0 + 1) 0 with
  | Lp.ret r => Lp.ret r
  | Lp.brk () => m_law10_OrderNeeds_L1 g rest (i + 1) (row.set x1.toNat true))))))

def m_law10_OrderNeeds (g : DGraph) : Bool :=
  (!(!m_law10_awake) && (bif (!decide ((m_law0_Num ((m_order_Of g).2)) = (0 : Int))) then decide (((((m_order_Of g).1).length : Nat) : Int) = (0 : Int)) else (!(!decide (((((m_order_Of g).1).length : Nat) : Int) = ((g.edges.length : Nat) : Int))) && (match m_law10_OrderNeeds_L1 g ((m_order_Of g).1) 0 (List.replicate g.edges.length false) with
  | Lp.ret r => r
  | Lp.brk row' => true))))

def m_law10_OrderLess_L2 (which : Int) (g : DGraph) : List Int → Nat → Lp (Bool) (Unit)
  | [], m' => Lp.brk ()
  | x2 :: rest, m' => (bif decide (x2 = (((uMod which (((m_order_Of g).1).length)) : Nat) : Int)) then Lp.ret true else m_law10_OrderLess_L2 which g rest (m' + 1))

def m_law10_OrderLess_L3 (which : Int) (g : DGraph) : List Int → Nat → (List Int) → Lp (Bool) ((List Int))
  | [], i2, want => Lp.brk want
  | x3 :: rest, i2, want => (bif decide ((((uMod which (((m_order_Of g).1).length)) : Nat) : Int) < x3) then m_law10_OrderLess_L3 which g rest (i2 + 1) ((bif decide (x3 < (((uMod which (((m_order_Of g).1).length)) : Nat) : Int)) then (want ++ [x3]) else want) ++ [(x3 - (1 : Int))]) else m_law10_OrderLess_L3 which g rest (i2 + 1) (bif decide (x3 < (((uMod which (((m_order_Of g).1).length)) : Nat) : Int)) then (want ++ [x3]) else want))

def m_law10_OrderLess_L1 (which : Int) (g : DGraph) : List DEdge → Nat → Lp (Bool) (Unit)
  | [], i => Lp.brk ()
  | x1 :: rest, i => (match m_law10_OrderLess_L2 which g (m_ref1_Needs g ((i : Nat) : Int)) 0 with
  | Lp.ret r => Lp.ret r
  | Lp.brk () => m_law10_OrderLess_L1 which g rest (i + 1))

def m_law10_OrderLess (g : DGraph) (which : Int) : Bool :=
  (!(!m_law10_awake) && (bif ((!decide ((m_law0_Num ((m_order_Of g).2)) = (0 : Int))) || ((!decide (((((m_order_Of g).1).length : Nat) : Int) = ((g.edges.length : Nat) : Int))) || decide (((((m_order_Of g).1).length : Nat) : Int) = (0 : Int)))) then ((!decide ((m_law0_Num ((m_order_Of g).2)) = (0 : Int))) || decide (((g.edges.length : Nat) : Int) = (0 : Int))) else (match m_law10_OrderLess_L1 which g g.edges 0 with
  | Lp.ret r => r
  | Lp.brk () => (match m_law10_OrderLess_L3 which g ((m_order_Of g).1) 0 [] with
  | Lp.ret r => r
  | Lp.brk want2' => (decide ((m_law0_Num ((m_order_Of (⟨(((g.edges.take (uMod which (((m_order_Of g).1).length))).drop 0) ++ ((g.edges.take g.edges.length).drop ((uMod which (((m_order_Of g).1).length)) + 1))), g.pools, g.defaults⟩ : DGraph)).2)) = (0 : Int)) && (m_law0_SameInts ((m_order_Of (⟨(((g.edges.take (uMod which (((m_order_Of g).1).length))).drop 0) ++ ((g.edges.take g.edges.length).drop ((uMod which (((m_order_Of g).1).length)) + 1))), g.pools, g.defaults⟩ : DGraph)).1) want2'))))))

def m_law20_WantForms (which : Int) : Bool :=
  (!(!m_law20_awake) && (decide ((m_law0_Num ((m_want_Of (⟨[(⟨[(⟨#[108, 105, 98]⟩ : ByteArray)], [(⟨#[97, 46, 111]⟩ : ByteArray), (⟨#[98, 46, 111]⟩ : ByteArray)], [], [], (⟨#[97, 114]⟩ : ByteArray), false, (⟨#[]⟩ : ByteArray)⟩ : DEdge), (⟨[(⟨#[97, 46, 111]⟩ : ByteArray), (⟨#[97, 46, 100]⟩ : ByteArray)], [(⟨#[97, 46, 99]⟩ : ByteArray)], [(⟨#[97, 46, 104]⟩ : ByteArray)], [(⟨#[108, 105, 98]⟩ : ByteArray)], (⟨#[99, 99, 32, 97]⟩ : ByteArray), true, (⟨#[116, 119, 111]⟩ : ByteArray)⟩ : DEdge), (⟨[(⟨#[98, 46, 111]⟩ : ByteArray)], [(⟨#[98, 46, 99]⟩ : ByteArray)], [], [(⟨#[97, 46, 111]⟩ : ByteArray)], (⟨#[99, 99, 32, 98]⟩ : ByteArray), false, (⟨#[116, 119, 111]⟩ : ByteArray)⟩ : DEdge)], [(⟨(⟨#[116, 119, 111]⟩ : ByteArray), (2 : Int)⟩ : DPool)], [(⟨#[108, 105, 98]⟩ : ByteArray)]⟩ : DGraph) []).2)) = (2000 : Int)) && (decide ((m_law0_Num ((m_want_Of (⟨[(⟨[(⟨#[108, 105, 98]⟩ : ByteArray)], [(⟨#[97, 46, 111]⟩ : ByteArray), (⟨#[98, 46, 111]⟩ : ByteArray)], [], [], (⟨#[97, 114]⟩ : ByteArray), false, (⟨#[]⟩ : ByteArray)⟩ : DEdge), (⟨[(⟨#[97, 46, 111]⟩ : ByteArray), (⟨#[97, 46, 100]⟩ : ByteArray)], [(⟨#[97, 46, 99]⟩ : ByteArray)], [(⟨#[97, 46, 104]⟩ : ByteArray)], [], (⟨#[99, 99, 32, 97]⟩ : ByteArray), true, (⟨#[116, 119, 111]⟩ : ByteArray)⟩ : DEdge), (⟨[(⟨#[108, 105, 98]⟩ : ByteArray)], [(⟨#[98, 46, 99]⟩ : ByteArray)], [], [(⟨#[97, 46, 111]⟩ : ByteArray)], (⟨#[99, 99, 32, 98]⟩ : ByteArray), false, (⟨#[116, 119, 111]⟩ : ByteArray)⟩ : DEdge)], [(⟨(⟨#[116, 119, 111]⟩ : ByteArray), (2 : Int)⟩ : DPool)], [(⟨#[108, 105, 98]⟩ : ByteArray)]⟩ : DGraph) []).2)) = (2000 : Int)) && (decide ((m_law0_Num ((m_want_Of (⟨[(⟨[(⟨#[108, 105, 98]⟩ : ByteArray)], [(⟨#[97, 46, 111]⟩ : ByteArray), (⟨#[98, 46, 111]⟩ : ByteArray)], [], [], (⟨#[97, 114]⟩ : ByteArray), false, (⟨#[]⟩ : ByteArray)⟩ : DEdge), (⟨[(⟨#[97, 46, 111]⟩ : ByteArray), (⟨#[97, 46, 100]⟩ : ByteArray)], [(⟨#[97, 46, 99]⟩ : ByteArray)], [(⟨#[97, 46, 104]⟩ : ByteArray)], [], (⟨#[99, 99, 32, 97]⟩ : ByteArray), true, (⟨#[116, 119, 111]⟩ : ByteArray)⟩ : DEdge), (⟨[(⟨#[98, 46, 111]⟩ : ByteArray)], [(⟨#[98, 46, 99]⟩ : ByteArray)], [], [(⟨#[97, 46, 111]⟩ : ByteArray)], (⟨#[99, 99, 32, 98]⟩ : ByteArray), false, (⟨#[116, 119, 111]⟩ : ByteArray)⟩ : DEdge)], [(⟨(⟨#[116, 119, 111]⟩ : ByteArray), (2 : Int)⟩ : DPool)], [(⟨#[108, 105, 98]⟩ : ByteArray)]⟩ : DGraph) [(⟨#[108, 105, 98]⟩ : ByteArray), ([(⟨#[]⟩ : ByteArray), (⟨#[46, 47, 108, 105, 98]⟩ : ByteArray), (⟨#[65]⟩ : ByteArray), (⟨#[47, 108, 105, 98]⟩ : ByteArray)].getD (bitAV .and .i64 which (3 : Int)).toNat default)]).2)) = (2000 : Int)) && (decide ((m_law0_Num ((m_want_Of (⟨[(⟨[(⟨#[108, 105, 98]⟩ : ByteArray)], [(⟨#[97, 46, 111]⟩ : ByteArray), (⟨#[98, 46, 111]⟩ : ByteArray)], [], [], (⟨#[97, 114]⟩ : ByteArray), false, (⟨#[]⟩ : ByteArray)⟩ : DEdge), (⟨[(⟨#[97, 46, 111]⟩ : ByteArray), (⟨#[97, 46, 100]⟩ : ByteArray)], [(⟨#[97, 46, 99]⟩ : ByteArray)], [(⟨#[97, 46, 104]⟩ : ByteArray)], [], (⟨#[99, 99, 32, 97]⟩ : ByteArray), true, (⟨#[116, 119, 111]⟩ : ByteArray)⟩ : DEdge), (⟨[(⟨#[98, 46, 111]⟩ : ByteArray)], [(⟨#[98, 46, 99]⟩ : ByteArray)], [], [(⟨#[97, 46, 111]⟩ : ByteArray)], (⟨#[99, 99, 32, 98]⟩ : ByteArray), false, (⟨#[116, 119, 111]⟩ : ByteArray)⟩ : DEdge)], [(⟨(⟨#[116, 119, 111]⟩ : ByteArray), (2 : Int)⟩ : DPool)], [(⟨#[108, 105, 98]⟩ : ByteArray)]⟩ : DGraph) [(⟨#[108, 105, 98]⟩ : ByteArray), (⟨#[108, 105, 98]⟩ : ByteArray), (⟨#[108, 105, 98]⟩ : ByteArray), (⟨#[108, 105, 98]⟩ : ByteArray), (⟨#[108, 105, 98]⟩ : ByteArray), (⟨#[108, 105, 98]⟩ : ByteArray), (⟨#[108, 105, 98]⟩ : ByteArray), (⟨#[108, 105, 98]⟩ : ByteArray), (⟨#[108, 105, 98]⟩ : ByteArray)]).2)) = (2000 : Int)) && (decide ((m_law0_Num ((m_want_Of (⟨[(⟨[(⟨#[108, 105, 98]⟩ : ByteArray)], [(⟨#[97, 46, 111]⟩ : ByteArray), (⟨#[98, 46, 111]⟩ : ByteArray)], [], [], (⟨#[97, 114]⟩ : ByteArray), false, (⟨#[]⟩ : ByteArray)⟩ : DEdge), (⟨[(⟨#[97, 46, 111]⟩ : ByteArray), (⟨#[97, 46, 100]⟩ : ByteArray)], [(⟨#[97, 46, 99]⟩ : ByteArray)], [(⟨#[97, 46, 104]⟩ : ByteArray)], [], (⟨#[99, 99, 32, 97]⟩ : ByteArray), true, (⟨#[116, 119, 111]⟩ : ByteArray)⟩ : DEdge), (⟨[(⟨#[98, 46, 111]⟩ : ByteArray)], [(⟨#[98, 46, 99]⟩ : ByteArray)], [], [(⟨#[97, 46, 111]⟩ : ByteArray)], (⟨#[99, 99, 32, 98]⟩ : ByteArray), false, (⟨#[116, 119, 111]⟩ : ByteArray)⟩ : DEdge)], [(⟨(⟨#[116, 119, 111]⟩ : ByteArray), (2 : Int)⟩ : DPool)], [(⟨#[108, 105, 98]⟩ : ByteArray)]⟩ : DGraph) [(⟨#[108, 105, 98]⟩ : ByteArray), (⟨#[110, 111, 110, 101]⟩ : ByteArray)]).2)) = (2001 : Int)) && (decide ((m_law0_Num ((m_want_Of (⟨[(⟨[(⟨#[108, 105, 98]⟩ : ByteArray)], [(⟨#[97, 46, 111]⟩ : ByteArray), (⟨#[98, 46, 111]⟩ : ByteArray)], [], [], (⟨#[97, 114]⟩ : ByteArray), false, (⟨#[]⟩ : ByteArray)⟩ : DEdge), (⟨[(⟨#[97, 46, 111]⟩ : ByteArray), (⟨#[97, 46, 100]⟩ : ByteArray)], [(⟨#[97, 46, 99]⟩ : ByteArray)], [(⟨#[97, 46, 104]⟩ : ByteArray)], [], (⟨#[99, 99, 32, 97]⟩ : ByteArray), true, (⟨#[116, 119, 111]⟩ : ByteArray)⟩ : DEdge), (⟨[(⟨#[98, 46, 111]⟩ : ByteArray)], [(⟨#[98, 46, 99]⟩ : ByteArray)], [], [(⟨#[97, 46, 111]⟩ : ByteArray)], (⟨#[99, 99, 32, 98]⟩ : ByteArray), false, (⟨#[116, 119, 111]⟩ : ByteArray)⟩ : DEdge)], [(⟨(⟨#[116, 119, 111]⟩ : ByteArray), (2 : Int)⟩ : DPool)], [(⟨#[97, 46, 99]⟩ : ByteArray)]⟩ : DGraph) []).2)) = (2001 : Int)) && ((m_law0_SameBools ((m_want_Of (⟨[(⟨[(⟨#[108, 105, 98]⟩ : ByteArray)], [(⟨#[97, 46, 111]⟩ : ByteArray), (⟨#[98, 46, 111]⟩ : ByteArray)], [], [], (⟨#[97, 114]⟩ : ByteArray), false, (⟨#[]⟩ : ByteArray)⟩ : DEdge), (⟨[(⟨#[97, 46, 111]⟩ : ByteArray), (⟨#[97, 46, 100]⟩ : ByteArray)], [(⟨#[97, 46, 99]⟩ : ByteArray)], [(⟨#[97, 46, 104]⟩ : ByteArray)], [], (⟨#[99, 99, 32, 97]⟩ : ByteArray), true, (⟨#[116, 119, 111]⟩ : ByteArray)⟩ : DEdge), (⟨[(⟨#[98, 46, 111]⟩ : ByteArray)], [(⟨#[98, 46, 99]⟩ : ByteArray)], [], [(⟨#[97, 46, 111]⟩ : ByteArray)], (⟨#[99, 99, 32, 98]⟩ : ByteArray), false, (⟨#[116, 119, 111]⟩ : ByteArray)⟩ : DEdge)], [(⟨(⟨#[116, 119, 111]⟩ : ByteArray), (2 : Int)⟩ : DPool)], [(⟨#[97, 46, 99]⟩ : ByteArray)]⟩ : DGraph) [(⟨#[98, 46, 111]⟩ : ByteArray)]).1) [false, true, true]) && decide ((m_law0_Num ((m_want_Of (⟨[(⟨[(⟨#[108, 105, 98]⟩ : ByteArray)], [(⟨#[97, 46, 111]⟩ : ByteArray), (⟨#[98, 46, 111]⟩ : ByteArray)], [], [], (⟨#[97, 114]⟩ : ByteArray), false, (⟨#[]⟩ : ByteArray)⟩ : DEdge), (⟨[(⟨#[97, 46, 111]⟩ : ByteArray), (⟨#[97, 46, 100]⟩ : ByteArray)], [(⟨#[97, 46, 99]⟩ : ByteArray)], [(⟨#[97, 46, 104]⟩ : ByteArray)], [], (⟨#[99, 99, 32, 97]⟩ : ByteArray), true, (⟨#[116, 119, 111]⟩ : ByteArray)⟩ : DEdge), (⟨[(⟨#[98, 46, 111]⟩ : ByteArray)], [(⟨#[98, 46, 99]⟩ : ByteArray)], [], [(⟨#[97, 46, 111]⟩ : ByteArray)], (⟨#[99, 99, 32, 98]⟩ : ByteArray), false, (⟨#[116, 119, 111]⟩ : ByteArray)⟩ : DEdge)], [(⟨(⟨#[116, 119, 111]⟩ : ByteArray), (2 : Int)⟩ : DPool)], [(⟨#[97, 46, 99]⟩ : ByteArray)]⟩ : DGraph) [(⟨#[98, 46, 111]⟩ : ByteArray)]).2)) = (0 : Int))))))))))

def m_law20_WantNeeds_L4 (g : DGraph) (k2 : Nat) (x3 : Bool) (i : Nat) : Nat → Bool → Nat → Lp (Bool) (Bool)
  | 0, why3, m' => Lp.brk why3
  | kf + 1, why3, m' => (bif decide (((m' : Nat) : Int) < (((m_ref1_Needs g ((k2 : Nat) : Int)).length : Nat) : Int)) then (bif x3 then (bif why3 then m_law20_WantNeeds_L4 g k2 x3 i kf true (m' + 1) else m_law20_WantNeeds_L4 g k2 x3 i kf (decide (((m_ref1_Needs g ((k2 : Nat) : Int)).getD m' default) = ((i : Nat) : Int))) (m' + 1)) else Lp.brk why3) else Lp.brk why3)

def m_law20_WantNeeds_L3 (g : DGraph) (i : Nat) : List Bool → Nat → Bool → Lp (Bool) (Bool)
  | [], k2, why2 => Lp.brk why2
  | x3 :: rest, k2, why2 => (match m_law20_WantNeeds_L4 g k2 x3 i ((m_ref1_Needs g ((k2 : Nat) : Int)).length - 0 + 1) why2 0 with
  | Lp.ret r => Lp.ret r
  | Lp.brk why3' => m_law20_WantNeeds_L3 g i rest (k2 + 1) why3')

def m_law20_WantNeeds_L2 (g : DGraph) (i : Nat) : List ByteArray → Nat → Bool → Lp (Bool) (Bool)
  | [], k, why => Lp.brk why
  | x2 :: rest, k, why => (bif why then m_law20_WantNeeds_L2 g i rest (k + 1) true else m_law20_WantNeeds_L2 g i rest (k + 1) (decide ((m_ref1_MakerOf g x2) = ((i : Nat) : Int))))

def m_law20_WantNeeds_L1 (g : DGraph) (names : List ByteArray) : List Bool → Nat → Lp (Bool) (Unit)
  | [], i => Lp.brk ()
  | x1 :: rest, i => (match m_law20_WantNeeds_L2 g i (bif decide (((names.length : Nat) : Int) = (0 : Int)) then g.defaults else names) 0 (decide ((((bif decide (((names.length : Nat) : Int) = (0 : Int)) then g.defaults else names).length : Nat) : Int) = (0 : Int))) with
  | Lp.ret r => Lp.ret r
  | Lp.brk why' => (match m_law20_WantNeeds_L3 g i ((m_want_Of g names).1) 0 why' with
  | Lp.ret r => Lp.ret r
  | Lp.brk why4' => (bif (!(x1 == why4')) then Lp.ret false else m_law20_WantNeeds_L1 g names rest (i + 1))))

def m_law20_WantNeeds (g : DGraph) (names : List ByteArray) : Bool :=
  (!(!m_law20_awake) && (bif ((!decide ((m_law0_Num ((m_want_Of g names).2)) = (0 : Int))) || (!decide (((((m_want_Of g names).1).length : Nat) : Int) = ((g.edges.length : Nat) : Int)))) then ((!decide ((m_law0_Num ((m_want_Of g names).2)) = (0 : Int))) && decide (((((m_want_Of g names).1).length : Nat) : Int) = (0 : Int))) else (match m_law20_WantNeeds_L1 g names ((m_want_Of g names).1) 0 with
  | Lp.ret r => r
  | Lp.brk () => true)))

def m_law20_WantMore_L1 (g : DGraph) (x' : ByteArray) (y : ByteArray) : List Bool → Nat → Lp (Bool) (Unit)
  | [], i => Lp.brk ()
  | x1 :: rest, i => (bif (((m_want_Of g [x']).1).getD i default) then (bif (!(x1 == true)) then Lp.ret false else m_law20_WantMore_L1 g x' y rest (i + 1)) else (bif (!(x1 == (((m_want_Of g [y]).1).getD i default))) then Lp.ret false else m_law20_WantMore_L1 g x' y rest (i + 1)))

def m_law20_WantMore (g : DGraph) (x' : ByteArray) (y : ByteArray) : Bool :=
  (!(!m_law20_awake) && (bif ((!decide ((m_law0_Num ((m_want_Of g [x']).2)) = (0 : Int))) || ((!decide ((m_law0_Num ((m_want_Of g [y]).2)) = (0 : Int))) || (!decide ((m_law0_Num ((m_want_Of g [x', y]).2)) = (0 : Int))))) then ((!decide ((m_law0_Num ((m_want_Of g [x', y]).2)) = (0 : Int))) && ((!decide ((m_law0_Num ((m_want_Of g [x']).2)) = (0 : Int))) || (!decide ((m_law0_Num ((m_want_Of g [y]).2)) = (0 : Int))))) else (!(!decide (((((m_want_Of g [x']).1).length : Nat) : Int) = ((((m_want_Of g [x', y]).1).length : Nat) : Int))) && (!(!decide (((((m_want_Of g [y]).1).length : Nat) : Int) = ((((m_want_Of g [x', y]).1).length : Nat) : Int))) && (match m_law20_WantMore_L1 g x' y ((m_want_Of g [x', y]).1) 0 with
  | Lp.ret r => r
  | Lp.brk () => true)))))

def m_law20_WantAll_L2 : List DEdge → Nat → (List ByteArray) → Lp (Bool) ((List ByteArray))
  | [], i2, names => Lp.brk names
  | x2 :: rest, i2, names => (bif decide (((x2.outs.length : Nat) : Int) = (0 : Int)) then Lp.ret false else m_law20_WantAll_L2 rest (i2 + 1) (names ++ [(x2.outs.getD 0 default)]))

def m_law20_WantAll_L1 : List Bool → Nat → Lp (Bool) (Unit)
  | [], i => Lp.brk ()
  | x1 :: rest, i => (bif (!x1) then Lp.ret false else m_law20_WantAll_L1 rest (i + 1))

def m_law20_WantAll (g : DGraph) : Bool :=
  (!(!m_law20_awake) && (bif (!decide ((m_law0_Num ((m_want_Of (⟨g.edges, g.pools, []⟩ : DGraph) []).2)) = (0 : Int))) then decide (((((m_want_Of (⟨g.edges, g.pools, []⟩ : DGraph) []).1).length : Nat) : Int) = (0 : Int)) else (match m_law20_WantAll_L1 ((m_want_Of (⟨g.edges, g.pools, []⟩ : DGraph) []).1) 0 with
  | Lp.ret r => r
  | Lp.brk () => (bif decide ((8 : Int) < ((g.edges.length : Nat) : Int)) then decide (((((m_want_Of (⟨g.edges, g.pools, []⟩ : DGraph) []).1).length : Nat) : Int) = ((g.edges.length : Nat) : Int)) else (bif decide (((g.edges.length : Nat) : Int) = (0 : Int)) then decide (((((m_want_Of (⟨g.edges, g.pools, []⟩ : DGraph) []).1).length : Nat) : Int) = ((g.edges.length : Nat) : Int)) else (match m_law20_WantAll_L2 g.edges 0 [] with
  | Lp.ret r => r
  | Lp.brk names2' => (decide ((m_law0_Num ((m_want_Of (⟨g.edges, g.pools, []⟩ : DGraph) names2').2)) = (0 : Int)) && (m_law0_SameBools ((m_want_Of (⟨g.edges, g.pools, []⟩ : DGraph) []).1) ((m_want_Of (⟨g.edges, g.pools, []⟩ : DGraph) names2').1)))))))))
end
end Go.Lift
namespace Go.Lift
noncomputable section
open Go Go.RowKit
set_option linter.unusedSimpArgs false
set_option linter.unusedVariables false
set_option linter.unusedSectionVars false
set_option maxRecDepth 20000
theorem szL_len {α : Type} {sz : α → Nat} (h : ∀ x, 1 ≤ sz x) (xs : List α) : xs.length + 1 ≤ szL sz xs := by
  unfold szL
  induction xs with
  | nil => simp
  | cons x xs ih => have := h x; simp only [List.map_cons, List.sum_cons, List.length_cons]; omega
theorem szL_mem {α : Type} {sz : α → Nat} {x : α} : ∀ {xs : List α}, x ∈ xs → sz x + 1 ≤ szL sz xs
  | [], h => by simp at h
  | y :: ys, h => by
    unfold szL
    simp only [List.map_cons, List.sum_cons]
    rcases List.mem_cons.1 h with rfl | h
    · omega
    · have := szL_mem (sz := sz) h; unfold szL at this; omega
theorem szL_getD {α : Type} [Inhabited α] {sz : α → Nat} {xs : List α} {i : Nat} (h : i < xs.length) : sz (xs.getD i default) + 1 ≤ szL sz xs :=
  szL_mem (List.mem_of_getElem? (getD_some h))
theorem szL_app {α : Type} {sz : α → Nat} (xs ys : List α) : szL sz (xs ++ ys) + 1 = szL sz xs + szL sz ys := by
  unfold szL; simp only [List.map_append, List.sum_append]; omega
theorem szL_take {α : Type} {sz : α → Nat} (xs : List α) (n : Nat) : szL sz (xs.take n) ≤ szL sz xs := by
  have := szL_app (sz := sz) (xs.take n) (xs.drop n)
  rw [List.take_append_drop] at this
  unfold szL at *; omega
theorem szL_drop {α : Type} {sz : α → Nat} (xs : List α) (n : Nat) : szL sz (xs.drop n) ≤ szL sz xs := by
  have := szL_app (sz := sz) (xs.take n) (xs.drop n)
  rw [List.take_append_drop] at this
  unfold szL at *; omega
theorem szL_str (xs : List ByteArray) : xs.length + 1 ≤ szL (fun s : ByteArray => s.size + 1) xs := szL_len (fun _ => Nat.le_add_left 1 _) xs
theorem DEdge.sz_one (e : DEdge) : 1 ≤ e.sz := by unfold DEdge.sz; omega
theorem DPool.sz_one (e : DPool) : 1 ≤ e.sz := by unfold DPool.sz; omega
theorem DEdge.sz_eq (d : DEdge) : d.sz = szL (fun s : ByteArray => s.size + 1) d.outs + szL (fun s : ByteArray => s.size + 1) d.ins + szL (fun s : ByteArray => s.size + 1) d.implicit + szL (fun s : ByteArray => s.size + 1) d.order + (d.command.size + 1) + 1 + (d.pool.size + 1) + 1 := rfl
theorem DGraph.sz_len (g : DGraph) : g.edges.length ≤ g.sz := Nat.le_trans (Nat.le_of_succ_le (szL_len DEdge.sz_one g.edges)) g.sz_edges
theorem needsN_sz (g : DGraph) (i : Int) : needsN g i ≤ g.sz := by
  unfold needsN
  by_cases h : i.toNat < g.edges.length
  · have h1 := szL_getD (sz := DEdge.sz) h
    have h2 := g.sz_edges
    generalize g.edges.getD i.toNat default = e at *
    have a := szL_str e.ins; have b := szL_str e.implicit; have c := szL_str e.order
    rw [DEdge.sz_eq] at h1
    omega
  · rw [List.getD_eq_getElem?_getD, List.getElem?_eq_none (by omega)]
    show (0 + 0 + 0 : Nat) ≤ _
    omega
theorem outsN_sz' : ∀ es : List DEdge, outsN es ≤ szL DEdge.sz es
  | [] => Nat.zero_le _
  | e :: es => by
    have := outsN_sz' es
    have a := szL_str e.outs; have b := e.sz_outs
    unfold szL at *
    simp only [outsN, List.map_cons, List.sum_cons] at *
    omega
theorem outsN_sz (g : DGraph) : outsN g.edges ≤ g.sz := Nat.le_trans (outsN_sz' _) g.sz_edges
/-- a graph with fewer edges -/
theorem sz_less {g : DGraph} {es : List DEdge} {B : Nat} (h : g.sz ≤ B) (hs : szL DEdge.sz es ≤ szL DEdge.sz g.edges) : (⟨es, g.pools, g.defaults⟩ : DGraph).sz ≤ B := by
  unfold DGraph.sz at *; dsimp only at *; omega
theorem sz_less2 {xs : List DEdge} {k n : Nat} : szL DEdge.sz ((xs.take k).drop 0 ++ (xs.take n).drop (k + 1)) ≤ szL DEdge.sz xs := by
  have h1 := szL_app (sz := DEdge.sz) ((xs.take k).drop 0) ((xs.take n).drop (k + 1))
  have h2 := szL_app (sz := DEdge.sz) (xs.take k) (xs.drop k)
  rw [List.take_append_drop] at h2
  have h3 : szL DEdge.sz ((xs.take n).drop (k + 1)) ≤ szL DEdge.sz (xs.drop k) := by
    rw [List.drop_take]
    refine Nat.le_trans (szL_take _ _) ?_
    rw [← List.drop_drop]
    exact szL_drop _ _
  rw [List.drop_zero] at *
  omega
theorem sz_nodef {g : DGraph} {B : Nat} (h : g.sz ≤ B) : (⟨g.edges, g.pools, []⟩ : DGraph).sz ≤ B := by
  have := szL_str g.defaults
  unfold DGraph.sz at *; dsimp only at *
  simp only [szL, List.map_nil, List.sum_nil] at *; omega
theorem bif_len {α : Type} (c : Bool) (a : List α) (x : α) : (bif c then (a ++ [x]) else a).length ≤ a.length + 1 := by
  cases c <;> simp
theorem and_le (x m : Int) (h0 : 0 ≤ m) (hm : m < 4611686018427387904) : 0 ≤ bitAV .and .i64 x m ∧ bitAV .and .i64 x m ≤ m := by
  obtain ⟨n, rfl⟩ : ∃ n : Nat, m = ((n : Nat) : Int) := ⟨m.toNat, by omega⟩
  have h : (BitVec.ofInt IntKind.i64.bits x &&& BitVec.ofInt IntKind.i64.bits ((n : Nat) : Int)).toNat ≤ n := by
    rw [BitVec.toNat_and]
    refine Nat.le_trans Nat.and_le_right ?_
    rw [BitVec.ofInt_natCast, BitVec.toNat_ofNat]
    exact Nat.mod_le _ _
  unfold bitAV
  simp only
  rw [wrap_i64 (by omega) (by omega)]
  omega
end
end Go.Lift
namespace Go.Lift
noncomputable section
open Go Go.RowKit
set_option linter.unusedSimpArgs false
set_option linter.unusedVariables false
set_option linter.unusedSectionVars false
set_option maxRecDepth 20000
theorem lp_all {α : Type} {p : α → Bool} {L : List α → Nat → Lp Bool Unit} (h0 : ∀ i, L [] i = Lp.brk ()) (h1 : ∀ x r i, L (x :: r) i = bif !(p x) then Lp.ret false else L r (i + 1)) : ∀ (l : List α) (i : Nat), L l i = if l.all p then Lp.brk () else Lp.ret false
  | [], i => by rw [h0]; rfl
  | x :: r, i => by
    rw [h1, lp_all h0 h1 r (i + 1), List.all_cons]
    cases p x <;> simp

theorem szsum_append (xs ys : List ByteArray) (k : Nat) : szsum (xs ++ ys) k = szsum xs k + szsum ys k := by
  induction xs with
  | nil => simp [szsum]
  | cons x xs ih => simp only [List.cons_append, szsum, ih]; omega
theorem szsum_take (xs : List ByteArray) (n k : Nat) : szsum (xs.take n) k ≤ szsum xs k := by
  have := szsum_append (xs.take n) (xs.drop n) k
  rw [List.take_append_drop] at this
  omega

theorem ref1_NameMay_L1 (l : List UInt8) (i : Nat) : m_ref1_NameMay_L1 l i = if l.all byteOk then Lp.brk () else Lp.ret false :=
  lp_all (p := byteOk) (fun _ => rfl) (fun x r i => by
    rw [m_ref1_NameMay_L1, byteOk_eq]
    have e : m_ref1_small (x.toNat : Int) = smallS x.toNat := by
      unfold m_ref1_small smallS
      cases decide ((97 : Int) ≤ (x.toNat : Int)) <;> cases decide ((x.toNat : Int) ≤ 122) <;> rfl
    rw [e]
    generalize smallS x.toNat = a
    generalize decide ((x.toNat : Int) = 46) = b
    generalize decide ((x.toNat : Int) = 95) = c
    generalize decide ((x.toNat : Int) = 45) = d
    generalize decide ((x.toNat : Int) = 47) = f
    cases a <;> cases b <;> cases c <;> cases d <;> cases f <;> rfl) l i
theorem ref1_NameMay_eq (s : ByteArray) : m_ref1_NameMay s = mayS s := by
  unfold m_ref1_NameMay
  rw [ref1_NameMay_L1, mayS_ref]
  cases s.data.toList.all byteOk <;> rfl
theorem mayS_sz {s : ByteArray} (h : mayS s = true) : 1 ≤ s.size ∧ s.size ≤ 16 := by
  rw [mayS_ref] at h
  simp only [Bool.and_eq_true, decide_eq_true_eq] at h
  omega
theorem ref1_NameMay_sz' {s : ByteArray} (h : m_ref1_NameMay s = true) : 1 ≤ s.size ∧ s.size ≤ 16 := mayS_sz (by rw [← ref1_NameMay_eq]; exact h)
theorem ref1_NameMay_sz {s : ByteArray} (h : (!(m_ref1_NameMay s)) = false) : 1 ≤ s.size ∧ s.size ≤ 16 := ref1_NameMay_sz' (by simpa using h)

def Lp.val {α : Type} : Lp α α → α
  | .ret a => a
  | .brk a => a
theorem split_sz_L1 (s : ByteArray) (c : Int) : ∀ (k : Nat) (out : List ByteArray) (f i : Nat), szsum out 1 ≤ f → f ≤ i → i ≤ s.size + 1 → szsum (m_ref1_split_L1 s c k out f i).val 1 ≤ s.size + 1
  | 0, out, f, i, h1, h2, h3 => by simp only [m_ref1_split_L1, Lp.val]; omega
  | k + 1, out, f, i, h1, h2, h3 => by
    rw [m_ref1_split_L1]
    by_cases h : ((i : Nat) : Int) ≤ ((s.size : Nat) : Int)
    · rw [decide_eq_true h, cond_true]
      cases (decide (((i : Nat) : Int) = ((s.size : Nat) : Int)) || decide (((s.data.getD i 0).toNat : Int) = c))
      · exact split_sz_L1 s c k out f (i + 1) h1 (by omega) (by omega)
      · refine split_sz_L1 s c k _ (i + 1) (i + 1) ?_ (Nat.le_refl _) (by omega)
        rw [szsum_append]
        simp only [szsum, ByteArray.size_extract]
        omega
    · rw [decide_eq_false h, cond_false]
      simp only [Lp.val]; omega
theorem split_sz (s : ByteArray) (c : Int) : szsum (m_ref1_split s c) 1 ≤ s.size + 1 := by
  have := split_sz_L1 s c (s.size + 1 - 0 + 1) [] 0 0 (Nat.le_refl _) (Nat.le_refl _) (Nat.zero_le _)
  unfold m_ref1_split
  cases e : m_ref1_split_L1 s c (s.size + 1 - 0 + 1) [] 0 0 <;> rw [e] at this <;> exact this
theorem split_join {s : ByteArray} {c : Int} {kept : List ByteArray} {n : Nat} (h : s.size ≤ 16) (hk : szsum kept 1 + n ≤ szsum (m_ref1_split s c) 1) : szsum kept (⟨#[47]⟩ : ByteArray).size ≤ 281474976710656 := by
  have := split_sz s c
  show szsum kept 1 ≤ _
  omega
theorem concat_L1 : ∀ (xs : List (List ByteArray)) (i n : Nat), m_slices_Concat_string_string_L1 xs i n = Lp.brk (n + xs.flatten.length)
  | [], i, n => by simp [m_slices_Concat_string_string_L1]
  | x :: xs, i, n => by rw [m_slices_Concat_string_string_L1, concat_L1 xs]; simp [Nat.add_assoc]
theorem concat_L2 : ∀ (xs : List (List ByteArray)) (i : Nat) (out : List ByteArray), m_slices_Concat_string_string_L2 xs i out = Lp.brk (out ++ xs.flatten)
  | [], i, n => by simp [m_slices_Concat_string_string_L2]
  | x :: xs, i, n => by rw [m_slices_Concat_string_string_L2, concat_L2 xs]; simp [List.append_assoc]
theorem concat_eq (xs : List (List ByteArray)) : m_slices_Concat_string_string xs = xs.flatten := by
  simp only [m_slices_Concat_string_string, concat_L1, concat_L2, List.take_zero, List.nil_append]
theorem check_len {g : DGraph} (h : (!decide ((m_graph_Check g) = (0 : Int))) = false) : g.edges.length ≤ 16 := by
  have h1 : m_graph_Check g = 0 := by simpa using h
  unfold m_graph_Check checkS at h1
  split at h1
  · simp at h1
  · rename_i hm
    have hm' : mayG (gOf g) = true := by simpa using hm
    simp only [mayG, Bool.and_eq_true, decide_eq_true_eq, gOf, List.length_map] at hm'
    have := hm'.2.1; omega

theorem idxE_L1 (f : DEdge → Bool) : ∀ (xs : List DEdge) (i : Nat), m_slices_IndexFunc_api_Edge_api_Edge_L1 f xs i = Lp.brk () ∨ ∃ r : Nat, m_slices_IndexFunc_api_Edge_api_Edge_L1 f xs i = Lp.ret (r : Int) ∧ i ≤ r ∧ r < i + xs.length
  | [], i => Or.inl rfl
  | x :: xs, i => by
    rw [m_slices_IndexFunc_api_Edge_api_Edge_L1]
    cases f x
    · simp only [cond_false]
      rcases idxE_L1 f xs (i + 1) with h | ⟨r, h, h1, h2⟩
      · exact Or.inl h
      · exact Or.inr ⟨r, h, by omega, by simp only [List.length_cons]; omega⟩
    · exact Or.inr ⟨i, rfl, Nat.le_refl _, by simp⟩
theorem makes_lt (g : DGraph) (s : ByteArray) : m_graph_Makes g s < (g.edges.length : Int) ∧ -1 ≤ m_graph_Makes g s := by
  unfold m_graph_Makes m_slices_IndexFunc_api_Edge_api_Edge
  rcases idxE_L1 (fun z0 => m_graph_Makes_1 z0 s) g.edges 0 with h | ⟨r, h, h1, h2⟩
  · rw [h]; exact ⟨by show (-1 : Int) < _; omega, Int.le_refl _⟩
  · rw [h]; exact ⟨by show (r : Int) < _; omega, by show (-1 : Int) ≤ r; omega⟩
def inG (g : DGraph) (k : Int) : Prop := 0 ≤ k ∧ k.toNat < g.edges.length
theorem needs_L1 (g : DGraph) : ∀ (xs : List ByteArray) (i : Nat) (out : List Int), (∀ k ∈ out, inG g k) → ∃ out', m_order_Needs_L1 g xs i out = Lp.brk out' ∧ (∀ k ∈ out', inG g k) ∧ out'.length ≤ out.length + xs.length
  | [], i, out, h => ⟨out, rfl, h, by simp⟩
  | x :: xs, i, out, h => by
    rw [m_order_Needs_L1]
    cases hc : decide ((0 : Int) ≤ m_graph_Makes g x)
    · simp only [cond_false]
      obtain ⟨o, e, a, b⟩ := needs_L1 g xs (i + 1) out h
      exact ⟨o, e, a, by simp only [List.length_cons]; omega⟩
    · simp only [cond_true]
      have hm := of_decide_eq_true hc
      have hl := makes_lt g x
      cases (!(m_slices_Contains_int_int out (m_graph_Makes g x)))
      · simp only [cond_false]
        obtain ⟨o, e, a, b⟩ := needs_L1 g xs (i + 1) out h
        exact ⟨o, e, a, by simp only [List.length_cons]; omega⟩
      · simp only [cond_true]
        obtain ⟨o, e, a, b⟩ := needs_L1 g xs (i + 1) (out ++ [m_graph_Makes g x]) (by
          intro k hk
          rcases List.mem_append.1 hk with hk | hk
          · exact h k hk
          · rw [List.mem_singleton.1 hk]; exact ⟨hm, by omega⟩)
        exact ⟨o, e, a, by simp only [List.length_cons, List.length_append, List.length_nil] at b ⊢; omega⟩
theorem needs_mem {g : DGraph} {e k : Int} (h : k ∈ m_order_Needs g e) : 0 ≤ k ∧ k.toNat < g.edges.length := by
  unfold m_order_Needs at h
  obtain ⟨o, e1, a, _⟩ := needs_L1 g (m_slices_Concat_string_string [(g.edges.getD e.toNat default).ins, (g.edges.getD e.toNat default).implicit, (g.edges.getD e.toNat default).order]) 0 [] (by simp)
  rw [e1] at h
  exact a k h
theorem of_L3 (g : DGraph) : ∀ (xs : List (List Int)) (i : Nat) (c : List Int), i + xs.length ≤ g.edges.length → (∀ k ∈ c, inG g k) → ∃ t c', m_order_Of_L3 xs i c = Lp.brk (t, c') ∧ (∀ k ∈ c', inG g k) ∧ c'.length ≤ c.length + 1
  | [], i, c, _, h => ⟨_, _, rfl, h, by omega⟩
  | x :: xs, i, c, hl, h => by
    simp only [List.length_cons] at hl
    rw [m_order_Of_L3]
    cases (!(m_order_Of_1 ((i : Nat) : Int) c))
    · exact of_L3 g xs (i + 1) c (by omega) h
    · simp only [cond_true]
      cases (!(m_slices_ContainsFunc_int_int x (fun z0 => m_order_Of_2 z0 (fun z0 => m_order_Of_1 z0 c))))
      · exact of_L3 g xs (i + 1) c (by omega) h
      · refine ⟨_, _, rfl, ?_, by simp⟩
        intro k hk
        rcases List.mem_append.1 hk with hk | hk
        · exact h k hk
        · rw [List.mem_singleton.1 hk]; exact ⟨by omega, by omega⟩
theorem of_L2 (g : DGraph) (row : List (List Int)) (hr : row.length ≤ g.edges.length) : ∀ (f : Nat) (c : List Int), (∀ k ∈ c, inG g k) → (∃ c', m_order_Of_L2 g row f c = Lp.brk c' ∧ (∀ k ∈ c', inG g k) ∧ (c.length ≤ g.edges.length → c'.length ≤ g.edges.length)) ∨ m_order_Of_L2 g row f c = Lp.ret (([] : List Int), (1001 : Int))
  | 0, c, h => Or.inl ⟨c, rfl, h, id⟩
  | f + 1, c, h => by
    rw [m_order_Of_L2]
    cases hd : decide (((c.length : Nat) : Int) < ((g.edges.length : Nat) : Int))
    · exact Or.inl ⟨c, rfl, h, id⟩
    · have hd' := of_decide_eq_true hd
      obtain ⟨t, c', e, a, l⟩ := of_L3 g row 0 c (by omega) h
      simp only [cond_true, e]
      cases t
      · exact Or.inr rfl
      · rcases of_L2 g row hr f c' a with ⟨c2, h1, h2, h3⟩ | h1
        · exact Or.inl ⟨c2, h1, h2, fun _ => h3 (by omega)⟩
        · exact Or.inr h1
theorem of_L1 (g : DGraph) : ∀ (xs : List (List Int)) (i : Nat) (row : List (List Int)), ∃ row', m_order_Of_L1 g xs i row = Lp.brk row' ∧ row'.length = row.length
  | [], i, row => ⟨_, rfl, rfl⟩
  | x :: xs, i, row => by
    rw [m_order_Of_L1]
    obtain ⟨r, e, a⟩ := of_L1 g xs (i + 1) (row.set i (m_order_Needs g ((i : Nat) : Int)))
    exact ⟨r, e, by simpa using a⟩
theorem of_mem {g : DGraph} {k : Int} (h : k ∈ (m_order_Of g).1) : 0 ≤ k ∧ k.toNat < g.edges.length := by
  unfold m_order_Of at h
  cases hc : (!decide ((m_graph_Check g) = (0 : Int)))
  · rw [hc] at h
    simp only [cond_false] at h
    obtain ⟨row, e, a⟩ := of_L1 g (List.replicate g.edges.length ([] : List Int)) 0 (List.replicate g.edges.length ([] : List Int))
    rw [e] at h
    simp only at h
    rcases of_L2 g row (by rw [a]; simp) (g.edges.length - 0 + 1) [] (by simp) with ⟨c, e2, b, _⟩ | e2
    · rw [e2] at h; exact b k h
    · rw [e2] at h; simp at h
  · rw [hc] at h; simp at h
theorem of_ok {g : DGraph} (h : (!decide ((m_order_Of g).2 = (0 : Int))) = false) : g.edges.length ≤ 16 ∧ (m_order_Of g).1.length ≤ g.edges.length := by
  have h1 : (m_order_Of g).2 = 0 := by simpa using h
  clear h
  unfold m_order_Of at h1 ⊢
  cases hc : (!decide ((m_graph_Check g) = (0 : Int)))
  · rw [hc] at h1
    simp only [cond_false] at h1 ⊢
    refine ⟨check_len hc, ?_⟩
    obtain ⟨row, e, a⟩ := of_L1 g (List.replicate g.edges.length ([] : List Int)) 0 (List.replicate g.edges.length ([] : List Int))
    rw [e] at h1 ⊢
    simp only at h1 ⊢
    rcases of_L2 g row (by rw [a]; simp) (g.edges.length - 0 + 1) [] (by simp) with ⟨c, e2, b, l⟩ | e2
    · rw [e2]; exact l (by simp)
    · rw [e2] at h1; simp at h1
  · rw [hc] at h1; simp at h1
theorem outs_getD : ∀ (es : List DEdge) (i : Nat), (es.getD i default).outs.length ≤ outsN es
  | [], i => by simp [List.getD]; exact Nat.zero_le _
  | e :: es, 0 => by simp only [outsN]; show e.outs.length ≤ _; omega
  | e :: es, i + 1 => by
    have := outs_getD es i
    simp only [outsN]
    show (es.getD i default).outs.length ≤ _
    omega
theorem order_get {g : DGraph} {k : Int} (h0 : 0 ≤ k) (h : k.toNat < (m_order_Of g).1.length) : 0 ≤ ((m_order_Of g).1).getD k.toNat default ∧ (((m_order_Of g).1).getD k.toNat default).toNat < g.edges.length := by
  refine of_mem (k := ((m_order_Of g).1).getD k.toNat default) ?_
  rw [List.getD_eq_getElem?_getD, List.getElem?_eq_getElem h]
  exact List.getElem_mem h
end
end Go.Lift
namespace Go.Lift
noncomputable section
open Go Go.RowKit
set_option linter.unusedSimpArgs false
set_option linter.unusedVariables false
set_option linter.unusedSectionVars false
set_option maxRecDepth 20000
theorem splitL_ne (c : UInt8) : ∀ l : List UInt8, splitL c l ≠ []
  | [] => by simp [splitL]
  | b :: l => by
    rw [splitL]
    split
    · simp
    · cases h : splitL c l <;> simp
theorem extract_list (s : ByteArray) (f i : Nat) : (s.extract f i).data.toList = (s.data.toList.take i).drop f := by
  rw [ByteArray.data_extract, Array.toList_extract, List.extract_eq_take_drop, List.take_drop]
  by_cases h : f ≤ i
  · rw [show f + (i - f) = i by omega]
  · rw [show f + (i - f) = f by omega, List.drop_of_length_le (by simp; omega), List.drop_of_length_le (by simp; omega)]
theorem ref1_split_L1 (s : ByteArray) : ∀ (k : Nat) (out : List ByteArray) (f i : Nat), f ≤ i → i ≤ s.size → s.size + 1 - i < k →
    m_ref1_split_L1 s 47 k out f i = Lp.brk (out ++ (match splitL 47 (s.data.toList.drop i) with | [] => [] | p :: r => toBA ((s.data.toList.take i).drop f ++ p) :: r.map toBA))
  | 0, _, _, _, _, _, h => by omega
  | k + 1, out, f, i, h1, h2, h3 => by
    have hl := data_len s
    rw [m_ref1_split_L1, decide_eq_true (by omega), cond_true]
    by_cases hi : i = s.size
    · subst hi
      rw [decide_eq_true rfl, Bool.true_or, cond_true]
      obtain ⟨k', rfl⟩ : ∃ k', k = k' + 1 := ⟨k - 1, by omega⟩
      rw [m_ref1_split_L1, decide_eq_false (by omega), cond_false, List.drop_of_length_le (by omega)]
      simp only [splitL, List.append_nil, List.map_nil]
      rw [← extract_list, toBA_toList]
    · have hlt : i < s.data.toList.length := by omega
      have hd : s.data.toList.drop i = s.data.getD i 0 :: s.data.toList.drop (i + 1) := by
        rw [List.drop_eq_getElem_cons hlt]
        congr 1
        have : i < s.data.size := by rw [← Array.length_toList]; exact hlt
        simp only [Array.getD, this, dif_pos]; simp
      have ht : s.data.toList.take (i + 1) = s.data.toList.take i ++ [s.data.getD i 0] := by
        rw [List.take_add_one, List.getElem?_eq_getElem hlt]
        have : i < s.data.size := by rw [← Array.length_toList]; exact hlt
        simp only [Array.getD, this, dif_pos]; simp
      rw [decide_eq_false (by omega), Bool.false_or, hd, splitL]
      by_cases hb : s.data.getD i 0 = 47
      · rw [if_pos hb, decide_eq_true (by rw [hb]; rfl), cond_true, ref1_split_L1 s k _ (i + 1) (i + 1) (Nat.le_refl _) (by omega) (by omega)]
        simp only [List.append_assoc, List.append_nil, List.singleton_append]
        rw [show toBA ((s.data.toList.take i).drop f) = s.extract f i from by rw [← extract_list]; rfl]
        congr 3
        cases h : splitL 47 (s.data.toList.drop (i + 1)) with
        | nil => exact absurd h (splitL_ne _ _)
        | cons p r => simp only [List.map_cons]; rw [List.drop_of_length_le (by simp; omega), List.nil_append]
      · have hn : ¬ ((s.data.getD i 0).toNat : Int) = 47 := fun h => hb (by
          apply UInt8.toNat_inj.1; show _ = 47; omega)
        rw [if_neg hb, decide_eq_false hn, cond_false, ref1_split_L1 s k out f (i + 1) (by omega) (by omega) (by omega)]
        congr 2
        cases h : splitL 47 (s.data.toList.drop (i + 1)) with
        | nil => exact absurd h (splitL_ne _ _)
        | cons p r =>
          simp only
          rw [ht, List.drop_append_of_le_length (by simp; omega), List.append_assoc]; rfl
theorem ref1_split_eq (s : ByteArray) : m_ref1_split s 47 = (splitL 47 s.data.toList).map toBA := by
  unfold m_ref1_split
  rw [ref1_split_L1 s _ [] 0 0 (Nat.le_refl _) (Nat.zero_le _) (by omega)]
  simp only [List.drop_zero, List.nil_append, List.take_zero]
  cases h : splitL 47 s.data.toList with
  | nil => exact absurd h (splitL_ne _ _)
  | cons p r => rfl
theorem ref1_Clean_L1 : ∀ (ps : List ByteArray) (i : Nat) (kept : List ByteArray), m_ref1_CleanPath_L1 ps i kept = match foldB ps kept with
    | none => Lp.ret ((⟨#[]⟩ : ByteArray), (200 : Int))
    | some k => Lp.brk k
  | [], i, kept => rfl
  | p :: ps, i, kept => by
    rw [m_ref1_CleanPath_L1, foldB, stepB]
    by_cases h1 : p = ⟨#[]⟩
    · rw [decide_eq_true h1, cond_true, if_pos (Or.inl h1), ref1_Clean_L1 ps]; rfl
    · rw [decide_eq_false h1, cond_false]
      by_cases h2 : p = ⟨#[46]⟩
      · rw [decide_eq_true h2, cond_true, if_pos (Or.inr h2), ref1_Clean_L1 ps]; rfl
      · rw [decide_eq_false h2, cond_false, if_neg (by rintro (h | h); exact h1 h; exact h2 h)]
        by_cases h3 : p = ⟨#[46, 46]⟩
        · rw [decide_eq_true h3, cond_true, if_neg (fun h => h h3)]
          by_cases h4 : kept = []
          · subst h4; rfl
          · rw [decide_eq_false (by cases kept with
              | nil => exact absurd rfl h4
              | cons a b => simp only [List.length_cons]; omega), cond_false, if_neg h4, ref1_Clean_L1 ps, List.dropLast_eq_take]; rfl
        · rw [decide_eq_false h3, cond_false, if_pos h3, ref1_Clean_L1 ps]; rfl
theorem ref1_Join_L1 : ∀ (xs : List ByteArray) (i : Nat) (acc : ByteArray), 0 < i → m_ref1_Join_L1 ⟨#[47]⟩ xs i acc = Lp.brk (toBA (acc.data.toList ++ Lib.joinTail [47] (xs.map (·.data.toList))))
  | [], i, acc, _ => by
    rw [m_ref1_Join_L1]; simp only [Lib.joinTail, List.map_nil, List.flatten_nil, List.append_nil]; rfl
  | x :: xs, i, acc, h => by
    rw [m_ref1_Join_L1, decide_eq_true (by omega), cond_true, ref1_Join_L1 xs (i + 1) _ (by omega)]
    congr 2
    simp [Lib.joinTail]
theorem ref1_Join_eq (k : ByteArray) (ks : List ByteArray) : m_ref1_Join (k :: ks) ⟨#[47]⟩ = joinB (k :: ks) := by
  unfold m_ref1_Join joinB
  rw [m_ref1_Join_L1, decide_eq_false (by omega), cond_false, ref1_Join_L1 ks 1 _ (by omega)]
  simp only [List.map_cons, Lib.join_cons]
  show toBA _ = _
  unfold toBA
  congr 2
theorem ref1_CleanPath_eq (s : ByteArray) : m_ref1_CleanPath s = cleanS s := by
  unfold m_ref1_CleanPath cleanS
  rw [ref1_NameMay_eq]
  cases hm : mayS s
  · simp
  · have hz := mayS_sz hm
    have hl := data_len s
    have hh : s.data.toList.head? = some (s.data.getD 0 0) := by
      cases hs : s.data.toList with
      | nil => rw [hs] at hl; simp at hl; omega
      | cons a b =>
        have : 0 < s.data.size := by show 0 < s.size; omega
        simp only [Array.getD, this, dif_pos, List.head?_cons]
        have e : s.data.toList[0]? = some a := by rw [hs]; rfl
        rw [Array.getElem?_toList] at e
        rw [Array.getElem?_eq_getElem this] at e
        exact e.symm
    simp only [Bool.not_true, cond_false, Bool.true_eq_false, false_or, hh]
    by_cases hb : s.data.getD 0 0 = 47
    · rw [decide_eq_true (by rw [hb]; rfl), cond_true, if_pos (by rw [hb])]
    · have hn : ¬ ((s.data.getD 0 0).toNat : Int) = 47 := fun h => hb (by
        apply UInt8.toNat_inj.1; show _ = 47; omega)
      rw [decide_eq_false hn, cond_false, if_neg (by simpa using hb), ref1_split_eq, ref1_Clean_L1]
      cases foldB ((splitL 47 s.data.toList).map toBA) [] with
      | none => rfl
      | some k =>
        cases k with
        | nil => rfl
        | cons k ks =>
          simp only
          rw [decide_eq_false (by simp only [List.length_cons]; omega), cond_false, ref1_Join_eq]
theorem ref1_PathMay_eq (s : ByteArray) : m_ref1_PathMay s = isS s := by
  unfold m_ref1_PathMay isS; rw [ref1_CleanPath_eq]
theorem ref1_PathsMay_eq (xs : List ByteArray) : m_ref1_PathsMay xs = allS ⟨false, xs⟩ := by
  unfold m_ref1_PathsMay allS
  rw [lp_all (p := isS) (L := m_ref1_PathsMay_L1) (fun _ => rfl) (fun x r i => by rw [m_ref1_PathsMay_L1, ref1_PathMay_eq]) xs 0]
  cases xs.all isS <;> simp
theorem ref1_Plain_L1_eq (l : List UInt8) (i : Nat) : m_ref1_Plain_L1 l i = if l.all plainB then Lp.brk () else Lp.ret false :=
  lp_all (p := plainB) (L := m_ref1_Plain_L1) (fun _ => rfl) (fun x r i => by
    rw [m_ref1_Plain_L1]
    have e : plainB x = (!decide ((x.toNat : Int) < 32) && !decide ((126 : Int) < (x.toNat : Int))) := by
      unfold plainB
      congr 1
      · rw [← decide_not]; congr 1; apply propext; omega
      · rw [← decide_not]; congr 1; apply propext; omega
    rw [e]
    cases decide ((x.toNat : Int) < 32) <;> cases decide ((126 : Int) < (x.toNat : Int)) <;> rfl) l i
theorem ref1_command_eq (s : ByteArray) : m_ref1_Plain s 1 256 = commandS s := by
  unfold m_ref1_Plain commandS plainS
  rw [ref1_Plain_L1_eq]
  have e : decide ((1 : Int) ≤ ((s.size : Nat) : Int)) = !decide (s = ⟨#[]⟩) := by
    rw [← decide_not]; congr 1; apply propext
    constructor
    · rintro h rfl; exact absurd h (by decide)
    · intro h
      have : s.size ≠ 0 := fun h0 => h (by
        apply ba_ext
        have := data_len s
        rw [h0] at this
        rw [List.length_eq_zero_iff.1 this])
      omega
  cases s.data.toList.all plainB
  · simp
  · simp only [if_true, e, Bool.true_and]
theorem ref1_EdgeMay_eq (e : DEdge) : m_ref1_EdgeMay e = edgeS (eOf e) := by
  unfold m_ref1_EdgeMay edgeS eOf
  simp only [ref1_PathsMay_eq, ref1_command_eq, ref1_NameMay_eq, List.all_cons, List.all_nil, Bool.and_true]
  have h : decide ((0 : Int) < ((e.outs.length : Nat) : Int)) = decide (((e.outs.length : Nat) : Int) > 0) := rfl
  rw [h]
  generalize decide (((e.outs.length : Nat) : Int) > 0) = a
  generalize allS ⟨false, e.outs⟩ = b
  generalize allS ⟨false, e.ins⟩ = c
  generalize allS ⟨false, e.implicit⟩ = d
  generalize allS ⟨false, e.order⟩ = f
  cases a <;> cases b <;> cases c <;> cases d <;> cases f <;> simp
theorem lp_idx {α : Type} {p : α → Bool} {L : List α → Nat → Lp Int Unit} (h0 : ∀ i, L [] i = Lp.brk ()) (h1 : ∀ x r i, L (x :: r) i = bif p x then Lp.ret ((i : Nat) : Int) else L r (i + 1)) : ∀ (l : List α) (i : Nat), L l i = match l.findIdx? p with
    | some j => Lp.ret (((i + j : Nat)) : Int)
    | none => Lp.brk ()
  | [], i => by rw [h0]; rfl
  | x :: r, i => by
    rw [h1, lp_idx h0 h1 r (i + 1), List.findIdx?_cons]
    cases p x
    · simp only [cond_false, Bool.false_eq_true, if_false]
      cases r.findIdx? p with
      | none => rfl
      | some j => simp only [Option.map_some]; congr 2; omega
    · rfl
theorem idxS_map {α β : Type} (f : α → β) (p : β → Bool) (q : α → Bool) (h : ∀ x, p (f x) = q x) (xs : List α) : idxS p (xs.map f) = idxS q xs := by
  unfold idxS
  rw [List.findIdx?_map]
  have : p ∘ f = q := funext h
  rw [this]
theorem ref1_poolAt_eq (g : DGraph) (name : ByteArray) : m_ref1_poolAt g.pools name = poolAt (gOf g) name := by
  unfold m_ref1_poolAt poolAt
  rw [lp_idx (p := fun p : DPool => decide (p.name = name)) (L := m_ref1_poolAt_L1 name) (fun _ => rfl) (fun x r i => by rw [m_ref1_poolAt_L1]) g.pools 0]
  rw [show (gOf g).pools = g.pools.map pOf from rfl, idxS_map pOf _ (fun p => decide (p.name = name)) (fun x => rfl)]
  unfold idxS
  cases g.pools.findIdx? (fun p => decide (p.name = name)) with
  | none => rfl
  | some j => simp

theorem allIdx_map {α β : Type} (f : α → β) (p : Nat → β → Bool) (q : Nat → α → Bool) (h : ∀ i x, p i (f x) = q i x) : ∀ (i : Nat) (xs : List α), allIdx p i (xs.map f) = allIdx q i xs
  | _, [] => rfl
  | i, x :: xs => by simp only [List.map_cons, allIdx, h, allIdx_map f p q h (i + 1) xs]
theorem lp_allIdx {α : Type} {p : Nat → α → Bool} {L : List α → Nat → Lp Bool Unit} (h0 : ∀ i, L [] i = Lp.brk ()) (h1 : ∀ x r i, L (x :: r) i = bif !(p i x) then Lp.ret false else L r (i + 1)) : ∀ (l : List α) (i : Nat), L l i = if allIdx p i l then Lp.brk () else Lp.ret false
  | [], i => by rw [h0]; rfl
  | x :: r, i => by
    rw [h1, lp_allIdx h0 h1 r (i + 1), allIdx]
    cases p i x <;> simp
def poolOkD (g : DGraph) (k : Nat) (p : DPool) : Bool := poolOk (gOf g) k (pOf p)
theorem ref1_GraphMay_L1_eq (g : DGraph) (l : List DPool) (i : Nat) : m_ref1_GraphMay_L1 g l i = if allIdx (poolOkD g) i l then Lp.brk () else Lp.ret false :=
  lp_allIdx (p := poolOkD g) (L := m_ref1_GraphMay_L1 g) (fun _ => rfl) (fun x r i => by
    rw [m_ref1_GraphMay_L1, ref1_NameMay_eq, ref1_poolAt_eq]
    have e : poolOkD g i x = (mayS x.name && !decide (x.depth < 1) && !decide ((8 : Int) < x.depth) && decide (poolAt (gOf g) x.name = ((i : Nat) : Int))) := rfl
    rw [e]
    cases mayS x.name <;> cases decide (x.depth < 1) <;> cases decide ((8 : Int) < x.depth) <;> cases decide (poolAt (gOf g) x.name = ((i : Nat) : Int)) <;> rfl) l i
theorem ref1_GraphMay_L2_eq (g : DGraph) (l : List DEdge) (i : Nat) : m_ref1_GraphMay_L2 g l i = if l.all (fun e => edgeIn (gOf g) (eOf e)) then Lp.brk () else Lp.ret false :=
  lp_all (p := fun e => edgeIn (gOf g) (eOf e)) (L := m_ref1_GraphMay_L2 g) (fun _ => rfl) (fun x r i => by
    rw [m_ref1_GraphMay_L2, ref1_EdgeMay_eq, ref1_poolAt_eq]
    have e : edgeIn (gOf g) (eOf x) = (edgeS (eOf x) && (decide (x.pool = (⟨#[]⟩ : ByteArray)) || !decide (poolAt (gOf g) x.pool < 0))) := rfl
    rw [e]
    cases edgeS (eOf x) <;> cases decide (x.pool = (⟨#[]⟩ : ByteArray)) <;> cases decide (poolAt (gOf g) x.pool < 0) <;> rfl) l i
theorem ref1_GraphMay_eq (g : DGraph) : m_ref1_GraphMay g = m_graph_May g := by
  unfold m_ref1_GraphMay m_graph_May mayG poolsS
  rw [ref1_GraphMay_L1_eq, ref1_GraphMay_L2_eq, ref1_PathsMay_eq]
  rw [show (gOf g).edges = g.edges.map eOf from rfl, show (gOf g).pools = g.pools.map pOf from rfl, List.all_map, List.length_map, List.length_map, allIdx_map pOf _ (poolOkD g) (fun _ _ => rfl)]
  rw [show (gOf g).defaults = ⟨false, g.defaults⟩ from rfl]
  rw [show (edgeIn (gOf g) ∘ eOf) = (fun e => edgeIn (gOf g) (eOf e)) from rfl]
  cases allIdx (poolOkD g) 0 g.pools <;> cases g.edges.all (fun e => edgeIn (gOf g) (eOf e)) <;> simp
  cases decide (((g.pools.length : Nat) : Int) ≤ 4) <;> cases decide (((g.edges.length : Nat) : Int) ≤ 16) <;> simp
theorem ref1_has_eq (xs : List ByteArray) (x : ByteArray) : (x ∈ xs → m_ref1_has xs x = true) ∧ (x ∉ xs → m_ref1_has xs x = false) := by
  have h : ∀ (l : List ByteArray) (i : Nat), (x ∈ l → m_ref1_has_L1 x l i = Lp.ret true) ∧ (x ∉ l → m_ref1_has_L1 x l i = Lp.brk ()) := by
    intro l; induction l with
    | nil => intro i; exact ⟨fun h => by simp at h, fun _ => rfl⟩
    | cons y l ih =>
      intro i
      rw [m_ref1_has_L1]
      by_cases hy : y = x
      · subst hy; rw [decide_eq_true rfl, cond_true]; exact ⟨fun _ => rfl, fun h => absurd (List.mem_cons_self) h⟩
      · rw [decide_eq_false hy, cond_false]
        refine ⟨fun h => (ih (i + 1)).1 ?_, fun h => (ih (i + 1)).2 fun h2 => h (List.mem_cons_of_mem _ h2)⟩
        rcases List.mem_cons.1 h with h | h
        · exact absurd h.symm hy
        · exact h
  unfold m_ref1_has
  exact ⟨fun hx => by rw [(h xs 0).1 hx], fun hx => by rw [(h xs 0).2 hx]⟩
theorem ref1_Check_L2_eq : ∀ (l : List ByteArray) (k : Nat) (acc : List ByteArray), acc.Nodup → m_ref1_Check_L2 l k acc = if (acc ++ l).Nodup then Lp.brk (acc ++ l) else Lp.ret 901
  | [], k, acc, h => by rw [List.append_nil, if_pos h]; rfl
  | x :: l, k, acc, h => by
    rw [m_ref1_Check_L2]
    by_cases hx : x ∈ acc
    · rw [(ref1_has_eq acc x).1 hx, cond_true, if_neg]
      intro hn
      rw [List.nodup_append] at hn
      exact hn.2.2 x hx x (by simp) rfl
    · rw [(ref1_has_eq acc x).2 hx, cond_false, ref1_Check_L2_eq l (k + 1) (acc ++ [x]) (by
        rw [List.nodup_append]
        exact ⟨h, by simp, fun a ha b hb => by simp only [List.mem_singleton] at hb; subst hb; rintro rfl; exact hx ha⟩), List.append_assoc, List.singleton_append]
theorem ref1_Check_L1_eq : ∀ (es : List DEdge) (i : Nat) (acc : List ByteArray), acc.Nodup → m_ref1_Check_L1 es i acc = if (acc ++ es.flatMap (·.outs)).Nodup then Lp.brk () else Lp.ret 901
  | [], i, acc, h => by rw [List.flatMap_nil, List.append_nil, if_pos h]; rfl
  | e :: es, i, acc, h => by
    rw [m_ref1_Check_L1, ref1_Check_L2_eq _ _ _ h, List.flatMap_cons, ← List.append_assoc]
    by_cases hn : (acc ++ e.outs).Nodup
    · rw [if_pos hn]
      simp only
      rw [ref1_Check_L1_eq es (i + 1) _ hn]
    · rw [if_neg hn]
      simp only
      rw [if_neg]
      intro h2
      rw [List.nodup_append] at h2
      exact hn h2.1
theorem ref1_Check_eq (g : DGraph) : m_ref1_Check g = m_graph_Check g := by
  unfold m_ref1_Check m_graph_Check checkS
  rw [ref1_GraphMay_eq]
  show _ = if m_graph_May g = false then _ else _
  cases m_graph_May g
  · rfl
  · rw [ref1_Check_L1_eq _ _ _ List.nodup_nil, List.nil_append]
    have e : outsOf (gOf g).edges = g.edges.flatMap (·.outs) := by
      unfold outsOf
      rw [show (gOf g).edges = g.edges.map eOf from rfl, List.flatMap_map]; rfl
    rw [e]
    have hd := hasDup_iff ((g.edges.flatMap (·.outs)).map fun x => x.data.toList)
    have hn : ((g.edges.flatMap (·.outs)).map fun x => x.data.toList).Nodup ↔ (g.edges.flatMap (·.outs)).Nodup := by
      constructor
      · intro h; exact List.Pairwise.of_map (fun x : ByteArray => x.data.toList) (fun a b hh hab => hh (by rw [hab])) h
      · intro h; exact List.Pairwise.map _ (fun a b hab hh => hab (ba_ext hh)) h
    by_cases h : (g.edges.flatMap (·.outs)).Nodup
    · rw [if_pos h]
      have : hasDup ((g.edges.flatMap (·.outs)).map fun x => x.data.toList) = false := by
        cases hh : hasDup ((g.edges.flatMap (·.outs)).map fun x => x.data.toList)
        · rfl
        · exact absurd (hn.2 h) (hd.1 hh)
      rw [this]; rfl
    · rw [if_neg h]
      have : hasDup ((g.edges.flatMap (·.outs)).map fun x => x.data.toList) = true := hd.2 (fun hh => h (hn.1 hh))
      rw [this]; rfl
end
end Go.Lift
namespace Go.Lift
noncomputable section
open Go Go.RowKit
set_option linter.unusedSimpArgs false
set_option linter.unusedVariables false
set_option linter.unusedSectionVars false
set_option maxRecDepth 20000
def mkD (g : DGraph) (n : ByteArray) : Int := idxS (fun e => Lib.containsS e.outs n) g.edges
theorem makesAt_eq (g : DGraph) (n : ByteArray) : makesAt (gOf g) n = mkD g n := by
  unfold makesAt mkD
  rw [show (gOf g).edges = g.edges.map eOf from rfl, idxS_map eOf _ (fun e => Lib.containsS e.outs n) (fun _ => rfl)]
theorem maker_ok {g : DGraph} (h : m_graph_Check g = 0) (n : ByteArray) : m_graph_Maker g n = (max (mkD g n) 0, decide (mkD g n ≥ 0), 0) := by
  unfold m_graph_Maker makerS
  rw [if_pos (show checkS (gOf g) = 0 from h), makesAt_eq]
theorem maker_no {g : DGraph} (h : m_graph_Check g ≠ 0) (n : ByteArray) : m_graph_Maker g n = (0, false, m_graph_Check g) := by
  unfold m_graph_Maker makerS
  rw [if_neg (show ¬ checkS (gOf g) = 0 from h)]; rfl
theorem check_nodup {g : DGraph} (h : m_graph_Check g = 0) : (g.edges.flatMap (·.outs)).Nodup := by
  rw [← ref1_Check_eq] at h
  unfold m_ref1_Check at h
  cases hm : m_ref1_GraphMay g
  · rw [hm] at h; simp at h
  · rw [hm, ref1_Check_L1_eq _ _ _ List.nodup_nil, List.nil_append] at h
    by_cases hn : (g.edges.flatMap (·.outs)).Nodup
    · exact hn
    · rw [if_neg hn] at h; simp at h
theorem idx_unique (x : ByteArray) : ∀ (es : List DEdge) (i : Nat) (e : DEdge), (es.flatMap (·.outs)).Nodup → es[i]? = some e → x ∈ e.outs → es.findIdx? (fun e => Lib.containsS e.outs x) = some i
  | [], i, e, _, he, _ => by simp at he
  | e0 :: r, 0, e, _, he, hx => by
    simp only [List.getElem?_cons_zero, Option.some.injEq] at he
    subst he
    rw [List.findIdx?_cons, (Lib.containsS_iff _ _).2 hx]; rfl
  | e0 :: r, i + 1, e, hn, he, hx => by
    simp only [List.getElem?_cons_succ] at he
    rw [List.flatMap_cons, List.nodup_append] at hn
    have h0 : Lib.containsS e0.outs x = false := by
      cases hc : Lib.containsS e0.outs x
      · rfl
      · exact absurd rfl (hn.2.2 x ((Lib.containsS_iff _ _).1 hc) x (List.mem_flatMap.2 ⟨e, List.mem_of_getElem? he, hx⟩))
    rw [List.findIdx?_cons, h0, idx_unique x r i e hn.2.1 he hx]; rfl
theorem mkD_at {g : DGraph} (hn : (g.edges.flatMap (·.outs)).Nodup) {i : Nat} {e : DEdge} (he : g.edges[i]? = some e) {x : ByteArray} (hx : x ∈ e.outs) : mkD g x = i := by
  unfold mkD idxS
  rw [idx_unique x g.edges i e hn he hx]
theorem mkD_in (g : DGraph) (x : ByteArray) : mkD g x = -1 ∨ ∃ i e, mkD g x = ((i : Nat) : Int) ∧ g.edges[i]? = some e ∧ x ∈ e.outs := by
  unfold mkD idxS
  cases h : g.edges.findIdx? (fun e => Lib.containsS e.outs x) with
  | none => exact Or.inl rfl
  | some i =>
    obtain ⟨hi, h2, _⟩ := List.findIdx?_eq_some_iff_getElem.1 h
    exact Or.inr ⟨i, g.edges[i], rfl, List.getElem?_eq_getElem hi, (Lib.containsS_iff _ _).1 h2⟩
end
end Go.Lift
namespace Go.Lift
noncomputable section
open Go Go.RowKit
set_option linter.unusedSimpArgs false
set_option linter.unusedVariables false
set_option linter.unusedSectionVars false
set_option maxRecDepth 20000
def rotG (g : DGraph) (t : Nat) : DGraph := ⟨g.edges.drop t ++ g.edges.take t, g.pools, g.defaults⟩
theorem rot_perm (g : DGraph) (t : Nat) : (rotG g t).edges.Perm g.edges := by
  have h : (g.edges.drop t ++ g.edges.take t).Perm (g.edges.take t ++ g.edges.drop t) := List.perm_append_comm
  rw [List.take_append_drop] at h
  exact h
theorem rot_may (g : DGraph) (t : Nat) : m_graph_May (rotG g t) = m_graph_May g := by
  have hp := (rot_perm g t).map eOf
  have h1 : ((rotG g t).edges.map eOf).all (edgeIn (gOf g)) = (g.edges.map eOf).all (edgeIn (gOf g)) := hp.all_eq
  have h2 := hp.length_eq
  show (((rotG g t).edges.map eOf).all (edgeIn (gOf g)) && (decide ((((rotG g t).edges.map eOf).length : Int) ≤ 16) && poolsS (gOf g) && allS (gOf g).defaults)) = _
  rw [h1, h2]; rfl
theorem check_form (g : DGraph) : m_graph_Check g = if m_graph_May g = false then 900 else if (g.edges.flatMap (·.outs)).Nodup then 0 else 901 := by
  rw [← ref1_Check_eq]
  unfold m_ref1_Check
  rw [ref1_GraphMay_eq]
  cases m_graph_May g
  · rfl
  · rw [ref1_Check_L1_eq _ _ _ List.nodup_nil, List.nil_append]
    by_cases h : (g.edges.flatMap (·.outs)).Nodup
    · rw [if_pos h, if_pos h]; rfl
    · rw [if_neg h, if_neg h]; rfl
theorem rot_check (g : DGraph) (t : Nat) : m_graph_Check (rotG g t) = m_graph_Check g := by
  rw [check_form, check_form, rot_may]
  have h : ((rotG g t).edges.flatMap (·.outs)).Nodup ↔ (g.edges.flatMap (·.outs)).Nodup := ((rot_perm g t).flatMap_right _).nodup_iff
  by_cases hn : (g.edges.flatMap (·.outs)).Nodup
  · rw [if_pos hn, if_pos (h.2 hn)]
  · rw [if_neg hn, if_neg (fun q => hn (h.1 q))]
theorem rot_get {g : DGraph} {t j : Nat} (ht : t ≤ g.edges.length) (hj : j < g.edges.length) : ∃ j', (rotG g t).edges[j']? = g.edges[j]? ∧ j' < g.edges.length ∧ (j' + t) % g.edges.length = j := by
  by_cases h : t ≤ j
  · refine ⟨j - t, ?_, by omega, ?_⟩
    · show (g.edges.drop t ++ g.edges.take t)[j - t]? = _
      rw [List.getElem?_append_left (by simp; omega), List.getElem?_drop]; congr 1; omega
    · rw [show j - t + t = j by omega, Nat.mod_eq_of_lt hj]
  · refine ⟨j + g.edges.length - t, ?_, by omega, ?_⟩
    · show (g.edges.drop t ++ g.edges.take t)[j + g.edges.length - t]? = _
      rw [List.getElem?_append_right (by simp; omega), List.getElem?_take, if_pos (by simp; omega)]; congr 1; simp; omega
    · rw [show j + g.edges.length - t + t = j + g.edges.length by omega, Nat.add_mod_right, Nat.mod_eq_of_lt hj]
end
end Go.Lift
namespace Go.Lift
noncomputable section
open Go Go.RowKit
set_option linter.unusedSimpArgs false
set_option linter.unusedVariables false
set_option linter.unusedSectionVars false
set_option maxRecDepth 20000
theorem idx_val {α : Type} {p : α → Bool} {L : List α → Nat → Lp Int Unit} (h0 : ∀ i, L [] i = Lp.brk ()) (h1 : ∀ x r i, L (x :: r) i = bif p x then Lp.ret ((i : Nat) : Int) else L r (i + 1)) (l : List α) :
    (match L l 0 with | Lp.ret r => r | Lp.brk () => (-1 : Int)) = idxS p l := by
  rw [lp_idx h0 h1 l 0]; unfold idxS
  cases l.findIdx? p with
  | none => rfl
  | some j => simp
theorem idxS_nonneg {α : Type} (p : α → Bool) (l : List α) : decide ((0 : Int) ≤ idxS p l) = l.any p := by
  unfold idxS
  cases h : l.findIdx? p with
  | none =>
    have := List.findIdx?_eq_none_iff.1 h
    rw [show l.any p = false from by simpa using this]; rfl
  | some j =>
    obtain ⟨hj, h2, _⟩ := List.findIdx?_eq_some_iff_getElem.1 h
    rw [List.any_eq_true.2 ⟨l[j], List.getElem_mem hj, h2⟩]
    simp
theorem contains_str (xs : List ByteArray) (v : ByteArray) : m_slices_Contains_string_string xs v = Lib.containsS xs v := by
  unfold m_slices_Contains_string_string m_slices_Index_string_string
  refine (congrArg (fun z => decide ((0 : Int) ≤ z)) (idx_val (p := fun y => decide (v = y)) (fun _ => rfl) (fun _ _ _ => rfl) xs)).trans ?_
  rw [idxS_nonneg]
  cases hc : Lib.containsS xs v
  · rw [List.any_eq_false]
    intro y hy e
    have : v = y := by simpa using e
    subst this
    rw [(Lib.containsS_iff _ _).2 hy] at hc; cases hc
  · exact List.any_eq_true.2 ⟨v, (Lib.containsS_iff _ _).1 hc, by simp⟩
theorem contains_int (xs : List Int) (v : Int) : m_slices_Contains_int_int xs v = xs.contains v := by
  unfold m_slices_Contains_int_int m_slices_Index_int_int
  refine (congrArg (fun z => decide ((0 : Int) ≤ z)) (idx_val (p := fun y => decide (v = y)) (fun _ => rfl) (fun _ _ _ => rfl) xs)).trans ?_
  rw [idxS_nonneg]
  rw [Bool.eq_iff_iff]; simp
theorem containsFunc_int (xs : List Int) (f : Int → Bool) : m_slices_ContainsFunc_int_int xs f = xs.any f := by
  unfold m_slices_ContainsFunc_int_int m_slices_IndexFunc_int_int
  exact (congrArg (fun z => decide ((0 : Int) ≤ z)) (idx_val (p := f) (fun _ => rfl) (fun _ _ _ => rfl) xs)).trans (idxS_nonneg _ _)
theorem makes_mkD (g : DGraph) (x : ByteArray) : m_graph_Makes g x = mkD g x := by
  unfold m_graph_Makes m_slices_IndexFunc_api_Edge_api_Edge mkD
  refine (idx_val (p := fun e => m_graph_Makes_1 e x) (fun _ => rfl) (fun _ _ _ => rfl) g.edges).trans ?_
  congr 1; funext e; exact contains_str e.outs x
theorem has_str (xs : List ByteArray) (x : ByteArray) : m_ref1_has xs x = Lib.containsS xs x := by
  cases hc : Lib.containsS xs x
  · exact (ref1_has_eq xs x).2 fun h => by rw [(Lib.containsS_iff _ _).2 h] at hc; cases hc
  · exact (ref1_has_eq xs x).1 ((Lib.containsS_iff _ _).1 hc)
theorem makerOf_mkD (g : DGraph) (x : ByteArray) : m_ref1_MakerOf g x = mkD g x := by
  unfold m_ref1_MakerOf mkD
  refine (idx_val (p := fun e => m_ref1_has e.outs x) (fun _ => rfl) (fun _ _ _ => rfl) g.edges).trans ?_
  congr 1; funext e; exact has_str e.outs x

def inputs (g : DGraph) (e : Int) : List ByteArray := (g.edges.getD e.toNat default).ins ++ ((g.edges.getD e.toNat default).implicit ++ (g.edges.getD e.toNat default).order)
theorem needs_L1_iff (g : DGraph) : ∀ (xs : List ByteArray) (i : Nat) (out : List Int), ∃ out', m_order_Needs_L1 g xs i out = Lp.brk out' ∧ ∀ k, k ∈ out' ↔ k ∈ out ∨ (0 ≤ k ∧ ∃ x ∈ xs, mkD g x = k)
  | [], i, out => ⟨out, rfl, fun k => by simp⟩
  | x :: xs, i, out => by
    rw [m_order_Needs_L1, makes_mkD, contains_int]
    by_cases h1 : 0 ≤ mkD g x
    · by_cases h2 : mkD g x ∈ out
      · obtain ⟨o, e1, e2⟩ := needs_L1_iff g xs (i + 1) out
        refine ⟨o, by simp [h1, h2, e1], fun k => ?_⟩
        rw [e2]
        constructor
        · rintro (h | ⟨h, y, hy, e⟩)
          · exact Or.inl h
          · exact Or.inr ⟨h, y, by simp [hy], e⟩
        · rintro (h | ⟨h, y, hy, e⟩)
          · exact Or.inl h
          · rcases List.mem_cons.1 hy with rfl | hy
            · subst e; exact Or.inl h2
            · exact Or.inr ⟨h, y, hy, e⟩
      · obtain ⟨o, e1, e2⟩ := needs_L1_iff g xs (i + 1) (out ++ [mkD g x])
        refine ⟨o, by simp [h1, h2, e1], fun k => ?_⟩
        rw [e2, List.mem_append, List.mem_singleton]
        constructor
        · rintro ((h | h) | ⟨h, y, hy, e⟩)
          · exact Or.inl h
          · subst h; exact Or.inr ⟨h1, x, by simp, rfl⟩
          · exact Or.inr ⟨h, y, by simp [hy], e⟩
        · rintro (h | ⟨h, y, hy, e⟩)
          · exact Or.inl (Or.inl h)
          · rcases List.mem_cons.1 hy with rfl | hy
            · exact Or.inl (Or.inr e.symm)
            · exact Or.inr ⟨h, y, hy, e⟩
    · obtain ⟨o, e1, e2⟩ := needs_L1_iff g xs (i + 1) out
      refine ⟨o, by simp [h1, e1], fun k => ?_⟩
      rw [e2]
      constructor
      · rintro (h | ⟨h, y, hy, e⟩)
        · exact Or.inl h
        · exact Or.inr ⟨h, y, by simp [hy], e⟩
      · rintro (h | ⟨h, y, hy, e⟩)
        · exact Or.inl h
        · rcases List.mem_cons.1 hy with rfl | hy
          · omega
          · exact Or.inr ⟨h, y, hy, e⟩
theorem needs_iff (g : DGraph) (e k : Int) : k ∈ m_order_Needs g e ↔ 0 ≤ k ∧ ∃ x ∈ inputs g e, mkD g x = k := by
  unfold m_order_Needs
  rw [concat_eq]
  obtain ⟨o, e1, e2⟩ := needs_L1_iff g ([(g.edges.getD e.toNat default).ins, (g.edges.getD e.toNat default).implicit, (g.edges.getD e.toNat default).order].flatten) 0 []
  rw [e1]
  show k ∈ o ↔ _
  rw [e2]
  simp [inputs]
theorem rneeds_L1_iff (g : DGraph) : ∀ (xs : List ByteArray) (i : Nat) (out : List Int), ∃ out', m_ref1_Needs_L1 g xs i out = Lp.brk out' ∧ ∀ k, k ∈ out' ↔ k ∈ out ∨ (0 ≤ k ∧ ∃ x ∈ xs, mkD g x = k)
  | [], i, out => ⟨out, rfl, fun k => by simp⟩
  | x :: xs, i, out => by
    rw [m_ref1_Needs_L1, makerOf_mkD]
    by_cases h1 : 0 ≤ mkD g x
    · obtain ⟨o, e1, e2⟩ := rneeds_L1_iff g xs (i + 1) (out ++ [mkD g x])
      refine ⟨o, by simp [h1, e1], fun k => ?_⟩
      rw [e2, List.mem_append, List.mem_singleton]
      constructor
      · rintro ((h | h) | ⟨h, y, hy, e⟩)
        · exact Or.inl h
        · subst h; exact Or.inr ⟨h1, x, by simp, rfl⟩
        · exact Or.inr ⟨h, y, by simp [hy], e⟩
      · rintro (h | ⟨h, y, hy, e⟩)
        · exact Or.inl (Or.inl h)
        · rcases List.mem_cons.1 hy with rfl | hy
          · exact Or.inl (Or.inr e.symm)
          · exact Or.inr ⟨h, y, hy, e⟩
    · obtain ⟨o, e1, e2⟩ := rneeds_L1_iff g xs (i + 1) out
      refine ⟨o, by simp [h1, e1], fun k => ?_⟩
      rw [e2]
      constructor
      · rintro (h | ⟨h, y, hy, e⟩)
        · exact Or.inl h
        · exact Or.inr ⟨h, y, by simp [hy], e⟩
      · rintro (h | ⟨h, y, hy, e⟩)
        · exact Or.inl h
        · rcases List.mem_cons.1 hy with rfl | hy
          · omega
          · exact Or.inr ⟨h, y, hy, e⟩
theorem rneeds_iff (g : DGraph) (e k : Int) : k ∈ m_ref1_Needs g e ↔ 0 ≤ k ∧ ∃ x ∈ inputs g e, mkD g x = k := by
  unfold m_ref1_Needs
  obtain ⟨o, e1, e2⟩ := rneeds_L1_iff g (((g.edges.getD e.toNat default).ins ++ (g.edges.getD e.toNat default).implicit) ++ (g.edges.getD e.toNat default).order) 0 []
  rw [e1]
  show k ∈ o ↔ _
  rw [e2]
  simp [inputs]
theorem needs_same (g : DGraph) (e k : Int) : k ∈ m_order_Needs g e ↔ k ∈ m_ref1_Needs g e := by rw [needs_iff, rneeds_iff]
theorem mkD_lt (g : DGraph) (x : ByteArray) : mkD g x < (g.edges.length : Int) := by
  rcases mkD_in g x with h | ⟨i, e, h, he, _⟩
  · rw [h]; omega
  · rw [h]; have := (List.getElem?_eq_some_iff.1 he).1; omega
theorem rneeds_mem {g : DGraph} {e k : Int} (h : k ∈ m_ref1_Needs g e) : 0 ≤ k ∧ k.toNat < g.edges.length := by
  obtain ⟨h0, x, _, e1⟩ := (rneeds_iff g e k).1 h
  have := mkD_lt g x
  omega

theorem rneeds_L1_len (g : DGraph) : ∀ (xs : List ByteArray) (i : Nat) (out : List Int), ∃ out', m_ref1_Needs_L1 g xs i out = Lp.brk out' ∧ out'.length ≤ out.length + xs.length
  | [], i, out => ⟨out, rfl, by simp⟩
  | x :: xs, i, out => by
    rw [m_ref1_Needs_L1]
    cases decide ((0 : Int) ≤ m_ref1_MakerOf g x)
    · obtain ⟨o, e1, e2⟩ := rneeds_L1_len g xs (i + 1) out
      exact ⟨o, e1, by simp; omega⟩
    · obtain ⟨o, e1, e2⟩ := rneeds_L1_len g xs (i + 1) (out ++ [m_ref1_MakerOf g x])
      refine ⟨o, e1, ?_⟩
      simp only [List.length_append, List.length_cons, List.length_nil] at e2 ⊢; omega
theorem rneeds_len (g : DGraph) (e : Int) : (m_ref1_Needs g e).length ≤ needsN g e := by
  unfold m_ref1_Needs
  obtain ⟨o, e1, e2⟩ := rneeds_L1_len g (((g.edges.getD e.toNat default).ins ++ (g.edges.getD e.toNat default).implicit) ++ (g.edges.getD e.toNat default).order) 0 []
  rw [e1]
  show o.length ≤ _
  simp only [List.length_append, List.length_nil] at e2
  unfold needsN; omega
/-! what comes first -/
def freeP (g : DGraph) (out : List Int) (i : Nat) : Bool := !(out.contains ((i : Nat) : Int)) && (m_order_Needs g ((i : Nat) : Int)).all fun k => out.contains k
def nextP (g : DGraph) (out : List Int) : Option Nat := (List.range g.edges.length).find? (freeP g out)
def ordF (g : DGraph) : Nat → List Int → Option (List Int)
  | 0, out => some out
  | f + 1, out => match nextP g out with
    | some i => ordF g f (out ++ [((i : Nat) : Int)])
    | none => none
theorem of_L3_eq (g : DGraph) (c : List Int) : ∀ (l i : Nat), m_order_Of_L3 ((List.range' i l).map fun i => m_order_Needs g ((i : Nat) : Int)) i c = match (List.range' i l).find? (freeP g c) with
    | some j => Lp.brk (true, c ++ [((j : Nat) : Int)])
    | none => Lp.brk (false, c)
  | 0, i => rfl
  | l + 1, i => by
    rw [List.range'_succ, List.map_cons, m_order_Of_L3, of_L3_eq g c l (i + 1), List.find?_cons]
    have e : (!(m_order_Of_1 ((i : Nat) : Int) c) && !(m_slices_ContainsFunc_int_int (m_order_Needs g ((i : Nat) : Int)) (fun z0 => m_order_Of_2 z0 (fun z0 => m_order_Of_1 z0 c)))) = freeP g c i := by
      unfold freeP m_order_Of_1 m_order_Of_2
      rw [containsFunc_int]
      simp only [contains_int]
      congr 1
      rw [Bool.eq_iff_iff]; simp
    rw [← e]
    cases (!(m_order_Of_1 ((i : Nat) : Int) c)) <;> cases (!(m_slices_ContainsFunc_int_int (m_order_Needs g ((i : Nat) : Int)) (fun z0 => m_order_Of_2 z0 (fun z0 => m_order_Of_1 z0 c)))) <;> rfl
theorem of_L1_eq (g : DGraph) : ∀ (xs : List (List Int)) (i : Nat) (row : List (List Int)), i + xs.length ≤ row.length → ∃ row', m_order_Of_L1 g xs i row = Lp.brk row' ∧ row'.length = row.length ∧ ∀ j, row'[j]? = if i ≤ j ∧ j < i + xs.length then some (m_order_Needs g ((j : Nat) : Int)) else row[j]?
  | [], i, row, h => ⟨row, rfl, rfl, fun j => by rw [if_neg (by simp)]⟩
  | x :: xs, i, row, h => by
    simp only [List.length_cons] at h
    obtain ⟨r, e1, e2, e3⟩ := of_L1_eq g xs (i + 1) (row.set i (m_order_Needs g ((i : Nat) : Int))) (by simp; omega)
    refine ⟨r, by rw [m_order_Of_L1]; exact e1, by simpa using e2, fun j => ?_⟩
    rw [e3, List.getElem?_set, List.length_cons]
    by_cases h1 : i = j
    · subst h1; rw [if_neg (by omega), if_pos rfl]
      have : i < row.length := by omega
      simp [this]
    · rw [if_neg h1]
      by_cases h2 : i + 1 ≤ j ∧ j < i + 1 + xs.length
      · rw [if_pos h2, if_pos (by omega)]
      · rw [if_neg h2, if_neg (by omega)]
theorem of_rows (g : DGraph) : m_order_Of_L1 g (List.replicate g.edges.length ([] : List Int)) 0 (List.replicate g.edges.length ([] : List Int)) = Lp.brk ((List.range' 0 g.edges.length).map fun i => m_order_Needs g ((i : Nat) : Int)) := by
  obtain ⟨r, e1, e2, e3⟩ := of_L1_eq g (List.replicate g.edges.length ([] : List Int)) 0 (List.replicate g.edges.length ([] : List Int)) (by simp)
  rw [e1]; congr 1
  apply List.ext_getElem?
  intro j
  rw [e3, List.getElem?_map]
  simp only [List.length_replicate] at e2 ⊢
  by_cases h : j < g.edges.length
  · rw [if_pos ⟨Nat.zero_le _, by omega⟩, List.getElem?_range' h]; simp
  · rw [if_neg (by omega), List.getElem?_eq_none (by simp; omega), List.getElem?_eq_none (by simp; omega)]; rfl
theorem of_L2_eq (g : DGraph) : ∀ (f : Nat) (c : List Int), c.length ≤ g.edges.length → g.edges.length - c.length < f → m_order_Of_L2 g ((List.range' 0 g.edges.length).map fun i => m_order_Needs g ((i : Nat) : Int)) f c = match ordF g (g.edges.length - c.length) c with
    | some o => Lp.brk o
    | none => Lp.ret (([] : List Int), (1001 : Int))
  | 0, c, h1, h2 => by omega
  | f + 1, c, h1, h2 => by
    rw [m_order_Of_L2]
    by_cases h : c.length < g.edges.length
    · rw [decide_eq_true (by omega), cond_true, of_L3_eq, ← List.range_eq_range']
      rw [show g.edges.length - c.length = (g.edges.length - (c.length + 1)) + 1 by omega, ordF]
      show (match (match nextP g c with | some j => Lp.brk (true, c ++ [((j : Nat) : Int)]) | none => Lp.brk (false, c) : Lp (List Int × Int) (Bool × List Int)) with | Lp.ret r => Lp.ret r | Lp.brk (t', c') => _) = _
      cases hn : nextP g c with
      | none => rfl
      | some j =>
        simp only [cond_true]
        have := of_L2_eq g f (c ++ [((j : Nat) : Int)]) (by simp; omega) (by simp; omega)
        rw [List.length_append, List.length_singleton, ← List.range_eq_range'] at this
        exact this
    · rw [decide_eq_false (by omega), cond_false, show g.edges.length - c.length = 0 by omega]; rfl
theorem of_eq (g : DGraph) : m_order_Of g = if m_graph_Check g = 0 then (match ordF g g.edges.length [] with | some o => (o, (0 : Int)) | none => (([] : List Int), (1001 : Int))) else (([] : List Int), (1000 : Int)) := by
  unfold m_order_Of
  by_cases h : m_graph_Check g = 0
  · rw [if_pos h, decide_eq_true h]
    simp only [Bool.not_true, cond_false]
    rw [of_rows]
    simp only []
    rw [of_L2_eq g _ [] (Nat.zero_le _) (by simp)]
    simp only [List.length_nil, Nat.sub_zero]
    cases ordF g g.edges.length [] <;> rfl
  · rw [if_neg h, decide_eq_false h]; rfl
inductive Steps (g : DGraph) : List Int → Prop
  | nil : Steps g []
  | snoc {out : List Int} {i : Nat} (h : Steps g out) (hn : nextP g out = some i) : Steps g (out ++ [((i : Nat) : Int)])
theorem ordF_steps (g : DGraph) : ∀ (f : Nat) (out o : List Int), Steps g out → ordF g f out = some o → Steps g o ∧ o.length = out.length + f ∧ ∃ r, o = out ++ r
  | 0, out, o, h, e => by simp only [ordF, Option.some.injEq] at e; subst e; exact ⟨h, rfl, [], by simp⟩
  | f + 1, out, o, h, e => by
    simp only [ordF] at e
    split at e
    · rename_i i hi
      obtain ⟨h1, h2, r, h3⟩ := ordF_steps g f _ o (h.snoc hi) e
      exact ⟨h1, by rw [h2]; simp; omega, [((i : Nat) : Int)] ++ r, by rw [h3]; simp⟩
    · cases e
theorem of_steps {g : DGraph} (h : (m_order_Of g).2 = 0) : Steps g (m_order_Of g).1 ∧ (m_order_Of g).1.length = g.edges.length ∧ m_graph_Check g = 0 := by
  rw [of_eq] at h ⊢
  split at h <;> rename_i hc
  · rw [if_pos hc]
    cases ho : ordF g g.edges.length [] with
    | none => rw [ho] at h; simp at h
    | some o =>
      obtain ⟨h1, h2, _⟩ := ordF_steps g _ _ _ .nil ho
      exact ⟨h1, by simpa using h2, hc⟩
  · simp at h
theorem of_none {g : DGraph} (h : (m_order_Of g).2 ≠ 0) : (m_order_Of g).1 = [] := by
  rw [of_eq] at h ⊢
  split at h <;> rename_i hc
  · rw [if_pos hc]
    cases ho : ordF g g.edges.length [] with
    | none => rfl
    | some o => rw [ho] at h; simp at h
  · rw [if_neg hc]
theorem nextP_spec {g : DGraph} {out : List Int} {i : Nat} (h : nextP g out = some i) : i < g.edges.length ∧ freeP g out i = true ∧ ∀ k, k < i → freeP g out k = false := by
  unfold nextP at h
  have h1 := List.mem_of_find?_eq_some h
  refine ⟨by simpa using h1, List.find?_some h, fun k hk => ?_⟩
  have := List.find?_range_eq_some.1 h
  simpa using this.2.2 k hk
theorem steps_take {g : DGraph} {o : List Int} (h : Steps g o) : ∀ (k : Nat) (x : Int), o[k]? = some x → ∃ i : Nat, x = ((i : Nat) : Int) ∧ Steps g (o.take k) ∧ nextP g (o.take k) = some i := by
  induction h with
  | nil => intro k x hx; simp at hx
  | @snoc out i h hn ih =>
    intro k x hx
    rcases Nat.lt_trichotomy k out.length with q | q | q
    · rw [List.getElem?_append_left q] at hx
      obtain ⟨j, h1, h2, h3⟩ := ih k x hx
      rw [List.take_append_of_le_length (Nat.le_of_lt q)]
      exact ⟨j, h1, h2, h3⟩
    · subst q
      rw [List.getElem?_append_right (Nat.le_refl _), Nat.sub_self] at hx
      simp at hx; subst hx
      exact ⟨i, rfl, by simpa using h, by simpa using hn⟩
    · rw [List.getElem?_eq_none (by simp; omega)] at hx; cases hx
end
end Go.Lift
namespace Go.Lift
noncomputable section
open Go Go.RowKit
set_option linter.unusedSimpArgs false
set_option linter.unusedVariables false
set_option linter.unusedSectionVars false
set_option maxRecDepth 20000
theorem law10_awake_true : m_law10_awake = true := by kernel_rfl
theorem law20_awake_true : m_law20_awake = true := by kernel_rfl
end
end Go.Lift
namespace Go.Lift
noncomputable section
open Go Go.RowKit
set_option linter.unusedSimpArgs false
set_option linter.unusedVariables false
set_option linter.unusedSectionVars false
set_option maxRecDepth 20000
def flagsOf (n : Nat) (out : List Int) : List Bool := (List.range n).map fun k => out.contains ((k : Nat) : Int)
theorem flags_len (n : Nat) (out : List Int) : (flagsOf n out).length = n := by simp [flagsOf]
theorem flags_get {n k : Nat} (out : List Int) (h : k < n) : (flagsOf n out).getD k default = out.contains ((k : Nat) : Int) := by
  unfold flagsOf
  rw [List.getD_eq_getElem?_getD, List.getElem?_map, List.getElem?_range h]; rfl
theorem flags_nil (n : Nat) : flagsOf n [] = List.replicate n false := by
  apply List.ext_getElem?
  intro i
  unfold flagsOf
  rw [List.getElem?_map, List.getElem?_replicate]
  by_cases h : i < n
  · rw [List.getElem?_range h, if_pos h]; rfl
  · rw [List.getElem?_eq_none (by simp; omega), if_neg h]; rfl
theorem flags_set {n i : Nat} (out : List Int) (h : i < n) : (flagsOf n out).set i true = flagsOf n (out ++ [((i : Nat) : Int)]) := by
  apply List.ext_getElem?
  intro k
  unfold flagsOf
  rw [List.getElem?_set, List.getElem?_map, List.getElem?_map]
  by_cases hk : k < n
  · rw [List.getElem?_range hk]
    simp only [List.length_map, List.length_range, Option.map_some]
    by_cases e : i = k
    · subst e; rw [if_pos rfl, if_pos h]; simp
    · rw [if_neg e]; congr 1; rw [Bool.eq_iff_iff]; simp; omega
  · rw [List.getElem?_eq_none (by simp; omega)]
    rw [if_neg (by omega)]; rfl
theorem free_eq (g : DGraph) (out : List Int) (e : Int) : m_law10_free g (flagsOf g.edges.length out) e = (m_order_Needs g e).all fun k => out.contains k := by
  unfold m_law10_free
  rw [lp_all (L := m_law10_free_L1 (flagsOf g.edges.length out)) (p := fun k : Int => (flagsOf g.edges.length out).getD k.toNat default) (fun _ => rfl) (fun _ _ _ => rfl)]
  have key : (m_ref1_Needs g e).all (fun k : Int => (flagsOf g.edges.length out).getD k.toNat default) = (m_order_Needs g e).all fun k => out.contains k := by
    rw [Bool.eq_iff_iff, List.all_eq_true, List.all_eq_true]
    constructor
    · intro h k hk
      have hk' := (needs_same g e k).1 hk
      have h1 := h k hk'
      obtain ⟨m1, m2⟩ := rneeds_mem hk'
      rw [flags_get out m2, show ((k.toNat : Nat) : Int) = k by omega] at h1
      exact h1
    · intro h k hk
      have h1 := h k ((needs_same g e k).2 hk)
      obtain ⟨m1, m2⟩ := rneeds_mem hk
      rw [flags_get out m2, show ((k.toNat : Nat) : Int) = k by omega]
      exact h1
  rw [key]
  cases (m_order_Needs g e).all fun k => out.contains k <;> rfl
theorem on_L2 (g : DGraph) (out : List Int) (i : Nat) (hi : i ≤ g.edges.length) (hf : ∀ k, k < i → freeP g out k = false) : ∀ (f k : Nat), m_law10_OrderNeeds_L2 ((i : Nat) : Int) (flagsOf g.edges.length out) g f k = Lp.brk ()
  | 0, k => rfl
  | f + 1, k => by
    rw [m_law10_OrderNeeds_L2]
    by_cases h : k < i
    · rw [decide_eq_true (by omega), cond_true, on_L2 g out i hi hf f (k + 1), flags_get out (by omega), free_eq]
      have := hf k h
      unfold freeP at this
      cases h1 : out.contains ((k : Nat) : Int)
      · rw [h1] at this
        simp only [Bool.not_false, Bool.true_and] at this
        rw [this]; rfl
      · rfl
    · rw [decide_eq_false (by omega)]; rfl
theorem on_L1 (g : DGraph) {o : List Int} (hs : Steps g o) : ∀ (l : List Int) (p : Nat), l = o.drop p → ∃ r, m_law10_OrderNeeds_L1 g l p (flagsOf g.edges.length (o.take p)) = Lp.brk r
  | [], p, _ => ⟨_, rfl⟩
  | x :: l, p, hl => by
    have hx : o[p]? = some x := by
      have := congrArg (·[0]?) hl
      simpa using this.symm
    have hl2 : l = o.drop (p + 1) := by
      have := congrArg (List.drop 1) hl
      simpa [List.drop_drop, Nat.add_comm] using this
    obtain ⟨i, rfl, _, hn⟩ := steps_take hs p x hx
    obtain ⟨h1, h2, h3⟩ := nextP_spec hn
    have ht : o.take (p + 1) = o.take p ++ [((i : Nat) : Int)] := by
      rw [List.take_add_one, hx]; rfl
    obtain ⟨r, hr⟩ := on_L1 g hs l (p + 1) hl2
    refine ⟨r, ?_⟩
    rw [m_law10_OrderNeeds_L1, on_L2 g _ i (Nat.le_of_lt h1) h3, free_eq]
    unfold freeP at h2
    rw [Bool.and_eq_true] at h2
    rw [Int.toNat_natCast, flags_get _ h1, flags_set _ h1, ← ht, hr, h2.2]
    rw [decide_eq_false (by omega), decide_eq_false (by omega)]
    have h4 : (o.take p).contains ((i : Nat) : Int) = false := by simpa using h2.1
    rw [h4]; rfl
theorem law10_OrderNeeds_true (g : DGraph) : m_law10_OrderNeeds g = true := by
  unfold m_law10_OrderNeeds m_law0_Num
  rw [law10_awake_true]
  by_cases h : (m_order_Of g).2 = 0
  · obtain ⟨h1, h2, h3⟩ := of_steps h
    rw [decide_eq_true h]
    obtain ⟨r, hr⟩ := on_L1 g h1 (m_order_Of g).1 0 (by simp)
    rw [List.take_zero, flags_nil] at hr
    simp only [Bool.not_true, cond_false, Bool.not_false, Bool.true_and]
    rw [hr]
    simp [h2]
  · rw [decide_eq_false h, of_none h]; rfl
theorem ol_facts {g : DGraph} (which : Int) (h : ((!decide ((m_law0_Num ((m_order_Of g).2)) = (0 : Int))) || ((!decide (((((m_order_Of g).1).length : Nat) : Int) = ((g.edges.length : Nat) : Int))) || decide (((((m_order_Of g).1).length : Nat) : Int) = (0 : Int)))) = false) :
    (m_order_Of g).1.length = g.edges.length ∧ 0 < (m_order_Of g).1.length ∧ g.edges.length ≤ 16 ∧ uMod which (m_order_Of g).1.length < (m_order_Of g).1.length := by
  simp only [Bool.or_eq_false_iff, Bool.not_eq_false', decide_eq_true_eq, decide_eq_false_iff_not, m_law0_Num] at h
  obtain ⟨h1, h2, h3⟩ := h
  obtain ⟨_, h5, h6⟩ := of_steps (of_decide_eq_true h1)
  have h7 := check_len (g := g) (by simp [h6])
  exact ⟨h5, by omega, h7, uMod_lt (by omega)⟩
theorem wn_facts {g : DGraph} {names : List ByteArray} (h : ((!decide ((m_law0_Num ((m_want_Of g names).2)) = (0 : Int))) || (!decide (((((m_want_Of g names).1).length : Nat) : Int) = ((g.edges.length : Nat) : Int)))) = false) : (m_want_Of g names).1.length = g.edges.length := by
  simp only [Bool.or_eq_false_iff, Bool.not_eq_false', decide_eq_true_eq] at h
  omega
end
end Go.Lift
namespace Go.Lift
noncomputable section
open Go Go.RowKit
set_option linter.unusedSimpArgs false
set_option linter.unusedVariables false
set_option linter.unusedSectionVars false
set_option maxRecDepth 20000
/-! an edge less -/
def cutE (g : DGraph) (k : Nat) : DGraph := ⟨g.edges.take k ++ g.edges.drop (k + 1), g.pools, g.defaults⟩
def shI (k i : Nat) : Nat := if i < k then i else i - 1
def unI (k j : Nat) : Nat := if j < k then j else j + 1
def shL (k : Nat) (o : List Int) : List Int := o.filterMap fun x => if x < (k : Int) then some x else if (k : Int) < x then some (x - 1) else none
theorem cut_len {g : DGraph} {k : Nat} (hk : k < g.edges.length) : (cutE g k).edges.length = g.edges.length - 1 := by
  show (g.edges.take k ++ g.edges.drop (k + 1)).length = _
  simp; omega
theorem cut_get {g : DGraph} {k : Nat} (hk : k < g.edges.length) (j : Nat) : (cutE g k).edges[j]? = g.edges[unI k j]? := by
  show (g.edges.take k ++ g.edges.drop (k + 1))[j]? = _
  unfold unI
  by_cases h : j < k
  · rw [if_pos h, List.getElem?_append_left (by simp; omega), List.getElem?_take_of_lt h]
  · rw [if_neg h, List.getElem?_append_right (by simp; omega), List.getElem?_drop]; congr 1; simp; omega
theorem cut_sub (g : DGraph) (k : Nat) : (cutE g k).edges.Sublist g.edges := by
  show (g.edges.take k ++ g.edges.drop (k + 1)).Sublist _
  have h : g.edges = g.edges.take k ++ g.edges.drop k := (List.take_append_drop k g.edges).symm
  conv => rhs; rw [h]
  refine List.Sublist.append (List.Sublist.refl _) ?_
  rw [← List.drop_drop]
  exact List.drop_sublist _ _
theorem cut_may {g : DGraph} {k : Nat} (h : m_graph_May g = true) : m_graph_May (cutE g k) = true := by
  have hs := (cut_sub g k).map eOf
  have h0 : ((g.edges.map eOf).all (edgeIn (gOf g)) && (decide (((g.edges.map eOf).length : Int) ≤ 16) && poolsS (gOf g) && allS (gOf g).defaults)) = true := h
  show (((cutE g k).edges.map eOf).all (edgeIn (gOf g)) && (decide ((((cutE g k).edges.map eOf).length : Int) ≤ 16) && poolsS (gOf g) && allS (gOf g).defaults)) = true
  simp only [Bool.and_eq_true, List.all_eq_true, decide_eq_true_eq] at h0 ⊢
  obtain ⟨h1, ⟨h2, h3⟩, h4⟩ := h0
  exact ⟨fun x hx => h1 x (hs.subset hx), ⟨by have := hs.length_le; omega, h3⟩, h4⟩
theorem sub_flat {α β : Type} (f : α → List β) {xs ys : List α} (h : xs.Sublist ys) : (xs.flatMap f).Sublist (ys.flatMap f) := by
  induction h with
  | slnil => exact List.Sublist.refl _
  | cons a h ih => rw [List.flatMap_cons]; exact ih.trans (List.sublist_append_right _ _)
  | cons_cons a h ih => rw [List.flatMap_cons, List.flatMap_cons]; exact List.Sublist.append (List.Sublist.refl _) ih
theorem cut_check {g : DGraph} {k : Nat} (h : m_graph_Check g = 0) : m_graph_Check (cutE g k) = 0 := by
  rw [check_form] at h ⊢
  cases hm : m_graph_May g
  · rw [hm] at h; simp at h
  · rw [hm] at h
    simp only [Bool.true_eq_false, if_false] at h
    rw [cut_may hm]
    simp only [Bool.true_eq_false, if_false]
    by_cases hn : (g.edges.flatMap (·.outs)).Nodup
    · rw [if_pos (hn.sublist (sub_flat _ (cut_sub g k)))]
    · rw [if_neg hn] at h; simp at h
theorem shI_un {k i : Nat} (h : i ≠ k) : unI k (shI k i) = i := by unfold unI shI; split <;> (try split) <;> omega
theorem un_shI (k j : Nat) : shI k (unI k j) = j := by unfold unI shI; split <;> (try split) <;> omega
theorem cut_mkD {g : DGraph} {k : Nat} (hk : k < g.edges.length) (hc : m_graph_Check g = 0) {x : ByteArray} {i : Nat} (h : mkD g x = ((i : Nat) : Int)) (hi : i ≠ k) : mkD (cutE g k) x = ((shI k i : Nat) : Int) := by
  rcases mkD_in g x with h' | ⟨j, e, h1, h2, h3⟩
  · omega
  · have : j = i := by omega
    subst this
    exact mkD_at (check_nodup (cut_check hc)) (e := e) (by rw [cut_get hk, shI_un hi]; exact h2) h3
theorem cut_mkD_none {g : DGraph} {k : Nat} (hc : m_graph_Check g = 0) {x : ByteArray} (h : mkD g x < 0) : mkD (cutE g k) x = -1 := by
  rcases mkD_in (cutE g k) x with h' | ⟨j, e, h1, h2, h3⟩
  · exact h'
  · obtain ⟨i, hi⟩ := List.getElem?_of_mem ((cut_sub g k).subset (List.mem_of_getElem? h2))
    have := mkD_at (check_nodup hc) hi h3
    omega
theorem shL_cons (k : Nat) (x : Int) (o : List Int) : shL k (x :: o) = (match (if x < (k : Int) then some x else if (k : Int) < x then some (x - 1) else none) with | some y => y :: shL k o | none => shL k o) := by
  unfold shL; rw [List.filterMap_cons]
  generalize (if x < (k : Int) then some x else if (k : Int) < x then some (x - 1) else none) = z
  cases z <;> rfl
theorem mem_shL {k i : Nat} {o : List Int} (hi : i ≠ k) (hn : ∀ x ∈ o, 0 ≤ x) : ((shI k i : Nat) : Int) ∈ shL k o ↔ ((i : Nat) : Int) ∈ o := by
  unfold shL
  rw [List.mem_filterMap]
  constructor
  · rintro ⟨x, hx, h⟩
    have := hn x hx
    split at h
    · simp only [Option.some.injEq] at h
      have : x = ((i : Nat) : Int) := by unfold shI at h; split at h <;> omega
      rw [← this]; exact hx
    · split at h
      · simp only [Option.some.injEq] at h
        have : x = ((i : Nat) : Int) := by unfold shI at h; split at h <;> omega
        rw [← this]; exact hx
      · cases h
  · intro hx
    refine ⟨_, hx, ?_⟩
    unfold shI
    by_cases h : i < k
    · rw [if_pos (by omega), if_pos h]
    · rw [if_neg (by omega), if_pos (by omega), if_neg h]; congr 1; omega
/-- nobody needs k -/
def Spare (g : DGraph) (k : Nat) : Prop := ∀ i : Nat, i < g.edges.length → ((k : Nat) : Int) ∉ m_order_Needs g ((i : Nat) : Int)
theorem inputs_cut {g : DGraph} {k j : Nat} (hk : k < g.edges.length) : inputs (cutE g k) ((j : Nat) : Int) = inputs g ((unI k j : Nat) : Int) := by
  unfold inputs
  simp only [Int.toNat_natCast, List.getD_eq_getElem?_getD, cut_get hk]
theorem free_cut {g : DGraph} {k i : Nat} {out : List Int} (hk : k < g.edges.length) (hc : m_graph_Check g = 0) (hs : Spare g k) (hi : i ≠ k) (hl : i < g.edges.length) (hn : ∀ x ∈ out, 0 ≤ x) : freeP (cutE g k) (shL k out) (shI k i) = freeP g out i := by
  unfold freeP
  congr 1
  · congr 1
    rw [Bool.eq_iff_iff]; simp only [List.contains_iff_mem]
    exact mem_shL hi hn
  · rw [Bool.eq_iff_iff, List.all_eq_true, List.all_eq_true]
    simp only [List.contains_iff_mem]
    constructor
    · intro h m hm
      obtain ⟨h0, x, hx, e⟩ := (needs_iff _ _ _).1 hm
      obtain ⟨m', rfl⟩ : ∃ m' : Nat, m = ((m' : Nat) : Int) := ⟨m.toNat, by omega⟩
      have hmk : m' ≠ k := fun q => hs i hl (by rw [← q]; exact hm)
      have h1 := h ((shI k m' : Nat) : Int) ((needs_iff _ _ _).2 ⟨by omega, x, by rw [inputs_cut hk, shI_un hi]; exact hx, cut_mkD hk hc e hmk⟩)
      exact (mem_shL hmk hn).1 h1
    · intro h m hm
      obtain ⟨h0, x, hx, e⟩ := (needs_iff _ _ _).1 hm
      rw [inputs_cut hk, shI_un hi] at hx
      by_cases hx0 : mkD g x < 0
      · have := cut_mkD_none (k := k) hc hx0; omega
      · obtain ⟨m', hm'⟩ : ∃ m' : Nat, mkD g x = ((m' : Nat) : Int) := ⟨(mkD g x).toNat, by omega⟩
        have hmem : ((m' : Nat) : Int) ∈ m_order_Needs g ((i : Nat) : Int) := (needs_iff _ _ _).2 ⟨by omega, x, hx, hm'⟩
        have hmk : m' ≠ k := fun q => hs i hl (by rw [← q]; exact hmem)
        rw [cut_mkD hk hc hm' hmk] at e
        rw [← e]
        exact (mem_shL hmk hn).2 (h _ hmem)
theorem steps_mem {g : DGraph} {o : List Int} (h : Steps g o) : ∀ x ∈ o, 0 ≤ x ∧ x.toNat < g.edges.length := by
  intro x hx
  obtain ⟨k, hk⟩ := List.getElem?_of_mem hx
  obtain ⟨i, rfl, _, h2⟩ := steps_take h k x hk
  have := (nextP_spec h2).1
  omega
theorem steps_nodup {g : DGraph} {o : List Int} (h : Steps g o) : o.Nodup := by
  induction h with
  | nil => exact List.nodup_nil
  | @snoc out i h hn ih =>
    rw [List.nodup_append]
    refine ⟨ih, by simp, fun a ha b hb => ?_⟩
    simp only [List.mem_singleton] at hb
    subst hb
    have := (nextP_spec hn).2.1
    unfold freeP at this
    rw [Bool.and_eq_true] at this
    intro e; subst e
    simp [ha] at this
theorem nextP_of {g : DGraph} {out : List Int} {i : Nat} (hl : i < g.edges.length) (h : freeP g out i = true) (hf : ∀ k, k < i → freeP g out k = false) : nextP g out = some i := by
  unfold nextP
  rw [List.find?_range_eq_some]
  exact ⟨h, by simpa using hl, fun j hj => by simpa using hf j hj⟩
theorem steps_cut {g : DGraph} {k : Nat} (hk : k < g.edges.length) (hc : m_graph_Check g = 0) (hs : Spare g k) {o : List Int} (h : Steps g o) : Steps (cutE g k) (shL k o) := by
  induction h with
  | nil => exact .nil
  | @snoc out i h hn ih =>
    obtain ⟨h1, h2, h3⟩ := nextP_spec hn
    have hnn : ∀ x ∈ out, 0 ≤ x := fun x hx => (steps_mem h x hx).1
    by_cases e : i = k
    · subst e
      have : shL i (out ++ [((i : Nat) : Int)]) = shL i out := by unfold shL; rw [List.filterMap_append]; simp
      rw [this]; exact ih
    · have : shL k (out ++ [((i : Nat) : Int)]) = shL k out ++ [((shI k i : Nat) : Int)] := by
        unfold shL
        rw [List.filterMap_append]
        congr 1
        unfold shI
        by_cases h : i < k
        · simp [h]
        · have : k < i := by omega
          simp only [List.filterMap_cons, List.filterMap_nil]
          rw [if_neg (by omega), if_pos (by omega), if_neg h]
          simp only [List.cons.injEq, and_true]; omega
      rw [this]
      refine ih.snoc (nextP_of ?_ ?_ fun j hj => ?_)
      · rw [cut_len hk]; unfold shI; split <;> omega
      · rw [free_cut hk hc hs e h1 hnn]; exact h2
      · have hj2 : unI k j < i := by unfold unI shI at *; split <;> split at hj <;> omega
        have hj3 : unI k j ≠ k := by unfold unI; split <;> omega
        rw [← un_shI k j, free_cut hk hc hs hj3 (by omega) hnn]
        exact h3 _ hj2
theorem nodup_len : ∀ (n : Nat) (o : List Int), o.Nodup → (∀ x ∈ o, 0 ≤ x ∧ x.toNat < n) → o.length ≤ n
  | 0, o, _, h => by
    cases o with
    | nil => simp
    | cons x o => have := h x (by simp); omega
  | n + 1, o, hn, h => by
    by_cases hm : ((n : Nat) : Int) ∈ o
    · have h1 := nodup_len n (o.erase ((n : Nat) : Int)) (hn.erase _) (fun x hx => by
        have h2 := (hn.mem_erase_iff).1 hx
        have h3 := h x h2.2
        have h4 := h2.1
        omega)
      rw [List.length_erase_of_mem hm] at h1
      omega
    · have h1 := nodup_len n o hn (fun x hx => by
        have h3 := h x hx
        have : x ≠ ((n : Nat) : Int) := fun e => hm (e ▸ hx)
        omega)
      omega
theorem ordF_of {g : DGraph} {o : List Int} (h : Steps g o) : ∀ f, ordF g (o.length + f) [] = ordF g f o := by
  induction h with
  | nil => intro f; simp
  | @snoc out i h hn ih =>
    intro f
    rw [List.length_append, List.length_singleton, Nat.add_assoc, Nat.add_comm 1 f, ih (f + 1), ordF, hn]
theorem of_of {g : DGraph} {o : List Int} (hc : m_graph_Check g = 0) (h : Steps g o) (hl : o.length = g.edges.length) : m_order_Of g = (o, 0) := by
  rw [of_eq, if_pos hc]
  have := ordF_of h 0
  rw [Nat.add_zero, hl] at this
  rw [this]; rfl
theorem shL_len {k : Nat} : ∀ {o : List Int}, o.Nodup → ((k : Nat) : Int) ∈ o → (shL k o).length + 1 = o.length
  | [], _, h => by simp at h
  | x :: o, hn, h => by
    rw [List.nodup_cons] at hn
    have hcons := shL_cons k x o
    by_cases e : x = ((k : Nat) : Int)
    · rw [hcons, if_neg (by omega), if_neg (by omega)]
      have hno : ∀ o : List Int, ((k : Nat) : Int) ∉ o → (shL k o).length = o.length := by
        intro o
        induction o with
        | nil => intro _; rfl
        | cons y o ih =>
          intro hy
          have h1 : y ≠ ((k : Nat) : Int) := fun q => hy (by simp [q])
          have h2 := ih fun q => hy (by simp [q])
          have hc2 := shL_cons k y o
          rw [hc2]
          by_cases h3 : y < (k : Int)
          · rw [if_pos h3]; simp [h2]
          · rw [if_neg h3, if_pos (by omega)]; simp [h2]
      simp only [List.length_cons]
      rw [hno o (by rw [← e]; exact hn.1)]
    · have hk : ((k : Nat) : Int) ∈ o := by
        rcases List.mem_cons.1 h with h | h
        · exact absurd h.symm e
        · exact h
      have ih := shL_len hn.2 hk
      rw [hcons]
      by_cases h3 : x < (k : Int)
      · rw [if_pos h3]; simp only [List.length_cons]; omega
      · rw [if_neg h3, if_pos (by omega)]; simp only [List.length_cons]; omega
theorem ol_L3 (which : Int) (g : DGraph) : ∀ (l : List Int) (i : Nat) (want : List Int), m_law10_OrderLess_L3 which g l i want = Lp.brk (want ++ shL (uMod which (m_order_Of g).1.length) l)
  | [], i, want => by rw [m_law10_OrderLess_L3]; simp [shL]
  | x :: l, i, want => by
    rw [m_law10_OrderLess_L3, ol_L3 which g l, ol_L3 which g l]
    have hcons := shL_cons (uMod which (m_order_Of g).1.length) x l
    rw [hcons]
    by_cases h1 : x < ((uMod which (m_order_Of g).1.length : Nat) : Int)
    · rw [if_pos h1, decide_eq_true h1, decide_eq_false (by omega)]; simp
    · by_cases h2 : ((uMod which (m_order_Of g).1.length : Nat) : Int) < x
      · rw [if_neg h1, if_pos h2, decide_eq_false h1, decide_eq_true h2]; simp
      · rw [if_neg h1, if_neg h2, decide_eq_false h1, decide_eq_false h2]; simp
theorem ol_L2 (which : Int) (g : DGraph) : ∀ (l : List Int) (i : Nat), m_law10_OrderLess_L2 which g l i = if ((uMod which (m_order_Of g).1.length : Nat) : Int) ∈ l then Lp.ret true else Lp.brk ()
  | [], i => by rw [m_law10_OrderLess_L2]; simp
  | x :: l, i => by
    rw [m_law10_OrderLess_L2, ol_L2 which g l]
    by_cases h : x = ((uMod which (m_order_Of g).1.length : Nat) : Int)
    · rw [decide_eq_true h, cond_true, if_pos (by simp [h])]
    · rw [decide_eq_false h]
      by_cases h2 : ((uMod which (m_order_Of g).1.length : Nat) : Int) ∈ l
      · rw [if_pos h2, if_pos (by simp [h2])]; rfl
      · rw [if_neg h2, if_neg (by simp only [List.mem_cons, not_or]; exact ⟨fun q => h q.symm, h2⟩)]; rfl
theorem ol_L1 (which : Int) (g : DGraph) : ∀ (l : List DEdge) (i : Nat), m_law10_OrderLess_L1 which g l i = Lp.ret true ∨ (m_law10_OrderLess_L1 which g l i = Lp.brk () ∧ ∀ j, i ≤ j → j < i + l.length → ((uMod which (m_order_Of g).1.length : Nat) : Int) ∉ m_ref1_Needs g ((j : Nat) : Int))
  | [], i => Or.inr ⟨rfl, fun j h1 h2 => by simp at h2; omega⟩
  | x :: l, i => by
    rw [m_law10_OrderLess_L1, ol_L2]
    by_cases h : ((uMod which (m_order_Of g).1.length : Nat) : Int) ∈ m_ref1_Needs g ((i : Nat) : Int)
    · rw [if_pos h]; exact Or.inl rfl
    · rw [if_neg h]
      rcases ol_L1 which g l (i + 1) with h1 | ⟨h1, h2⟩
      · exact Or.inl h1
      · refine Or.inr ⟨h1, fun j q1 q2 => ?_⟩
        by_cases e : j = i
        · subst e; exact h
        · exact h2 j (by omega) (by simp only [List.length_cons] at q2; omega)
theorem sameInts_L1 (b : List Int) : ∀ (l : List Int) (i : Nat), l = b.drop i → m_law0_SameInts_L1 b l i = Lp.brk ()
  | [], i, _ => rfl
  | x :: l, i, h => by
    have hx : b[i]? = some x := by
      have := congrArg (·[0]?) h
      simpa using this.symm
    have hl : l = b.drop (i + 1) := by
      have := congrArg (List.drop 1) h
      simpa [List.drop_drop, Nat.add_comm] using this
    rw [m_law0_SameInts_L1, sameInts_L1 b l (i + 1) hl, List.getD_eq_getElem?_getD, hx]
    simp
theorem sameInts_refl (b : List Int) : m_law0_SameInts b b = true := by
  unfold m_law0_SameInts
  rw [sameInts_L1 b b 0 (by simp)]
  simp
theorem law10_OrderLess_true (g : DGraph) (which : Int) : m_law10_OrderLess g which = true := by
  unfold m_law10_OrderLess
  rw [law10_awake_true]
  cases hc : ((!decide ((m_law0_Num ((m_order_Of g).2)) = (0 : Int))) || ((!decide (((((m_order_Of g).1).length : Nat) : Int) = ((g.edges.length : Nat) : Int))) || decide (((((m_order_Of g).1).length : Nat) : Int) = (0 : Int))))
  · obtain ⟨f1, f2, f3, f4⟩ := ol_facts which hc
    simp only [Bool.or_eq_false_iff, Bool.not_eq_false', decide_eq_true_eq, m_law0_Num] at hc
    have he : (m_order_Of g).2 = 0 := of_decide_eq_true hc.1
    obtain ⟨s1, s2, s3⟩ := of_steps he
    simp only [Bool.not_true, cond_false, Bool.not_false, Bool.true_and]
    rcases ol_L1 which g g.edges 0 with h | ⟨h, hsp⟩
    · rw [h]
    · rw [h]
      simp only []
      rw [ol_L3]
      generalize hk : uMod which (m_order_Of g).1.length = k at *
      have hkl : k < g.edges.length := by omega
      have hs : Spare g k := fun i hi hm => hsp i (Nat.zero_le _) (by omega) ((needs_same _ _ _).1 hm)
      have hmem : ((k : Nat) : Int) ∈ (m_order_Of g).1 := by
        apply Classical.byContradiction
        intro hno
        have := nodup_len g.edges.length (((k : Nat) : Int) :: (m_order_Of g).1) (List.nodup_cons.2 ⟨hno, steps_nodup s1⟩) (fun x hx => by
          rcases List.mem_cons.1 hx with rfl | hx
          · omega
          · exact steps_mem s1 x hx)
        simp only [List.length_cons] at this; omega
      have hlen := shL_len (steps_nodup s1) hmem
      have hcut := of_of (cut_check (k := k) s3) (steps_cut hkl s3 hs s1) (by rw [cut_len hkl]; omega)
      have hr : (⟨(((g.edges.take k).drop 0) ++ ((g.edges.take g.edges.length).drop (k + 1))), g.pools, g.defaults⟩ : DGraph) = cutE g k := by
        unfold cutE; rw [List.take_length, List.drop_zero]
      rw [hr, hcut]
      simp [m_law0_Num, sameInts_refl]
  · simp only [Bool.not_true, cond_true, Bool.not_false, Bool.true_and]
    by_cases he : (m_order_Of g).2 = 0
    · obtain ⟨s1, s2, s3⟩ := of_steps he
      simp only [m_law0_Num, he, decide_true, Bool.not_true, Bool.false_or, s2] at hc ⊢
      simpa using hc
    · simp [m_law0_Num, he]
end
end Go.Lift
namespace Go.Lift
noncomputable section
open Go Go.RowKit
set_option linter.unusedSimpArgs false
set_option linter.unusedVariables false
set_option linter.unusedSectionVars false
set_option maxRecDepth 20000
/-! what is wanted -/
def mark (v : List Bool) (xs : List Int) : List Bool := xs.foldl (fun v x => v.set x.toNat true) v
theorem mark_nil (v : List Bool) : mark v [] = v := rfl
theorem mark_cons (v : List Bool) (x : Int) (xs : List Int) : mark v (x :: xs) = mark (v.set x.toNat true) xs := rfl
theorem mark_len : ∀ (xs : List Int) (v : List Bool), (mark v xs).length = v.length
  | [], v => rfl
  | x :: xs, v => by rw [mark_cons, mark_len xs]; simp
theorem mark_get : ∀ (xs : List Int) (v : List Bool) (i : Nat), i < v.length → (∀ x ∈ xs, 0 ≤ x) → (mark v xs).getD i default = (v.getD i default || xs.contains ((i : Nat) : Int))
  | [], v, i, h, _ => by simp [mark_nil]
  | x :: xs, v, i, h, hn => by
    rw [mark_cons, mark_get xs _ i (by simpa using h) fun y hy => hn y (by simp [hy]), List.getD_eq_getElem?_getD, List.getElem?_set, List.contains_cons]
    have hx := hn x (by simp)
    by_cases e : x.toNat = i
    · rw [if_pos e, if_pos (by omega)]
      have : (((i : Nat) : Int) == x) = true := by simp; omega
      rw [this]; simp
    · rw [if_neg e]
      have : (((i : Nat) : Int) == x) = false := by simp; omega
      rw [this, List.getD_eq_getElem?_getD]; simp
theorem want_L3 : ∀ (l : List Int) (i : Nat) (v : List Bool), m_want_Of_L3 l i v = Lp.brk (mark v l)
  | [], i, v => rfl
  | x :: l, i, v => by rw [m_want_Of_L3, want_L3 l, mark_cons]
theorem want_L1 (g : DGraph) : ∀ (l : List ByteArray) (i : Nat) (v : List Bool), m_want_Of_L1 g l i v = if (l.all fun x => decide (0 ≤ mkD g x)) = true then Lp.brk (mark v (l.map (mkD g))) else Lp.ret (([] : List Bool), (2001 : Int))
  | [], i, v => rfl
  | x :: l, i, v => by
    rw [m_want_Of_L1, want_L1 g l, makes_mkD, List.all_cons, List.map_cons, mark_cons]
    by_cases h : mkD g x < 0
    · rw [decide_eq_true h, decide_eq_false (by omega)]; rfl
    · rw [decide_eq_false h, decide_eq_true (show 0 ≤ mkD g x by omega)]; simp
def stepW (g : DGraph) (v : List Bool) (e : Int) : List Bool := if v.getD e.toNat default = true then mark v (m_order_Needs g e) else v
def clo (g : DGraph) (o : List Int) (v : List Bool) : List Bool := o.foldl (stepW g) v
theorem stepW_len (g : DGraph) (v : List Bool) (e : Int) : (stepW g v e).length = v.length := by
  unfold stepW; split
  · exact mark_len _ _
  · rfl
theorem clo_len (g : DGraph) : ∀ (o : List Int) (v : List Bool), (clo g o v).length = v.length
  | [], v => rfl
  | e :: o, v => by
    show (clo g o (stepW g v e)).length = _
    rw [clo_len g o, stepW_len]
theorem want_L2 (g : DGraph) : ∀ (f p : Nat) (v : List Bool), p ≤ (m_order_Of g).1.length → p < f → m_want_Of_L2 g f (((p : Nat) : Int) - 1) v = Lp.brk (clo g (((m_order_Of g).1.take p).reverse) v)
  | 0, p, v, _, h => by omega
  | f + 1, 0, v, h1, h2 => by rw [m_want_Of_L2, decide_eq_false (by omega)]; rfl
  | f + 1, p + 1, v, h1, h2 => by
    rw [m_want_Of_L2, decide_eq_true (by omega), cond_true]
    have e1 : (((p + 1 : Nat) : Int) - 1).toNat = p := by omega
    have e2 : ((p + 1 : Nat) : Int) - 1 - 1 = ((p : Nat) : Int) - 1 := by omega
    have hget : (m_order_Of g).1[p]? = some ((m_order_Of g).1.getD p default) := getD_some (by omega)
    have ht : ((m_order_Of g).1.take (p + 1)).reverse = (m_order_Of g).1.getD p default :: ((m_order_Of g).1.take p).reverse := by
      rw [List.take_add_one, hget]; simp
    rw [e1, e2, ht]
    show _ = Lp.brk (clo g (((m_order_Of g).1.take p).reverse) (stepW g v ((m_order_Of g).1.getD p default)))
    rw [want_L3]
    simp only []
    rw [want_L2 g f p _ (by omega) (by omega), want_L2 g f p _ (by omega) (by omega)]
    unfold stepW
    cases v.getD ((m_order_Of g).1.getD p default).toNat default <;> rfl
/-- what is asked for -/
def askN (g : DGraph) (names : List ByteArray) : List ByteArray := if names.length = 0 then g.defaults else names
def askD (g : DGraph) (names : List ByteArray) : List ByteArray := if (askN g names).length = 0 then m_graph_Outs g else askN g names
def wantS (g : DGraph) (ns : List ByteArray) : List Bool := clo g ((m_order_Of g).1.reverse) (mark (List.replicate g.edges.length false) (ns.map (mkD g)))
theorem want_eq (g : DGraph) (names : List ByteArray) : m_want_Of g names = if (m_order_Of g).2 = 0 ∧ m_path_All names 8 = true then (if ((askD g names).all fun x => decide (0 ≤ mkD g x)) = true then (wantS g (askD g names), (0 : Int)) else (([] : List Bool), (2001 : Int))) else (([] : List Bool), (2000 : Int)) := by
  unfold m_want_Of
  by_cases h : (m_order_Of g).2 = 0
  · rw [decide_eq_true h]
    cases hp : m_path_All names 8
    · rw [if_neg (by simp)]; rfl
    · rw [if_pos ⟨h, rfl⟩]
      simp only [Bool.not_true, cond_false]
      have e1 : (bif decide (((names.length : Nat) : Int) = (0 : Int)) then g.defaults else names) = askN g names := by
        unfold askN
        by_cases hn : names.length = 0
        · rw [decide_eq_true (by omega), if_pos hn]; rfl
        · rw [decide_eq_false (by omega), if_neg hn]; rfl
      have e2 : (bif decide ((((askN g names).length : Nat) : Int) = (0 : Int)) then (m_graph_Outs g) else askN g names) = askD g names := by
        unfold askD
        by_cases hn : (askN g names).length = 0
        · rw [decide_eq_true (by omega), if_pos hn]; rfl
        · rw [decide_eq_false (by omega), if_neg hn]; rfl
      rw [e1, e2, want_L1]
      by_cases ha : ((askD g names).all fun x => decide (0 ≤ mkD g x)) = true
      · rw [if_pos ha, if_pos ha]
        simp only []
        rw [want_L2 g _ (m_order_Of g).1.length _ (Nat.le_refl _) (by omega), List.take_length]
        rfl
      · rw [if_neg ha, if_neg ha]
  · rw [decide_eq_false h, if_neg (fun q => h q.1)]; rfl

theorem needs_pos {g : DGraph} {e x : Int} (h : x ∈ m_order_Needs g e) : 0 ≤ x := (needs_mem h).1
theorem stepW_get {g : DGraph} {v : List Bool} {e : Int} {i : Nat} (hi : i < v.length) : (stepW g v e).getD i default = (v.getD i default || (v.getD e.toNat default && (m_order_Needs g e).contains ((i : Nat) : Int))) := by
  unfold stepW
  cases h : v.getD e.toNat default
  · simp
  · rw [if_pos rfl, mark_get _ _ _ hi fun x hx => needs_pos hx]; simp
/-- of two -/
theorem stepW_or {g : DGraph} {v w u : List Bool} (hv : v.length = u.length) (hw : w.length = u.length) (h : ∀ i, i < u.length → u.getD i default = (v.getD i default || w.getD i default)) (e : Int) (he : e.toNat < u.length) :
    ∀ i, i < u.length → (stepW g u e).getD i default = ((stepW g v e).getD i default || (stepW g w e).getD i default) := by
  intro i hi
  rw [stepW_get hi, stepW_get (by omega), stepW_get (by omega), h i hi, h _ he]
  cases v.getD i default <;> cases w.getD i default <;> cases v.getD e.toNat default <;> cases w.getD e.toNat default <;> cases (m_order_Needs g e).contains ((i : Nat) : Int) <;> rfl
theorem clo_or {g : DGraph} : ∀ (o : List Int) {v w u : List Bool}, v.length = u.length → w.length = u.length → (∀ e ∈ o, e.toNat < u.length) → (∀ i, i < u.length → u.getD i default = (v.getD i default || w.getD i default)) → ∀ i, i < u.length → (clo g o u).getD i default = ((clo g o v).getD i default || (clo g o w).getD i default)
  | [], v, w, u, hv, hw, ho, h, i, hi => h i hi
  | e :: o, v, w, u, hv, hw, ho, h, i, hi => by
    show (clo g o (stepW g u e)).getD i default = ((clo g o (stepW g v e)).getD i default || (clo g o (stepW g w e)).getD i default)
    exact clo_or o (by simp [stepW_len, hv]) (by simp [stepW_len, hw]) (fun x hx => by rw [stepW_len]; exact ho x (by simp [hx])) (fun j hj => by
      rw [stepW_len] at hj; exact stepW_or hv hw h e (ho e (by simp)) j hj) i (by rw [stepW_len]; exact hi)
theorem wantS_len (g : DGraph) (ns : List ByteArray) : (wantS g ns).length = g.edges.length := by
  unfold wantS; rw [clo_len, mark_len]; simp
theorem of_lt {g : DGraph} {e : Int} (h : e ∈ (m_order_Of g).1) : e.toNat < g.edges.length := (of_mem h).2
theorem getD_rep (n i : Nat) : (List.replicate n false).getD i default = false := by
  rw [List.getD_eq_getElem?_getD, List.getElem?_replicate]; split <;> rfl
theorem wantS_app (g : DGraph) (ns ms : List ByteArray) (hn : ∀ x ∈ ns, 0 ≤ mkD g x) (hm : ∀ x ∈ ms, 0 ≤ mkD g x) {i : Nat} (hi : i < g.edges.length) : (wantS g (ns ++ ms)).getD i default = ((wantS g ns).getD i default || (wantS g ms).getD i default) := by
  unfold wantS
  refine clo_or _ (by simp [mark_len]) (by simp [mark_len]) (fun e he => ?_) (fun j hj => ?_) i (by simpa [mark_len] using hi)
  · simp only [mark_len, List.length_replicate]; exact of_lt (List.mem_reverse.1 he)
  · simp only [mark_len, List.length_replicate] at hj
    have hmap : ∀ l : List ByteArray, (∀ x ∈ l, 0 ≤ mkD g x) → ∀ k ∈ l.map (mkD g), 0 ≤ k := by
      intro l hl k hk
      obtain ⟨x, hx, rfl⟩ := List.mem_map.1 hk
      exact hl x hx
    have hnm : ∀ x ∈ ns ++ ms, 0 ≤ mkD g x := by
      intro x hx
      rcases List.mem_append.1 hx with hx | hx
      · exact hn x hx
      · exact hm x hx
    rw [mark_get _ _ _ (by simpa using hj) (hmap _ hnm), mark_get _ _ _ (by simpa using hj) (hmap _ hn), mark_get _ _ _ (by simpa using hj) (hmap _ hm), List.map_append, getD_rep]
    rw [Bool.eq_iff_iff]; simp
theorem all_path (xs : List ByteArray) : m_path_All xs 8 = (xs.all (fun s => m_path_Is s) && decide (((xs.length : Nat) : Int) ≤ 8)) := by
  unfold m_path_All
  rw [lp_all (L := m_path_All_L1) (p := fun s => m_path_Is s) (fun _ => rfl) (fun _ _ _ => rfl)]
  cases xs.all (fun s => m_path_Is s) <;> rfl
theorem wm_L1 (g : DGraph) (x y : ByteArray) : ∀ (l : List Bool) (i : Nat), (∀ j b, l[j]? = some b → b = (((m_want_Of g [x]).1).getD (i + j) default || ((m_want_Of g [y]).1).getD (i + j) default)) → m_law20_WantMore_L1 g x y l i = Lp.brk ()
  | [], i, _ => rfl
  | b :: l, i, h => by
    have h0 := h 0 b rfl
    rw [Nat.add_zero] at h0
    rw [m_law20_WantMore_L1, wm_L1 g x y l (i + 1) (fun j c hj => by rw [show i + 1 + j = i + (j + 1) by omega]; exact h (j + 1) c (by simpa using hj)), h0]
    cases ((m_want_Of g [x]).1).getD i default <;> cases ((m_want_Of g [y]).1).getD i default <;> rfl
theorem law20_WantMore_true (g : DGraph) (x y : ByteArray) : m_law20_WantMore g x y = true := by
  unfold m_law20_WantMore
  rw [law20_awake_true]
  simp only [m_law0_Num]
  by_cases ho : (m_order_Of g).2 = 0
  · by_cases hx : m_path_Is x = true ∧ 0 ≤ mkD g x
    · by_cases hy : m_path_Is y = true ∧ 0 ≤ mkD g y
      · have e1 : m_want_Of g [x] = (wantS g [x], 0) := by
          rw [want_eq, if_pos ⟨ho, by rw [all_path]; simp [hx.1]⟩, if_pos (by simp [askD, askN, hx.2])]; simp [askD, askN]
        have e2 : m_want_Of g [y] = (wantS g [y], 0) := by
          rw [want_eq, if_pos ⟨ho, by rw [all_path]; simp [hy.1]⟩, if_pos (by simp [askD, askN, hy.2])]; simp [askD, askN]
        have e3 : m_want_Of g [x, y] = (wantS g [x, y], 0) := by
          rw [want_eq, if_pos ⟨ho, by rw [all_path]; simp [hx.1, hy.1]⟩, if_pos (by simp [askD, askN, hx.2, hy.2])]; simp [askD, askN]
        have hl := wm_L1 g x y (m_want_Of g [x, y]).1 0 (fun j b hj => by
          rw [e3] at hj
          rw [e1, e2, Nat.zero_add]
          have hjl := (List.getElem?_eq_some_iff.1 hj).1
          rw [wantS_len] at hjl
          have := wantS_app g [x] [y] (by simpa using hx.2) (by simpa using hy.2) hjl
          rw [show [x] ++ [y] = [x, y] from rfl, List.getD_eq_getElem?_getD] at this
          simp only [hj, Option.getD_some] at this
          exact this)
        rw [hl]
        simp [e1, e2, e3, wantS_len]
      · have e2 : (m_want_Of g [y]).2 ≠ 0 := by
          rw [want_eq]; split
          · rename_i h
            rw [all_path] at h
            rw [if_neg (by simp [askD, askN]; simp at h; have := h.2; by_cases q : 0 ≤ mkD g y; exact absurd ⟨this, q⟩ hy; omega)]; simp
          · simp
        have e3 : (m_want_Of g [x, y]).2 ≠ 0 := by
          rw [want_eq]; split
          · rename_i h
            rw [all_path] at h
            rw [if_neg (by simp [askD, askN]; simp at h; intro _; by_cases q : 0 ≤ mkD g y; exact absurd ⟨h.2.2, q⟩ hy; omega)]; simp
          · simp
        simp [e2, e3]
    · have e1 : (m_want_Of g [x]).2 ≠ 0 := by
        rw [want_eq]; split
        · rename_i h
          rw [all_path] at h
          rw [if_neg (by simp [askD, askN]; simp at h; have := h.2; by_cases q : 0 ≤ mkD g x; exact absurd ⟨this, q⟩ hx; omega)]; simp
        · simp
      have e3 : (m_want_Of g [x, y]).2 ≠ 0 := by
        rw [want_eq]; split
        · rename_i h
          rw [all_path] at h
          rw [if_neg (by simp [askD, askN]; simp at h; intro q; exact absurd ⟨h.2.1, q⟩ hx)]; simp
        · simp
      simp [e1, e3]
  · have e : ∀ ns, m_want_Of g ns = ([], 2000) := fun ns => by rw [want_eq, if_neg (fun q => ho q.1)]
    simp [e]

/-! whatever one that is wanted needs is wanted; nothing is but for that -/
theorem clo_spec {g : DGraph} {o : List Int} (hs : Steps g o) : ∀ (p : Nat), p ≤ o.length → ∀ (v : List Bool), v.length = g.edges.length →
    (∀ (q : Nat) (x : Int), p ≤ q → o[q]? = some x → v.getD x.toNat default = true → ∀ k ∈ m_order_Needs g x, v.getD k.toNat default = true) →
    (∀ i, i < g.edges.length → v.getD i default = true → (clo g (o.take p).reverse v).getD i default = true) ∧
    (∀ i, i < g.edges.length → (clo g (o.take p).reverse v).getD i default = true → v.getD i default = true ∨ ∃ k ∈ o, (clo g (o.take p).reverse v).getD k.toNat default = true ∧ ((i : Nat) : Int) ∈ m_order_Needs g k) ∧
    (∀ (q : Nat) (x : Int), o[q]? = some x → (clo g (o.take p).reverse v).getD x.toNat default = true → ∀ k ∈ m_order_Needs g x, (clo g (o.take p).reverse v).getD k.toNat default = true)
  | 0, hp, v, hv, hc => by
    simp only [List.take_zero, List.reverse_nil]
    exact ⟨fun i _ h => h, fun i _ h => Or.inl h, fun q x hx => hc q x (Nat.zero_le _) hx⟩
  | p + 1, hp, v, hv, hc => by
    have hget : o[p]? = some (o.getD p default) := getD_some (by omega)
    generalize o.getD p default = e at hget
    have ht : (o.take (p + 1)).reverse = e :: (o.take p).reverse := by
      rw [List.take_add_one, hget]; simp
    rw [ht]
    show (∀ i, i < g.edges.length → v.getD i default = true → (clo g (o.take p).reverse (stepW g v e)).getD i default = true) ∧
      (∀ i, i < g.edges.length → (clo g (o.take p).reverse (stepW g v e)).getD i default = true → v.getD i default = true ∨ ∃ k ∈ o, (clo g (o.take p).reverse (stepW g v e)).getD k.toNat default = true ∧ ((i : Nat) : Int) ∈ m_order_Needs g k) ∧
      (∀ (q : Nat) (x : Int), o[q]? = some x → (clo g (o.take p).reverse (stepW g v e)).getD x.toNat default = true → ∀ k ∈ m_order_Needs g x, (clo g (o.take p).reverse (stepW g v e)).getD k.toNat default = true)
    obtain ⟨ie, hie, hst, hnx⟩ := steps_take hs p e hget
    obtain ⟨n1, n2, _⟩ := nextP_spec hnx
    have hmono : ∀ i, i < g.edges.length → v.getD i default = true → (stepW g v e).getD i default = true := fun i hi h => by
      rw [stepW_get (by omega), h]; rfl
    -- the needs of e stand ahead of it
    have hahead : ∀ k ∈ m_order_Needs g e, k ∈ o.take p := by
      intro k hk
      unfold freeP at n2
      rw [Bool.and_eq_true, List.all_eq_true] at n2
      have := n2.2 k (by rw [hie] at hk; exact hk)
      simpa using this
    have hnd := steps_nodup hs
    have hc' : ∀ (q : Nat) (x : Int), p ≤ q → o[q]? = some x → (stepW g v e).getD x.toNat default = true → ∀ k ∈ m_order_Needs g x, (stepW g v e).getD k.toNat default = true := by
      intro q x hq hx hv' k hk
      have hxm := steps_mem hs x (List.mem_of_getElem? hx)
      have hkm := needs_mem hk
      rw [stepW_get (by omega)] at hv'
      rw [stepW_get (by omega)]
      -- x is not among what e needs
      have hnot : x ∉ m_order_Needs g e := by
        intro hm
        obtain ⟨r, hr⟩ := List.getElem?_of_mem (hahead x hm)
        have hrp : r < p := by
          have := (List.getElem?_eq_some_iff.1 hr).1; simp at this; omega
        rw [List.getElem?_take_of_lt hrp] at hr
        have h1 := (List.getElem?_eq_some_iff.1 hr)
        have h2 := (List.getElem?_eq_some_iff.1 hx)
        have := (List.getElem?_inj h1.1 hnd).1 (hr.trans hx.symm)
        omega
      have hcx : (m_order_Needs g e).contains ((x.toNat : Nat) : Int) = false := by
        rw [show ((x.toNat : Nat) : Int) = x by omega]; simpa using hnot
      rw [hcx] at hv'
      have hvx : v.getD x.toNat default = true := by simpa using hv'
      by_cases hqp : q = p
      · subst hqp
        rw [hget] at hx; cases hx
        rw [hvx, show ((k.toNat : Nat) : Int) = k by omega]
        have : (m_order_Needs g e).contains k = true := by simpa using hk
        rw [this]; simp
      · rw [hc q x (by omega) hx hvx k hk]; rfl
    obtain ⟨a1, a2, a3⟩ := clo_spec hs p (by omega) (stepW g v e) (by rw [stepW_len]; exact hv) hc'
    refine ⟨fun i hi h => a1 i hi (hmono i hi h), fun i hi h => ?_, a3⟩
    rcases a2 i hi h with h1 | h1
    · rw [stepW_get (by omega)] at h1
      cases hvi : v.getD i default
      · rw [hvi] at h1
        simp only [Bool.false_or, Bool.and_eq_true] at h1
        have hem := List.mem_of_getElem? hget
        have hel := steps_mem hs e hem
        exact Or.inr ⟨e, hem, a1 _ hel.2 (hmono _ hel.2 h1.1), by simpa using h1.2⟩
      · exact Or.inl rfl
    · exact Or.inr h1
theorem dec_beq (a b : Int) : decide (a = b) = (b == a) := by
  by_cases h : a = b
  · subst h; simp
  · rw [decide_eq_false h]; symm; simpa using fun e => h e.symm
theorem wn_L4 (g : DGraph) (k : Nat) (b : Bool) (i : Nat) : ∀ (f : Nat) (why : Bool) (m : Nat), (m_ref1_Needs g ((k : Nat) : Int)).length - m < f → m_law20_WantNeeds_L4 g k b i f why m = Lp.brk (why || (b && ((m_ref1_Needs g ((k : Nat) : Int)).drop m).contains ((i : Nat) : Int)))
  | 0, why, m, h => by omega
  | f + 1, why, m, h => by
    rw [m_law20_WantNeeds_L4]
    by_cases hm : m < (m_ref1_Needs g ((k : Nat) : Int)).length
    · rw [decide_eq_true (by omega), cond_true]
      have hget := getD_some hm
      have hd := drop_at hget
      rw [wn_L4 g k b i f _ _ (by omega), wn_L4 g k b i f _ _ (by omega), hd, List.contains_cons]
      cases b
      · simp
      · cases why
        · simp only [cond_true, cond_false, Bool.false_or, Bool.true_and]
          rw [dec_beq]
        · simp
    · rw [decide_eq_false (by omega), List.drop_eq_nil_of_le (by omega)]; simp
theorem wn_L3 (g : DGraph) (i : Nat) : ∀ (l : List Bool) (k : Nat) (why : Bool), m_law20_WantNeeds_L3 g i l k why = Lp.brk (why || (List.range' k l.length).any fun j => l.getD (j - k) default && (m_ref1_Needs g ((j : Nat) : Int)).contains ((i : Nat) : Int))
  | [], k, why => by rw [m_law20_WantNeeds_L3]; simp
  | b :: l, k, why => by
    rw [m_law20_WantNeeds_L3, wn_L4 _ _ _ _ _ _ _ (by omega)]
    simp only [List.drop_zero]
    rw [wn_L3 g i l (k + 1), List.length_cons, List.range'_succ, List.any_cons, Nat.sub_self, Bool.or_assoc]
    congr 2
    rw [show (b :: l).getD 0 default = b from rfl]
    congr 1
    rw [Bool.eq_iff_iff, List.any_eq_true, List.any_eq_true]
    constructor
    · rintro ⟨j, hj, h⟩
      refine ⟨j, hj, ?_⟩
      have := (List.mem_range'_1.1 hj).1
      rw [show j - k = (j - (k + 1)) + 1 by omega]; simpa using h
    · rintro ⟨j, hj, h⟩
      refine ⟨j, hj, ?_⟩
      have := (List.mem_range'_1.1 hj).1
      rw [show j - k = (j - (k + 1)) + 1 by omega] at h; simpa using h
theorem wn_L2 (g : DGraph) (i : Nat) : ∀ (l : List ByteArray) (k : Nat) (why : Bool), m_law20_WantNeeds_L2 g i l k why = Lp.brk (why || (l.map (mkD g)).contains ((i : Nat) : Int))
  | [], k, why => by rw [m_law20_WantNeeds_L2]; simp
  | x :: l, k, why => by
    rw [m_law20_WantNeeds_L2, wn_L2 g i l, wn_L2 g i l, makerOf_mkD, List.map_cons, List.contains_cons]
    cases why
    · simp only [cond_false, Bool.false_or]
      rw [dec_beq]
    · simp
theorem of_all {g : DGraph} (h : (m_order_Of g).2 = 0) {k : Nat} (hk : k < g.edges.length) : ((k : Nat) : Int) ∈ (m_order_Of g).1 := by
  obtain ⟨s1, s2, s3⟩ := of_steps h
  apply Classical.byContradiction
  intro hno
  have := nodup_len g.edges.length (((k : Nat) : Int) :: (m_order_Of g).1) (List.nodup_cons.2 ⟨hno, steps_nodup s1⟩) (fun x hx => by
    rcases List.mem_cons.1 hx with rfl | hx
    · omega
    · exact steps_mem s1 x hx)
  simp only [List.length_cons] at this; omega
theorem may_of {g : DGraph} (h : m_graph_Check g = 0) : m_graph_May g = true := by
  rw [check_form] at h
  cases hm : m_graph_May g
  · rw [hm] at h; simp at h
  · rfl
theorem edge_ok {g : DGraph} (h : m_graph_Check g = 0) {e : DEdge} (he : e ∈ g.edges) : edgeS (eOf e) = true := by
  have h0 : ((g.edges.map eOf).all (edgeIn (gOf g)) && (decide (((g.edges.map eOf).length : Int) ≤ 16) && poolsS (gOf g) && allS (gOf g).defaults)) = true := may_of h
  rw [Bool.and_eq_true, List.all_eq_true] at h0
  have := h0.1 (eOf e) (List.mem_map_of_mem he)
  unfold edgeIn at this
  rw [Bool.and_eq_true] at this
  exact this.1
theorem outs_pos {g : DGraph} (h : m_graph_Check g = 0) {e : DEdge} (he : e ∈ g.edges) : 0 < e.outs.length := by
  have := edge_ok h he
  unfold edgeS at this
  simp only [Bool.and_eq_true, decide_eq_true_eq] at this
  have h2 := this.2.1
  have : (eOf e).outs.xs = e.outs := rfl
  rw [this] at h2; omega
theorem outs_L1 : ∀ (l : List DEdge) (i : Nat) (out : List ByteArray), m_graph_Outs_L1 l i out = Lp.brk (out ++ l.flatMap (·.outs))
  | [], i, out => by rw [m_graph_Outs_L1]; simp
  | e :: l, i, out => by rw [m_graph_Outs_L1, outs_L1 l]; simp
theorem outs_eq (g : DGraph) : m_graph_Outs g = g.edges.flatMap (·.outs) := by
  unfold m_graph_Outs; rw [outs_L1]; simp
/-- the flags at first -/
theorem mark0_get {g : DGraph} {ns : List ByteArray} (hn : ∀ x ∈ ns, 0 ≤ mkD g x) {i : Nat} (hi : i < g.edges.length) : (mark (List.replicate g.edges.length false) (ns.map (mkD g))).getD i default = (ns.map (mkD g)).contains ((i : Nat) : Int) := by
  rw [mark_get _ _ _ (by simpa using hi) (fun k hk => by obtain ⟨x, hx, rfl⟩ := List.mem_map.1 hk; exact hn x hx), getD_rep]; rfl
theorem makes_all {g : DGraph} (h : m_graph_Check g = 0) {i : Nat} (hi : i < g.edges.length) : ((m_graph_Outs g).map (mkD g)).contains ((i : Nat) : Int) = true := by
  rw [List.contains_iff_mem, outs_eq]
  have he := List.getElem?_eq_getElem hi
  have hp := outs_pos h (List.mem_of_getElem? he)
  refine List.mem_map.2 ⟨(g.edges[i]).outs[0], List.mem_flatMap.2 ⟨_, List.mem_of_getElem? he, List.getElem_mem _⟩, mkD_at (check_nodup h) he (List.getElem_mem _)⟩
theorem wantS_spec {g : DGraph} (h : (m_order_Of g).2 = 0) {ns : List ByteArray} (hn : ∀ x ∈ ns, 0 ≤ mkD g x) {i : Nat} (hi : i < g.edges.length) :
    (wantS g ns).getD i default = ((ns.map (mkD g)).contains ((i : Nat) : Int) || (List.range' 0 g.edges.length).any fun j => (wantS g ns).getD j default && (m_ref1_Needs g ((j : Nat) : Int)).contains ((i : Nat) : Int)) := by
  obtain ⟨s1, s2, s3⟩ := of_steps h
  obtain ⟨a1, a2, a3⟩ := clo_spec s1 (m_order_Of g).1.length (Nat.le_refl _) (mark (List.replicate g.edges.length false) (ns.map (mkD g))) (by rw [mark_len]; simp) (fun q x hq hx => by
    have := (List.getElem?_eq_some_iff.1 hx).1; omega)
  rw [List.take_length] at a1 a2 a3
  change ∀ i, i < g.edges.length → (mark (List.replicate g.edges.length false) (ns.map (mkD g))).getD i default = true → (wantS g ns).getD i default = true at a1
  change ∀ i, i < g.edges.length → (wantS g ns).getD i default = true → (mark (List.replicate g.edges.length false) (ns.map (mkD g))).getD i default = true ∨ ∃ k ∈ (m_order_Of g).1, (wantS g ns).getD k.toNat default = true ∧ ((i : Nat) : Int) ∈ m_order_Needs g k at a2
  change ∀ (q : Nat) (x : Int), (m_order_Of g).1[q]? = some x → (wantS g ns).getD x.toNat default = true → ∀ k ∈ m_order_Needs g x, (wantS g ns).getD k.toNat default = true at a3
  rw [Bool.eq_iff_iff, Bool.or_eq_true, List.any_eq_true]
  constructor
  · intro ha
    rcases a2 i hi ha with h1 | ⟨k, hk, h1, h2⟩
    · rw [mark0_get hn hi] at h1; exact Or.inl h1
    · have hkm := steps_mem s1 k hk
      refine Or.inr ⟨k.toNat, List.mem_range'_1.2 ⟨Nat.zero_le _, by omega⟩, ?_⟩
      rw [h1, show ((k.toNat : Nat) : Int) = k by omega]
      simpa using (needs_same _ _ _).1 h2
  · rintro (h1 | ⟨j, hj, h1⟩)
    · exact a1 i hi (by rw [mark0_get hn hi]; exact h1)
    · have hjl := (List.mem_range'_1.1 hj).2
      rw [Bool.and_eq_true] at h1
      obtain ⟨q, hq⟩ := List.getElem?_of_mem (of_all h (k := j) (by omega))
      have := a3 q _ hq (by simpa using h1.1) ((i : Nat) : Int) ((needs_same _ _ _).2 (by simpa using h1.2))
      simpa using this
theorem askN_bif (g : DGraph) (names : List ByteArray) : (bif decide (((names.length : Nat) : Int) = (0 : Int)) then g.defaults else names) = askN g names := by
  unfold askN
  by_cases hn : names.length = 0
  · rw [decide_eq_true (by omega), if_pos hn]; rfl
  · rw [decide_eq_false (by omega), if_neg hn]; rfl
theorem wn_L1 (g : DGraph) (names : List ByteArray) : ∀ (l : List Bool) (i : Nat), (∀ j b, l[j]? = some b → b = ((decide ((((askN g names).length : Nat) : Int) = (0 : Int)) || ((askN g names).map (mkD g)).contains (((i + j : Nat)) : Int)) || (List.range' 0 ((m_want_Of g names).1).length).any fun k => ((m_want_Of g names).1).getD (k - 0) default && (m_ref1_Needs g ((k : Nat) : Int)).contains (((i + j : Nat)) : Int))) → m_law20_WantNeeds_L1 g names l i = Lp.brk ()
  | [], i, _ => rfl
  | b :: l, i, h => by
    have h0 := h 0 b rfl
    rw [Nat.add_zero] at h0
    rw [m_law20_WantNeeds_L1, askN_bif, wn_L2]
    simp only []
    rw [wn_L3]
    simp only []
    rw [wn_L1 g names l (i + 1) (fun j c hj => by rw [show i + 1 + j = i + (j + 1) by omega]; exact h (j + 1) c (by simpa using hj)), ← h0]
    simp
theorem law20_WantNeeds_true (g : DGraph) (names : List ByteArray) : m_law20_WantNeeds g names = true := by
  unfold m_law20_WantNeeds
  rw [law20_awake_true]
  simp only [m_law0_Num]
  have key : (m_want_Of g names).2 ≠ 0 → (m_want_Of g names).1 = [] := by
    rw [want_eq]; split
    · split <;> simp
    · simp
  by_cases he : (m_want_Of g names).2 = 0
  · have hE : (m_order_Of g).2 = 0 ∧ m_want_Of g names = (wantS g (askD g names), 0) ∧ ∀ x ∈ askD g names, 0 ≤ mkD g x := by
      rw [want_eq] at he ⊢
      split at he <;> rename_i h1
      · rw [if_pos h1]
        split at he <;> rename_i h2
        · rw [if_pos h2]; exact ⟨h1.1, rfl, fun x hx => by simpa using List.all_eq_true.1 h2 x hx⟩
        · simp at he
      · simp at he
    obtain ⟨ho, hw, hn⟩ := hE
    obtain ⟨s1, s2, s3⟩ := of_steps ho
    have hl := wn_L1 g names (m_want_Of g names).1 0 (fun j b hj => by
      rw [hw] at hj ⊢
      simp only at hj ⊢
      have hjl := (List.getElem?_eq_some_iff.1 hj).1
      rw [wantS_len] at hjl
      have hb : b = (wantS g (askD g names)).getD j default := by rw [List.getD_eq_getElem?_getD, hj]; rfl
      rw [hb, wantS_spec ho hn hjl, wantS_len, Nat.zero_add]
      simp only [Nat.sub_zero]
      congr 1
      by_cases ha : (askN g names).length = 0
      · rw [decide_eq_true (by omega)]
        have : askD g names = m_graph_Outs g := by unfold askD; rw [if_pos ha]
        rw [this, makes_all s3 hjl]; simp
      · rw [decide_eq_false (by omega)]
        have : askD g names = askN g names := by unfold askD; rw [if_neg ha]
        rw [this]; simp)
    rw [hl]
    simp [he, hw, wantS_len]
  · simp [he, key he]
end
end Go.Lift
namespace Go.Lift
noncomputable section
open Go Go.RowKit
set_option linter.unusedSimpArgs false
set_option linter.unusedVariables false
set_option linter.unusedSectionVars false
set_option maxRecDepth 20000
theorem rdg_9 {H : Type} {enc : TypeId × Value → H} {w : World} {spare : Nat → Bool} {held : Bool} {bk : DataW H → Nat} {μ : Mu} (hb : BulkOk bk) (hμ : ∀ g, ¬ μ.mut g) : Rdg enc Go.Proofs.Tryd.prog w spare held bk μ 9 AV.s (fun s : ByteArray => s.size + 1) := Rdg.str hb (by kernel_rfl)
theorem rdg_25 {H : Type} {enc : TypeId × Value → H} {w : World} {spare : Nat → Bool} {held : Bool} {bk : DataW H → Nat} {μ : Mu} (hb : BulkOk bk) (hμ : ∀ g, ¬ μ.mut g) : Rdg enc Go.Proofs.Tryd.prog w spare held bk μ 25 (slA 1 AV.s) (szL (fun s : ByteArray => s.size + 1)) := Rdg.slice hb hμ (e := 9) (by kernel_rfl) (by kernel_rfl) (fun a => Or.inr ⟨(by intro fs h; cases h), rfl, rfl⟩) (rdg_9 hb hμ)
theorem rdg_4 {H : Type} {enc : TypeId × Value → H} {w : World} {spare : Nat → Bool} {held : Bool} {bk : DataW H → Nat} {μ : Mu} (hb : BulkOk bk) (hμ : ∀ g, ¬ μ.mut g) : Rdg enc Go.Proofs.Tryd.prog w spare held bk μ 4 AV.b (fun _ => 1) := Rdg.bool hb (by kernel_rfl)
theorem rdg_31 {H : Type} {enc : TypeId × Value → H} {w : World} {spare : Nat → Bool} {held : Bool} {bk : DataW H → Nat} {μ : Mu} (hb : BulkOk bk) (hμ : ∀ g, ¬ μ.mut g) : Rdg enc Go.Proofs.Tryd.prog w spare held bk μ 31 DEdge.av DEdge.sz where
  rd fuel cs x h hbd := by
    obtain ⟨xs, n, e, hl, hlen, hf⟩ := struct_rd (t := 31) (by kernel_rfl) h
    have hn : (fsOf Go.Proofs.Tryd.prog 31).size = 7 := by kernel_rfl
    have hc : Go.Proofs.Tryd.prog.cellsOf 31 = 7 := by kernel_rfl
    rw [hn] at hlen; rw [hc] at hl
    match xs, hlen, e, hf with
    | [x0, x1, x2, x3, x4, x5, x6], _, e, hf =>
      have hag := hb.agg [x0.1, x1.1, x2.1, x3.1, x4.1, x5.1, x6.1]
      simp only [List.map_cons, List.map_nil, List.sum_cons, List.sum_nil] at hag e
      rw [e] at hbd ⊢
      obtain ⟨y0, e0, r0⟩ := hf 0 0 25 1 (by kernel_rfl)
      cases e0
      obtain ⟨a0, c0, o0, s0⟩ := (rdg_25 hb hμ).rd _ _ _ r0 (by omega)
      obtain ⟨y1, e1, r1⟩ := hf 1 1 25 1 (by kernel_rfl)
      cases e1
      obtain ⟨a1, c1, o1, s1⟩ := (rdg_25 hb hμ).rd _ _ _ r1 (by omega)
      obtain ⟨y2, e2, r2⟩ := hf 2 2 25 1 (by kernel_rfl)
      cases e2
      obtain ⟨a2, c2, o2, s2⟩ := (rdg_25 hb hμ).rd _ _ _ r2 (by omega)
      obtain ⟨y3, e3, r3⟩ := hf 3 3 25 1 (by kernel_rfl)
      cases e3
      obtain ⟨a3, c3, o3, s3⟩ := (rdg_25 hb hμ).rd _ _ _ r3 (by omega)
      obtain ⟨y4, e4, r4⟩ := hf 4 4 9 1 (by kernel_rfl)
      cases e4
      obtain ⟨a4, c4, o4, s4⟩ := (rdg_9 hb hμ).rd _ _ _ r4 (by omega)
      obtain ⟨y5, e5, r5⟩ := hf 5 5 4 1 (by kernel_rfl)
      cases e5
      obtain ⟨a5, c5, o5, s5⟩ := (rdg_4 hb hμ).rd _ _ _ r5 (by omega)
      obtain ⟨y6, e6, r6⟩ := hf 6 6 9 1 (by kernel_rfl)
      cases e6
      obtain ⟨a6, c6, o6, s6⟩ := (rdg_9 hb hμ).rd _ _ _ r6 (by omega)
      refine ⟨⟨a0, a1, a2, a3, a4, a5, a6⟩, ?_, ?_, ?_⟩
      · have q := (CRs_step (CRs_step (CRs_step (CRs_step (CRs_step (CRs_step (CRs_step (show CRs w μ [] (cs.take 0) by simp [CRs]) c0) c1) c2) c3) c4) c5) c6)
        rw [show cs.take (0 + 1 + 1 + 1 + 1 + 1 + 1 + 1) = cs from List.take_of_length_le (by omega)] at q
        exact q
      · have q := (one_step (one_step (one_step (one_step (one_step (one_step (one_step (show ∀ u ∈ cs.take 0, u.oneCell' = true by simp) o0) o1) o2) o3) o4) o5) o6)
        rw [show cs.take (0 + 1 + 1 + 1 + 1 + 1 + 1 + 1) = cs from List.take_of_length_le (by omega)] at q
        exact q
      · unfold DEdge.sz; simp only at *; omega
theorem rdg_23 {H : Type} {enc : TypeId × Value → H} {w : World} {spare : Nat → Bool} {held : Bool} {bk : DataW H → Nat} {μ : Mu} (hb : BulkOk bk) (hμ : ∀ g, ¬ μ.mut g) : Rdg enc Go.Proofs.Tryd.prog w spare held bk μ 23 (slA 7 DEdge.av) (szL DEdge.sz) := Rdg.slice hb hμ (e := 31) (by kernel_rfl) (by kernel_rfl) (fun a => Or.inl ⟨_, rfl, rfl⟩) (rdg_31 hb hμ)
theorem rdg_3 {H : Type} {enc : TypeId × Value → H} {w : World} {spare : Nat → Bool} {held : Bool} {bk : DataW H → Nat} {μ : Mu} (hb : BulkOk bk) (hμ : ∀ g, ¬ μ.mut g) : Rdg enc Go.Proofs.Tryd.prog w spare held bk μ 3 (AV.i .i64) (fun _ => 1) := Rdg.int hb (by kernel_rfl)
theorem rdg_34 {H : Type} {enc : TypeId × Value → H} {w : World} {spare : Nat → Bool} {held : Bool} {bk : DataW H → Nat} {μ : Mu} (hb : BulkOk bk) (hμ : ∀ g, ¬ μ.mut g) : Rdg enc Go.Proofs.Tryd.prog w spare held bk μ 34 DPool.av DPool.sz where
  rd fuel cs x h hbd := by
    obtain ⟨xs, n, e, hl, hlen, hf⟩ := struct_rd (t := 34) (by kernel_rfl) h
    have hn : (fsOf Go.Proofs.Tryd.prog 34).size = 2 := by kernel_rfl
    have hc : Go.Proofs.Tryd.prog.cellsOf 34 = 2 := by kernel_rfl
    rw [hn] at hlen; rw [hc] at hl
    match xs, hlen, e, hf with
    | [x0, x1], _, e, hf =>
      have hag := hb.agg [x0.1, x1.1]
      simp only [List.map_cons, List.map_nil, List.sum_cons, List.sum_nil] at hag e
      rw [e] at hbd ⊢
      obtain ⟨y0, e0, r0⟩ := hf 0 0 9 1 (by kernel_rfl)
      cases e0
      obtain ⟨a0, c0, o0, s0⟩ := (rdg_9 hb hμ).rd _ _ _ r0 (by omega)
      obtain ⟨y1, e1, r1⟩ := hf 1 1 3 1 (by kernel_rfl)
      cases e1
      obtain ⟨a1, c1, o1, s1⟩ := (rdg_3 hb hμ).rd _ _ _ r1 (by omega)
      refine ⟨⟨a0, a1⟩, ?_, ?_, ?_⟩
      · have q := (CRs_step (CRs_step (show CRs w μ [] (cs.take 0) by simp [CRs]) c0) c1)
        rw [show cs.take (0 + 1 + 1) = cs from List.take_of_length_le (by omega)] at q
        exact q
      · have q := (one_step (one_step (show ∀ u ∈ cs.take 0, u.oneCell' = true by simp) o0) o1)
        rw [show cs.take (0 + 1 + 1) = cs from List.take_of_length_le (by omega)] at q
        exact q
      · unfold DPool.sz; simp only at *; omega
theorem rdg_24 {H : Type} {enc : TypeId × Value → H} {w : World} {spare : Nat → Bool} {held : Bool} {bk : DataW H → Nat} {μ : Mu} (hb : BulkOk bk) (hμ : ∀ g, ¬ μ.mut g) : Rdg enc Go.Proofs.Tryd.prog w spare held bk μ 24 (slA 2 DPool.av) (szL DPool.sz) := Rdg.slice hb hμ (e := 34) (by kernel_rfl) (by kernel_rfl) (fun a => Or.inl ⟨_, rfl, rfl⟩) (rdg_34 hb hμ)
theorem rdg_27 {H : Type} {enc : TypeId × Value → H} {w : World} {spare : Nat → Bool} {held : Bool} {bk : DataW H → Nat} {μ : Mu} (hb : BulkOk bk) (hμ : ∀ g, ¬ μ.mut g) : Rdg enc Go.Proofs.Tryd.prog w spare held bk μ 27 DGraph.av DGraph.sz where
  rd fuel cs x h hbd := by
    obtain ⟨xs, n, e, hl, hlen, hf⟩ := struct_rd (t := 27) (by kernel_rfl) h
    have hn : (fsOf Go.Proofs.Tryd.prog 27).size = 3 := by kernel_rfl
    have hc : Go.Proofs.Tryd.prog.cellsOf 27 = 3 := by kernel_rfl
    rw [hn] at hlen; rw [hc] at hl
    match xs, hlen, e, hf with
    | [x0, x1, x2], _, e, hf =>
      have hag := hb.agg [x0.1, x1.1, x2.1]
      simp only [List.map_cons, List.map_nil, List.sum_cons, List.sum_nil] at hag e
      rw [e] at hbd ⊢
      obtain ⟨y0, e0, r0⟩ := hf 0 0 23 1 (by kernel_rfl)
      cases e0
      obtain ⟨a0, c0, o0, s0⟩ := (rdg_23 hb hμ).rd _ _ _ r0 (by omega)
      obtain ⟨y1, e1, r1⟩ := hf 1 1 24 1 (by kernel_rfl)
      cases e1
      obtain ⟨a1, c1, o1, s1⟩ := (rdg_24 hb hμ).rd _ _ _ r1 (by omega)
      obtain ⟨y2, e2, r2⟩ := hf 2 2 25 1 (by kernel_rfl)
      cases e2
      obtain ⟨a2, c2, o2, s2⟩ := (rdg_25 hb hμ).rd _ _ _ r2 (by omega)
      refine ⟨⟨a0, a1, a2⟩, ?_, ?_, ?_⟩
      · have q := (CRs_step (CRs_step (CRs_step (show CRs w μ [] (cs.take 0) by simp [CRs]) c0) c1) c2)
        rw [show cs.take (0 + 1 + 1 + 1) = cs from List.take_of_length_le (by omega)] at q
        exact q
      · have q := (one_step (one_step (one_step (show ∀ u ∈ cs.take 0, u.oneCell' = true by simp) o0) o1) o2)
        rw [show cs.take (0 + 1 + 1 + 1) = cs from List.take_of_length_le (by omega)] at q
        exact q
      · unfold DGraph.sz; simp only at *; omega

end
end Go.Lift
