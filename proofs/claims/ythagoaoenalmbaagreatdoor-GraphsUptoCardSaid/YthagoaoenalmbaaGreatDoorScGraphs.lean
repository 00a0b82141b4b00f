/-
  Lemmas of this claim: a layer over the kit's calls, contracts of the functions that the law reaches, and the law's row. No condition of its own.
-/
import Derived.Test.YthagoaoenalmbaaGreatDoorLb
import Derived.Test.YthagoaoenalmbaaGreatDoorSa
namespace Go.Lift
noncomputable section
open Go Go.RowKit
set_option linter.unusedSimpArgs false
set_option linter.unusedVariables false
set_option linter.unusedSectionVars false
set_option maxRecDepth 20000
structure DEdge where
  outs : List ByteArray
  ins : List ByteArray
  implicit : List ByteArray
  order : List ByteArray
  command : ByteArray
  deps : Bool
  pool : ByteArray

def DEdge.av (d : DEdge) : AV := .st [(slA 1 AV.s) d.outs, (slA 1 AV.s) d.ins, (slA 1 AV.s) d.implicit, (slA 1 AV.s) d.order, AV.s d.command, AV.b d.deps, AV.s d.pool]
def DEdge.zero : DEdge := ⟨[], [], [], [], (⟨#[]⟩ : ByteArray), false, (⟨#[]⟩ : ByteArray)⟩
instance : Inhabited DEdge := ⟨DEdge.zero⟩
def DEdge.sz (d : DEdge) : Nat := (szL (fun s : ByteArray => s.size + 1)) d.outs + (szL (fun s : ByteArray => s.size + 1)) d.ins + (szL (fun s : ByteArray => s.size + 1)) d.implicit + (szL (fun s : ByteArray => s.size + 1)) d.order + (fun s : ByteArray => s.size + 1) d.command + (fun _ => 1) d.deps + (fun s : ByteArray => s.size + 1) d.pool + 1
theorem DEdge.sz_outs (d : DEdge) : (szL (fun s : ByteArray => s.size + 1)) d.outs ≤ d.sz := by unfold DEdge.sz; omega
theorem DEdge.sz_ins (d : DEdge) : (szL (fun s : ByteArray => s.size + 1)) d.ins ≤ d.sz := by unfold DEdge.sz; omega
theorem DEdge.sz_implicit (d : DEdge) : (szL (fun s : ByteArray => s.size + 1)) d.implicit ≤ d.sz := by unfold DEdge.sz; omega
theorem DEdge.sz_order (d : DEdge) : (szL (fun s : ByteArray => s.size + 1)) d.order ≤ d.sz := by unfold DEdge.sz; omega
theorem DEdge.lim_pt {d : DEdge} (h : lim (.pt d.av.cells)) : lim d.av := by simp only [DEdge.av, AV.cells, lim] at h ⊢; exact h
theorem DEdge.lim_outs {d : DEdge} (h : lim d.av) : lim ((slA 1 AV.s) d.outs) := by simp only [DEdge.av, lim, limL] at h; exact h.1
structure DPool where
  name : ByteArray
  depth : Int

def DPool.av (d : DPool) : AV := .st [AV.s d.name, (AV.i .i64) d.depth]
def DPool.zero : DPool := ⟨(⟨#[]⟩ : ByteArray), (0 : Int)⟩
instance : Inhabited DPool := ⟨DPool.zero⟩
def DPool.sz (d : DPool) : Nat := (fun s : ByteArray => s.size + 1) d.name + (fun _ => 1) d.depth + 1
theorem DPool.lim_pt {d : DPool} (h : lim (.pt d.av.cells)) : lim d.av := by simp only [DPool.av, AV.cells, lim] at h ⊢; exact h
structure DGraph where
  edges : List DEdge
  pools : List DPool
  defaults : List ByteArray

def DGraph.av (d : DGraph) : AV := .st [(slA 7 DEdge.av) d.edges, (slA 2 DPool.av) d.pools, (slA 1 AV.s) d.defaults]
def DGraph.zero : DGraph := ⟨[], [], []⟩
instance : Inhabited DGraph := ⟨DGraph.zero⟩
def DGraph.sz (d : DGraph) : Nat := (szL DEdge.sz) d.edges + (szL DPool.sz) d.pools + (szL (fun s : ByteArray => s.size + 1)) d.defaults + 1
theorem DGraph.sz_edges (d : DGraph) : (szL DEdge.sz) d.edges ≤ d.sz := by unfold DGraph.sz; omega
theorem DGraph.sz_pools (d : DGraph) : (szL DPool.sz) d.pools ≤ d.sz := by unfold DGraph.sz; omega
theorem DGraph.sz_defaults (d : DGraph) : (szL (fun s : ByteArray => s.size + 1)) d.defaults ≤ d.sz := by unfold DGraph.sz; omega
theorem DGraph.lim_pt {d : DGraph} (h : lim (.pt d.av.cells)) : lim d.av := by simp only [DGraph.av, AV.cells, lim] at h ⊢; exact h
theorem DGraph.lim_edges {d : DGraph} (h : lim d.av) : lim ((slA 7 DEdge.av) d.edges) := by simp only [DGraph.av, lim, limL] at h; exact h.1
theorem DGraph.lim_pools {d : DGraph} (h : lim d.av) : lim ((slA 2 DPool.av) d.pools) := by simp only [DGraph.av, lim, limL] at h; exact h.2.1
structure DAction where
  command : ByteArray
  reads : List ByteArray
  fails : Bool

def DAction.av (d : DAction) : AV := .st [AV.s d.command, (slA 1 AV.s) d.reads, AV.b d.fails]
def DAction.zero : DAction := ⟨(⟨#[]⟩ : ByteArray), [], false⟩
instance : Inhabited DAction := ⟨DAction.zero⟩
def DAction.sz (d : DAction) : Nat := (fun s : ByteArray => s.size + 1) d.command + (szL (fun s : ByteArray => s.size + 1)) d.reads + (fun _ => 1) d.fails + 1
theorem DAction.lim_pt {d : DAction} (h : lim (.pt d.av.cells)) : lim d.av := by simp only [DAction.av, AV.cells, lim] at h ⊢; exact h
structure DRecord where
  out : ByteArray
  time : Int
  sign : ByteArray

def DRecord.av (d : DRecord) : AV := .st [AV.s d.out, (AV.i .i64) d.time, AV.s d.sign]
def DRecord.zero : DRecord := ⟨(⟨#[]⟩ : ByteArray), (0 : Int), (⟨#[]⟩ : ByteArray)⟩
instance : Inhabited DRecord := ⟨DRecord.zero⟩
def DRecord.sz (d : DRecord) : Nat := (fun s : ByteArray => s.size + 1) d.out + (fun _ => 1) d.time + (fun s : ByteArray => s.size + 1) d.sign + 1
theorem DRecord.lim_pt {d : DRecord} (h : lim (.pt d.av.cells)) : lim d.av := by simp only [DRecord.av, AV.cells, lim] at h ⊢; exact h
structure DFound where
  out : ByteArray
  time : Int
  ins : List ByteArray

def DFound.av (d : DFound) : AV := .st [AV.s d.out, (AV.i .i64) d.time, (slA 1 AV.s) d.ins]
def DFound.zero : DFound := ⟨(⟨#[]⟩ : ByteArray), (0 : Int), []⟩
instance : Inhabited DFound := ⟨DFound.zero⟩
def DFound.sz (d : DFound) : Nat := (fun s : ByteArray => s.size + 1) d.out + (fun _ => 1) d.time + (szL (fun s : ByteArray => s.size + 1)) d.ins + 1
theorem DFound.sz_ins (d : DFound) : (szL (fun s : ByteArray => s.size + 1)) d.ins ≤ d.sz := by unfold DFound.sz; omega
theorem DFound.lim_pt {d : DFound} (h : lim (.pt d.av.cells)) : lim d.av := by simp only [DFound.av, AV.cells, lim] at h ⊢; exact h
structure DFile where
  name : ByteArray
  content : Int
  time : Int

def DFile.av (d : DFile) : AV := .st [AV.s d.name, (AV.i .i64) d.content, (AV.i .i64) d.time]
def DFile.zero : DFile := ⟨(⟨#[]⟩ : ByteArray), (0 : Int), (0 : Int)⟩
instance : Inhabited DFile := ⟨DFile.zero⟩
def DFile.sz (d : DFile) : Nat := (fun s : ByteArray => s.size + 1) d.name + (fun _ => 1) d.content + (fun _ => 1) d.time + 1
theorem DFile.lim_pt {d : DFile} (h : lim (.pt d.av.cells)) : lim d.av := by simp only [DFile.av, AV.cells, lim] at h ⊢; exact h
structure DDisk where
  clock : Int
  files : List DFile

def DDisk.av (d : DDisk) : AV := .st [(AV.i .i64) d.clock, (slA 3 DFile.av) d.files]
def DDisk.zero : DDisk := ⟨(0 : Int), []⟩
instance : Inhabited DDisk := ⟨DDisk.zero⟩
def DDisk.sz (d : DDisk) : Nat := (fun _ => 1) d.clock + (szL DFile.sz) d.files + 1
theorem DDisk.lim_pt {d : DDisk} (h : lim (.pt d.av.cells)) : lim d.av := by simp only [DDisk.av, AV.cells, lim] at h ⊢; exact h
structure DState where
  graph : DGraph
  actions : List DAction
  disk : DDisk
  log : List DRecord
  deps : List DFound
  jobs : Int
  going : Bool
  status : List Int

def DState.av (d : DState) : AV := .st [(slA 7 DEdge.av) d.graph.edges, (slA 2 DPool.av) d.graph.pools, (slA 1 AV.s) d.graph.defaults, (slA 3 DAction.av) d.actions, (AV.i .i64) d.disk.clock, (slA 3 DFile.av) d.disk.files, (slA 3 DRecord.av) d.log, (slA 3 DFound.av) d.deps, (AV.i .i64) d.jobs, AV.b d.going, (slA 1 (AV.i .i64)) d.status]
def DState.zero : DState := ⟨DGraph.zero, [], DDisk.zero, [], [], (0 : Int), false, []⟩
instance : Inhabited DState := ⟨DState.zero⟩
def DState.sz (d : DState) : Nat := DGraph.sz d.graph + (szL DAction.sz) d.actions + DDisk.sz d.disk + (szL DRecord.sz) d.log + (szL DFound.sz) d.deps + (fun _ => 1) d.jobs + (fun _ => 1) d.going + (szL (fun _ => 1)) d.status + 1
theorem DState.lim_pt {d : DState} (h : lim (.pt d.av.cells)) : lim d.av := by simp only [DState.av, AV.cells, lim] at h ⊢; exact h
def lit5 : DEdge := (⟨[(⟨#[108, 105, 98]⟩ : ByteArray)], [(⟨#[97, 46, 111]⟩ : ByteArray), (⟨#[98, 46, 111]⟩ : ByteArray)], [], [], (⟨#[97, 114]⟩ : ByteArray), false, (⟨#[]⟩ : ByteArray)⟩ : DEdge)

def lit6 : DEdge := (⟨[(⟨#[98, 46, 111]⟩ : ByteArray)], [(⟨#[98, 46, 99]⟩ : ByteArray)], [], [(⟨#[97, 46, 111]⟩ : ByteArray)], (⟨#[99, 99, 32, 98]⟩ : ByteArray), false, (⟨#[116, 119, 111]⟩ : ByteArray)⟩ : DEdge)

def lit7 : DEdge := (⟨[(⟨#[98, 46, 111]⟩ : ByteArray)], [(⟨#[98, 46, 99]⟩ : ByteArray)], [], [(⟨#[97, 46, 111]⟩ : ByteArray)], (⟨#[99, 99, 32, 98]⟩ : ByteArray), false, (⟨#[111, 110, 101]⟩ : ByteArray)⟩ : DEdge)

def lit8 : DEdge := (⟨[(⟨#[108, 105, 98]⟩ : ByteArray)], [(⟨#[98, 46, 99]⟩ : ByteArray)], [], [(⟨#[97, 46, 111]⟩ : ByteArray)], (⟨#[99, 99, 32, 98]⟩ : ByteArray), false, (⟨#[116, 119, 111]⟩ : ByteArray)⟩ : DEdge)

def lit9 : DEdge := (⟨[(⟨#[97, 46, 111]⟩ : ByteArray), (⟨#[97, 46, 100]⟩ : ByteArray)], [(⟨#[97, 46, 99]⟩ : ByteArray)], [(⟨#[97, 46, 104]⟩ : ByteArray)], [], (⟨#[99, 99, 32, 97]⟩ : ByteArray), true, (⟨#[116, 119, 111]⟩ : ByteArray)⟩ : DEdge)

def lit13 : DGraph := (⟨[lit5, lit9, lit6], [(⟨(⟨#[116, 119, 111]⟩ : ByteArray), (2 : Int)⟩ : DPool)], [(⟨#[108, 105, 98]⟩ : ByteArray)]⟩ : DGraph)

def lit14 : DGraph := (⟨[lit5, lit9, lit7], [(⟨(⟨#[116, 119, 111]⟩ : ByteArray), (2 : Int)⟩ : DPool)], [(⟨#[108, 105, 98]⟩ : ByteArray)]⟩ : DGraph)

def lit15 : DGraph := (⟨[lit5, lit9, lit8], [(⟨(⟨#[116, 119, 111]⟩ : ByteArray), (2 : Int)⟩ : DPool)], [(⟨#[108, 105, 98]⟩ : ByteArray)]⟩ : DGraph)

def outsN : List DEdge → Nat
  | [] => 0
  | e :: r => e.outs.length + outsN r
def eOf (e : DEdge) : EdgeD := ⟨⟨false, e.outs⟩, ⟨false, e.ins⟩, ⟨false, e.implicit⟩, ⟨false, e.order⟩, e.command, e.deps, e.pool⟩
def pOf (p : DPool) : PoolD := ⟨p.name, p.depth⟩
def gOf (g : DGraph) : GraphD := ⟨false, g.edges.map eOf, false, g.pools.map pOf, ⟨false, g.defaults⟩⟩
def m_graph_May (g : DGraph) : Bool := mayG (gOf g)
def m_graph_Check (g : DGraph) : Int := checkS (gOf g)
def m_graph_Maker (g : DGraph) (name : ByteArray) : Int × Bool × Int := makerS (gOf g) name
def needsN (g : DGraph) (edge : Int) : Nat := (g.edges.getD edge.toNat default).ins.length + (g.edges.getD edge.toNat default).implicit.length + (g.edges.getD edge.toNat default).order.length

def m_ref1_has_L1 (x' : ByteArray) : List ByteArray → Nat → Lp (Bool) (Unit)
  | [], i => Lp.brk ()
  | x1 :: rest, i => (bif decide (x1 = x') then Lp.ret true else m_ref1_has_L1 x' rest (i + 1))

def m_ref1_has (xs : List ByteArray) (x' : ByteArray) : Bool :=
  (match m_ref1_has_L1 x' xs 0 with
  | Lp.ret r => r
  | Lp.brk () => false)

def m_ref1_small (c : Int) : Bool :=
  (bif decide ((97 : Int) ≤ c) then (decide (c ≤ (122 : Int)) || (decide ((48 : Int) ≤ c) && decide (c ≤ (57 : Int)))) else (decide ((48 : Int) ≤ c) && decide (c ≤ (57 : Int))))

def m_ref1_Plain_L1 : List UInt8 → Nat → Lp (Bool) (Unit)
  | [], i => Lp.brk ()
  | x1 :: rest, i => (bif decide ((x1.toNat : Int) < (32 : Int)) then Lp.ret false else (bif decide ((126 : Int) < (x1.toNat : Int)) then Lp.ret false else m_ref1_Plain_L1 rest (i + 1)))

def m_ref1_Plain (s' : ByteArray) (least : Int) (most' : Int) : Bool :=
  (match m_ref1_Plain_L1 s'.data.toList 0 with
  | Lp.ret r => r
  | Lp.brk () => (decide (least ≤ ((s'.size : Nat) : Int)) && decide (((s'.size : Nat) : Int) ≤ most')))

def m_ref1_NameMay_L1 : List UInt8 → Nat → Lp (Bool) (Unit)
  | [], i => Lp.brk ()
  | x1 :: rest, i => (bif (!(m_ref1_small (x1.toNat : Int))) then (bif (!decide ((x1.toNat : Int) = (46 : Int))) then (bif (!decide ((x1.toNat : Int) = (95 : Int))) then (bif (!decide ((x1.toNat : Int) = (45 : Int))) then (bif (!decide ((x1.toNat : Int) = (47 : Int))) then Lp.ret false else m_ref1_NameMay_L1 rest (i + 1)) else m_ref1_NameMay_L1 rest (i + 1)) else m_ref1_NameMay_L1 rest (i + 1)) else m_ref1_NameMay_L1 rest (i + 1)) else m_ref1_NameMay_L1 rest (i + 1))

def m_ref1_NameMay (s' : ByteArray) : Bool :=
  (match m_ref1_NameMay_L1 s'.data.toList 0 with
  | Lp.ret r => r
  | Lp.brk () => (decide ((1 : Int) ≤ ((s'.size : Nat) : Int)) && decide (((s'.size : Nat) : Int) ≤ (16 : Int))))

def m_ref1_Join_L1 (sign : ByteArray) : List ByteArray → Nat → ByteArray → Lp (ByteArray) (ByteArray)
  | [], i, s' => Lp.brk s'
  | x1 :: rest, i, s' => (bif decide ((0 : Int) < ((i : Nat) : Int)) then m_ref1_Join_L1 sign rest (i + 1) ((s' ++ sign) ++ x1) else m_ref1_Join_L1 sign rest (i + 1) (s' ++ x1))

def m_ref1_Join (xs : List ByteArray) (sign : ByteArray) : ByteArray :=
  (match m_ref1_Join_L1 sign xs 0 (⟨#[]⟩ : ByteArray) with
  | Lp.ret r => r
  | Lp.brk sv' => sv')

def m_ref1_split_L1 (s' : ByteArray) (sign : Int) : Nat → (List ByteArray) → Nat → Nat → Lp (List ByteArray) ((List ByteArray))
  | 0, out, from', i => Lp.brk out
  | kf + 1, out, from', i => (bif decide (((i : Nat) : Int) ≤ ((s'.size : Nat) : Int)) then (bif (decide (((i : Nat) : Int) = ((s'.size : Nat) : Int)) || decide (((s'.data.getD i 0).toNat : Int) = sign)) then m_ref1_split_L1 s' sign kf (out ++ [(s'.extract from' i)]) (i + 1) (i + 1) else m_ref1_split_L1 s' sign kf out from' (i + 1)) else Lp.brk out)

def m_ref1_split (s' : ByteArray) (sign : Int) : List ByteArray :=
  (match m_ref1_split_L1 s' sign (s'.size + 1 - 0 + 1) [] 0 0 with
  | Lp.ret r => r
  | Lp.brk out' => out')

def m_ref1_CleanPath_L1 : List ByteArray → Nat → (List ByteArray) → Lp (ByteArray × Int) ((List ByteArray))
  | [], i, kept => Lp.brk kept
  | x1 :: rest, i, kept => (bif decide (x1 = (⟨#[]⟩ : ByteArray)) then m_ref1_CleanPath_L1 rest (i + 1) kept else (bif decide (x1 = (⟨#[46]⟩ : ByteArray)) then m_ref1_CleanPath_L1 rest (i + 1) kept else (bif decide (x1 = (⟨#[46, 46]⟩ : ByteArray)) then (bif decide (((kept.length : Nat) : Int) = (0 : Int)) then Lp.ret ((⟨#[]⟩ : ByteArray), (200 : Int)) else m_ref1_CleanPath_L1 rest (i + 1) (kept.take (kept.length - 1))) else m_ref1_CleanPath_L1 rest (i + 1) (kept ++ [x1]))))

def m_ref1_CleanPath (s' : ByteArray) : ByteArray × Int :=
  (bif (!(m_ref1_NameMay s')) then ((⟨#[]⟩ : ByteArray), (200 : Int)) else (bif decide (((s'.data.getD 0 0).toNat : Int) = (47 : Int)) then ((⟨#[]⟩ : ByteArray), (200 : Int)) else (match m_ref1_CleanPath_L1 (m_ref1_split s' (47 : Int)) 0 [] with
  | Lp.ret r => r
  | Lp.brk kept' => (bif decide (((kept'.length : Nat) : Int) = (0 : Int)) then ((⟨#[]⟩ : ByteArray), (200 : Int)) else ((m_ref1_Join kept' (⟨#[47]⟩ : ByteArray)), (0 : Int))))))

def m_ref1_PathMay (s' : ByteArray) : Bool :=
  (decide ((m_ref1_CleanPath s').2 = (0 : Int)) && decide ((m_ref1_CleanPath s').1 = s'))

def m_ref1_PathsMay_L1 : List ByteArray → Nat → Lp (Bool) (Unit)
  | [], i => Lp.brk ()
  | x1 :: rest, i => (bif (!(m_ref1_PathMay x1)) then Lp.ret false else m_ref1_PathsMay_L1 rest (i + 1))

def m_ref1_PathsMay (xs : List ByteArray) : Bool :=
  (match m_ref1_PathsMay_L1 xs 0 with
  | Lp.ret r => r
  | Lp.brk () => decide (((xs.length : Nat) : Int) ≤ (8 : Int)))

def m_ref1_poolAt_L1 (name : ByteArray) : List DPool → Nat → Lp (Int) (Unit)
  | [], i => Lp.brk ()
  | x1 :: rest, i => (bif decide (x1.name = name) then Lp.ret ((i : Nat) : Int) else m_ref1_poolAt_L1 name rest (i + 1))

def m_ref1_poolAt (ps : List DPool) (name : ByteArray) : Int :=
  (match m_ref1_poolAt_L1 name ps 0 with
  | Lp.ret r => r
  | Lp.brk () => (-1 : Int))

def m_ref1_EdgeMay (e : DEdge) : Bool :=
  (decide ((0 : Int) < ((e.outs.length : Nat) : Int)) && ((m_ref1_PathsMay e.outs) && ((m_ref1_PathsMay e.ins) && ((m_ref1_PathsMay e.implicit) && ((m_ref1_PathsMay e.order) && ((m_ref1_Plain e.command (1 : Int) (256 : Int)) && (decide (e.pool = (⟨#[]⟩ : ByteArray)) || (m_ref1_NameMay e.pool))))))))

def m_ref1_GraphMay_L2 (g : DGraph) : List DEdge → Nat → Lp (Bool) (Unit)
  | [], i2 => Lp.brk ()
  | x2 :: rest, i2 => (bif (!(m_ref1_EdgeMay x2)) then Lp.ret false else (bif (!decide (x2.pool = (⟨#[]⟩ : ByteArray))) then (bif decide ((m_ref1_poolAt g.pools x2.pool) < (0 : Int)) then Lp.ret false else m_ref1_GraphMay_L2 g rest (i2 + 1)) else m_ref1_GraphMay_L2 g rest (i2 + 1)))

def m_ref1_GraphMay_L1 (g : DGraph) : List DPool → Nat → Lp (Bool) (Unit)
  | [], i => Lp.brk ()
  | x1 :: rest, i => (bif (!(m_ref1_NameMay x1.name)) then Lp.ret false else (bif decide (x1.depth < (1 : Int)) then Lp.ret false else (bif decide ((8 : Int) < x1.depth) then Lp.ret false else (bif (!decide ((m_ref1_poolAt g.pools x1.name) = ((i : Nat) : Int))) then Lp.ret false else m_ref1_GraphMay_L1 g rest (i + 1)))))

def m_ref1_GraphMay (g : DGraph) : Bool :=
  (match m_ref1_GraphMay_L1 g g.pools 0 with
  | Lp.ret r => r
  | Lp.brk () => (match m_ref1_GraphMay_L2 g g.edges 0 with
  | Lp.ret r => r
  | Lp.brk () => (decide (((g.pools.length : Nat) : Int) ≤ (4 : Int)) && (decide (((g.edges.length : Nat) : Int) ≤ (16 : Int)) && (m_ref1_PathsMay g.defaults)))))

def m_ref1_Check_L2 : List ByteArray → Nat → (List ByteArray) → Lp (Int) ((List ByteArray))
  | [], k, all2 => Lp.brk all2
  | x2 :: rest, k, all2 => (bif (m_ref1_has all2 x2) then Lp.ret (901 : Int) else m_ref1_Check_L2 rest (k + 1) (all2 ++ [x2]))

def m_ref1_Check_L1 : List DEdge → Nat → (List ByteArray) → Lp (Int) (Unit)
  | [], i, all => Lp.brk ()
  | x1 :: rest, i, all => (match m_ref1_Check_L2 x1.outs 0 all with
  | Lp.ret r => Lp.ret r
  | Lp.brk all2' => m_ref1_Check_L1 rest (i + 1) all2')

def m_ref1_Check (g : DGraph) : Int :=
  (bif (!(m_ref1_GraphMay g)) then (900 : Int) else (match m_ref1_Check_L1 g.edges 0 [] with
  | Lp.ret r => r
  | Lp.brk () => (0 : Int)))

def m_ref1_MakerOf_L1 (name : ByteArray) : List DEdge → Nat → Lp (Int) (Unit)
  | [], i => Lp.brk ()
  | x1 :: rest, i => (bif (m_ref1_has x1.outs name) then Lp.ret ((i : Nat) : Int) else m_ref1_MakerOf_L1 name rest (i + 1))

def m_ref1_MakerOf (g : DGraph) (name : ByteArray) : Int :=
  (match m_ref1_MakerOf_L1 name g.edges 0 with
  | Lp.ret r => r
  | Lp.brk () => (-1 : Int))

def m_ref1_Maker (g : DGraph) (name : ByteArray) : Int × Bool × Int :=
  (bif (!decide ((m_ref1_Check g) = (0 : Int))) then ((0 : Int), false, (m_ref1_Check g)) else ((if (m_ref1_MakerOf g name) > (0 : Int) then (m_ref1_MakerOf g name) else (0 : Int)), decide ((0 : Int) ≤ (m_ref1_MakerOf g name)), (0 : Int)))

def m_law0_CopyEdge (a : DEdge) : DEdge :=
  (⟨a.outs, a.ins, a.implicit, a.order, a.command, a.deps, a.pool⟩ : DEdge)

def m_law0_CopyGraph_L1 : List DEdge → Nat → (List DEdge) → Lp (DGraph) ((List DEdge))
  | [], i, edges => Lp.brk edges
  | x1 :: rest, i, edges => m_law0_CopyGraph_L1 rest (i + 1) (edges ++ [(m_law0_CopyEdge x1)])

def m_law0_CopyGraph (a : DGraph) : DGraph :=
  (match m_law0_CopyGraph_L1 a.edges 0 [] with
  | Lp.ret r => r
  | Lp.brk edges' => (⟨edges', a.pools, a.defaults⟩ : DGraph))

def m_law0_SameTexts_L1 (b : List ByteArray) : List ByteArray → Nat → Lp (Bool) (Unit)
  | [], i => Lp.brk ()
  | x1 :: rest, i => (bif (!decide (x1 = (b.getD i default))) then Lp.ret false else m_law0_SameTexts_L1 b rest (i + 1))

def m_law0_SameTexts (a : List ByteArray) (b : List ByteArray) : Bool :=
  (!(!decide (((a.length : Nat) : Int) = ((b.length : Nat) : Int))) && (match m_law0_SameTexts_L1 b a 0 with
  | Lp.ret r => r
  | Lp.brk () => true))

def m_law0_SameEdge (a : DEdge) (b : DEdge) : Bool :=
  ((m_law0_SameTexts a.outs b.outs) && ((m_law0_SameTexts a.ins b.ins) && ((m_law0_SameTexts a.implicit b.implicit) && ((m_law0_SameTexts a.order b.order) && (decide (a.command = b.command) && ((a.deps == b.deps) && decide (a.pool = b.pool)))))))

def m_law0_SamePools_L1 (b : List DPool) : List DPool → Nat → Lp (Bool) (Unit)
  | [], i => Lp.brk ()
  | x1 :: rest, i => (bif (!(decide (x1.name = (b.getD i default).name) && (decide (x1.depth = (b.getD i default).depth) && true))) then Lp.ret false else m_law0_SamePools_L1 b rest (i + 1))

def m_law0_SamePools (a : List DPool) (b : List DPool) : Bool :=
  (!(!decide (((a.length : Nat) : Int) = ((b.length : Nat) : Int))) && (match m_law0_SamePools_L1 b a 0 with
  | Lp.ret r => r
  | Lp.brk () => true))

def m_law0_SameGraph_L1 (b : DGraph) : List DEdge → Nat → Lp (Bool) (Unit)
  | [], i => Lp.brk ()
  | x1 :: rest, i => (bif (!(m_law0_SameEdge x1 (b.edges.getD i default))) then Lp.ret false else m_law0_SameGraph_L1 b rest (i + 1))

def m_law0_SameGraph (a : DGraph) (b : DGraph) : Bool :=
  (!(!decide (((a.edges.length : Nat) : Int) = ((b.edges.length : Nat) : Int))) && (match m_law0_SameGraph_L1 b a.edges 0 with
  | Lp.ret r => r
  | Lp.brk () => ((m_law0_SamePools a.pools b.pools) && (m_law0_SameTexts a.defaults b.defaults))))

def m_law0_Num (e : Int) : Int :=
  e

def m_law9_given : DGraph :=
  lit13

def m_law9_awake : Bool :=
  (decide ((m_graph_Maker lit13 (⟨#[97, 46, 100]⟩ : ByteArray)).1 = (1 : Int)) && ((m_graph_Maker lit13 (⟨#[97, 46, 100]⟩ : ByteArray)).2.1 && (decide ((m_law0_Num ((m_graph_Maker lit13 (⟨#[97, 46, 100]⟩ : ByteArray)).2.2)) = (0 : Int)) && ((!(m_graph_Maker lit13 (⟨#[97, 46, 99]⟩ : ByteArray)).2.1) && (decide ((m_law0_Num ((m_graph_Maker lit13 (⟨#[97, 46, 99]⟩ : ByteArray)).2.2)) = (0 : Int)) && (decide ((m_law0_Num (m_graph_Check lit13)) = (0 : Int)) && (decide ((m_law0_Num (m_graph_Check lit15)) = (901 : Int)) && (decide ((m_law0_Num (m_graph_Check lit14)) = (900 : Int)) && ((m_graph_May lit15) && (!(m_graph_May lit14)))))))))))

def m_law9_Graphs (g : DGraph) (name : ByteArray) : Bool :=
  (decide ((m_graph_Maker (⟨(m_law0_CopyGraph g).edges, (m_law0_CopyGraph g).pools, (m_law0_CopyGraph g).defaults⟩ : DGraph) name).1 = (m_ref1_Maker g name).1) && (((m_graph_Maker (⟨(m_law0_CopyGraph g).edges, (m_law0_CopyGraph g).pools, (m_law0_CopyGraph g).defaults⟩ : DGraph) name).2.1 == (m_ref1_Maker g name).2.1) && (decide ((m_law0_Num ((m_graph_Maker (⟨(m_law0_CopyGraph g).edges, (m_law0_CopyGraph g).pools, (m_law0_CopyGraph g).defaults⟩ : DGraph) name).2.2)) = (m_ref1_Maker g name).2.2) && (decide ((m_law0_Num (m_graph_Check (⟨(m_law0_CopyGraph g).edges, (m_law0_CopyGraph g).pools, (m_law0_CopyGraph g).defaults⟩ : DGraph))) = (m_ref1_Check g)) && (((m_graph_May (⟨(m_law0_CopyGraph g).edges, (m_law0_CopyGraph g).pools, (m_law0_CopyGraph g).defaults⟩ : DGraph)) == (m_ref1_GraphMay g)) && ((m_law0_SameGraph (⟨(m_law0_CopyGraph g).edges, (m_law0_CopyGraph g).pools, (m_law0_CopyGraph g).defaults⟩ : DGraph) g) && m_law9_awake))))))

end
end Go.Lift
namespace Go.Lift
noncomputable section
open Go Go.RowKit
set_option linter.unusedSimpArgs false
set_option linter.unusedVariables false
set_option linter.unusedSectionVars false
set_option maxRecDepth 20000
theorem szL_len {α : Type} {sz : α → Nat} (h : ∀ x, 1 ≤ sz x) (xs : List α) : xs.length + 1 ≤ szL sz xs := by
  unfold szL
  induction xs with
  | nil => simp
  | cons x xs ih => have := h x; simp only [List.map_cons, List.sum_cons, List.length_cons]; omega
theorem szL_mem {α : Type} {sz : α → Nat} {x : α} : ∀ {xs : List α}, x ∈ xs → sz x + 1 ≤ szL sz xs
  | [], h => by simp at h
  | y :: ys, h => by
    unfold szL
    simp only [List.map_cons, List.sum_cons]
    rcases List.mem_cons.1 h with rfl | h
    · omega
    · have := szL_mem (sz := sz) h; unfold szL at this; omega
theorem szL_getD {α : Type} [Inhabited α] {sz : α → Nat} {xs : List α} {i : Nat} (h : i < xs.length) : sz (xs.getD i default) + 1 ≤ szL sz xs :=
  szL_mem (List.mem_of_getElem? (getD_some h))
theorem szL_str (xs : List ByteArray) : xs.length + 1 ≤ szL (fun s : ByteArray => s.size + 1) xs := szL_len (fun _ => Nat.le_add_left 1 _) xs
theorem DEdge.sz_one (e : DEdge) : 1 ≤ e.sz := by unfold DEdge.sz; omega
theorem DPool.sz_one (e : DPool) : 1 ≤ e.sz := by unfold DPool.sz; omega
theorem DEdge.sz_eq (d : DEdge) : d.sz = szL (fun s : ByteArray => s.size + 1) d.outs + szL (fun s : ByteArray => s.size + 1) d.ins + szL (fun s : ByteArray => s.size + 1) d.implicit + szL (fun s : ByteArray => s.size + 1) d.order + (d.command.size + 1) + 1 + (d.pool.size + 1) + 1 := rfl
theorem DGraph.sz_len (g : DGraph) : g.edges.length ≤ g.sz := Nat.le_trans (Nat.le_of_succ_le (szL_len DEdge.sz_one g.edges)) g.sz_edges
theorem needsN_sz (g : DGraph) (i : Int) : needsN g i ≤ g.sz := by
  unfold needsN
  by_cases h : i.toNat < g.edges.length
  · have h1 := szL_getD (sz := DEdge.sz) h
    have h2 := g.sz_edges
    generalize g.edges.getD i.toNat default = e at *
    have a := szL_str e.ins; have b := szL_str e.implicit; have c := szL_str e.order
    rw [DEdge.sz_eq] at h1
    omega
  · rw [List.getD_eq_getElem?_getD, List.getElem?_eq_none (by omega)]
    show (0 + 0 + 0 : Nat) ≤ _
    omega
theorem outsN_sz' : ∀ es : List DEdge, outsN es ≤ szL DEdge.sz es
  | [] => Nat.zero_le _
  | e :: es => by
    have := outsN_sz' es
    have a := szL_str e.outs; have b := e.sz_outs
    unfold szL at *
    simp only [outsN, List.map_cons, List.sum_cons] at *
    omega
theorem outsN_sz (g : DGraph) : outsN g.edges ≤ g.sz := Nat.le_trans (outsN_sz' _) g.sz_edges
end
end Go.Lift
namespace Go.Lift
noncomputable section
open Go Go.RowKit
set_option linter.unusedSimpArgs false
set_option linter.unusedVariables false
set_option linter.unusedSectionVars false
set_option maxRecDepth 20000
theorem lp_all {α : Type} {p : α → Bool} {L : List α → Nat → Lp Bool Unit} (h0 : ∀ i, L [] i = Lp.brk ()) (h1 : ∀ x r i, L (x :: r) i = bif !(p x) then Lp.ret false else L r (i + 1)) : ∀ (l : List α) (i : Nat), L l i = if l.all p then Lp.brk () else Lp.ret false
  | [], i => by rw [h0]; rfl
  | x :: r, i => by
    rw [h1, lp_all h0 h1 r (i + 1), List.all_cons]
    cases p x <;> simp

theorem szsum_append (xs ys : List ByteArray) (k : Nat) : szsum (xs ++ ys) k = szsum xs k + szsum ys k := by
  induction xs with
  | nil => simp [szsum]
  | cons x xs ih => simp only [List.cons_append, szsum, ih]; omega
theorem szsum_take (xs : List ByteArray) (n k : Nat) : szsum (xs.take n) k ≤ szsum xs k := by
  have := szsum_append (xs.take n) (xs.drop n) k
  rw [List.take_append_drop] at this
  omega

theorem ref1_NameMay_L1 (l : List UInt8) (i : Nat) : m_ref1_NameMay_L1 l i = if l.all byteOk then Lp.brk () else Lp.ret false :=
  lp_all (p := byteOk) (fun _ => rfl) (fun x r i => by
    rw [m_ref1_NameMay_L1, byteOk_eq]
    have e : m_ref1_small (x.toNat : Int) = smallS x.toNat := by
      unfold m_ref1_small smallS
      cases decide ((97 : Int) ≤ (x.toNat : Int)) <;> cases decide ((x.toNat : Int) ≤ 122) <;> rfl
    rw [e]
    generalize smallS x.toNat = a
    generalize decide ((x.toNat : Int) = 46) = b
    generalize decide ((x.toNat : Int) = 95) = c
    generalize decide ((x.toNat : Int) = 45) = d
    generalize decide ((x.toNat : Int) = 47) = f
    cases a <;> cases b <;> cases c <;> cases d <;> cases f <;> rfl) l i
theorem ref1_NameMay_eq (s : ByteArray) : m_ref1_NameMay s = mayS s := by
  unfold m_ref1_NameMay
  rw [ref1_NameMay_L1, mayS_ref]
  cases s.data.toList.all byteOk <;> rfl
theorem mayS_sz {s : ByteArray} (h : mayS s = true) : 1 ≤ s.size ∧ s.size ≤ 16 := by
  rw [mayS_ref] at h
  simp only [Bool.and_eq_true, decide_eq_true_eq] at h
  omega
theorem ref1_NameMay_sz' {s : ByteArray} (h : m_ref1_NameMay s = true) : 1 ≤ s.size ∧ s.size ≤ 16 := mayS_sz (by rw [← ref1_NameMay_eq]; exact h)
theorem ref1_NameMay_sz {s : ByteArray} (h : (!(m_ref1_NameMay s)) = false) : 1 ≤ s.size ∧ s.size ≤ 16 := ref1_NameMay_sz' (by simpa using h)

def Lp.val {α : Type} : Lp α α → α
  | .ret a => a
  | .brk a => a
theorem split_sz_L1 (s : ByteArray) (c : Int) : ∀ (k : Nat) (out : List ByteArray) (f i : Nat), szsum out 1 ≤ f → f ≤ i → i ≤ s.size + 1 → szsum (m_ref1_split_L1 s c k out f i).val 1 ≤ s.size + 1
  | 0, out, f, i, h1, h2, h3 => by simp only [m_ref1_split_L1, Lp.val]; omega
  | k + 1, out, f, i, h1, h2, h3 => by
    rw [m_ref1_split_L1]
    by_cases h : ((i : Nat) : Int) ≤ ((s.size : Nat) : Int)
    · rw [decide_eq_true h, cond_true]
      cases (decide (((i : Nat) : Int) = ((s.size : Nat) : Int)) || decide (((s.data.getD i 0).toNat : Int) = c))
      · exact split_sz_L1 s c k out f (i + 1) h1 (by omega) (by omega)
      · refine split_sz_L1 s c k _ (i + 1) (i + 1) ?_ (Nat.le_refl _) (by omega)
        rw [szsum_append]
        simp only [szsum, ByteArray.size_extract]
        omega
    · rw [decide_eq_false h, cond_false]
      simp only [Lp.val]; omega
theorem split_sz (s : ByteArray) (c : Int) : szsum (m_ref1_split s c) 1 ≤ s.size + 1 := by
  have := split_sz_L1 s c (s.size + 1 - 0 + 1) [] 0 0 (Nat.le_refl _) (Nat.le_refl _) (Nat.zero_le _)
  unfold m_ref1_split
  cases e : m_ref1_split_L1 s c (s.size + 1 - 0 + 1) [] 0 0 <;> rw [e] at this <;> exact this
theorem split_join {s : ByteArray} {c : Int} {kept : List ByteArray} {n : Nat} (h : s.size ≤ 16) (hk : szsum kept 1 + n ≤ szsum (m_ref1_split s c) 1) : szsum kept (⟨#[47]⟩ : ByteArray).size ≤ 281474976710656 := by
  have := split_sz s c
  show szsum kept 1 ≤ _
  omega
end
end Go.Lift
namespace Go.Lift
noncomputable section
open Go Go.RowKit
set_option linter.unusedSimpArgs false
set_option linter.unusedVariables false
set_option linter.unusedSectionVars false
set_option maxRecDepth 20000
theorem splitL_ne (c : UInt8) : ∀ l : List UInt8, splitL c l ≠ []
  | [] => by simp [splitL]
  | b :: l => by
    rw [splitL]
    split
    · simp
    · cases h : splitL c l <;> simp
theorem extract_list (s : ByteArray) (f i : Nat) : (s.extract f i).data.toList = (s.data.toList.take i).drop f := by
  rw [ByteArray.data_extract, Array.toList_extract, List.extract_eq_take_drop, List.take_drop]
  by_cases h : f ≤ i
  · rw [show f + (i - f) = i by omega]
  · rw [show f + (i - f) = f by omega, List.drop_of_length_le (by simp; omega), List.drop_of_length_le (by simp; omega)]
theorem ref1_split_L1 (s : ByteArray) : ∀ (k : Nat) (out : List ByteArray) (f i : Nat), f ≤ i → i ≤ s.size → s.size + 1 - i < k →
    m_ref1_split_L1 s 47 k out f i = Lp.brk (out ++ (match splitL 47 (s.data.toList.drop i) with | [] => [] | p :: r => toBA ((s.data.toList.take i).drop f ++ p) :: r.map toBA))
  | 0, _, _, _, _, _, h => by omega
  | k + 1, out, f, i, h1, h2, h3 => by
    have hl := data_len s
    rw [m_ref1_split_L1, decide_eq_true (by omega), cond_true]
    by_cases hi : i = s.size
    · subst hi
      rw [decide_eq_true rfl, Bool.true_or, cond_true]
      obtain ⟨k', rfl⟩ : ∃ k', k = k' + 1 := ⟨k - 1, by omega⟩
      rw [m_ref1_split_L1, decide_eq_false (by omega), cond_false, List.drop_of_length_le (by omega)]
      simp only [splitL, List.append_nil, List.map_nil]
      rw [← extract_list, toBA_toList]
    · have hlt : i < s.data.toList.length := by omega
      have hd : s.data.toList.drop i = s.data.getD i 0 :: s.data.toList.drop (i + 1) := by
        rw [List.drop_eq_getElem_cons hlt]
        congr 1
        have : i < s.data.size := by rw [← Array.length_toList]; exact hlt
        simp only [Array.getD, this, dif_pos]; simp
      have ht : s.data.toList.take (i + 1) = s.data.toList.take i ++ [s.data.getD i 0] := by
        rw [List.take_add_one, List.getElem?_eq_getElem hlt]
        have : i < s.data.size := by rw [← Array.length_toList]; exact hlt
        simp only [Array.getD, this, dif_pos]; simp
      rw [decide_eq_false (by omega), Bool.false_or, hd, splitL]
      by_cases hb : s.data.getD i 0 = 47
      · rw [if_pos hb, decide_eq_true (by rw [hb]; rfl), cond_true, ref1_split_L1 s k _ (i + 1) (i + 1) (Nat.le_refl _) (by omega) (by omega)]
        simp only [List.append_assoc, List.append_nil, List.singleton_append]
        rw [show toBA ((s.data.toList.take i).drop f) = s.extract f i from by rw [← extract_list]; rfl]
        congr 3
        cases h : splitL 47 (s.data.toList.drop (i + 1)) with
        | nil => exact absurd h (splitL_ne _ _)
        | cons p r => simp only [List.map_cons]; rw [List.drop_of_length_le (by simp; omega), List.nil_append]
      · have hn : ¬ ((s.data.getD i 0).toNat : Int) = 47 := fun h => hb (by
          apply UInt8.toNat_inj.1; show _ = 47; omega)
        rw [if_neg hb, decide_eq_false hn, cond_false, ref1_split_L1 s k out f (i + 1) (by omega) (by omega) (by omega)]
        congr 2
        cases h : splitL 47 (s.data.toList.drop (i + 1)) with
        | nil => exact absurd h (splitL_ne _ _)
        | cons p r =>
          simp only
          rw [ht, List.drop_append_of_le_length (by simp; omega), List.append_assoc]; rfl
theorem ref1_split_eq (s : ByteArray) : m_ref1_split s 47 = (splitL 47 s.data.toList).map toBA := by
  unfold m_ref1_split
  rw [ref1_split_L1 s _ [] 0 0 (Nat.le_refl _) (Nat.zero_le _) (by omega)]
  simp only [List.drop_zero, List.nil_append, List.take_zero]
  cases h : splitL 47 s.data.toList with
  | nil => exact absurd h (splitL_ne _ _)
  | cons p r => rfl
theorem ref1_Clean_L1 : ∀ (ps : List ByteArray) (i : Nat) (kept : List ByteArray), m_ref1_CleanPath_L1 ps i kept = match foldB ps kept with
    | none => Lp.ret ((⟨#[]⟩ : ByteArray), (200 : Int))
    | some k => Lp.brk k
  | [], i, kept => rfl
  | p :: ps, i, kept => by
    rw [m_ref1_CleanPath_L1, foldB, stepB]
    by_cases h1 : p = ⟨#[]⟩
    · rw [decide_eq_true h1, cond_true, if_pos (Or.inl h1), ref1_Clean_L1 ps]; rfl
    · rw [decide_eq_false h1, cond_false]
      by_cases h2 : p = ⟨#[46]⟩
      · rw [decide_eq_true h2, cond_true, if_pos (Or.inr h2), ref1_Clean_L1 ps]; rfl
      · rw [decide_eq_false h2, cond_false, if_neg (by rintro (h | h); exact h1 h; exact h2 h)]
        by_cases h3 : p = ⟨#[46, 46]⟩
        · rw [decide_eq_true h3, cond_true, if_neg (fun h => h h3)]
          by_cases h4 : kept = []
          · subst h4; rfl
          · rw [decide_eq_false (by cases kept with
              | nil => exact absurd rfl h4
              | cons a b => simp only [List.length_cons]; omega), cond_false, if_neg h4, ref1_Clean_L1 ps, List.dropLast_eq_take]; rfl
        · rw [decide_eq_false h3, cond_false, if_pos h3, ref1_Clean_L1 ps]; rfl
theorem ref1_Join_L1 : ∀ (xs : List ByteArray) (i : Nat) (acc : ByteArray), 0 < i → m_ref1_Join_L1 ⟨#[47]⟩ xs i acc = Lp.brk (toBA (acc.data.toList ++ Lib.joinTail [47] (xs.map (·.data.toList))))
  | [], i, acc, _ => by
    rw [m_ref1_Join_L1]; simp only [Lib.joinTail, List.map_nil, List.flatten_nil, List.append_nil]; rfl
  | x :: xs, i, acc, h => by
    rw [m_ref1_Join_L1, decide_eq_true (by omega), cond_true, ref1_Join_L1 xs (i + 1) _ (by omega)]
    congr 2
    simp [Lib.joinTail]
theorem ref1_Join_eq (k : ByteArray) (ks : List ByteArray) : m_ref1_Join (k :: ks) ⟨#[47]⟩ = joinB (k :: ks) := by
  unfold m_ref1_Join joinB
  rw [m_ref1_Join_L1, decide_eq_false (by omega), cond_false, ref1_Join_L1 ks 1 _ (by omega)]
  simp only [List.map_cons, Lib.join_cons]
  show toBA _ = _
  unfold toBA
  congr 2
theorem ref1_CleanPath_eq (s : ByteArray) : m_ref1_CleanPath s = cleanS s := by
  unfold m_ref1_CleanPath cleanS
  rw [ref1_NameMay_eq]
  cases hm : mayS s
  · simp
  · have hz := mayS_sz hm
    have hl := data_len s
    have hh : s.data.toList.head? = some (s.data.getD 0 0) := by
      cases hs : s.data.toList with
      | nil => rw [hs] at hl; simp at hl; omega
      | cons a b =>
        have : 0 < s.data.size := by show 0 < s.size; omega
        simp only [Array.getD, this, dif_pos, List.head?_cons]
        have e : s.data.toList[0]? = some a := by rw [hs]; rfl
        rw [Array.getElem?_toList] at e
        rw [Array.getElem?_eq_getElem this] at e
        exact e.symm
    simp only [Bool.not_true, cond_false, Bool.true_eq_false, false_or, hh]
    by_cases hb : s.data.getD 0 0 = 47
    · rw [decide_eq_true (by rw [hb]; rfl), cond_true, if_pos (by rw [hb])]
    · have hn : ¬ ((s.data.getD 0 0).toNat : Int) = 47 := fun h => hb (by
        apply UInt8.toNat_inj.1; show _ = 47; omega)
      rw [decide_eq_false hn, cond_false, if_neg (by simpa using hb), ref1_split_eq, ref1_Clean_L1]
      cases foldB ((splitL 47 s.data.toList).map toBA) [] with
      | none => rfl
      | some k =>
        cases k with
        | nil => rfl
        | cons k ks =>
          simp only
          rw [decide_eq_false (by simp only [List.length_cons]; omega), cond_false, ref1_Join_eq]
theorem ref1_PathMay_eq (s : ByteArray) : m_ref1_PathMay s = isS s := by
  unfold m_ref1_PathMay isS; rw [ref1_CleanPath_eq]
theorem ref1_PathsMay_eq (xs : List ByteArray) : m_ref1_PathsMay xs = allS ⟨false, xs⟩ := by
  unfold m_ref1_PathsMay allS
  rw [lp_all (p := isS) (L := m_ref1_PathsMay_L1) (fun _ => rfl) (fun x r i => by rw [m_ref1_PathsMay_L1, ref1_PathMay_eq]) xs 0]
  cases xs.all isS <;> simp
theorem ref1_Plain_L1_eq (l : List UInt8) (i : Nat) : m_ref1_Plain_L1 l i = if l.all plainB then Lp.brk () else Lp.ret false :=
  lp_all (p := plainB) (L := m_ref1_Plain_L1) (fun _ => rfl) (fun x r i => by
    rw [m_ref1_Plain_L1]
    have e : plainB x = (!decide ((x.toNat : Int) < 32) && !decide ((126 : Int) < (x.toNat : Int))) := by
      unfold plainB
      congr 1
      · rw [← decide_not]; congr 1; apply propext; omega
      · rw [← decide_not]; congr 1; apply propext; omega
    rw [e]
    cases decide ((x.toNat : Int) < 32) <;> cases decide ((126 : Int) < (x.toNat : Int)) <;> rfl) l i
theorem ref1_command_eq (s : ByteArray) : m_ref1_Plain s 1 256 = commandS s := by
  unfold m_ref1_Plain commandS plainS
  rw [ref1_Plain_L1_eq]
  have e : decide ((1 : Int) ≤ ((s.size : Nat) : Int)) = !decide (s = ⟨#[]⟩) := by
    rw [← decide_not]; congr 1; apply propext
    constructor
    · rintro h rfl; exact absurd h (by decide)
    · intro h
      have : s.size ≠ 0 := fun h0 => h (by
        apply ba_ext
        have := data_len s
        rw [h0] at this
        rw [List.length_eq_zero_iff.1 this])
      omega
  cases s.data.toList.all plainB
  · simp
  · simp only [if_true, e, Bool.true_and]
theorem ref1_EdgeMay_eq (e : DEdge) : m_ref1_EdgeMay e = edgeS (eOf e) := by
  unfold m_ref1_EdgeMay edgeS eOf
  simp only [ref1_PathsMay_eq, ref1_command_eq, ref1_NameMay_eq, List.all_cons, List.all_nil, Bool.and_true]
  have h : decide ((0 : Int) < ((e.outs.length : Nat) : Int)) = decide (((e.outs.length : Nat) : Int) > 0) := rfl
  rw [h]
  generalize decide (((e.outs.length : Nat) : Int) > 0) = a
  generalize allS ⟨false, e.outs⟩ = b
  generalize allS ⟨false, e.ins⟩ = c
  generalize allS ⟨false, e.implicit⟩ = d
  generalize allS ⟨false, e.order⟩ = f
  cases a <;> cases b <;> cases c <;> cases d <;> cases f <;> simp
theorem lp_idx {α : Type} {p : α → Bool} {L : List α → Nat → Lp Int Unit} (h0 : ∀ i, L [] i = Lp.brk ()) (h1 : ∀ x r i, L (x :: r) i = bif p x then Lp.ret ((i : Nat) : Int) else L r (i + 1)) : ∀ (l : List α) (i : Nat), L l i = match l.findIdx? p with
    | some j => Lp.ret (((i + j : Nat)) : Int)
    | none => Lp.brk ()
  | [], i => by rw [h0]; rfl
  | x :: r, i => by
    rw [h1, lp_idx h0 h1 r (i + 1), List.findIdx?_cons]
    cases p x
    · simp only [cond_false, Bool.false_eq_true, if_false]
      cases r.findIdx? p with
      | none => rfl
      | some j => simp only [Option.map_some]; congr 2; omega
    · rfl
theorem idxS_map {α β : Type} (f : α → β) (p : β → Bool) (q : α → Bool) (h : ∀ x, p (f x) = q x) (xs : List α) : idxS p (xs.map f) = idxS q xs := by
  unfold idxS
  rw [List.findIdx?_map]
  have : p ∘ f = q := funext h
  rw [this]
theorem ref1_poolAt_eq (g : DGraph) (name : ByteArray) : m_ref1_poolAt g.pools name = poolAt (gOf g) name := by
  unfold m_ref1_poolAt poolAt
  rw [lp_idx (p := fun p : DPool => decide (p.name = name)) (L := m_ref1_poolAt_L1 name) (fun _ => rfl) (fun x r i => by rw [m_ref1_poolAt_L1]) g.pools 0]
  rw [show (gOf g).pools = g.pools.map pOf from rfl, idxS_map pOf _ (fun p => decide (p.name = name)) (fun x => rfl)]
  unfold idxS
  cases g.pools.findIdx? (fun p => decide (p.name = name)) with
  | none => rfl
  | some j => simp

theorem allIdx_map {α β : Type} (f : α → β) (p : Nat → β → Bool) (q : Nat → α → Bool) (h : ∀ i x, p i (f x) = q i x) : ∀ (i : Nat) (xs : List α), allIdx p i (xs.map f) = allIdx q i xs
  | _, [] => rfl
  | i, x :: xs => by simp only [List.map_cons, allIdx, h, allIdx_map f p q h (i + 1) xs]
theorem lp_allIdx {α : Type} {p : Nat → α → Bool} {L : List α → Nat → Lp Bool Unit} (h0 : ∀ i, L [] i = Lp.brk ()) (h1 : ∀ x r i, L (x :: r) i = bif !(p i x) then Lp.ret false else L r (i + 1)) : ∀ (l : List α) (i : Nat), L l i = if allIdx p i l then Lp.brk () else Lp.ret false
  | [], i => by rw [h0]; rfl
  | x :: r, i => by
    rw [h1, lp_allIdx h0 h1 r (i + 1), allIdx]
    cases p i x <;> simp
def poolOkD (g : DGraph) (k : Nat) (p : DPool) : Bool := poolOk (gOf g) k (pOf p)
theorem ref1_GraphMay_L1_eq (g : DGraph) (l : List DPool) (i : Nat) : m_ref1_GraphMay_L1 g l i = if allIdx (poolOkD g) i l then Lp.brk () else Lp.ret false :=
  lp_allIdx (p := poolOkD g) (L := m_ref1_GraphMay_L1 g) (fun _ => rfl) (fun x r i => by
    rw [m_ref1_GraphMay_L1, ref1_NameMay_eq, ref1_poolAt_eq]
    have e : poolOkD g i x = (mayS x.name && !decide (x.depth < 1) && !decide ((8 : Int) < x.depth) && decide (poolAt (gOf g) x.name = ((i : Nat) : Int))) := rfl
    rw [e]
    cases mayS x.name <;> cases decide (x.depth < 1) <;> cases decide ((8 : Int) < x.depth) <;> cases decide (poolAt (gOf g) x.name = ((i : Nat) : Int)) <;> rfl) l i
theorem ref1_GraphMay_L2_eq (g : DGraph) (l : List DEdge) (i : Nat) : m_ref1_GraphMay_L2 g l i = if l.all (fun e => edgeIn (gOf g) (eOf e)) then Lp.brk () else Lp.ret false :=
  lp_all (p := fun e => edgeIn (gOf g) (eOf e)) (L := m_ref1_GraphMay_L2 g) (fun _ => rfl) (fun x r i => by
    rw [m_ref1_GraphMay_L2, ref1_EdgeMay_eq, ref1_poolAt_eq]
    have e : edgeIn (gOf g) (eOf x) = (edgeS (eOf x) && (decide (x.pool = (⟨#[]⟩ : ByteArray)) || !decide (poolAt (gOf g) x.pool < 0))) := rfl
    rw [e]
    cases edgeS (eOf x) <;> cases decide (x.pool = (⟨#[]⟩ : ByteArray)) <;> cases decide (poolAt (gOf g) x.pool < 0) <;> rfl) l i
theorem ref1_GraphMay_eq (g : DGraph) : m_ref1_GraphMay g = m_graph_May g := by
  unfold m_ref1_GraphMay m_graph_May mayG poolsS
  rw [ref1_GraphMay_L1_eq, ref1_GraphMay_L2_eq, ref1_PathsMay_eq]
  rw [show (gOf g).edges = g.edges.map eOf from rfl, show (gOf g).pools = g.pools.map pOf from rfl, List.all_map, List.length_map, List.length_map, allIdx_map pOf _ (poolOkD g) (fun _ _ => rfl)]
  rw [show (gOf g).defaults = ⟨false, g.defaults⟩ from rfl]
  rw [show (edgeIn (gOf g) ∘ eOf) = (fun e => edgeIn (gOf g) (eOf e)) from rfl]
  cases allIdx (poolOkD g) 0 g.pools <;> cases g.edges.all (fun e => edgeIn (gOf g) (eOf e)) <;> simp
  cases decide (((g.pools.length : Nat) : Int) ≤ 4) <;> cases decide (((g.edges.length : Nat) : Int) ≤ 16) <;> simp
theorem ref1_has_eq (xs : List ByteArray) (x : ByteArray) : (x ∈ xs → m_ref1_has xs x = true) ∧ (x ∉ xs → m_ref1_has xs x = false) := by
  have h : ∀ (l : List ByteArray) (i : Nat), (x ∈ l → m_ref1_has_L1 x l i = Lp.ret true) ∧ (x ∉ l → m_ref1_has_L1 x l i = Lp.brk ()) := by
    intro l; induction l with
    | nil => intro i; exact ⟨fun h => by simp at h, fun _ => rfl⟩
    | cons y l ih =>
      intro i
      rw [m_ref1_has_L1]
      by_cases hy : y = x
      · subst hy; rw [decide_eq_true rfl, cond_true]; exact ⟨fun _ => rfl, fun h => absurd (List.mem_cons_self) h⟩
      · rw [decide_eq_false hy, cond_false]
        refine ⟨fun h => (ih (i + 1)).1 ?_, fun h => (ih (i + 1)).2 fun h2 => h (List.mem_cons_of_mem _ h2)⟩
        rcases List.mem_cons.1 h with h | h
        · exact absurd h.symm hy
        · exact h
  unfold m_ref1_has
  exact ⟨fun hx => by rw [(h xs 0).1 hx], fun hx => by rw [(h xs 0).2 hx]⟩
theorem ref1_Check_L2_eq : ∀ (l : List ByteArray) (k : Nat) (acc : List ByteArray), acc.Nodup → m_ref1_Check_L2 l k acc = if (acc ++ l).Nodup then Lp.brk (acc ++ l) else Lp.ret 901
  | [], k, acc, h => by rw [List.append_nil, if_pos h]; rfl
  | x :: l, k, acc, h => by
    rw [m_ref1_Check_L2]
    by_cases hx : x ∈ acc
    · rw [(ref1_has_eq acc x).1 hx, cond_true, if_neg]
      intro hn
      rw [List.nodup_append] at hn
      exact hn.2.2 x hx x (by simp) rfl
    · rw [(ref1_has_eq acc x).2 hx, cond_false, ref1_Check_L2_eq l (k + 1) (acc ++ [x]) (by
        rw [List.nodup_append]
        exact ⟨h, by simp, fun a ha b hb => by simp only [List.mem_singleton] at hb; subst hb; rintro rfl; exact hx ha⟩), List.append_assoc, List.singleton_append]
theorem ref1_Check_L1_eq : ∀ (es : List DEdge) (i : Nat) (acc : List ByteArray), acc.Nodup → m_ref1_Check_L1 es i acc = if (acc ++ es.flatMap (·.outs)).Nodup then Lp.brk () else Lp.ret 901
  | [], i, acc, h => by rw [List.flatMap_nil, List.append_nil, if_pos h]; rfl
  | e :: es, i, acc, h => by
    rw [m_ref1_Check_L1, ref1_Check_L2_eq _ _ _ h, List.flatMap_cons, ← List.append_assoc]
    by_cases hn : (acc ++ e.outs).Nodup
    · rw [if_pos hn]
      simp only
      rw [ref1_Check_L1_eq es (i + 1) _ hn]
    · rw [if_neg hn]
      simp only
      rw [if_neg]
      intro h2
      rw [List.nodup_append] at h2
      exact hn h2.1
theorem ref1_Check_eq (g : DGraph) : m_ref1_Check g = m_graph_Check g := by
  unfold m_ref1_Check m_graph_Check checkS
  rw [ref1_GraphMay_eq]
  show _ = if m_graph_May g = false then _ else _
  cases m_graph_May g
  · rfl
  · rw [ref1_Check_L1_eq _ _ _ List.nodup_nil, List.nil_append]
    have e : outsOf (gOf g).edges = g.edges.flatMap (·.outs) := by
      unfold outsOf
      rw [show (gOf g).edges = g.edges.map eOf from rfl, List.flatMap_map]; rfl
    rw [e]
    have hd := hasDup_iff ((g.edges.flatMap (·.outs)).map fun x => x.data.toList)
    have hn : ((g.edges.flatMap (·.outs)).map fun x => x.data.toList).Nodup ↔ (g.edges.flatMap (·.outs)).Nodup := by
      constructor
      · intro h; exact List.Pairwise.of_map (fun x : ByteArray => x.data.toList) (fun a b hh hab => hh (by rw [hab])) h
      · intro h; exact List.Pairwise.map _ (fun a b hab hh => hab (ba_ext hh)) h
    by_cases h : (g.edges.flatMap (·.outs)).Nodup
    · rw [if_pos h]
      have : hasDup ((g.edges.flatMap (·.outs)).map fun x => x.data.toList) = false := by
        cases hh : hasDup ((g.edges.flatMap (·.outs)).map fun x => x.data.toList)
        · rfl
        · exact absurd (hn.2 h) (hd.1 hh)
      rw [this]; rfl
    · rw [if_neg h]
      have : hasDup ((g.edges.flatMap (·.outs)).map fun x => x.data.toList) = true := hd.2 (fun hh => h (hn.1 hh))
      rw [this]; rfl
end
end Go.Lift
namespace Go.Lift
noncomputable section
open Go Go.RowKit
set_option linter.unusedSimpArgs false
set_option linter.unusedVariables false
set_option linter.unusedSectionVars false
set_option maxRecDepth 20000
def mkD (g : DGraph) (n : ByteArray) : Int := idxS (fun e => Lib.containsS e.outs n) g.edges
theorem makesAt_eq (g : DGraph) (n : ByteArray) : makesAt (gOf g) n = mkD g n := by
  unfold makesAt mkD
  rw [show (gOf g).edges = g.edges.map eOf from rfl, idxS_map eOf _ (fun e => Lib.containsS e.outs n) (fun _ => rfl)]
theorem maker_ok {g : DGraph} (h : m_graph_Check g = 0) (n : ByteArray) : m_graph_Maker g n = (max (mkD g n) 0, decide (mkD g n ≥ 0), 0) := by
  unfold m_graph_Maker makerS
  rw [if_pos (show checkS (gOf g) = 0 from h), makesAt_eq]
theorem maker_no {g : DGraph} (h : m_graph_Check g ≠ 0) (n : ByteArray) : m_graph_Maker g n = (0, false, m_graph_Check g) := by
  unfold m_graph_Maker makerS
  rw [if_neg (show ¬ checkS (gOf g) = 0 from h)]; rfl
end
end Go.Lift
namespace Go.Lift
noncomputable section
open Go Go.RowKit
set_option linter.unusedSimpArgs false
set_option linter.unusedVariables false
set_option linter.unusedSectionVars false
set_option maxRecDepth 20000
end
end Go.Lift
namespace Go.Lift
noncomputable section
open Go Go.RowKit
set_option linter.unusedSimpArgs false
set_option linter.unusedVariables false
set_option linter.unusedSectionVars false
set_option maxRecDepth 20000
theorem idx_val {α : Type} {p : α → Bool} {L : List α → Nat → Lp Int Unit} (h0 : ∀ i, L [] i = Lp.brk ()) (h1 : ∀ x r i, L (x :: r) i = bif p x then Lp.ret ((i : Nat) : Int) else L r (i + 1)) (l : List α) :
    (match L l 0 with | Lp.ret r => r | Lp.brk () => (-1 : Int)) = idxS p l := by
  rw [lp_idx h0 h1 l 0]; unfold idxS
  cases l.findIdx? p with
  | none => rfl
  | some j => simp
theorem has_str (xs : List ByteArray) (x : ByteArray) : m_ref1_has xs x = Lib.containsS xs x := by
  cases hc : Lib.containsS xs x
  · exact (ref1_has_eq xs x).2 fun h => by rw [(Lib.containsS_iff _ _).2 h] at hc; cases hc
  · exact (ref1_has_eq xs x).1 ((Lib.containsS_iff _ _).1 hc)
theorem makerOf_mkD (g : DGraph) (x : ByteArray) : m_ref1_MakerOf g x = mkD g x := by
  unfold m_ref1_MakerOf mkD
  refine (idx_val (p := fun e => m_ref1_has e.outs x) (fun _ => rfl) (fun _ _ _ => rfl) g.edges).trans ?_
  congr 1; funext e; exact has_str e.outs x

/-! what comes first -/
end
end Go.Lift
namespace Go.Lift
noncomputable section
open Go Go.RowKit
set_option linter.unusedSimpArgs false
set_option linter.unusedVariables false
set_option linter.unusedSectionVars false
set_option maxRecDepth 20000
/-! plain law: Graphs -/
theorem law9_awake_true : m_law9_awake = true := by
  simp only [m_law9_awake, m_law0_Num]
  kernel_rfl
theorem copyEdge_eq (a : DEdge) : m_law0_CopyEdge a = a := rfl
theorem copyGraph_L1 : ∀ (xs : List DEdge) (i : Nat) (c : List DEdge), m_law0_CopyGraph_L1 xs i c = Lp.brk (c ++ xs)
  | [], i, c => by simp [m_law0_CopyGraph_L1]
  | x :: r, i, c => by rw [m_law0_CopyGraph_L1, copyGraph_L1 r (i + 1), copyEdge_eq]; simp
theorem copyGraph_eq (g : DGraph) : m_law0_CopyGraph g = g := by
  unfold m_law0_CopyGraph; rw [copyGraph_L1]; rfl
theorem sameTexts_L1 : ∀ (xs pre : List ByteArray), m_law0_SameTexts_L1 (pre ++ xs) xs pre.length = Lp.brk ()
  | [], pre => rfl
  | x :: r, pre => by
    have h := sameTexts_L1 r (pre ++ [x])
    rw [m_law0_SameTexts_L1]
    simp only [List.append_assoc, List.singleton_append, List.length_append, List.length_singleton] at h
    simp [List.getD_eq_getElem?_getD, h]
theorem sameTexts_refl (xs : List ByteArray) : m_law0_SameTexts xs xs = true := by
  unfold m_law0_SameTexts
  have := sameTexts_L1 xs []
  simp only [List.nil_append, List.length_nil] at this
  rw [this]; simp
theorem samePools_L1 : ∀ (xs pre : List DPool), m_law0_SamePools_L1 (pre ++ xs) xs pre.length = Lp.brk ()
  | [], pre => rfl
  | x :: r, pre => by
    have h := samePools_L1 r (pre ++ [x])
    rw [m_law0_SamePools_L1]
    simp only [List.append_assoc, List.singleton_append, List.length_append, List.length_singleton] at h
    simp [List.getD_eq_getElem?_getD, h]
theorem samePools_refl (xs : List DPool) : m_law0_SamePools xs xs = true := by
  unfold m_law0_SamePools
  have := samePools_L1 xs []
  simp only [List.nil_append, List.length_nil] at this
  rw [this]; simp
theorem sameEdge_refl (e : DEdge) : m_law0_SameEdge e e = true := by
  simp [m_law0_SameEdge, sameTexts_refl]
theorem sameGraph_L1 (g : DGraph) : ∀ (xs pre : List DEdge), g.edges = pre ++ xs → m_law0_SameGraph_L1 g xs pre.length = Lp.brk ()
  | [], pre, _ => rfl
  | x :: r, pre, e => by
    have h := sameGraph_L1 g r (pre ++ [x]) (by simp [e])
    rw [m_law0_SameGraph_L1]
    simp only [List.length_append, List.length_singleton] at h
    have : g.edges.getD pre.length default = x := by rw [e]; simp [List.getD_eq_getElem?_getD]
    rw [this, sameEdge_refl, h]; rfl
theorem sameGraph_refl (g : DGraph) : m_law0_SameGraph g g = true := by
  unfold m_law0_SameGraph
  have := sameGraph_L1 g g.edges [] rfl
  simp only [List.length_nil] at this
  rw [this]; simp [samePools_refl, sameTexts_refl]
theorem ref1_Maker_eq (g : DGraph) (n : ByteArray) : m_ref1_Maker g n = m_graph_Maker g n := by
  unfold m_ref1_Maker
  rw [ref1_Check_eq, makerOf_mkD]
  by_cases h : m_graph_Check g = 0
  · rw [maker_ok h]
    simp only [h, decide_true, Bool.not_true, cond_false]
    congr 1
    split <;> omega
  · rw [maker_no h]
    simp only [h, decide_false, Bool.not_false, cond_true]
theorem law9_Graphs_true (g : DGraph) (name : ByteArray) : m_law9_Graphs g name = true := by
  unfold m_law9_Graphs
  simp only [copyGraph_eq]
  rw [ref1_Maker_eq, ref1_Check_eq, ref1_GraphMay_eq, sameGraph_refl, law9_awake_true]
  simp [m_law0_Num]
end
end Go.Lift
namespace Go.Lift
noncomputable section
open Go Go.RowKit
set_option linter.unusedSimpArgs false
set_option linter.unusedVariables false
set_option linter.unusedSectionVars false
set_option maxRecDepth 20000
theorem rdg_9 {H : Type} {enc : TypeId × Value → H} {w : World} {spare : Nat → Bool} {held : Bool} {bk : DataW H → Nat} {μ : Mu} (hb : BulkOk bk) (hμ : ∀ g, ¬ μ.mut g) : Rdg enc Go.Proofs.Tryz.prog w spare held bk μ 9 AV.s (fun s : ByteArray => s.size + 1) := Rdg.str hb (by kernel_rfl)
theorem rdg_24 {H : Type} {enc : TypeId × Value → H} {w : World} {spare : Nat → Bool} {held : Bool} {bk : DataW H → Nat} {μ : Mu} (hb : BulkOk bk) (hμ : ∀ g, ¬ μ.mut g) : Rdg enc Go.Proofs.Tryz.prog w spare held bk μ 24 (slA 1 AV.s) (szL (fun s : ByteArray => s.size + 1)) := Rdg.slice hb hμ (e := 9) (by kernel_rfl) (by kernel_rfl) (fun a => Or.inr ⟨(by intro fs h; cases h), rfl, rfl⟩) (rdg_9 hb hμ)
theorem rdg_4 {H : Type} {enc : TypeId × Value → H} {w : World} {spare : Nat → Bool} {held : Bool} {bk : DataW H → Nat} {μ : Mu} (hb : BulkOk bk) (hμ : ∀ g, ¬ μ.mut g) : Rdg enc Go.Proofs.Tryz.prog w spare held bk μ 4 AV.b (fun _ => 1) := Rdg.bool hb (by kernel_rfl)
theorem rdg_76 {H : Type} {enc : TypeId × Value → H} {w : World} {spare : Nat → Bool} {held : Bool} {bk : DataW H → Nat} {μ : Mu} (hb : BulkOk bk) (hμ : ∀ g, ¬ μ.mut g) : Rdg enc Go.Proofs.Tryz.prog w spare held bk μ 76 DEdge.av DEdge.sz where
  rd fuel cs x h hbd := by
    obtain ⟨xs, n, e, hl, hlen, hf⟩ := struct_rd (t := 76) (by kernel_rfl) h
    have hn : (fsOf Go.Proofs.Tryz.prog 76).size = 7 := by kernel_rfl
    have hc : Go.Proofs.Tryz.prog.cellsOf 76 = 7 := by kernel_rfl
    rw [hn] at hlen; rw [hc] at hl
    match xs, hlen, e, hf with
    | [x0, x1, x2, x3, x4, x5, x6], _, e, hf =>
      have hag := hb.agg [x0.1, x1.1, x2.1, x3.1, x4.1, x5.1, x6.1]
      simp only [List.map_cons, List.map_nil, List.sum_cons, List.sum_nil] at hag e
      rw [e] at hbd ⊢
      obtain ⟨y0, e0, r0⟩ := hf 0 0 24 1 (by kernel_rfl)
      cases e0
      obtain ⟨a0, c0, o0, s0⟩ := (rdg_24 hb hμ).rd _ _ _ r0 (by omega)
      obtain ⟨y1, e1, r1⟩ := hf 1 1 24 1 (by kernel_rfl)
      cases e1
      obtain ⟨a1, c1, o1, s1⟩ := (rdg_24 hb hμ).rd _ _ _ r1 (by omega)
      obtain ⟨y2, e2, r2⟩ := hf 2 2 24 1 (by kernel_rfl)
      cases e2
      obtain ⟨a2, c2, o2, s2⟩ := (rdg_24 hb hμ).rd _ _ _ r2 (by omega)
      obtain ⟨y3, e3, r3⟩ := hf 3 3 24 1 (by kernel_rfl)
      cases e3
      obtain ⟨a3, c3, o3, s3⟩ := (rdg_24 hb hμ).rd _ _ _ r3 (by omega)
      obtain ⟨y4, e4, r4⟩ := hf 4 4 9 1 (by kernel_rfl)
      cases e4
      obtain ⟨a4, c4, o4, s4⟩ := (rdg_9 hb hμ).rd _ _ _ r4 (by omega)
      obtain ⟨y5, e5, r5⟩ := hf 5 5 4 1 (by kernel_rfl)
      cases e5
      obtain ⟨a5, c5, o5, s5⟩ := (rdg_4 hb hμ).rd _ _ _ r5 (by omega)
      obtain ⟨y6, e6, r6⟩ := hf 6 6 9 1 (by kernel_rfl)
      cases e6
      obtain ⟨a6, c6, o6, s6⟩ := (rdg_9 hb hμ).rd _ _ _ r6 (by omega)
      refine ⟨⟨a0, a1, a2, a3, a4, a5, a6⟩, ?_, ?_, ?_⟩
      · have q := (CRs_step (CRs_step (CRs_step (CRs_step (CRs_step (CRs_step (CRs_step (show CRs w μ [] (cs.take 0) by simp [CRs]) c0) c1) c2) c3) c4) c5) c6)
        rw [show cs.take (0 + 1 + 1 + 1 + 1 + 1 + 1 + 1) = cs from List.take_of_length_le (by omega)] at q
        exact q
      · have q := (one_step (one_step (one_step (one_step (one_step (one_step (one_step (show ∀ u ∈ cs.take 0, u.oneCell' = true by simp) o0) o1) o2) o3) o4) o5) o6)
        rw [show cs.take (0 + 1 + 1 + 1 + 1 + 1 + 1 + 1) = cs from List.take_of_length_le (by omega)] at q
        exact q
      · unfold DEdge.sz; simp only at *; omega
theorem rdg_22 {H : Type} {enc : TypeId × Value → H} {w : World} {spare : Nat → Bool} {held : Bool} {bk : DataW H → Nat} {μ : Mu} (hb : BulkOk bk) (hμ : ∀ g, ¬ μ.mut g) : Rdg enc Go.Proofs.Tryz.prog w spare held bk μ 22 (slA 7 DEdge.av) (szL DEdge.sz) := Rdg.slice hb hμ (e := 76) (by kernel_rfl) (by kernel_rfl) (fun a => Or.inl ⟨_, rfl, rfl⟩) (rdg_76 hb hμ)
theorem rdg_3 {H : Type} {enc : TypeId × Value → H} {w : World} {spare : Nat → Bool} {held : Bool} {bk : DataW H → Nat} {μ : Mu} (hb : BulkOk bk) (hμ : ∀ g, ¬ μ.mut g) : Rdg enc Go.Proofs.Tryz.prog w spare held bk μ 3 (AV.i .i64) (fun _ => 1) := Rdg.int hb (by kernel_rfl)
theorem rdg_81 {H : Type} {enc : TypeId × Value → H} {w : World} {spare : Nat → Bool} {held : Bool} {bk : DataW H → Nat} {μ : Mu} (hb : BulkOk bk) (hμ : ∀ g, ¬ μ.mut g) : Rdg enc Go.Proofs.Tryz.prog w spare held bk μ 81 DPool.av DPool.sz where
  rd fuel cs x h hbd := by
    obtain ⟨xs, n, e, hl, hlen, hf⟩ := struct_rd (t := 81) (by kernel_rfl) h
    have hn : (fsOf Go.Proofs.Tryz.prog 81).size = 2 := by kernel_rfl
    have hc : Go.Proofs.Tryz.prog.cellsOf 81 = 2 := by kernel_rfl
    rw [hn] at hlen; rw [hc] at hl
    match xs, hlen, e, hf with
    | [x0, x1], _, e, hf =>
      have hag := hb.agg [x0.1, x1.1]
      simp only [List.map_cons, List.map_nil, List.sum_cons, List.sum_nil] at hag e
      rw [e] at hbd ⊢
      obtain ⟨y0, e0, r0⟩ := hf 0 0 9 1 (by kernel_rfl)
      cases e0
      obtain ⟨a0, c0, o0, s0⟩ := (rdg_9 hb hμ).rd _ _ _ r0 (by omega)
      obtain ⟨y1, e1, r1⟩ := hf 1 1 3 1 (by kernel_rfl)
      cases e1
      obtain ⟨a1, c1, o1, s1⟩ := (rdg_3 hb hμ).rd _ _ _ r1 (by omega)
      refine ⟨⟨a0, a1⟩, ?_, ?_, ?_⟩
      · have q := (CRs_step (CRs_step (show CRs w μ [] (cs.take 0) by simp [CRs]) c0) c1)
        rw [show cs.take (0 + 1 + 1) = cs from List.take_of_length_le (by omega)] at q
        exact q
      · have q := (one_step (one_step (show ∀ u ∈ cs.take 0, u.oneCell' = true by simp) o0) o1)
        rw [show cs.take (0 + 1 + 1) = cs from List.take_of_length_le (by omega)] at q
        exact q
      · unfold DPool.sz; simp only at *; omega
theorem rdg_23 {H : Type} {enc : TypeId × Value → H} {w : World} {spare : Nat → Bool} {held : Bool} {bk : DataW H → Nat} {μ : Mu} (hb : BulkOk bk) (hμ : ∀ g, ¬ μ.mut g) : Rdg enc Go.Proofs.Tryz.prog w spare held bk μ 23 (slA 2 DPool.av) (szL DPool.sz) := Rdg.slice hb hμ (e := 81) (by kernel_rfl) (by kernel_rfl) (fun a => Or.inl ⟨_, rfl, rfl⟩) (rdg_81 hb hμ)
theorem rdg_26 {H : Type} {enc : TypeId × Value → H} {w : World} {spare : Nat → Bool} {held : Bool} {bk : DataW H → Nat} {μ : Mu} (hb : BulkOk bk) (hμ : ∀ g, ¬ μ.mut g) : Rdg enc Go.Proofs.Tryz.prog w spare held bk μ 26 DGraph.av DGraph.sz where
  rd fuel cs x h hbd := by
    obtain ⟨xs, n, e, hl, hlen, hf⟩ := struct_rd (t := 26) (by kernel_rfl) h
    have hn : (fsOf Go.Proofs.Tryz.prog 26).size = 3 := by kernel_rfl
    have hc : Go.Proofs.Tryz.prog.cellsOf 26 = 3 := by kernel_rfl
    rw [hn] at hlen; rw [hc] at hl
    match xs, hlen, e, hf with
    | [x0, x1, x2], _, e, hf =>
      have hag := hb.agg [x0.1, x1.1, x2.1]
      simp only [List.map_cons, List.map_nil, List.sum_cons, List.sum_nil] at hag e
      rw [e] at hbd ⊢
      obtain ⟨y0, e0, r0⟩ := hf 0 0 22 1 (by kernel_rfl)
      cases e0
      obtain ⟨a0, c0, o0, s0⟩ := (rdg_22 hb hμ).rd _ _ _ r0 (by omega)
      obtain ⟨y1, e1, r1⟩ := hf 1 1 23 1 (by kernel_rfl)
      cases e1
      obtain ⟨a1, c1, o1, s1⟩ := (rdg_23 hb hμ).rd _ _ _ r1 (by omega)
      obtain ⟨y2, e2, r2⟩ := hf 2 2 24 1 (by kernel_rfl)
      cases e2
      obtain ⟨a2, c2, o2, s2⟩ := (rdg_24 hb hμ).rd _ _ _ r2 (by omega)
      refine ⟨⟨a0, a1, a2⟩, ?_, ?_, ?_⟩
      · have q := (CRs_step (CRs_step (CRs_step (show CRs w μ [] (cs.take 0) by simp [CRs]) c0) c1) c2)
        rw [show cs.take (0 + 1 + 1 + 1) = cs from List.take_of_length_le (by omega)] at q
        exact q
      · have q := (one_step (one_step (one_step (show ∀ u ∈ cs.take 0, u.oneCell' = true by simp) o0) o1) o2)
        rw [show cs.take (0 + 1 + 1 + 1) = cs from List.take_of_length_le (by omega)] at q
        exact q
      · unfold DGraph.sz; simp only at *; omega
end
end Go.Lift
