/-
  Lemmas of this claim: a layer over the kit's calls, contracts of the functions that the law reaches, and the law's row. No condition of its own.
-/
import Derived.Test.YthagoaoenalmbaaGreatDoorLbReadyTable
import Derived.Test.YthagoaoenalmbaaGreatDoorSaReadyTable
namespace Go.Lift
noncomputable section
open Go Go.RowKit
set_option linter.unusedSimpArgs false
set_option linter.unusedVariables false
set_option linter.unusedSectionVars false
set_option maxRecDepth 20000
structure DEdge where
  outs : List ByteArray
  ins : List ByteArray
  implicit : List ByteArray
  order : List ByteArray
  command : ByteArray
  deps : Bool
  pool : ByteArray
def DEdge.av (d : DEdge) : AV := .st [(slA 1 AV.s) d.outs, (slA 1 AV.s) d.ins, (slA 1 AV.s) d.implicit, (slA 1 AV.s) d.order, AV.s d.command, AV.b d.deps, AV.s d.pool]
def DEdge.zero : DEdge := ⟨[], [], [], [], (⟨#[]⟩ : ByteArray), false, (⟨#[]⟩ : ByteArray)⟩
instance : Inhabited DEdge := ⟨DEdge.zero⟩
def DEdge.sz (d : DEdge) : Nat := (szL (fun s : ByteArray => s.size + 1)) d.outs + (szL (fun s : ByteArray => s.size + 1)) d.ins + (szL (fun s : ByteArray => s.size + 1)) d.implicit + (szL (fun s : ByteArray => s.size + 1)) d.order + (fun s : ByteArray => s.size + 1) d.command + (fun _ => 1) d.deps + (fun s : ByteArray => s.size + 1) d.pool + 1
theorem DEdge.sz_outs (d : DEdge) : (szL (fun s : ByteArray => s.size + 1)) d.outs ≤ d.sz := by unfold DEdge.sz; omega
structure DPool where
  name : ByteArray
  depth : Int
def DPool.av (d : DPool) : AV := .st [AV.s d.name, (AV.i .i64) d.depth]
def DPool.zero : DPool := ⟨(⟨#[]⟩ : ByteArray), (0 : Int)⟩
instance : Inhabited DPool := ⟨DPool.zero⟩
def DPool.sz (d : DPool) : Nat := (fun s : ByteArray => s.size + 1) d.name + (fun _ => 1) d.depth + 1
structure DGraph where
  edges : List DEdge
  pools : List DPool
  defaults : List ByteArray
def DGraph.av (d : DGraph) : AV := .st [(slA 7 DEdge.av) d.edges, (slA 2 DPool.av) d.pools, (slA 1 AV.s) d.defaults]
def DGraph.zero : DGraph := ⟨[], [], []⟩
instance : Inhabited DGraph := ⟨DGraph.zero⟩
def DGraph.sz (d : DGraph) : Nat := (szL DEdge.sz) d.edges + (szL DPool.sz) d.pools + (szL (fun s : ByteArray => s.size + 1)) d.defaults + 1
theorem DGraph.sz_edges (d : DGraph) : (szL DEdge.sz) d.edges ≤ d.sz := by unfold DGraph.sz; omega
structure DAction where
  command : ByteArray
  reads : List ByteArray
  fails : Bool
def DAction.av (d : DAction) : AV := .st [AV.s d.command, (slA 1 AV.s) d.reads, AV.b d.fails]
def DAction.zero : DAction := ⟨(⟨#[]⟩ : ByteArray), [], false⟩
instance : Inhabited DAction := ⟨DAction.zero⟩
def DAction.sz (d : DAction) : Nat := (fun s : ByteArray => s.size + 1) d.command + (szL (fun s : ByteArray => s.size + 1)) d.reads + (fun _ => 1) d.fails + 1
structure DRecord where
  out : ByteArray
  time : Int
  sign : ByteArray
def DRecord.av (d : DRecord) : AV := .st [AV.s d.out, (AV.i .i64) d.time, AV.s d.sign]
def DRecord.zero : DRecord := ⟨(⟨#[]⟩ : ByteArray), (0 : Int), (⟨#[]⟩ : ByteArray)⟩
instance : Inhabited DRecord := ⟨DRecord.zero⟩
def DRecord.sz (d : DRecord) : Nat := (fun s : ByteArray => s.size + 1) d.out + (fun _ => 1) d.time + (fun s : ByteArray => s.size + 1) d.sign + 1
structure DFound where
  out : ByteArray
  time : Int
  ins : List ByteArray
def DFound.av (d : DFound) : AV := .st [AV.s d.out, (AV.i .i64) d.time, (slA 1 AV.s) d.ins]
def DFound.zero : DFound := ⟨(⟨#[]⟩ : ByteArray), (0 : Int), []⟩
instance : Inhabited DFound := ⟨DFound.zero⟩
def DFound.sz (d : DFound) : Nat := (fun s : ByteArray => s.size + 1) d.out + (fun _ => 1) d.time + (szL (fun s : ByteArray => s.size + 1)) d.ins + 1
structure DFile where
  name : ByteArray
  content : Int
  time : Int
def DFile.av (d : DFile) : AV := .st [AV.s d.name, (AV.i .i64) d.content, (AV.i .i64) d.time]
def DFile.zero : DFile := ⟨(⟨#[]⟩ : ByteArray), (0 : Int), (0 : Int)⟩
instance : Inhabited DFile := ⟨DFile.zero⟩
def DFile.sz (d : DFile) : Nat := (fun s : ByteArray => s.size + 1) d.name + (fun _ => 1) d.content + (fun _ => 1) d.time + 1
structure DDisk where
  clock : Int
  files : List DFile
def DDisk.av (d : DDisk) : AV := .st [(AV.i .i64) d.clock, (slA 3 DFile.av) d.files]
def DDisk.zero : DDisk := ⟨(0 : Int), []⟩
instance : Inhabited DDisk := ⟨DDisk.zero⟩
def DDisk.sz (d : DDisk) : Nat := (fun _ => 1) d.clock + (szL DFile.sz) d.files + 1
structure DState where
  graph : DGraph
  actions : List DAction
  disk : DDisk
  log : List DRecord
  deps : List DFound
  jobs : Int
  going : Bool
  status : List Int
def DState.av (d : DState) : AV := .st [(slA 7 DEdge.av) d.graph.edges, (slA 2 DPool.av) d.graph.pools, (slA 1 AV.s) d.graph.defaults, (slA 3 DAction.av) d.actions, (AV.i .i64) d.disk.clock, (slA 3 DFile.av) d.disk.files, (slA 3 DRecord.av) d.log, (slA 3 DFound.av) d.deps, (AV.i .i64) d.jobs, AV.b d.going, (slA 1 (AV.i .i64)) d.status]
def DState.zero : DState := ⟨DGraph.zero, [], DDisk.zero, [], [], (0 : Int), false, []⟩
instance : Inhabited DState := ⟨DState.zero⟩
def DState.sz (d : DState) : Nat := DGraph.sz d.graph + (szL DAction.sz) d.actions + DDisk.sz d.disk + (szL DRecord.sz) d.log + (szL DFound.sz) d.deps + (fun _ => 1) d.jobs + (fun _ => 1) d.going + (szL (fun _ => 1)) d.status + 1
theorem DState.sz_graph (d : DState) : DGraph.sz d.graph ≤ d.sz := by unfold DState.sz; omega
def lit35ef0 : DFile := (⟨(⟨#[97, 46, 99]⟩ : ByteArray), (1 : Int), (1 : Int)⟩ : DFile)
def litf2893 : DFile := (⟨(⟨#[98, 46, 99]⟩ : ByteArray), (3 : Int), (3 : Int)⟩ : DFile)
def litb1de5 : DFile := (⟨(⟨#[97, 46, 104]⟩ : ByteArray), (2 : Int), (2 : Int)⟩ : DFile)
def lit881d0 : DFile := (⟨(⟨#[122, 46, 104]⟩ : ByteArray), (4 : Int), (4 : Int)⟩ : DFile)
def lit2ad7b : DAction := (⟨(⟨#[99, 99, 32, 97]⟩ : ByteArray), [(⟨#[122, 46, 104]⟩ : ByteArray)], false⟩ : DAction)
def lit28f67 : DEdge := (⟨[(⟨#[108, 105, 98]⟩ : ByteArray)], [(⟨#[97, 46, 111]⟩ : ByteArray), (⟨#[98, 46, 111]⟩ : ByteArray)], [], [], (⟨#[97, 114]⟩ : ByteArray), false, (⟨#[]⟩ : ByteArray)⟩ : DEdge)
def lit345b9 : DEdge := (⟨[(⟨#[98, 46, 111]⟩ : ByteArray)], [(⟨#[98, 46, 99]⟩ : ByteArray)], [], [(⟨#[97, 46, 111]⟩ : ByteArray)], (⟨#[99, 99, 32, 98]⟩ : ByteArray), false, (⟨#[116, 119, 111]⟩ : ByteArray)⟩ : DEdge)
def lit17817 : DEdge := (⟨[(⟨#[97, 46, 111]⟩ : ByteArray), (⟨#[97, 46, 100]⟩ : ByteArray)], [(⟨#[97, 46, 99]⟩ : ByteArray)], [(⟨#[97, 46, 104]⟩ : ByteArray)], [], (⟨#[99, 99, 32, 97]⟩ : ByteArray), true, (⟨#[116, 119, 111]⟩ : ByteArray)⟩ : DEdge)
def lit8f7a1 : DDisk := (⟨(4 : Int), [lit35ef0, litb1de5, litf2893, lit881d0]⟩ : DDisk)
def lit7e8b3 : DGraph := (⟨[lit28f67, lit17817, lit345b9], [(⟨(⟨#[116, 119, 111]⟩ : ByteArray), (2 : Int)⟩ : DPool)], [(⟨#[108, 105, 98]⟩ : ByteArray)]⟩ : DGraph)
def lit326bd : DState := (⟨lit7e8b3, [lit2ad7b], lit8f7a1, [], [], (2 : Int), false, []⟩ : DState)
def lit3a71b : DState := (⟨lit7e8b3, [lit2ad7b], lit8f7a1, [], [], (2 : Int), true, [(1 : Int), (1 : Int), (1 : Int)]⟩ : DState)
def outsN : List DEdge → Nat
  | [] => 0
  | e :: r => e.outs.length + outsN r
def eOf (e : DEdge) : EdgeD := ⟨⟨false, e.outs⟩, ⟨false, e.ins⟩, ⟨false, e.implicit⟩, ⟨false, e.order⟩, e.command, e.deps, e.pool⟩
def pOf (p : DPool) : PoolD := ⟨p.name, p.depth⟩
def gOf (g : DGraph) : GraphD := ⟨false, g.edges.map eOf, false, g.pools.map pOf, ⟨false, g.defaults⟩⟩
def m_ba (g : DGraph) : Bool := mayG (gOf g)
def m_ad (g : DGraph) : Int := checkS (gOf g)
def needsN (g : DGraph) (edge : Int) : Nat := (g.edges.getD edge.toNat default).ins.length + (g.edges.getD edge.toNat default).implicit.length + (g.edges.getD edge.toNat default).order.length
def dmayL (pi : ByteArray → Bool) (c : Int) : List DFile → List Int → Option DFile → Bool
  | [], _, _ => true
  | f :: r, ts, p => (pi f.name && decide (0 ≤ f.content) && decide (f.content ≤ 2147483647) && decide (1 ≤ f.time) && decide (f.time ≤ c) && !(ts.any (fun t => decide (t = f.time))) && (match p with | none => true | some q => Op.bytesLess q.name.toList f.name.toList)) && dmayL pi c r (ts ++ [f.time]) (some f)
def dmayS (pi : ByteArray → Bool) (d : DDisk) : Bool := dmayL pi d.clock d.files [] none && decide (0 ≤ d.clock) && decide (d.clock ≤ 1048576) && decide (d.files.length ≤ 64)
def ThereP (s : DState) (e : Int) : Prop := 0 ≤ e ∧ e.toNat < s.graph.edges.length ∧ (s.going = true → s.status.length = s.graph.edges.length) ∧ s.status.length ≤ s.graph.edges.length ∧
  ((s.graph.edges.getD e.toNat default).pool ≠ (⟨#[]⟩ : ByteArray) → ∃ p, s.graph.pools.findIdx? (fun q => decide (q.name = (s.graph.edges.getD e.toNat default).pool)) = some p ∧ p < s.graph.pools.length)
def m_4 (s' : ByteArray) : Bool :=
  (decide ((cleanS s').2 = (0 : Int)) && decide ((cleanS s').1 = s'))
def m_bb : List ByteArray → Nat → Lp (Bool) (Unit)
  | [], v9 => Lp.brk ()
  | x1 :: rest, v9 => (bif (!(m_4 x1)) then Lp.ret false else m_bb rest (v9 + 1))
def m_at (ss : List ByteArray) (most' : Int) : Bool :=
  (match m_bb ss 0 with
  | Lp.ret r => r
  | Lp.brk () => decide (((ss.length : Nat) : Int) ≤ most'))
def m_a3 : List UInt8 → Nat → Lp (Bool) (Unit)
  | [], v8 => Lp.brk ()
  | x1 :: rest, v8 => (bif decide ((x1.toNat : Int) < (32 : Int)) then Lp.ret false else (bif decide ((126 : Int) < (x1.toNat : Int)) then Lp.ret false else m_a3 rest (v8 + 1)))
def m_af (s' : ByteArray) (most' : Int) : Bool :=
  (match m_a3 s'.data.toList 0 with
  | Lp.ret r => r
  | Lp.brk () => decide (((s'.size : Nat) : Int) ≤ most'))
def m_aj (s' : ByteArray) : Bool :=
  ((!decide (s' = (⟨#[]⟩ : ByteArray))) && (m_af s' (256 : Int)))
def m_graph_Outs_L1 : List DEdge → Nat → (List ByteArray) → Lp (List ByteArray) ((List ByteArray))
  | [], v11, out => Lp.brk out
  | x1 :: rest, v11, out => m_graph_Outs_L1 rest (v11 + 1) (out ++ x1.outs)
def m_graph_Outs (g : DGraph) : List ByteArray :=
  (match m_graph_Outs_L1 g.edges 0 [] with
  | Lp.ret r => r
  | Lp.brk out' => out')
def m_ref1_has_L1 (x' : ByteArray) : List ByteArray → Nat → Lp (Bool) (Unit)
  | [], i => Lp.brk ()
  | x1 :: rest, i => (bif decide (x1 = x') then Lp.ret true else m_ref1_has_L1 x' rest (i + 1))
def m_ref1_has (xs : List ByteArray) (x' : ByteArray) : Bool :=
  (match m_ref1_has_L1 x' xs 0 with
  | Lp.ret r => r
  | Lp.brk () => false)
def m_ref1_small (c : Int) : Bool :=
  (bif decide ((97 : Int) ≤ c) then (decide (c ≤ (122 : Int)) || (decide ((48 : Int) ≤ c) && decide (c ≤ (57 : Int)))) else (decide ((48 : Int) ≤ c) && decide (c ≤ (57 : Int))))
def m_a8 : List UInt8 → Nat → Lp (Bool) (Unit)
  | [], i => Lp.brk ()
  | x1 :: rest, i => (bif decide ((x1.toNat : Int) < (32 : Int)) then Lp.ret false else (bif decide ((126 : Int) < (x1.toNat : Int)) then Lp.ret false else m_a8 rest (i + 1)))
def m_ref1_Plain (s' : ByteArray) (least : Int) (most' : Int) : Bool :=
  (match m_a8 s'.data.toList 0 with
  | Lp.ret r => r
  | Lp.brk () => (decide (least ≤ ((s'.size : Nat) : Int)) && decide (((s'.size : Nat) : Int) ≤ most')))
def m_ao : List UInt8 → Nat → Lp (Bool) (Unit)
  | [], i => Lp.brk ()
  | x1 :: rest, i => (bif (!(m_ref1_small (x1.toNat : Int))) then (bif (!decide ((x1.toNat : Int) = (46 : Int))) then (bif (!decide ((x1.toNat : Int) = (95 : Int))) then (bif (!decide ((x1.toNat : Int) = (45 : Int))) then (bif (!decide ((x1.toNat : Int) = (47 : Int))) then Lp.ret false else m_ao rest (i + 1)) else m_ao rest (i + 1)) else m_ao rest (i + 1)) else m_ao rest (i + 1)) else m_ao rest (i + 1))
def m_ref1_NameMay (s' : ByteArray) : Bool :=
  (match m_ao s'.data.toList 0 with
  | Lp.ret r => r
  | Lp.brk () => (decide ((1 : Int) ≤ ((s'.size : Nat) : Int)) && decide (((s'.size : Nat) : Int) ≤ (16 : Int))))
def m_a1 (sign : ByteArray) : List ByteArray → Nat → ByteArray → Lp (ByteArray) (ByteArray)
  | [], i, s' => Lp.brk s'
  | x1 :: rest, i, s' => (bif decide ((0 : Int) < ((i : Nat) : Int)) then m_a1 sign rest (i + 1) ((s' ++ sign) ++ x1) else m_a1 sign rest (i + 1) (s' ++ x1))
def m_ref1_Join (xs : List ByteArray) (sign : ByteArray) : ByteArray :=
  (match m_a1 sign xs 0 (⟨#[]⟩ : ByteArray) with
  | Lp.ret r => r
  | Lp.brk sv' => sv')
def m_a4 (s' : ByteArray) (sign : Int) : Nat → (List ByteArray) → Nat → Nat → Lp (List ByteArray) ((List ByteArray))
  | 0, out, from', i => Lp.brk out
  | kf + 1, out, from', i => (bif decide (((i : Nat) : Int) ≤ ((s'.size : Nat) : Int)) then (bif (decide (((i : Nat) : Int) = ((s'.size : Nat) : Int)) || decide (((s'.data.getD i 0).toNat : Int) = sign)) then m_a4 s' sign kf (out ++ [(s'.extract from' i)]) (i + 1) (i + 1) else m_a4 s' sign kf out from' (i + 1)) else Lp.brk out)
def m_ref1_split (s' : ByteArray) (sign : Int) : List ByteArray :=
  (match m_a4 s' sign (s'.size + 1 - 0 + 1) [] 0 0 with
  | Lp.ret r => r
  | Lp.brk out' => out')
def m_al : List ByteArray → Nat → (List ByteArray) → Lp (ByteArray × Int) ((List ByteArray))
  | [], i, kept => Lp.brk kept
  | x1 :: rest, i, kept => (bif decide (x1 = (⟨#[]⟩ : ByteArray)) then m_al rest (i + 1) kept else (bif decide (x1 = (⟨#[46]⟩ : ByteArray)) then m_al rest (i + 1) kept else (bif decide (x1 = (⟨#[46, 46]⟩ : ByteArray)) then (bif decide (((kept.length : Nat) : Int) = (0 : Int)) then Lp.ret ((⟨#[]⟩ : ByteArray), (200 : Int)) else m_al rest (i + 1) (kept.take (kept.length - 1))) else m_al rest (i + 1) (kept ++ [x1]))))
def m_ref1_CleanPath (s' : ByteArray) : ByteArray × Int :=
  (bif (!(m_ref1_NameMay s')) then ((⟨#[]⟩ : ByteArray), (200 : Int)) else (bif decide (((s'.data.getD 0 0).toNat : Int) = (47 : Int)) then ((⟨#[]⟩ : ByteArray), (200 : Int)) else (match m_al (m_ref1_split s' (47 : Int)) 0 [] with
  | Lp.ret r => r
  | Lp.brk kept' => (bif decide (((kept'.length : Nat) : Int) = (0 : Int)) then ((⟨#[]⟩ : ByteArray), (200 : Int)) else ((m_ref1_Join kept' (⟨#[47]⟩ : ByteArray)), (0 : Int))))))
def m_ref1_PathMay (s' : ByteArray) : Bool :=
  (decide ((m_ref1_CleanPath s').2 = (0 : Int)) && decide ((m_ref1_CleanPath s').1 = s'))
def m_a6 : List ByteArray → Nat → Lp (Bool) (Unit)
  | [], i => Lp.brk ()
  | x1 :: rest, i => (bif (!(m_ref1_PathMay x1)) then Lp.ret false else m_a6 rest (i + 1))
def m_az (xs : List ByteArray) : Bool :=
  (match m_a6 xs 0 with
  | Lp.ret r => r
  | Lp.brk () => decide (((xs.length : Nat) : Int) ≤ (8 : Int)))
def m_ref1_poolAt_L1 (name : ByteArray) : List DPool → Nat → Lp (Int) (Unit)
  | [], i => Lp.brk ()
  | x1 :: rest, i => (bif decide (x1.name = name) then Lp.ret ((i : Nat) : Int) else m_ref1_poolAt_L1 name rest (i + 1))
def m_ref1_poolAt (ps : List DPool) (name : ByteArray) : Int :=
  (match m_ref1_poolAt_L1 name ps 0 with
  | Lp.ret r => r
  | Lp.brk () => (-1 : Int))
def m_ref1_EdgeMay (e : DEdge) : Bool :=
  (decide ((0 : Int) < ((e.outs.length : Nat) : Int)) && ((m_az e.outs) && ((m_az e.ins) && ((m_az e.implicit) && ((m_az e.order) && ((m_ref1_Plain e.command (1 : Int) (256 : Int)) && (decide (e.pool = (⟨#[]⟩ : ByteArray)) || (m_ref1_NameMay e.pool))))))))
def m_av (g : DGraph) : List DEdge → Nat → Lp (Bool) (Unit)
  | [], i2 => Lp.brk ()
  | x2 :: rest, i2 => (bif (!(m_ref1_EdgeMay x2)) then Lp.ret false else (bif (!decide (x2.pool = (⟨#[]⟩ : ByteArray))) then (bif decide ((m_ref1_poolAt g.pools x2.pool) < (0 : Int)) then Lp.ret false else m_av g rest (i2 + 1)) else m_av g rest (i2 + 1)))
def m_a0 (g : DGraph) : List DPool → Nat → Lp (Bool) (Unit)
  | [], i => Lp.brk ()
  | x1 :: rest, i => (bif (!(m_ref1_NameMay x1.name)) then Lp.ret false else (bif decide (x1.depth < (1 : Int)) then Lp.ret false else (bif decide ((8 : Int) < x1.depth) then Lp.ret false else (bif (!decide ((m_ref1_poolAt g.pools x1.name) = ((i : Nat) : Int))) then Lp.ret false else m_a0 g rest (i + 1)))))
def m_ref1_GraphMay (g : DGraph) : Bool :=
  (match m_a0 g g.pools 0 with
  | Lp.ret r => r
  | Lp.brk () => (match m_av g g.edges 0 with
  | Lp.ret r => r
  | Lp.brk () => (decide (((g.pools.length : Nat) : Int) ≤ (4 : Int)) && (decide (((g.edges.length : Nat) : Int) ≤ (16 : Int)) && (m_az g.defaults)))))
def m_ref1_Check_L2 : List ByteArray → Nat → (List ByteArray) → Lp (Int) ((List ByteArray))
  | [], k, all2 => Lp.brk all2
  | x2 :: rest, k, all2 => (bif (m_ref1_has all2 x2) then Lp.ret (901 : Int) else m_ref1_Check_L2 rest (k + 1) (all2 ++ [x2]))
def m_ref1_Check_L1 : List DEdge → Nat → (List ByteArray) → Lp (Int) (Unit)
  | [], i, all => Lp.brk ()
  | x1 :: rest, i, all => (match m_ref1_Check_L2 x1.outs 0 all with
  | Lp.ret r => Lp.ret r
  | Lp.brk all2' => m_ref1_Check_L1 rest (i + 1) all2')
def m_ref1_Check (g : DGraph) : Int :=
  (bif (!(m_ref1_GraphMay g)) then (900 : Int) else (match m_ref1_Check_L1 g.edges 0 [] with
  | Lp.ret r => r
  | Lp.brk () => (0 : Int)))
def m_ref1_MakerOf_L1 (name : ByteArray) : List DEdge → Nat → Lp (Int) (Unit)
  | [], i => Lp.brk ()
  | x1 :: rest, i => (bif (m_ref1_has x1.outs name) then Lp.ret ((i : Nat) : Int) else m_ref1_MakerOf_L1 name rest (i + 1))
def m_ref1_MakerOf (g : DGraph) (name : ByteArray) : Int :=
  (match m_ref1_MakerOf_L1 name g.edges 0 with
  | Lp.ret r => r
  | Lp.brk () => (-1 : Int))
def m_a7 (g : DGraph) : List ByteArray → Nat → (List Int) → Lp (List Int) ((List Int))
  | [], i, out => Lp.brk out
  | x1 :: rest, i, out => (bif decide ((0 : Int) ≤ (m_ref1_MakerOf g x1)) then m_a7 g rest (i + 1) (out ++ [(m_ref1_MakerOf g x1)]) else m_a7 g rest (i + 1) out)
def m_ref1_Needs (g : DGraph) (edge : Int) : List Int :=
  (match m_a7 g (((g.edges.getD edge.toNat default).ins ++ (g.edges.getD edge.toNat default).implicit) ++ (g.edges.getD edge.toNat default).order) 0 [] with
  | Lp.ret r => r
  | Lp.brk out' => out')
def m_law0_SameInts_L1 (b : List Int) : List Int → Nat → Lp (Bool) (Unit)
  | [], i => Lp.brk ()
  | x1 :: rest, i => (bif (!decide (x1 = (b.getD i default))) then Lp.ret false else m_law0_SameInts_L1 b rest (i + 1))
def m_ae (v : Int) : List Int → Nat → Lp (Int) (Unit)
  | [], v8 => Lp.brk ()
  | x1 :: rest, v8 => (bif decide (v = x1) then Lp.ret ((v8 : Nat) : Int) else m_ae v rest (v8 + 1))
def m_1 (s' : List Int) (v : Int) : Int :=
  (match m_ae v s' 0 with
  | Lp.ret r => r
  | Lp.brk () => (-1 : Int))
def m_q (s' : List Int) (v : Int) : Bool :=
  decide ((0 : Int) ≤ (m_1 s' v))
def m_5 (v : ByteArray) : List ByteArray → Nat → Lp (Int) (Unit)
  | [], v8 => Lp.brk ()
  | x1 :: rest, v8 => (bif decide (v = x1) then Lp.ret ((v8 : Nat) : Int) else m_5 v rest (v8 + 1))
def m_t (s' : List ByteArray) (v : ByteArray) : Int :=
  (match m_5 v s' 0 with
  | Lp.ret r => r
  | Lp.brk () => (-1 : Int))
def m_x (s' : List ByteArray) (v : ByteArray) : Bool :=
  decide ((0 : Int) ≤ (m_t s' v))
def m_aq (f : DPool → Bool) : List DPool → Nat → Lp (Int) (Unit)
  | [], v8 => Lp.brk ()
  | x1 :: rest, v8 => (bif (f x1) then Lp.ret ((v8 : Nat) : Int) else m_aq f rest (v8 + 1))
def m_a9 (s' : List DPool) (f : DPool → Bool) : Int :=
  (match m_aq f s' 0 with
  | Lp.ret r => r
  | Lp.brk () => (-1 : Int))
def m_graph_Pool_1 (p : DPool) (name : ByteArray) : Bool :=
  decide (p.name = name)
def m_graph_Pool (g : DGraph) (s' : ByteArray) : Int :=
  (m_a9 g.pools (fun z0 => m_graph_Pool_1 z0 s'))
def m_p (f : DEdge → Bool) : List DEdge → Nat → Lp (Int) (Unit)
  | [], v8 => Lp.brk ()
  | x1 :: rest, v8 => (bif (f x1) then Lp.ret ((v8 : Nat) : Int) else m_p f rest (v8 + 1))
def m_l (s' : List DEdge) (f : DEdge → Bool) : Int :=
  (match m_p f s' 0 with
  | Lp.ret r => r
  | Lp.brk () => (-1 : Int))
def m_ak (e : DEdge) (name : ByteArray) : Bool :=
  (m_x e.outs name)
def m_o (g : DGraph) (s' : ByteArray) : Int :=
  (m_l g.edges (fun z0 => m_ak z0 s'))
def m_u (f : Int → Bool) : List Int → Nat → Lp (Int) (Unit)
  | [], v8 => Lp.brk ()
  | x1 :: rest, v8 => (bif (f x1) then Lp.ret ((v8 : Nat) : Int) else m_u f rest (v8 + 1))
def m_f (s' : List Int) (f : Int → Bool) : Int :=
  (match m_u f s' 0 with
  | Lp.ret r => r
  | Lp.brk () => (-1 : Int))
def m_e (s' : List Int) (f : Int → Bool) : Bool :=
  decide ((0 : Int) ≤ (m_f s' f))
def m_grow_string (n' : Nat) : List ByteArray :=
  (bif decide ((0 : Int) < ((n' : Nat) : Int)) then ((List.replicate n' (⟨#[]⟩ : ByteArray)).take 0) else [])
def m_c : List (List ByteArray) → Nat → (List ByteArray) → Lp (List ByteArray) ((List ByteArray))
  | [], v27, newslice => Lp.brk newslice
  | x2 :: rest, v27, newslice => m_c rest (v27 + 1) (newslice ++ x2)
def m_i : List (List ByteArray) → Nat → Nat → Lp (List ByteArray) (Nat)
  | [], v11, size => Lp.brk size
  | x1 :: rest, v11, size => m_i rest (v11 + 1) (size + x1.length)
def m_a (slices : List (List ByteArray)) : List ByteArray :=
  (match m_i slices 0 0 with
  | Lp.ret r => r
  | Lp.brk size' => (match m_c slices 0 ((List.replicate size' (⟨#[]⟩ : ByteArray)).take 0) with
  | Lp.ret r => r
  | Lp.brk newslice4' => newslice4'))
def m_ac (g : DGraph) : List ByteArray → Nat → (List Int) → Lp (List Int) ((List Int))
  | [], v31, out => Lp.brk out
  | x1 :: rest, v31, out => (bif decide ((0 : Int) ≤ (m_o g x1)) then (bif (!(m_q out (m_o g x1))) then m_ac g rest (v31 + 1) (out ++ [(m_o g x1)]) else m_ac g rest (v31 + 1) out) else m_ac g rest (v31 + 1) out)
def m_s (g : DGraph) (edge : Int) : List Int :=
  (match m_ac g (m_a [(g.edges.getD edge.toNat default).ins, (g.edges.getD edge.toNat default).implicit, (g.edges.getD edge.toNat default).order]) 0 [] with
  | Lp.ret r => r
  | Lp.brk out' => out')
def m_8 (edge : Int) (out : List Int) : Bool :=
  (m_q out edge)
def m_as (edge : Int) (told : Int → Bool) : Bool :=
  (!(told edge))
def m_ax : List (List Int) → Nat → (List Int) → Lp (List Int × Int) (Bool × (List Int))
  | [], v38, cell2 => Lp.brk (false, cell2)
  | x3 :: rest, v38, cell2 => (bif (!(m_8 ((v38 : Nat) : Int) cell2)) then (bif (!(m_e x3 (fun z0 => m_as z0 (fun z0 => m_8 z0 cell2)))) then Lp.brk (true, (cell2 ++ [((v38 : Nat) : Int)])) else m_ax rest (v38 + 1) cell2) else m_ax rest (v38 + 1) cell2)
def m_a5 (g : DGraph) (row : List (List Int)) : Nat → (List Int) → Lp (List Int × Int) ((List Int))
  | 0, cell => Lp.brk cell
  | kf + 1, cell => (bif decide (((cell.length : Nat) : Int) < ((g.edges.length : Nat) : Int)) then (match m_ax row 0 cell with
  | Lp.ret r => Lp.ret r
  | Lp.brk (t', cell2') => (bif t' then m_a5 g row kf cell2' else Lp.ret (([] : List Int), (1001 : Int)))) else Lp.brk cell)
def m_aw (g : DGraph) : List (List Int) → Nat → (List (List Int)) → Lp (List Int × Int) ((List (List Int)))
  | [], v20, row => Lp.brk row
  | x1 :: rest, v20, row => m_aw g rest (v20 + 1) (row.set v20 (m_s g ((v20 : Nat) : Int)))
def m_9 (g : DGraph) : List Int × Int :=
  (bif (!decide ((m_ad g) = (0 : Int))) then (([] : List Int), (1000 : Int)) else (match m_aw g (List.replicate g.edges.length ([] : List Int)) 0 (List.replicate g.edges.length ([] : List Int)) with
  | Lp.ret r => r
  | Lp.brk row' => (match m_a5 g row' (g.edges.length - 0 + 1) [] with
  | Lp.ret r => r
  | Lp.brk cell3' => (cell3', (0 : Int)))))
def m_z (e : Int) : Int :=
  e
def m_am (a : DAction) : Bool :=
  ((!(m_aj a.command)) || (!(m_at a.reads (8 : Int))))
def m_v (f : DAction → Bool) : List DAction → Nat → Lp (Int) (Unit)
  | [], v8 => Lp.brk ()
  | x1 :: rest, v8 => (bif (f x1) then Lp.ret ((v8 : Nat) : Int) else m_v f rest (v8 + 1))
def m_g (s' : List DAction) (f : DAction → Bool) : Int :=
  (match m_v f s' 0 with
  | Lp.ret r => r
  | Lp.brk () => (-1 : Int))
def m_j (s' : List DAction) (f : DAction → Bool) : Bool :=
  decide ((0 : Int) ≤ (m_g s' f))
def m_au (as' : List DAction) : Bool :=
  (decide (((as'.length : Nat) : Int) ≤ (16 : Int)) && (!(m_j as' (fun z0 => m_am z0))))
def m_ab (x' : Int) : Bool :=
  (decide ((1 : Int) ≤ x') && decide (x' ≤ (1048576 : Int)))
def m_ag (r : DRecord) : Bool :=
  ((m_4 r.out) && ((m_ab r.time) && ((!decide (r.sign = (⟨#[]⟩ : ByteArray))) && (m_af r.sign (2048 : Int)))))
def m_a2 (r : DRecord) : Bool :=
  (!(m_ag r))
def m_w (f : DRecord → Bool) : List DRecord → Nat → Lp (Int) (Unit)
  | [], v8 => Lp.brk ()
  | x1 :: rest, v8 => (bif (f x1) then Lp.ret ((v8 : Nat) : Int) else m_w f rest (v8 + 1))
def m_h (s' : List DRecord) (f : DRecord → Bool) : Int :=
  (match m_w f s' 0 with
  | Lp.ret r => r
  | Lp.brk () => (-1 : Int))
def m_k (s' : List DRecord) (f : DRecord → Bool) : Bool :=
  decide ((0 : Int) ≤ (m_h s' f))
def m_log_May (rs : List DRecord) : Bool :=
  (decide (((rs.length : Nat) : Int) ≤ (256 : Int)) && (!(m_k rs (fun z0 => m_a2 z0))))
def m_ar (f : DFound) : Bool :=
  ((m_4 f.out) && ((m_ab f.time) && (m_at f.ins (8 : Int))))
def m_ap (f : DFound) : Bool :=
  (!(m_ar f))
def m_y (f : DFound → Bool) : List DFound → Nat → Lp (Int) (Unit)
  | [], v8 => Lp.brk ()
  | x1 :: rest, v8 => (bif (f x1) then Lp.ret ((v8 : Nat) : Int) else m_y f rest (v8 + 1))
def m_m (s' : List DFound) (f : DFound → Bool) : Int :=
  (match m_y f s' 0 with
  | Lp.ret r => r
  | Lp.brk () => (-1 : Int))
def m_n (s' : List DFound) (f : DFound → Bool) : Bool :=
  decide ((0 : Int) ≤ (m_m s' f))
def m_ay (fs : List DFound) : Bool :=
  (decide (((fs.length : Nat) : Int) ≤ (256 : Int)) && (!(m_n fs (fun z0 => m_ap z0))))
def m_ai (x' : Int) : Bool :=
  (decide ((0 : Int) ≤ x') && decide (x' ≤ (2147483647 : Int)))
def m_ah (s' : DState) : Bool :=
  (decide ((m_9 s'.graph).2 = (0 : Int)) && ((m_au s'.actions) && ((dmayS m_4 s'.disk) && ((m_log_May s'.log) && (m_ay s'.deps)))))
def m_an (x' : Int) : Bool :=
  (decide (x' < (0 : Int)) || decide ((4 : Int) < x'))
def m_6 (s' : DState) : Bool :=
  (!(!(m_ah s')) && (!(decide (s'.jobs < (1 : Int))) && (!(decide ((8 : Int) < s'.jobs)) && (!(m_e s'.status (fun z0 => m_an z0)) && (decide (((s'.status.length : Nat) : Int) = ((s'.graph.edges.length : Nat) : Int)) || ((!s'.going) && decide (((s'.status.length : Nat) : Int) = (0 : Int))))))))
def m_aa (s' : DState) (edge : Int) : Bool :=
  ((m_6 s') && (decide ((0 : Int) ≤ edge) && decide (edge < ((s'.graph.edges.length : Nat) : Int))))
def m_2 (at' : Int) (s' : DState) : Bool :=
  ((!decide ((s'.status.getD at'.toNat default) = (0 : Int))) && (!decide ((s'.status.getD at'.toNat default) = (3 : Int))))
def m_7 (s' : DState) (edge : Int) : Bool :=
  (!(!s'.going) && (!(!decide ((s'.status.getD edge.toNat default) = (1 : Int))) && (!(m_e (m_s s'.graph edge) (fun z0 => m_2 z0 s')))))
def m_b (s' : DState) (edge : Int) : Bool × Int :=
  (bif (!(m_aa s' edge)) then (false, (2100 : Int)) else ((m_7 s' edge), (0 : Int)))
def m_pool_Room_L1 (s' : DState) (edge : Int) : List Int → Nat → Nat → Nat → Lp (Bool) (Nat × Nat)
  | [], v24, all, own => Lp.brk (all, own)
  | x1 :: rest, v24, all, own => (bif (!decide (x1 = (2 : Int))) then m_pool_Room_L1 s' edge rest (v24 + 1) all own else (bif decide ((s'.graph.edges.getD v24 default).pool = (s'.graph.edges.getD edge.toNat default).pool) then m_pool_Room_L1 s' edge rest (v24 + 1) (all + 1) (own + 1) else m_pool_Room_L1 s' edge rest (v24 + 1) (all + 1) own))
def m_pool_Room (s' : DState) (edge : Int) : Bool :=
  (match m_pool_Room_L1 s' edge s'.status 0 0 0 with
  | Lp.ret r => r
  | Lp.brk (all', own') => (decide (((all' : Nat) : Int) < s'.jobs) && (decide ((s'.graph.edges.getD edge.toNat default).pool = (⟨#[]⟩ : ByteArray)) || decide (((own' : Nat) : Int) < (s'.graph.pools.getD (m_graph_Pool s'.graph ((s'.graph.edges.getD edge.toNat default).pool)).toNat default).depth))))
def m_pool_May (s' : DState) (edge : Int) : Bool × Int :=
  (bif (!(m_aa s' edge)) then (false, (2200 : Int)) else ((m_pool_Room s' edge), (0 : Int)))
def m_ref12_upTo (x' : Int) (least : Int) (most' : Int) : Bool :=
  (decide (least ≤ x') && decide (x' ≤ most'))
def m_r : DState :=
  lit326bd
def m_d : DState :=
  lit3a71b
def m_0 : Bool :=
  ((m_b m_d (1 : Int)).1 && (decide ((m_z ((m_b m_d (1 : Int)).2)) = (0 : Int)) && ((!(m_b m_d (2 : Int)).1) && (decide ((m_z ((m_b m_d (2 : Int)).2)) = (0 : Int)) && ((!(m_b m_r (1 : Int)).1) && (decide ((m_z ((m_b m_r (1 : Int)).2)) = (0 : Int)) && (decide ((m_z ((m_b m_d (3 : Int)).2)) = (2100 : Int)) && decide ((m_z ((m_b (⟨lit7e8b3, [lit2ad7b], lit8f7a1, [], [], (2 : Int), true, (([(1 : Int), (1 : Int), (1 : Int)].take [(1 : Int), (1 : Int), (1 : Int)].length).drop 1)⟩ : DState) (1 : Int)).2)) = (2100 : Int)))))))))
def m_3 (own : Int) (a : Int) (b : Int) (goes : Bool) : Bool :=
  (!(!m_0) && (decide ((m_z ((m_b (⟨lit7e8b3, [lit2ad7b], lit8f7a1, [], [], (2 : Int), goes, [(IntKind.wrap .i64 ((IntKind.wrap .u64 own).tmod (5 : Int))), (IntKind.wrap .i64 ((IntKind.wrap .u64 a).tmod (5 : Int))), (IntKind.wrap .i64 ((IntKind.wrap .u64 b).tmod (5 : Int)))]⟩ : DState) (0 : Int)).2)) = (0 : Int)) && (bif goes then (bif decide ((IntKind.wrap .i64 ((IntKind.wrap .u64 own).tmod (5 : Int))) = (1 : Int)) then ((m_b (⟨lit7e8b3, [lit2ad7b], lit8f7a1, [], [], (2 : Int), true, [(IntKind.wrap .i64 ((IntKind.wrap .u64 own).tmod (5 : Int))), (IntKind.wrap .i64 ((IntKind.wrap .u64 a).tmod (5 : Int))), (IntKind.wrap .i64 ((IntKind.wrap .u64 b).tmod (5 : Int)))]⟩ : DState) (0 : Int)).1 == (bif decide ((IntKind.wrap .i64 ((IntKind.wrap .u64 a).tmod (5 : Int))) = (0 : Int)) then (decide ((IntKind.wrap .i64 ((IntKind.wrap .u64 b).tmod (5 : Int))) = (0 : Int)) || decide ((IntKind.wrap .i64 ((IntKind.wrap .u64 b).tmod (5 : Int))) = (3 : Int))) else (decide ((IntKind.wrap .i64 ((IntKind.wrap .u64 a).tmod (5 : Int))) = (3 : Int)) && (decide ((IntKind.wrap .i64 ((IntKind.wrap .u64 b).tmod (5 : Int))) = (0 : Int)) || decide ((IntKind.wrap .i64 ((IntKind.wrap .u64 b).tmod (5 : Int))) = (3 : Int)))))) else ((m_b (⟨lit7e8b3, [lit2ad7b], lit8f7a1, [], [], (2 : Int), true, [(IntKind.wrap .i64 ((IntKind.wrap .u64 own).tmod (5 : Int))), (IntKind.wrap .i64 ((IntKind.wrap .u64 a).tmod (5 : Int))), (IntKind.wrap .i64 ((IntKind.wrap .u64 b).tmod (5 : Int)))]⟩ : DState) (0 : Int)).1 == false)) else ((m_b (⟨lit7e8b3, [lit2ad7b], lit8f7a1, [], [], (2 : Int), false, [(IntKind.wrap .i64 ((IntKind.wrap .u64 own).tmod (5 : Int))), (IntKind.wrap .i64 ((IntKind.wrap .u64 a).tmod (5 : Int))), (IntKind.wrap .i64 ((IntKind.wrap .u64 b).tmod (5 : Int)))]⟩ : DState) (0 : Int)).1 == false))))
end
end Go.Lift
namespace Go.Lift
noncomputable section
open Go Go.RowKit
set_option linter.unusedSimpArgs false
set_option linter.unusedVariables false
set_option linter.unusedSectionVars false
set_option maxRecDepth 20000
theorem szL_len {α : Type} {sz : α → Nat} (h : ∀ x, 1 ≤ sz x) (xs : List α) : xs.length + 1 ≤ szL sz xs := by
  unfold szL
  induction xs with
  | nil => simp
  | cons x xs ih => have := h x; simp only [List.map_cons, List.sum_cons, List.length_cons]; omega
theorem szL_mem {α : Type} {sz : α → Nat} {x : α} : ∀ {xs : List α}, x ∈ xs → sz x + 1 ≤ szL sz xs
  | [], h => by simp at h
  | y :: ys, h => by
    unfold szL
    simp only [List.map_cons, List.sum_cons]
    rcases List.mem_cons.1 h with rfl | h
    · omega
    · have := szL_mem (sz := sz) h; unfold szL at this; omega
theorem szL_getD {α : Type} [Inhabited α] {sz : α → Nat} {xs : List α} {i : Nat} (h : i < xs.length) : sz (xs.getD i default) + 1 ≤ szL sz xs :=
  szL_mem (List.mem_of_getElem? (getD_some h))
theorem szL_str (xs : List ByteArray) : xs.length + 1 ≤ szL (fun s : ByteArray => s.size + 1) xs := szL_len (fun _ => Nat.le_add_left 1 _) xs
theorem DEdge.sz_eq (d : DEdge) : d.sz = szL (fun s : ByteArray => s.size + 1) d.outs + szL (fun s : ByteArray => s.size + 1) d.ins + szL (fun s : ByteArray => s.size + 1) d.implicit + szL (fun s : ByteArray => s.size + 1) d.order + (d.command.size + 1) + 1 + (d.pool.size + 1) + 1 := rfl
theorem needsN_sz (g : DGraph) (i : Int) : needsN g i ≤ g.sz := by
  unfold needsN
  by_cases h : i.toNat < g.edges.length
  · have h1 := szL_getD (sz := DEdge.sz) h
    have h2 := g.sz_edges
    generalize g.edges.getD i.toNat default = e at *
    have a := szL_str e.ins; have b := szL_str e.implicit; have c := szL_str e.order
    rw [DEdge.sz_eq] at h1
    omega
  · rw [List.getD_eq_getElem?_getD, List.getElem?_eq_none (by omega)]
    show (0 + 0 + 0 : Nat) ≤ _
    omega
theorem outsN_sz' : ∀ es : List DEdge, outsN es ≤ szL DEdge.sz es
  | [] => Nat.zero_le _
  | e :: es => by
    have := outsN_sz' es
    have a := szL_str e.outs; have b := e.sz_outs
    unfold szL at *
    simp only [outsN, List.map_cons, List.sum_cons] at *
    omega
theorem outsN_sz (g : DGraph) : outsN g.edges ≤ g.sz := Nat.le_trans (outsN_sz' _) g.sz_edges
end
end Go.Lift
namespace Go.Lift
noncomputable section
open Go Go.RowKit
set_option linter.unusedSimpArgs false
set_option linter.unusedVariables false
set_option linter.unusedSectionVars false
set_option maxRecDepth 20000
theorem lp_all {α : Type} {p : α → Bool} {L : List α → Nat → Lp Bool Unit} (h0 : ∀ i, L [] i = Lp.brk ()) (h1 : ∀ x r i, L (x :: r) i = bif !(p x) then Lp.ret false else L r (i + 1)) : ∀ (l : List α) (i : Nat), L l i = if l.all p then Lp.brk () else Lp.ret false
  | [], i => by rw [h0]; rfl
  | x :: r, i => by
    rw [h1, lp_all h0 h1 r (i + 1), List.all_cons]
    cases p x <;> simp
theorem ref1_NameMay_L1 (l : List UInt8) (i : Nat) : m_ao l i = if l.all byteOk then Lp.brk () else Lp.ret false :=
  lp_all (p := byteOk) (fun _ => rfl) (fun x r i => by
    rw [m_ao, byteOk_eq]
    have e : m_ref1_small (x.toNat : Int) = smallS x.toNat := by
      unfold m_ref1_small smallS
      cases decide ((97 : Int) ≤ (x.toNat : Int)) <;> cases decide ((x.toNat : Int) ≤ 122) <;> rfl
    rw [e]
    generalize smallS x.toNat = a
    generalize decide ((x.toNat : Int) = 46) = b
    generalize decide ((x.toNat : Int) = 95) = c
    generalize decide ((x.toNat : Int) = 45) = d
    generalize decide ((x.toNat : Int) = 47) = f
    cases a <;> cases b <;> cases c <;> cases d <;> cases f <;> rfl) l i
theorem ref1_NameMay_eq (s : ByteArray) : m_ref1_NameMay s = mayS s := by
  unfold m_ref1_NameMay
  rw [ref1_NameMay_L1, mayS_ref]
  cases s.data.toList.all byteOk <;> rfl
theorem mayS_sz {s : ByteArray} (h : mayS s = true) : 1 ≤ s.size ∧ s.size ≤ 16 := by
  rw [mayS_ref] at h
  simp only [Bool.and_eq_true, decide_eq_true_eq] at h
  omega
theorem concat_L1 : ∀ (xs : List (List ByteArray)) (i n : Nat), m_i xs i n = Lp.brk (n + xs.flatten.length)
  | [], i, n => by simp [m_i]
  | x :: xs, i, n => by rw [m_i, concat_L1 xs]; simp [Nat.add_assoc]
theorem concat_L2 : ∀ (xs : List (List ByteArray)) (i : Nat) (out : List ByteArray), m_c xs i out = Lp.brk (out ++ xs.flatten)
  | [], i, n => by simp [m_c]
  | x :: xs, i, n => by rw [m_c, concat_L2 xs]; simp [List.append_assoc]
theorem concat_eq (xs : List (List ByteArray)) : m_a xs = xs.flatten := by
  simp only [m_a, concat_L1, concat_L2, List.take_zero, List.nil_append]
theorem check_len {g : DGraph} (h : (!decide ((m_ad g) = (0 : Int))) = false) : g.edges.length ≤ 16 := by
  have h1 : m_ad g = 0 := by simpa using h
  unfold m_ad checkS at h1
  split at h1
  · simp at h1
  · rename_i hm
    have hm' : mayG (gOf g) = true := by simpa using hm
    simp only [mayG, Bool.and_eq_true, decide_eq_true_eq, gOf, List.length_map] at hm'
    have := hm'.2.1; omega
theorem idxE_L1 (f : DEdge → Bool) : ∀ (xs : List DEdge) (i : Nat), m_p f xs i = Lp.brk () ∨ ∃ r : Nat, m_p f xs i = Lp.ret (r : Int) ∧ i ≤ r ∧ r < i + xs.length
  | [], i => Or.inl rfl
  | x :: xs, i => by
    rw [m_p]
    cases f x
    · simp only [cond_false]
      rcases idxE_L1 f xs (i + 1) with h | ⟨r, h, h1, h2⟩
      · exact Or.inl h
      · exact Or.inr ⟨r, h, by omega, by simp only [List.length_cons]; omega⟩
    · exact Or.inr ⟨i, rfl, Nat.le_refl _, by simp⟩
theorem makes_lt (g : DGraph) (s : ByteArray) : m_o g s < (g.edges.length : Int) ∧ -1 ≤ m_o g s := by
  unfold m_o m_l
  rcases idxE_L1 (fun z0 => m_ak z0 s) g.edges 0 with h | ⟨r, h, h1, h2⟩
  · rw [h]; exact ⟨by show (-1 : Int) < _; omega, Int.le_refl _⟩
  · rw [h]; exact ⟨by show (r : Int) < _; omega, by show (-1 : Int) ≤ r; omega⟩
def inG (g : DGraph) (k : Int) : Prop := 0 ≤ k ∧ k.toNat < g.edges.length
theorem needs_L1 (g : DGraph) : ∀ (xs : List ByteArray) (i : Nat) (out : List Int), (∀ k ∈ out, inG g k) → ∃ out', m_ac g xs i out = Lp.brk out' ∧ (∀ k ∈ out', inG g k) ∧ out'.length ≤ out.length + xs.length
  | [], i, out, h => ⟨out, rfl, h, by simp⟩
  | x :: xs, i, out, h => by
    rw [m_ac]
    cases hc : decide ((0 : Int) ≤ m_o g x)
    · simp only [cond_false]
      obtain ⟨o, e, a, b⟩ := needs_L1 g xs (i + 1) out h
      exact ⟨o, e, a, by simp only [List.length_cons]; omega⟩
    · simp only [cond_true]
      have hm := of_decide_eq_true hc
      have hl := makes_lt g x
      cases (!(m_q out (m_o g x)))
      · simp only [cond_false]
        obtain ⟨o, e, a, b⟩ := needs_L1 g xs (i + 1) out h
        exact ⟨o, e, a, by simp only [List.length_cons]; omega⟩
      · simp only [cond_true]
        obtain ⟨o, e, a, b⟩ := needs_L1 g xs (i + 1) (out ++ [m_o g x]) (by
          intro k hk
          rcases List.mem_append.1 hk with hk | hk
          · exact h k hk
          · rw [List.mem_singleton.1 hk]; exact ⟨hm, by omega⟩)
        exact ⟨o, e, a, by simp only [List.length_cons, List.length_append, List.length_nil] at b ⊢; omega⟩
theorem needs_mem {g : DGraph} {e k : Int} (h : k ∈ m_s g e) : 0 ≤ k ∧ k.toNat < g.edges.length := by
  unfold m_s at h
  obtain ⟨o, e1, a, _⟩ := needs_L1 g (m_a [(g.edges.getD e.toNat default).ins, (g.edges.getD e.toNat default).implicit, (g.edges.getD e.toNat default).order]) 0 [] (by simp)
  rw [e1] at h
  exact a k h
end
end Go.Lift
namespace Go.Lift
noncomputable section
open Go Go.RowKit
set_option linter.unusedSimpArgs false
set_option linter.unusedVariables false
set_option linter.unusedSectionVars false
set_option maxRecDepth 20000
theorem splitL_ne (c : UInt8) : ∀ l : List UInt8, splitL c l ≠ []
  | [] => by simp [splitL]
  | b :: l => by
    rw [splitL]
    split
    · simp
    · cases h : splitL c l <;> simp
theorem extract_list (s : ByteArray) (f i : Nat) : (s.extract f i).data.toList = (s.data.toList.take i).drop f := by
  rw [ByteArray.data_extract, Array.toList_extract, List.extract_eq_take_drop, List.take_drop]
  by_cases h : f ≤ i
  · rw [show f + (i - f) = i by omega]
  · rw [show f + (i - f) = f by omega, List.drop_of_length_le (by simp; omega), List.drop_of_length_le (by simp; omega)]
theorem ref1_split_L1 (s : ByteArray) : ∀ (k : Nat) (out : List ByteArray) (f i : Nat), f ≤ i → i ≤ s.size → s.size + 1 - i < k →
    m_a4 s 47 k out f i = Lp.brk (out ++ (match splitL 47 (s.data.toList.drop i) with | [] => [] | p :: r => toBA ((s.data.toList.take i).drop f ++ p) :: r.map toBA))
  | 0, _, _, _, _, _, h => by omega
  | k + 1, out, f, i, h1, h2, h3 => by
    have hl := data_len s
    rw [m_a4, decide_eq_true (by omega), cond_true]
    by_cases hi : i = s.size
    · subst hi
      rw [decide_eq_true rfl, Bool.true_or, cond_true]
      obtain ⟨k', rfl⟩ : ∃ k', k = k' + 1 := ⟨k - 1, by omega⟩
      rw [m_a4, decide_eq_false (by omega), cond_false, List.drop_of_length_le (by omega)]
      simp only [splitL, List.append_nil, List.map_nil]
      rw [← extract_list, toBA_toList]
    · have hlt : i < s.data.toList.length := by omega
      have hd : s.data.toList.drop i = s.data.getD i 0 :: s.data.toList.drop (i + 1) := by
        rw [List.drop_eq_getElem_cons hlt]
        congr 1
        have : i < s.data.size := by rw [← Array.length_toList]; exact hlt
        simp only [Array.getD, this, dif_pos]; simp
      have ht : s.data.toList.take (i + 1) = s.data.toList.take i ++ [s.data.getD i 0] := by
        rw [List.take_add_one, List.getElem?_eq_getElem hlt]
        have : i < s.data.size := by rw [← Array.length_toList]; exact hlt
        simp only [Array.getD, this, dif_pos]; simp
      rw [decide_eq_false (by omega), Bool.false_or, hd, splitL]
      by_cases hb : s.data.getD i 0 = 47
      · rw [if_pos hb, decide_eq_true (by rw [hb]; rfl), cond_true, ref1_split_L1 s k _ (i + 1) (i + 1) (Nat.le_refl _) (by omega) (by omega)]
        simp only [List.append_assoc, List.append_nil, List.singleton_append]
        rw [show toBA ((s.data.toList.take i).drop f) = s.extract f i from by rw [← extract_list]; rfl]
        congr 3
        cases h : splitL 47 (s.data.toList.drop (i + 1)) with
        | nil => exact absurd h (splitL_ne _ _)
        | cons p r => simp only [List.map_cons]; rw [List.drop_of_length_le (by simp; omega), List.nil_append]
      · have hn : ¬ ((s.data.getD i 0).toNat : Int) = 47 := fun h => hb (by
          apply UInt8.toNat_inj.1; show _ = 47; omega)
        rw [if_neg hb, decide_eq_false hn, cond_false, ref1_split_L1 s k out f (i + 1) (by omega) (by omega) (by omega)]
        congr 2
        cases h : splitL 47 (s.data.toList.drop (i + 1)) with
        | nil => exact absurd h (splitL_ne _ _)
        | cons p r =>
          simp only
          rw [ht, List.drop_append_of_le_length (by simp; omega), List.append_assoc]; rfl
theorem ref1_split_eq (s : ByteArray) : m_ref1_split s 47 = (splitL 47 s.data.toList).map toBA := by
  unfold m_ref1_split
  rw [ref1_split_L1 s _ [] 0 0 (Nat.le_refl _) (Nat.zero_le _) (by omega)]
  simp only [List.drop_zero, List.nil_append, List.take_zero]
  cases h : splitL 47 s.data.toList with
  | nil => exact absurd h (splitL_ne _ _)
  | cons p r => rfl
theorem ref1_Clean_L1 : ∀ (ps : List ByteArray) (i : Nat) (kept : List ByteArray), m_al ps i kept = match foldB ps kept with
    | none => Lp.ret ((⟨#[]⟩ : ByteArray), (200 : Int))
    | some k => Lp.brk k
  | [], i, kept => rfl
  | p :: ps, i, kept => by
    rw [m_al, foldB, stepB]
    by_cases h1 : p = ⟨#[]⟩
    · rw [decide_eq_true h1, cond_true, if_pos (Or.inl h1), ref1_Clean_L1 ps]; rfl
    · rw [decide_eq_false h1, cond_false]
      by_cases h2 : p = ⟨#[46]⟩
      · rw [decide_eq_true h2, cond_true, if_pos (Or.inr h2), ref1_Clean_L1 ps]; rfl
      · rw [decide_eq_false h2, cond_false, if_neg (by rintro (h | h); exact h1 h; exact h2 h)]
        by_cases h3 : p = ⟨#[46, 46]⟩
        · rw [decide_eq_true h3, cond_true, if_neg (fun h => h h3)]
          by_cases h4 : kept = []
          · subst h4; rfl
          · rw [decide_eq_false (by cases kept with
              | nil => exact absurd rfl h4
              | cons a b => simp only [List.length_cons]; omega), cond_false, if_neg h4, ref1_Clean_L1 ps, List.dropLast_eq_take]; rfl
        · rw [decide_eq_false h3, cond_false, if_pos h3, ref1_Clean_L1 ps]; rfl
theorem ref1_Join_L1 : ∀ (xs : List ByteArray) (i : Nat) (acc : ByteArray), 0 < i → m_a1 ⟨#[47]⟩ xs i acc = Lp.brk (toBA (acc.data.toList ++ Lib.joinTail [47] (xs.map (·.data.toList))))
  | [], i, acc, _ => by
    rw [m_a1]; simp only [Lib.joinTail, List.map_nil, List.flatten_nil, List.append_nil]; rfl
  | x :: xs, i, acc, h => by
    rw [m_a1, decide_eq_true (by omega), cond_true, ref1_Join_L1 xs (i + 1) _ (by omega)]
    congr 2
    simp [Lib.joinTail]
theorem ref1_Join_eq (k : ByteArray) (ks : List ByteArray) : m_ref1_Join (k :: ks) ⟨#[47]⟩ = joinB (k :: ks) := by
  unfold m_ref1_Join joinB
  rw [m_a1, decide_eq_false (by omega), cond_false, ref1_Join_L1 ks 1 _ (by omega)]
  simp only [List.map_cons, Lib.join_cons]
  show toBA _ = _
  unfold toBA
  congr 2
theorem ref1_CleanPath_eq (s : ByteArray) : m_ref1_CleanPath s = cleanS s := by
  unfold m_ref1_CleanPath cleanS
  rw [ref1_NameMay_eq]
  cases hm : mayS s
  · simp
  · have hz := mayS_sz hm
    have hl := data_len s
    have hh : s.data.toList.head? = some (s.data.getD 0 0) := by
      cases hs : s.data.toList with
      | nil => rw [hs] at hl; simp at hl; omega
      | cons a b =>
        have : 0 < s.data.size := by show 0 < s.size; omega
        simp only [Array.getD, this, dif_pos, List.head?_cons]
        have e : s.data.toList[0]? = some a := by rw [hs]; rfl
        rw [Array.getElem?_toList] at e
        rw [Array.getElem?_eq_getElem this] at e
        exact e.symm
    simp only [Bool.not_true, cond_false, Bool.true_eq_false, false_or, hh]
    by_cases hb : s.data.getD 0 0 = 47
    · rw [decide_eq_true (by rw [hb]; rfl), cond_true, if_pos (by rw [hb])]
    · have hn : ¬ ((s.data.getD 0 0).toNat : Int) = 47 := fun h => hb (by
        apply UInt8.toNat_inj.1; show _ = 47; omega)
      rw [decide_eq_false hn, cond_false, if_neg (by simpa using hb), ref1_split_eq, ref1_Clean_L1]
      cases foldB ((splitL 47 s.data.toList).map toBA) [] with
      | none => rfl
      | some k =>
        cases k with
        | nil => rfl
        | cons k ks =>
          simp only
          rw [decide_eq_false (by simp only [List.length_cons]; omega), cond_false, ref1_Join_eq]
theorem ref1_PathMay_eq (s : ByteArray) : m_ref1_PathMay s = isS s := by
  unfold m_ref1_PathMay isS; rw [ref1_CleanPath_eq]
theorem ref1_PathsMay_eq (xs : List ByteArray) : m_az xs = allS ⟨false, xs⟩ := by
  unfold m_az allS
  rw [lp_all (p := isS) (L := m_a6) (fun _ => rfl) (fun x r i => by rw [m_a6, ref1_PathMay_eq]) xs 0]
  cases xs.all isS <;> simp
theorem ref1_Plain_L1_eq (l : List UInt8) (i : Nat) : m_a8 l i = if l.all plainB then Lp.brk () else Lp.ret false :=
  lp_all (p := plainB) (L := m_a8) (fun _ => rfl) (fun x r i => by
    rw [m_a8]
    have e : plainB x = (!decide ((x.toNat : Int) < 32) && !decide ((126 : Int) < (x.toNat : Int))) := by
      unfold plainB
      congr 1
      · rw [← decide_not]; congr 1; apply propext; omega
      · rw [← decide_not]; congr 1; apply propext; omega
    rw [e]
    cases decide ((x.toNat : Int) < 32) <;> cases decide ((126 : Int) < (x.toNat : Int)) <;> rfl) l i
theorem ref1_command_eq (s : ByteArray) : m_ref1_Plain s 1 256 = commandS s := by
  unfold m_ref1_Plain commandS plainS
  rw [ref1_Plain_L1_eq]
  have e : decide ((1 : Int) ≤ ((s.size : Nat) : Int)) = !decide (s = ⟨#[]⟩) := by
    rw [← decide_not]; congr 1; apply propext
    constructor
    · rintro h rfl; exact absurd h (by decide)
    · intro h
      have : s.size ≠ 0 := fun h0 => h (by
        apply ba_ext
        have := data_len s
        rw [h0] at this
        rw [List.length_eq_zero_iff.1 this])
      omega
  cases s.data.toList.all plainB
  · simp
  · simp only [if_true, e, Bool.true_and]
theorem ref1_EdgeMay_eq (e : DEdge) : m_ref1_EdgeMay e = edgeS (eOf e) := by
  unfold m_ref1_EdgeMay edgeS eOf
  simp only [ref1_PathsMay_eq, ref1_command_eq, ref1_NameMay_eq, List.all_cons, List.all_nil, Bool.and_true]
  have h : decide ((0 : Int) < ((e.outs.length : Nat) : Int)) = decide (((e.outs.length : Nat) : Int) > 0) := rfl
  rw [h]
  generalize decide (((e.outs.length : Nat) : Int) > 0) = a
  generalize allS ⟨false, e.outs⟩ = b
  generalize allS ⟨false, e.ins⟩ = c
  generalize allS ⟨false, e.implicit⟩ = d
  generalize allS ⟨false, e.order⟩ = f
  cases a <;> cases b <;> cases c <;> cases d <;> cases f <;> simp
theorem lp_idx {α : Type} {p : α → Bool} {L : List α → Nat → Lp Int Unit} (h0 : ∀ i, L [] i = Lp.brk ()) (h1 : ∀ x r i, L (x :: r) i = bif p x then Lp.ret ((i : Nat) : Int) else L r (i + 1)) : ∀ (l : List α) (i : Nat), L l i = match l.findIdx? p with
    | some j => Lp.ret (((i + j : Nat)) : Int)
    | none => Lp.brk ()
  | [], i => by rw [h0]; rfl
  | x :: r, i => by
    rw [h1, lp_idx h0 h1 r (i + 1), List.findIdx?_cons]
    cases p x
    · simp only [cond_false, Bool.false_eq_true, if_false]
      cases r.findIdx? p with
      | none => rfl
      | some j => simp only [Option.map_some]; congr 2; omega
    · rfl
theorem idxS_map {α β : Type} (f : α → β) (p : β → Bool) (q : α → Bool) (h : ∀ x, p (f x) = q x) (xs : List α) : idxS p (xs.map f) = idxS q xs := by
  unfold idxS
  rw [List.findIdx?_map]
  have : p ∘ f = q := funext h
  rw [this]
theorem ref1_poolAt_eq (g : DGraph) (name : ByteArray) : m_ref1_poolAt g.pools name = poolAt (gOf g) name := by
  unfold m_ref1_poolAt poolAt
  rw [lp_idx (p := fun p : DPool => decide (p.name = name)) (L := m_ref1_poolAt_L1 name) (fun _ => rfl) (fun x r i => by rw [m_ref1_poolAt_L1]) g.pools 0]
  rw [show (gOf g).pools = g.pools.map pOf from rfl, idxS_map pOf _ (fun p => decide (p.name = name)) (fun x => rfl)]
  unfold idxS
  cases g.pools.findIdx? (fun p => decide (p.name = name)) with
  | none => rfl
  | some j => simp
theorem allIdx_map {α β : Type} (f : α → β) (p : Nat → β → Bool) (q : Nat → α → Bool) (h : ∀ i x, p i (f x) = q i x) : ∀ (i : Nat) (xs : List α), allIdx p i (xs.map f) = allIdx q i xs
  | _, [] => rfl
  | i, x :: xs => by simp only [List.map_cons, allIdx, h, allIdx_map f p q h (i + 1) xs]
theorem lp_allIdx {α : Type} {p : Nat → α → Bool} {L : List α → Nat → Lp Bool Unit} (h0 : ∀ i, L [] i = Lp.brk ()) (h1 : ∀ x r i, L (x :: r) i = bif !(p i x) then Lp.ret false else L r (i + 1)) : ∀ (l : List α) (i : Nat), L l i = if allIdx p i l then Lp.brk () else Lp.ret false
  | [], i => by rw [h0]; rfl
  | x :: r, i => by
    rw [h1, lp_allIdx h0 h1 r (i + 1), allIdx]
    cases p i x <;> simp
def poolOkD (g : DGraph) (k : Nat) (p : DPool) : Bool := poolOk (gOf g) k (pOf p)
theorem ref1_GraphMay_L1_eq (g : DGraph) (l : List DPool) (i : Nat) : m_a0 g l i = if allIdx (poolOkD g) i l then Lp.brk () else Lp.ret false :=
  lp_allIdx (p := poolOkD g) (L := m_a0 g) (fun _ => rfl) (fun x r i => by
    rw [m_a0, ref1_NameMay_eq, ref1_poolAt_eq]
    have e : poolOkD g i x = (mayS x.name && !decide (x.depth < 1) && !decide ((8 : Int) < x.depth) && decide (poolAt (gOf g) x.name = ((i : Nat) : Int))) := rfl
    rw [e]
    cases mayS x.name <;> cases decide (x.depth < 1) <;> cases decide ((8 : Int) < x.depth) <;> cases decide (poolAt (gOf g) x.name = ((i : Nat) : Int)) <;> rfl) l i
theorem ref1_GraphMay_L2_eq (g : DGraph) (l : List DEdge) (i : Nat) : m_av g l i = if l.all (fun e => edgeIn (gOf g) (eOf e)) then Lp.brk () else Lp.ret false :=
  lp_all (p := fun e => edgeIn (gOf g) (eOf e)) (L := m_av g) (fun _ => rfl) (fun x r i => by
    rw [m_av, ref1_EdgeMay_eq, ref1_poolAt_eq]
    have e : edgeIn (gOf g) (eOf x) = (edgeS (eOf x) && (decide (x.pool = (⟨#[]⟩ : ByteArray)) || !decide (poolAt (gOf g) x.pool < 0))) := rfl
    rw [e]
    cases edgeS (eOf x) <;> cases decide (x.pool = (⟨#[]⟩ : ByteArray)) <;> cases decide (poolAt (gOf g) x.pool < 0) <;> rfl) l i
theorem ref1_GraphMay_eq (g : DGraph) : m_ref1_GraphMay g = m_ba g := by
  unfold m_ref1_GraphMay m_ba mayG poolsS
  rw [ref1_GraphMay_L1_eq, ref1_GraphMay_L2_eq, ref1_PathsMay_eq]
  rw [show (gOf g).edges = g.edges.map eOf from rfl, show (gOf g).pools = g.pools.map pOf from rfl, List.all_map, List.length_map, List.length_map, allIdx_map pOf _ (poolOkD g) (fun _ _ => rfl)]
  rw [show (gOf g).defaults = ⟨false, g.defaults⟩ from rfl]
  rw [show (edgeIn (gOf g) ∘ eOf) = (fun e => edgeIn (gOf g) (eOf e)) from rfl]
  cases allIdx (poolOkD g) 0 g.pools <;> cases g.edges.all (fun e => edgeIn (gOf g) (eOf e)) <;> simp
  cases decide (((g.pools.length : Nat) : Int) ≤ 4) <;> cases decide (((g.edges.length : Nat) : Int) ≤ 16) <;> simp
theorem ref1_has_eq (xs : List ByteArray) (x : ByteArray) : (x ∈ xs → m_ref1_has xs x = true) ∧ (x ∉ xs → m_ref1_has xs x = false) := by
  have h : ∀ (l : List ByteArray) (i : Nat), (x ∈ l → m_ref1_has_L1 x l i = Lp.ret true) ∧ (x ∉ l → m_ref1_has_L1 x l i = Lp.brk ()) := by
    intro l; induction l with
    | nil => intro i; exact ⟨fun h => by simp at h, fun _ => rfl⟩
    | cons y l ih =>
      intro i
      rw [m_ref1_has_L1]
      by_cases hy : y = x
      · subst hy; rw [decide_eq_true rfl, cond_true]; exact ⟨fun _ => rfl, fun h => absurd (List.mem_cons_self) h⟩
      · rw [decide_eq_false hy, cond_false]
        refine ⟨fun h => (ih (i + 1)).1 ?_, fun h => (ih (i + 1)).2 fun h2 => h (List.mem_cons_of_mem _ h2)⟩
        rcases List.mem_cons.1 h with h | h
        · exact absurd h.symm hy
        · exact h
  unfold m_ref1_has
  exact ⟨fun hx => by rw [(h xs 0).1 hx], fun hx => by rw [(h xs 0).2 hx]⟩
theorem ref1_Check_L2_eq : ∀ (l : List ByteArray) (k : Nat) (acc : List ByteArray), acc.Nodup → m_ref1_Check_L2 l k acc = if (acc ++ l).Nodup then Lp.brk (acc ++ l) else Lp.ret 901
  | [], k, acc, h => by rw [List.append_nil, if_pos h]; rfl
  | x :: l, k, acc, h => by
    rw [m_ref1_Check_L2]
    by_cases hx : x ∈ acc
    · rw [(ref1_has_eq acc x).1 hx, cond_true, if_neg]
      intro hn
      rw [List.nodup_append] at hn
      exact hn.2.2 x hx x (by simp) rfl
    · rw [(ref1_has_eq acc x).2 hx, cond_false, ref1_Check_L2_eq l (k + 1) (acc ++ [x]) (by
        rw [List.nodup_append]
        exact ⟨h, by simp, fun a ha b hb => by simp only [List.mem_singleton] at hb; subst hb; rintro rfl; exact hx ha⟩), List.append_assoc, List.singleton_append]
theorem ref1_Check_L1_eq : ∀ (es : List DEdge) (i : Nat) (acc : List ByteArray), acc.Nodup → m_ref1_Check_L1 es i acc = if (acc ++ es.flatMap (·.outs)).Nodup then Lp.brk () else Lp.ret 901
  | [], i, acc, h => by rw [List.flatMap_nil, List.append_nil, if_pos h]; rfl
  | e :: es, i, acc, h => by
    rw [m_ref1_Check_L1, ref1_Check_L2_eq _ _ _ h, List.flatMap_cons, ← List.append_assoc]
    by_cases hn : (acc ++ e.outs).Nodup
    · rw [if_pos hn]
      simp only
      rw [ref1_Check_L1_eq es (i + 1) _ hn]
    · rw [if_neg hn]
      simp only
      rw [if_neg]
      intro h2
      rw [List.nodup_append] at h2
      exact hn h2.1
theorem ref1_Check_eq (g : DGraph) : m_ref1_Check g = m_ad g := by
  unfold m_ref1_Check m_ad checkS
  rw [ref1_GraphMay_eq]
  show _ = if m_ba g = false then _ else _
  cases m_ba g
  · rfl
  · rw [ref1_Check_L1_eq _ _ _ List.nodup_nil, List.nil_append]
    have e : outsOf (gOf g).edges = g.edges.flatMap (·.outs) := by
      unfold outsOf
      rw [show (gOf g).edges = g.edges.map eOf from rfl, List.flatMap_map]; rfl
    rw [e]
    have hd := hasDup_iff ((g.edges.flatMap (·.outs)).map fun x => x.data.toList)
    have hn : ((g.edges.flatMap (·.outs)).map fun x => x.data.toList).Nodup ↔ (g.edges.flatMap (·.outs)).Nodup := by
      constructor
      · intro h; exact List.Pairwise.of_map (fun x : ByteArray => x.data.toList) (fun a b hh hab => hh (by rw [hab])) h
      · intro h; exact List.Pairwise.map _ (fun a b hab hh => hab (ba_ext hh)) h
    by_cases h : (g.edges.flatMap (·.outs)).Nodup
    · rw [if_pos h]
      have : hasDup ((g.edges.flatMap (·.outs)).map fun x => x.data.toList) = false := by
        cases hh : hasDup ((g.edges.flatMap (·.outs)).map fun x => x.data.toList)
        · rfl
        · exact absurd (hn.2 h) (hd.1 hh)
      rw [this]; rfl
    · rw [if_neg h]
      have : hasDup ((g.edges.flatMap (·.outs)).map fun x => x.data.toList) = true := hd.2 (fun hh => h (hn.1 hh))
      rw [this]; rfl
end
end Go.Lift
namespace Go.Lift
noncomputable section
open Go Go.RowKit
set_option linter.unusedSimpArgs false
set_option linter.unusedVariables false
set_option linter.unusedSectionVars false
set_option maxRecDepth 20000
def mkD (g : DGraph) (n : ByteArray) : Int := idxS (fun e => Lib.containsS e.outs n) g.edges
end
end Go.Lift
namespace Go.Lift
noncomputable section
open Go Go.RowKit
set_option linter.unusedSimpArgs false
set_option linter.unusedVariables false
set_option linter.unusedSectionVars false
set_option maxRecDepth 20000
theorem check_form (g : DGraph) : m_ad g = if m_ba g = false then 900 else if (g.edges.flatMap (·.outs)).Nodup then 0 else 901 := by
  rw [← ref1_Check_eq]
  unfold m_ref1_Check
  rw [ref1_GraphMay_eq]
  cases m_ba g
  · rfl
  · rw [ref1_Check_L1_eq _ _ _ List.nodup_nil, List.nil_append]
    by_cases h : (g.edges.flatMap (·.outs)).Nodup
    · rw [if_pos h, if_pos h]; rfl
    · rw [if_neg h, if_neg h]; rfl
end
end Go.Lift
namespace Go.Lift
noncomputable section
open Go Go.RowKit
set_option linter.unusedSimpArgs false
set_option linter.unusedVariables false
set_option linter.unusedSectionVars false
set_option maxRecDepth 20000
theorem idx_val {α : Type} {p : α → Bool} {L : List α → Nat → Lp Int Unit} (h0 : ∀ i, L [] i = Lp.brk ()) (h1 : ∀ x r i, L (x :: r) i = bif p x then Lp.ret ((i : Nat) : Int) else L r (i + 1)) (l : List α) :
    (match L l 0 with | Lp.ret r => r | Lp.brk () => (-1 : Int)) = idxS p l := by
  rw [lp_idx h0 h1 l 0]; unfold idxS
  cases l.findIdx? p with
  | none => rfl
  | some j => simp
theorem idxS_nonneg {α : Type} (p : α → Bool) (l : List α) : decide ((0 : Int) ≤ idxS p l) = l.any p := by
  unfold idxS
  cases h : l.findIdx? p with
  | none =>
    have := List.findIdx?_eq_none_iff.1 h
    rw [show l.any p = false from by simpa using this]; rfl
  | some j =>
    obtain ⟨hj, h2, _⟩ := List.findIdx?_eq_some_iff_getElem.1 h
    rw [List.any_eq_true.2 ⟨l[j], List.getElem_mem hj, h2⟩]
    simp
theorem contains_str (xs : List ByteArray) (v : ByteArray) : m_x xs v = Lib.containsS xs v := by
  unfold m_x m_t
  refine (congrArg (fun z => decide ((0 : Int) ≤ z)) (idx_val (p := fun y => decide (v = y)) (fun _ => rfl) (fun _ _ _ => rfl) xs)).trans ?_
  rw [idxS_nonneg]
  cases hc : Lib.containsS xs v
  · rw [List.any_eq_false]
    intro y hy e
    have : v = y := by simpa using e
    subst this
    rw [(Lib.containsS_iff _ _).2 hy] at hc; cases hc
  · exact List.any_eq_true.2 ⟨v, (Lib.containsS_iff _ _).1 hc, by simp⟩
theorem contains_int (xs : List Int) (v : Int) : m_q xs v = xs.contains v := by
  unfold m_q m_1
  refine (congrArg (fun z => decide ((0 : Int) ≤ z)) (idx_val (p := fun y => decide (v = y)) (fun _ => rfl) (fun _ _ _ => rfl) xs)).trans ?_
  rw [idxS_nonneg]
  rw [Bool.eq_iff_iff]; simp
theorem containsFunc_int (xs : List Int) (f : Int → Bool) : m_e xs f = xs.any f := by
  unfold m_e m_f
  exact (congrArg (fun z => decide ((0 : Int) ≤ z)) (idx_val (p := f) (fun _ => rfl) (fun _ _ _ => rfl) xs)).trans (idxS_nonneg _ _)
theorem makes_mkD (g : DGraph) (x : ByteArray) : m_o g x = mkD g x := by
  unfold m_o m_l mkD
  refine (idx_val (p := fun e => m_ak e x) (fun _ => rfl) (fun _ _ _ => rfl) g.edges).trans ?_
  congr 1; funext e; exact contains_str e.outs x
theorem has_str (xs : List ByteArray) (x : ByteArray) : m_ref1_has xs x = Lib.containsS xs x := by
  cases hc : Lib.containsS xs x
  · exact (ref1_has_eq xs x).2 fun h => by rw [(Lib.containsS_iff _ _).2 h] at hc; cases hc
  · exact (ref1_has_eq xs x).1 ((Lib.containsS_iff _ _).1 hc)
theorem makerOf_mkD (g : DGraph) (x : ByteArray) : m_ref1_MakerOf g x = mkD g x := by
  unfold m_ref1_MakerOf mkD
  refine (idx_val (p := fun e => m_ref1_has e.outs x) (fun _ => rfl) (fun _ _ _ => rfl) g.edges).trans ?_
  congr 1; funext e; exact has_str e.outs x
def inputs (g : DGraph) (e : Int) : List ByteArray := (g.edges.getD e.toNat default).ins ++ ((g.edges.getD e.toNat default).implicit ++ (g.edges.getD e.toNat default).order)
theorem needs_L1_iff (g : DGraph) : ∀ (xs : List ByteArray) (i : Nat) (out : List Int), ∃ out', m_ac g xs i out = Lp.brk out' ∧ ∀ k, k ∈ out' ↔ k ∈ out ∨ (0 ≤ k ∧ ∃ x ∈ xs, mkD g x = k)
  | [], i, out => ⟨out, rfl, fun k => by simp⟩
  | x :: xs, i, out => by
    rw [m_ac, makes_mkD, contains_int]
    by_cases h1 : 0 ≤ mkD g x
    · by_cases h2 : mkD g x ∈ out
      · obtain ⟨o, e1, e2⟩ := needs_L1_iff g xs (i + 1) out
        refine ⟨o, by simp [h1, h2, e1], fun k => ?_⟩
        rw [e2]
        constructor
        · rintro (h | ⟨h, y, hy, e⟩)
          · exact Or.inl h
          · exact Or.inr ⟨h, y, by simp [hy], e⟩
        · rintro (h | ⟨h, y, hy, e⟩)
          · exact Or.inl h
          · rcases List.mem_cons.1 hy with rfl | hy
            · subst e; exact Or.inl h2
            · exact Or.inr ⟨h, y, hy, e⟩
      · obtain ⟨o, e1, e2⟩ := needs_L1_iff g xs (i + 1) (out ++ [mkD g x])
        refine ⟨o, by simp [h1, h2, e1], fun k => ?_⟩
        rw [e2, List.mem_append, List.mem_singleton]
        constructor
        · rintro ((h | h) | ⟨h, y, hy, e⟩)
          · exact Or.inl h
          · subst h; exact Or.inr ⟨h1, x, by simp, rfl⟩
          · exact Or.inr ⟨h, y, by simp [hy], e⟩
        · rintro (h | ⟨h, y, hy, e⟩)
          · exact Or.inl (Or.inl h)
          · rcases List.mem_cons.1 hy with rfl | hy
            · exact Or.inl (Or.inr e.symm)
            · exact Or.inr ⟨h, y, hy, e⟩
    · obtain ⟨o, e1, e2⟩ := needs_L1_iff g xs (i + 1) out
      refine ⟨o, by simp [h1, e1], fun k => ?_⟩
      rw [e2]
      constructor
      · rintro (h | ⟨h, y, hy, e⟩)
        · exact Or.inl h
        · exact Or.inr ⟨h, y, by simp [hy], e⟩
      · rintro (h | ⟨h, y, hy, e⟩)
        · exact Or.inl h
        · rcases List.mem_cons.1 hy with rfl | hy
          · omega
          · exact Or.inr ⟨h, y, hy, e⟩
theorem needs_iff (g : DGraph) (e k : Int) : k ∈ m_s g e ↔ 0 ≤ k ∧ ∃ x ∈ inputs g e, mkD g x = k := by
  unfold m_s
  rw [concat_eq]
  obtain ⟨o, e1, e2⟩ := needs_L1_iff g ([(g.edges.getD e.toNat default).ins, (g.edges.getD e.toNat default).implicit, (g.edges.getD e.toNat default).order].flatten) 0 []
  rw [e1]
  show k ∈ o ↔ _
  rw [e2]
  simp [inputs]
theorem rneeds_L1_iff (g : DGraph) : ∀ (xs : List ByteArray) (i : Nat) (out : List Int), ∃ out', m_a7 g xs i out = Lp.brk out' ∧ ∀ k, k ∈ out' ↔ k ∈ out ∨ (0 ≤ k ∧ ∃ x ∈ xs, mkD g x = k)
  | [], i, out => ⟨out, rfl, fun k => by simp⟩
  | x :: xs, i, out => by
    rw [m_a7, makerOf_mkD]
    by_cases h1 : 0 ≤ mkD g x
    · obtain ⟨o, e1, e2⟩ := rneeds_L1_iff g xs (i + 1) (out ++ [mkD g x])
      refine ⟨o, by simp [h1, e1], fun k => ?_⟩
      rw [e2, List.mem_append, List.mem_singleton]
      constructor
      · rintro ((h | h) | ⟨h, y, hy, e⟩)
        · exact Or.inl h
        · subst h; exact Or.inr ⟨h1, x, by simp, rfl⟩
        · exact Or.inr ⟨h, y, by simp [hy], e⟩
      · rintro (h | ⟨h, y, hy, e⟩)
        · exact Or.inl (Or.inl h)
        · rcases List.mem_cons.1 hy with rfl | hy
          · exact Or.inl (Or.inr e.symm)
          · exact Or.inr ⟨h, y, hy, e⟩
    · obtain ⟨o, e1, e2⟩ := rneeds_L1_iff g xs (i + 1) out
      refine ⟨o, by simp [h1, e1], fun k => ?_⟩
      rw [e2]
      constructor
      · rintro (h | ⟨h, y, hy, e⟩)
        · exact Or.inl h
        · exact Or.inr ⟨h, y, by simp [hy], e⟩
      · rintro (h | ⟨h, y, hy, e⟩)
        · exact Or.inl h
        · rcases List.mem_cons.1 hy with rfl | hy
          · omega
          · exact Or.inr ⟨h, y, hy, e⟩
theorem rneeds_iff (g : DGraph) (e k : Int) : k ∈ m_ref1_Needs g e ↔ 0 ≤ k ∧ ∃ x ∈ inputs g e, mkD g x = k := by
  unfold m_ref1_Needs
  obtain ⟨o, e1, e2⟩ := rneeds_L1_iff g (((g.edges.getD e.toNat default).ins ++ (g.edges.getD e.toNat default).implicit) ++ (g.edges.getD e.toNat default).order) 0 []
  rw [e1]
  show k ∈ o ↔ _
  rw [e2]
  simp [inputs]
theorem needs_same (g : DGraph) (e k : Int) : k ∈ m_s g e ↔ k ∈ m_ref1_Needs g e := by rw [needs_iff, rneeds_iff]
def freeP (g : DGraph) (out : List Int) (i : Nat) : Bool := !(out.contains ((i : Nat) : Int)) && (m_s g ((i : Nat) : Int)).all fun k => out.contains k
def nextP (g : DGraph) (out : List Int) : Option Nat := (List.range g.edges.length).find? (freeP g out)
def ordF (g : DGraph) : Nat → List Int → Option (List Int)
  | 0, out => some out
  | f + 1, out => match nextP g out with
    | some i => ordF g f (out ++ [((i : Nat) : Int)])
    | none => none
theorem of_L3_eq (g : DGraph) (c : List Int) : ∀ (l i : Nat), m_ax ((List.range' i l).map fun i => m_s g ((i : Nat) : Int)) i c = match (List.range' i l).find? (freeP g c) with
    | some j => Lp.brk (true, c ++ [((j : Nat) : Int)])
    | none => Lp.brk (false, c)
  | 0, i => rfl
  | l + 1, i => by
    rw [List.range'_succ, List.map_cons, m_ax, of_L3_eq g c l (i + 1), List.find?_cons]
    have e : (!(m_8 ((i : Nat) : Int) c) && !(m_e (m_s g ((i : Nat) : Int)) (fun z0 => m_as z0 (fun z0 => m_8 z0 c)))) = freeP g c i := by
      unfold freeP m_8 m_as
      rw [containsFunc_int]
      simp only [contains_int]
      congr 1
      rw [Bool.eq_iff_iff]; simp
    rw [← e]
    cases (!(m_8 ((i : Nat) : Int) c)) <;> cases (!(m_e (m_s g ((i : Nat) : Int)) (fun z0 => m_as z0 (fun z0 => m_8 z0 c)))) <;> rfl
theorem of_L1_eq (g : DGraph) : ∀ (xs : List (List Int)) (i : Nat) (row : List (List Int)), i + xs.length ≤ row.length → ∃ row', m_aw g xs i row = Lp.brk row' ∧ row'.length = row.length ∧ ∀ j, row'[j]? = if i ≤ j ∧ j < i + xs.length then some (m_s g ((j : Nat) : Int)) else row[j]?
  | [], i, row, h => ⟨row, rfl, rfl, fun j => by rw [if_neg (by simp)]⟩
  | x :: xs, i, row, h => by
    simp only [List.length_cons] at h
    obtain ⟨r, e1, e2, e3⟩ := of_L1_eq g xs (i + 1) (row.set i (m_s g ((i : Nat) : Int))) (by simp; omega)
    refine ⟨r, by rw [m_aw]; exact e1, by simpa using e2, fun j => ?_⟩
    rw [e3, List.getElem?_set, List.length_cons]
    by_cases h1 : i = j
    · subst h1; rw [if_neg (by omega), if_pos rfl]
      have : i < row.length := by omega
      simp [this]
    · rw [if_neg h1]
      by_cases h2 : i + 1 ≤ j ∧ j < i + 1 + xs.length
      · rw [if_pos h2, if_pos (by omega)]
      · rw [if_neg h2, if_neg (by omega)]
theorem of_rows (g : DGraph) : m_aw g (List.replicate g.edges.length ([] : List Int)) 0 (List.replicate g.edges.length ([] : List Int)) = Lp.brk ((List.range' 0 g.edges.length).map fun i => m_s g ((i : Nat) : Int)) := by
  obtain ⟨r, e1, e2, e3⟩ := of_L1_eq g (List.replicate g.edges.length ([] : List Int)) 0 (List.replicate g.edges.length ([] : List Int)) (by simp)
  rw [e1]; congr 1
  apply List.ext_getElem?
  intro j
  rw [e3, List.getElem?_map]
  simp only [List.length_replicate] at e2 ⊢
  by_cases h : j < g.edges.length
  · rw [if_pos ⟨Nat.zero_le _, by omega⟩, List.getElem?_range' h]; simp
  · rw [if_neg (by omega), List.getElem?_eq_none (by simp; omega), List.getElem?_eq_none (by simp; omega)]; rfl
theorem of_L2_eq (g : DGraph) : ∀ (f : Nat) (c : List Int), c.length ≤ g.edges.length → g.edges.length - c.length < f → m_a5 g ((List.range' 0 g.edges.length).map fun i => m_s g ((i : Nat) : Int)) f c = match ordF g (g.edges.length - c.length) c with
    | some o => Lp.brk o
    | none => Lp.ret (([] : List Int), (1001 : Int))
  | 0, c, h1, h2 => by omega
  | f + 1, c, h1, h2 => by
    rw [m_a5]
    by_cases h : c.length < g.edges.length
    · rw [decide_eq_true (by omega), cond_true, of_L3_eq, ← List.range_eq_range']
      rw [show g.edges.length - c.length = (g.edges.length - (c.length + 1)) + 1 by omega, ordF]
      show (match (match nextP g c with | some j => Lp.brk (true, c ++ [((j : Nat) : Int)]) | none => Lp.brk (false, c) : Lp (List Int × Int) (Bool × List Int)) with | Lp.ret r => Lp.ret r | Lp.brk (t', c') => _) = _
      cases hn : nextP g c with
      | none => rfl
      | some j =>
        simp only [cond_true]
        have := of_L2_eq g f (c ++ [((j : Nat) : Int)]) (by simp; omega) (by simp; omega)
        rw [List.length_append, List.length_singleton, ← List.range_eq_range'] at this
        exact this
    · rw [decide_eq_false (by omega), cond_false, show g.edges.length - c.length = 0 by omega]; rfl
theorem of_eq (g : DGraph) : m_9 g = if m_ad g = 0 then (match ordF g g.edges.length [] with | some o => (o, (0 : Int)) | none => (([] : List Int), (1001 : Int))) else (([] : List Int), (1000 : Int)) := by
  unfold m_9
  by_cases h : m_ad g = 0
  · rw [if_pos h, decide_eq_true h]
    simp only [Bool.not_true, cond_false]
    rw [of_rows]
    simp only []
    rw [of_L2_eq g _ [] (Nat.zero_le _) (by simp)]
    simp only [List.length_nil, Nat.sub_zero]
    cases ordF g g.edges.length [] <;> rfl
  · rw [if_neg h, decide_eq_false h]; rfl
inductive Steps (g : DGraph) : List Int → Prop
  | nil : Steps g []
  | snoc {out : List Int} {i : Nat} (h : Steps g out) (hn : nextP g out = some i) : Steps g (out ++ [((i : Nat) : Int)])
theorem ordF_steps (g : DGraph) : ∀ (f : Nat) (out o : List Int), Steps g out → ordF g f out = some o → Steps g o ∧ o.length = out.length + f ∧ ∃ r, o = out ++ r
  | 0, out, o, h, e => by simp only [ordF, Option.some.injEq] at e; subst e; exact ⟨h, rfl, [], by simp⟩
  | f + 1, out, o, h, e => by
    simp only [ordF] at e
    split at e
    · rename_i i hi
      obtain ⟨h1, h2, r, h3⟩ := ordF_steps g f _ o (h.snoc hi) e
      exact ⟨h1, by rw [h2]; simp; omega, [((i : Nat) : Int)] ++ r, by rw [h3]; simp⟩
    · cases e
theorem of_steps {g : DGraph} (h : (m_9 g).2 = 0) : Steps g (m_9 g).1 ∧ (m_9 g).1.length = g.edges.length ∧ m_ad g = 0 := by
  rw [of_eq] at h ⊢
  split at h <;> rename_i hc
  · rw [if_pos hc]
    cases ho : ordF g g.edges.length [] with
    | none => rw [ho] at h; simp at h
    | some o =>
      obtain ⟨h1, h2, _⟩ := ordF_steps g _ _ _ .nil ho
      exact ⟨h1, by simpa using h2, hc⟩
  · simp at h
end
end Go.Lift
namespace Go.Lift
noncomputable section
open Go Go.RowKit
set_option linter.unusedSimpArgs false
set_option linter.unusedVariables false
set_option linter.unusedSectionVars false
set_option maxRecDepth 20000
end
end Go.Lift
namespace Go.Lift
noncomputable section
open Go Go.RowKit
set_option linter.unusedSimpArgs false
set_option linter.unusedVariables false
set_option linter.unusedSectionVars false
set_option maxRecDepth 20000
end
end Go.Lift
namespace Go.Lift
noncomputable section
open Go Go.RowKit
set_option linter.unusedSimpArgs false
set_option linter.unusedVariables false
set_option linter.unusedSectionVars false
set_option maxRecDepth 20000
end
end Go.Lift
namespace Go.Lift
noncomputable section
open Go Go.RowKit
set_option linter.unusedSimpArgs false
set_option linter.unusedVariables false
set_option linter.unusedSectionVars false
set_option maxRecDepth 20000
end
end Go.Lift
namespace Go.Lift
noncomputable section
open Go Go.RowKit
set_option linter.unusedSimpArgs false
set_option linter.unusedVariables false
set_option linter.unusedSectionVars false
set_option maxRecDepth 20000
theorem may_of {g : DGraph} (h : m_ad g = 0) : m_ba g = true := by
  rw [check_form] at h
  cases hm : m_ba g
  · rw [hm] at h; simp at h
  · rfl
end
end Go.Lift
namespace Go.Lift
noncomputable section
open Go Go.RowKit
set_option linter.unusedSimpArgs false
set_option linter.unusedVariables false
set_option linter.unusedSectionVars false
set_option maxRecDepth 20000
end
end Go.Lift
namespace Go.Lift
noncomputable section
open Go Go.RowKit
set_option linter.unusedSimpArgs false
set_option linter.unusedVariables false
set_option linter.unusedSectionVars false
set_option maxRecDepth 20000
theorem pool_in {g : DGraph} (h : m_ad g = 0) {i : Nat} (hi : i < g.edges.length) (hp : (g.edges.getD i default).pool ≠ (⟨#[]⟩ : ByteArray)) :
    ∃ p, g.pools.findIdx? (fun q => decide (q.name = (g.edges.getD i default).pool)) = some p ∧ p < g.pools.length := by
  have h0 : ((g.edges.map eOf).all (edgeIn (gOf g)) && (decide (((g.edges.map eOf).length : Int) ≤ 16) && poolsS (gOf g) && allS (gOf g).defaults)) = true := may_of h
  rw [Bool.and_eq_true, List.all_eq_true] at h0
  have he : g.edges.getD i default = g.edges[i] := by simp [hi]
  have := h0.1 (eOf (g.edges.getD i default)) (List.mem_map_of_mem (by rw [he]; exact List.getElem_mem hi))
  unfold edgeIn at this
  rw [Bool.and_eq_true] at this
  have h2 : (decide ((g.edges.getD i default).pool = (⟨#[]⟩ : ByteArray)) || !decide (poolAt (gOf g) (g.edges.getD i default).pool < 0)) = true := this.2
  rw [decide_eq_false hp, Bool.false_or] at h2
  have h3 : 0 ≤ idxS (fun p : DPool => decide (p.name = (g.edges.getD i default).pool)) g.pools := by
    have h4 : 0 ≤ poolAt (gOf g) (g.edges.getD i default).pool := by simpa using h2
    unfold poolAt at h4
    rw [show (gOf g).pools = g.pools.map pOf from rfl, idxS_map pOf _ (fun p => decide (p.name = (g.edges.getD i default).pool)) (fun x => rfl)] at h4
    exact h4
  unfold idxS at h3
  cases hf : g.pools.findIdx? (fun q => decide (q.name = (g.edges.getD i default).pool)) with
  | none => rw [hf] at h3; exact absurd h3 (by decide)
  | some p => exact ⟨p, rfl, (List.findIdx?_eq_some_iff_findIdx_eq.1 hf).1⟩
theorem there_ok {s : DState} {e : Int} (h : (!(m_aa s e)) = false) : ThereP s e := by
  have h1 : m_aa s e = true := by simpa using h
  unfold m_aa m_6 m_ah at h1
  simp only [Bool.and_eq_true, Bool.not_eq_true', Bool.not_not, decide_eq_true_eq, decide_eq_false_iff_not, Bool.or_eq_true] at h1
  obtain ⟨⟨⟨ho, _⟩, _, _, _, hst⟩, he1, he2⟩ := h1
  have hc := (of_steps ho).2.2
  refine ⟨he1, by omega, ?_, ?_, fun hp => pool_in hc (by omega) hp⟩
  · intro hg
    rcases hst with q | ⟨q, _⟩
    · exact_mod_cast q
    · rw [hg] at q; cases q
  · rcases hst with q | ⟨_, q⟩
    · have : s.status.length = s.graph.edges.length := by exact_mod_cast q
      omega
    · have : s.status.length = 0 := by exact_mod_cast q
      omega
end
end Go.Lift
namespace Go.Lift
noncomputable section
open Go Go.RowKit
set_option linter.unusedSimpArgs false
set_option linter.unusedVariables false
set_option linter.unusedSectionVars false
set_option maxRecDepth 20000
theorem any_not {α : Type} (p : α → Bool) (l : List α) : (!l.any fun x => !(p x)) = l.all p := by
  induction l with
  | nil => rfl
  | cons x r ih => rw [List.any_cons, List.all_cons, ← ih]; cases p x <;> rfl
end
end Go.Lift
namespace Go.Lift
noncomputable section
open Go Go.RowKit
set_option linter.unusedSimpArgs false
set_option linter.unusedVariables false
set_option linter.unusedSectionVars false
set_option maxRecDepth 20000
def diskF (d : DDisk) : Bool :=
  (decide ((0 : Int) ≤ d.clock) && (decide (d.clock ≤ (1048576 : Int)) && decide (((d.files.length : Nat) : Int) ≤ (64 : Int))))
def diskC (d : DDisk) (ts : List Int) (x : DFile) (i : Nat) : Bool :=
  (!(!(m_4 x.name)) && (!(!(m_ai x.content)) && (!(decide (x.time < (1 : Int))) && (!(decide (d.clock < x.time)) && (!(ts.any (fun t => decide (t = x.time))) && (!(decide ((0 : Int) < ((i : Nat) : Int))) || (!(!Op.bytesLess ((d.files.getD (i - 1) default).name).toList x.name.toList))))))))
theorem take_snoc {α : Type} {l : List α} {i : Nat} {x : α} (h : l[i]? = some x) : l.take (i + 1) = l.take i ++ [x] := by
  rw [List.take_add_one, h]; rfl
theorem diskC_any {d : DDisk} {ts : List Int} {x : DFile} {i : Nat} (h : diskC d ts x i = true) : ts.any (fun t => decide (t = x.time)) = false := by
  unfold diskC at h
  simp only [Bool.and_eq_true, Bool.not_eq_true', Bool.not_not] at h
  exact h.2.2.2.2.1
theorem diskF_eq (d : DDisk) : (true && decide (0 ≤ d.clock) && decide (d.clock ≤ 1048576) && decide (d.files.length ≤ 64)) = diskF d := by
  unfold diskF
  have e : decide (((d.files.length : Nat) : Int) ≤ (64 : Int)) = decide (d.files.length ≤ 64) := decide_eq_decide.2 (by omega)
  rw [e]
  cases decide ((0 : Int) ≤ d.clock) <;> cases decide (d.clock ≤ (1048576 : Int)) <;> simp
theorem dmay_step {d : DDisk} {i : Nat} {x : DFile} (hx : d.files[i]? = some x) :
    dmayL m_4 d.clock (d.files.drop i) ((d.files.take i).map DFile.time) (d.files.take i).getLast? =
      (diskC d ((d.files.take i).map DFile.time) x i && dmayL m_4 d.clock (d.files.drop (i + 1)) ((d.files.take (i + 1)).map DFile.time) (d.files.take (i + 1)).getLast?) := by
  have hl : i < d.files.length := (List.getElem?_eq_some_iff.1 hx).1
  have h1 : d.files.drop i = x :: d.files.drop (i + 1) := drop_at hx
  rw [h1, take_snoc hx, List.map_append, List.map_singleton, List.getLast?_concat]
  have a1 : decide ((1 : Int) ≤ x.time) = !(decide (x.time < (1 : Int))) := by rw [← decide_not]; exact decide_eq_decide.2 (by omega)
  have a2 : decide (x.time ≤ d.clock) = !(decide (d.clock < x.time)) := by rw [← decide_not]; exact decide_eq_decide.2 (by omega)
  have hd : m_ai x.content = (decide ((0 : Int) ≤ x.content) && decide (x.content ≤ (2147483647 : Int))) := rfl
  cases i with
  | zero =>
    simp only [List.take_zero, List.map_nil, List.getLast?_nil, List.nil_append]
    rw [dmayL.eq_2]
    simp only [List.nil_append]
    generalize dmayL m_4 d.clock (d.files.drop (0 + 1)) [x.time] (some x) = D
    unfold diskC
    rw [hd, a1, a2, show decide ((0 : Int) < ((0 : Nat) : Int)) = false from rfl]
    simp only [List.any_nil, List.nil_append]
    cases m_4 x.name <;> cases decide ((0 : Int) ≤ x.content) <;> cases decide (x.content ≤ (2147483647 : Int)) <;> cases decide (x.time < (1 : Int)) <;> cases decide (d.clock < x.time) <;> cases D <;> rfl
  | succ j =>
    have hj : d.files[j]? = some d.files[j] := List.getElem?_eq_getElem (by omega)
    have hg : d.files.getD (j + 1 - 1) default = d.files[j] := by simp [show j < d.files.length by omega]
    have hla : (d.files.take (j + 1)).getLast? = some d.files[j] := by rw [take_snoc hj, List.getLast?_concat]
    rw [hla, dmayL.eq_3]
    generalize dmayL m_4 d.clock (d.files.drop (j + 1 + 1)) ((d.files.take (j + 1)).map DFile.time ++ [x.time]) (some x) = D
    unfold diskC
    rw [hd, a1, a2, hg, show decide ((0 : Int) < ((j + 1 : Nat) : Int)) = true from decide_eq_true (by omega)]
    cases m_4 x.name <;> cases decide ((0 : Int) ≤ x.content) <;> cases decide (x.content ≤ (2147483647 : Int)) <;> cases decide (x.time < (1 : Int)) <;> cases decide (d.clock < x.time) <;> cases ((d.files.take (j + 1)).map DFile.time).any (fun t => decide (t = x.time)) <;> cases Op.bytesLess d.files[j].name.toList x.name.toList <;> cases D <;> rfl
end
end Go.Lift
namespace Go.Lift
noncomputable section
open Go Go.RowKit
set_option linter.unusedSimpArgs false
set_option linter.unusedVariables false
set_option linter.unusedSectionVars false
set_option maxRecDepth 20000
theorem law21_awake_true : m_0 = true := by
  simp only [m_0, m_z]
  kernel_rfl
theorem all_same {α : Type} {p : α → Bool} {xs ys : List α} (h : ∀ k, k ∈ xs ↔ k ∈ ys) : xs.all p = ys.all p := by
  rw [Bool.eq_iff_iff, List.all_eq_true, List.all_eq_true]
  exact ⟨fun q k hk => q k ((h k).2 hk), fun q k hk => q k ((h k).1 hk)⟩
end
end Go.Lift
namespace Go.Lift
noncomputable section
open Go Go.RowKit
set_option linter.unusedSimpArgs false
set_option linter.unusedVariables false
set_option linter.unusedSectionVars false
set_option maxRecDepth 20000
theorem may_edge {s : DState} {e : Int} (h : m_6 s = true) (h0 : 0 ≤ e) (h1 : e < (s.graph.edges.length : Int)) : m_b s e = (m_7 s e, 0) ∧ m_pool_May s e = (m_pool_Room s e, 0) := by
  have : m_aa s e = true := by
    unfold m_aa
    rw [h, decide_eq_true h0, decide_eq_true h1]; rfl
  unfold m_b m_pool_May
  rw [this]; exact ⟨rfl, rfl⟩
theorem ready_all (s : DState) (e : Int) (hg : s.going = true) : m_7 s e = (decide ((s.status.getD e.toNat default) = (1 : Int)) && (m_ref1_Needs s.graph e).all fun k => !(m_2 k s)) := by
  unfold m_7
  rw [containsFunc_int, show (fun z0 => m_2 z0 s) = fun z0 => !(!(m_2 z0 s)) by funext z; simp, any_not (fun z => !(m_2 z s)), hg, all_same (p := fun z => !(m_2 z s)) fun k => needs_same s.graph e k]
  simp
abbrev gvn (j : Int) (g : Bool) (st : List Int) : DState := ⟨m_d.graph, m_d.actions, m_d.disk, [], [], j, g, st⟩
theorem gvn_parts (j : Int) (g : Bool) (st : List Int) : m_ah (gvn j g st) = true := by kernel_rfl
theorem gvn_edges (j : Int) (g : Bool) (st : List Int) : (gvn j g st).graph.edges.length = 3 := rfl
theorem gvn_may (j : Int) (g : Bool) (st : List Int) : m_6 (gvn j g st) = (decide (1 ≤ j) && decide (j ≤ 8) && (st.all fun x => m_ref12_upTo x 0 4) && (decide (st.length = 3) || (!g && decide (st.length = 0)))) := by
  unfold m_6
  rw [gvn_parts, containsFunc_int]
  have : (fun z0 : Int => m_an z0) = fun x => !(m_ref12_upTo x 0 4) := by
    funext x; unfold m_an m_ref12_upTo
    by_cases h1 : x < 0
    · rw [decide_eq_true h1, decide_eq_false (show ¬ (0 : Int) ≤ x by omega)]; rfl
    · rw [decide_eq_false h1, decide_eq_true (by omega : (0 : Int) ≤ x)]
      by_cases h2 : 4 < x
      · rw [decide_eq_true h2, decide_eq_false (show ¬ x ≤ 4 by omega)]; rfl
      · rw [decide_eq_false h2, decide_eq_true (show x ≤ 4 by omega)]; rfl
  rw [this, any_not, gvn_edges]
  rw [show (!(decide ((gvn j g st).jobs < 1))) = decide (1 ≤ j) by rw [← decide_not]; exact decide_eq_decide.2 (by show ¬ j < 1 ↔ _; omega), show (!(decide (8 < (gvn j g st).jobs))) = decide (j ≤ 8) by rw [← decide_not]; exact decide_eq_decide.2 (by show ¬ 8 < j ↔ _; omega)]
  rw [show decide ((((gvn j g st).status.length : Nat) : Int) = ((3 : Nat) : Int)) = decide (st.length = 3) from decide_eq_decide.2 (by show ((st.length : Nat) : Int) = 3 ↔ _; omega), show decide ((((gvn j g st).status.length : Nat) : Int) = (0 : Int)) = decide (st.length = 0) from decide_eq_decide.2 (by show ((st.length : Nat) : Int) = 0 ↔ _; omega)]
  simp [Bool.and_assoc]
theorem tmod5 (a : Int) : 0 ≤ IntKind.wrap .i64 ((IntKind.wrap .u64 a).tmod (5 : Int)) ∧ IntKind.wrap .i64 ((IntKind.wrap .u64 a).tmod (5 : Int)) ≤ 4 := by
  have h0 : 0 ≤ IntKind.wrap .u64 a := by
    unfold IntKind.wrap; simp only [IntKind.signed]; first | (simp; omega) | omega | exact Int.emod_nonneg _ (by decide)
  have h1 : (IntKind.wrap .u64 a).tmod 5 = (IntKind.wrap .u64 a) % 5 := Int.tmod_eq_emod_of_nonneg h0
  rw [h1, wrap_i64 (by omega) (by omega)]; omega
theorem law21_ReadyTable_true (own a b : Int) (goes : Bool) : m_3 own a b goes = true := by
  unfold m_3
  rw [law21_awake_true]
  obtain ⟨x1, x2⟩ := tmod5 own
  obtain ⟨y1, y2⟩ := tmod5 a
  obtain ⟨z1, z2⟩ := tmod5 b
  generalize IntKind.wrap .i64 ((IntKind.wrap .u64 own).tmod (5 : Int)) = x at *
  generalize IntKind.wrap .i64 ((IntKind.wrap .u64 a).tmod (5 : Int)) = y at *
  generalize IntKind.wrap .i64 ((IntKind.wrap .u64 b).tmod (5 : Int)) = z at *
  have hm : m_6 (gvn 2 goes [x, y, z]) = true := by
    rw [gvn_may]
    simp [m_ref12_upTo, x1, x2, y1, y2, z1, z2]
  have hi : ∀ s : DState, s = gvn 2 goes [x, y, z] → m_b s 0 = (goes && (decide (x = 1) && ((decide (y = 0) || decide (y = 3)) && (decide (z = 0) || decide (z = 3)))), 0) := by
    rintro s rfl
    rw [(may_edge hm (by decide) (by rw [gvn_edges]; decide)).1]
    congr 1
    cases goes
    · unfold m_7; rfl
    · rw [ready_all _ _ rfl, show m_ref1_Needs (gvn 2 true [x, y, z]).graph 0 = [1, 2] by kernel_rfl]
      simp only [List.all_cons, List.all_nil, Bool.and_true]
      unfold m_2
      show (decide (x = 1) && (!(!decide (y = 0) && !decide (y = 3)) && !(!decide (z = 0) && !decide (z = 3)))) = _
      simp
  cases goes
  · rw [hi (⟨lit7e8b3, [lit2ad7b], lit8f7a1, [], [], (2 : Int), false, [x, y, z]⟩ : DState) (by rfl)]
    simp [m_z]
  · rw [hi (⟨lit7e8b3, [lit2ad7b], lit8f7a1, [], [], (2 : Int), true, [x, y, z]⟩ : DState) (by rfl)]
    cases hx : decide (x = 1) <;> cases hy0 : decide (y = 0) <;> cases hy3 : decide (y = 3) <;> cases hz0 : decide (z = 0) <;> cases hz3 : decide (z = 3) <;> simp [m_z]
end
end Go.Lift
namespace Go.Lift
noncomputable section
open Go Go.RowKit
set_option linter.unusedSimpArgs false
set_option linter.unusedVariables false
set_option linter.unusedSectionVars false
set_option maxRecDepth 20000
end
end Go.Lift
