/-
  Lemmas of this claim: a layer over the kit's calls, contracts of the functions that the law reaches, and the law's row. No condition of its own.
-/
import Derived.Test.YthagoaoenalmbaaGreatDoorLbRoomLess
import Derived.Test.YthagoaoenalmbaaGreatDoorSaRoomLess
namespace Go.Lift
noncomputable section
open Go Go.RowKit
set_option linter.unusedSimpArgs false
set_option linter.unusedVariables false
set_option linter.unusedSectionVars false
set_option maxRecDepth 20000
structure DEdge where
  outs : List ByteArray
  ins : List ByteArray
  implicit : List ByteArray
  order : List ByteArray
  command : ByteArray
  deps : Bool
  pool : ByteArray
def DEdge.av (d : DEdge) : AV := .st [(slA 1 AV.s) d.outs, (slA 1 AV.s) d.ins, (slA 1 AV.s) d.implicit, (slA 1 AV.s) d.order, AV.s d.command, AV.b d.deps, AV.s d.pool]
def DEdge.zero : DEdge := ⟨[], [], [], [], (⟨#[]⟩ : ByteArray), false, (⟨#[]⟩ : ByteArray)⟩
instance : Inhabited DEdge := ⟨DEdge.zero⟩
def DEdge.sz (d : DEdge) : Nat := (szL (fun s : ByteArray => s.size + 1)) d.outs + (szL (fun s : ByteArray => s.size + 1)) d.ins + (szL (fun s : ByteArray => s.size + 1)) d.implicit + (szL (fun s : ByteArray => s.size + 1)) d.order + (fun s : ByteArray => s.size + 1) d.command + (fun _ => 1) d.deps + (fun s : ByteArray => s.size + 1) d.pool + 1
theorem DEdge.sz_outs (d : DEdge) : (szL (fun s : ByteArray => s.size + 1)) d.outs ≤ d.sz := by unfold DEdge.sz; omega
theorem DEdge.sz_ins (d : DEdge) : (szL (fun s : ByteArray => s.size + 1)) d.ins ≤ d.sz := by unfold DEdge.sz; omega
theorem DEdge.sz_implicit (d : DEdge) : (szL (fun s : ByteArray => s.size + 1)) d.implicit ≤ d.sz := by unfold DEdge.sz; omega
theorem DEdge.sz_order (d : DEdge) : (szL (fun s : ByteArray => s.size + 1)) d.order ≤ d.sz := by unfold DEdge.sz; omega
theorem DEdge.lim_outs {d : DEdge} (h : lim d.av) : lim ((slA 1 AV.s) d.outs) := by simp only [DEdge.av, lim, limL] at h; exact h.1
structure DPool where
  name : ByteArray
  depth : Int
def DPool.av (d : DPool) : AV := .st [AV.s d.name, (AV.i .i64) d.depth]
def DPool.zero : DPool := ⟨(⟨#[]⟩ : ByteArray), (0 : Int)⟩
instance : Inhabited DPool := ⟨DPool.zero⟩
def DPool.sz (d : DPool) : Nat := (fun s : ByteArray => s.size + 1) d.name + (fun _ => 1) d.depth + 1
structure DGraph where
  edges : List DEdge
  pools : List DPool
  defaults : List ByteArray
def DGraph.av (d : DGraph) : AV := .st [(slA 7 DEdge.av) d.edges, (slA 2 DPool.av) d.pools, (slA 1 AV.s) d.defaults]
def DGraph.zero : DGraph := ⟨[], [], []⟩
instance : Inhabited DGraph := ⟨DGraph.zero⟩
def DGraph.sz (d : DGraph) : Nat := (szL DEdge.sz) d.edges + (szL DPool.sz) d.pools + (szL (fun s : ByteArray => s.size + 1)) d.defaults + 1
theorem DGraph.sz_edges (d : DGraph) : (szL DEdge.sz) d.edges ≤ d.sz := by unfold DGraph.sz; omega
theorem DGraph.sz_pools (d : DGraph) : (szL DPool.sz) d.pools ≤ d.sz := by unfold DGraph.sz; omega
theorem DGraph.sz_defaults (d : DGraph) : (szL (fun s : ByteArray => s.size + 1)) d.defaults ≤ d.sz := by unfold DGraph.sz; omega
theorem DGraph.lim_pt {d : DGraph} (h : lim (.pt d.av.cells)) : lim d.av := by simp only [DGraph.av, AV.cells, lim] at h ⊢; exact h
theorem DGraph.lim_edges {d : DGraph} (h : lim d.av) : lim ((slA 7 DEdge.av) d.edges) := by simp only [DGraph.av, lim, limL] at h; exact h.1
theorem DGraph.lim_pools {d : DGraph} (h : lim d.av) : lim ((slA 2 DPool.av) d.pools) := by simp only [DGraph.av, lim, limL] at h; exact h.2.1
structure DAction where
  command : ByteArray
  reads : List ByteArray
  fails : Bool
def DAction.av (d : DAction) : AV := .st [AV.s d.command, (slA 1 AV.s) d.reads, AV.b d.fails]
def DAction.zero : DAction := ⟨(⟨#[]⟩ : ByteArray), [], false⟩
instance : Inhabited DAction := ⟨DAction.zero⟩
def DAction.sz (d : DAction) : Nat := (fun s : ByteArray => s.size + 1) d.command + (szL (fun s : ByteArray => s.size + 1)) d.reads + (fun _ => 1) d.fails + 1
theorem DAction.sz_reads (d : DAction) : (szL (fun s : ByteArray => s.size + 1)) d.reads ≤ d.sz := by unfold DAction.sz; omega
structure DRecord where
  out : ByteArray
  time : Int
  sign : ByteArray
def DRecord.av (d : DRecord) : AV := .st [AV.s d.out, (AV.i .i64) d.time, AV.s d.sign]
def DRecord.zero : DRecord := ⟨(⟨#[]⟩ : ByteArray), (0 : Int), (⟨#[]⟩ : ByteArray)⟩
instance : Inhabited DRecord := ⟨DRecord.zero⟩
def DRecord.sz (d : DRecord) : Nat := (fun s : ByteArray => s.size + 1) d.out + (fun _ => 1) d.time + (fun s : ByteArray => s.size + 1) d.sign + 1
structure DFound where
  out : ByteArray
  time : Int
  ins : List ByteArray
def DFound.av (d : DFound) : AV := .st [AV.s d.out, (AV.i .i64) d.time, (slA 1 AV.s) d.ins]
def DFound.zero : DFound := ⟨(⟨#[]⟩ : ByteArray), (0 : Int), []⟩
instance : Inhabited DFound := ⟨DFound.zero⟩
def DFound.sz (d : DFound) : Nat := (fun s : ByteArray => s.size + 1) d.out + (fun _ => 1) d.time + (szL (fun s : ByteArray => s.size + 1)) d.ins + 1
theorem DFound.sz_ins (d : DFound) : (szL (fun s : ByteArray => s.size + 1)) d.ins ≤ d.sz := by unfold DFound.sz; omega
structure DFile where
  name : ByteArray
  content : Int
  time : Int
def DFile.av (d : DFile) : AV := .st [AV.s d.name, (AV.i .i64) d.content, (AV.i .i64) d.time]
def DFile.zero : DFile := ⟨(⟨#[]⟩ : ByteArray), (0 : Int), (0 : Int)⟩
instance : Inhabited DFile := ⟨DFile.zero⟩
def DFile.sz (d : DFile) : Nat := (fun s : ByteArray => s.size + 1) d.name + (fun _ => 1) d.content + (fun _ => 1) d.time + 1
structure DDisk where
  clock : Int
  files : List DFile
def DDisk.av (d : DDisk) : AV := .st [(AV.i .i64) d.clock, (slA 3 DFile.av) d.files]
def DDisk.zero : DDisk := ⟨(0 : Int), []⟩
instance : Inhabited DDisk := ⟨DDisk.zero⟩
def DDisk.sz (d : DDisk) : Nat := (fun _ => 1) d.clock + (szL DFile.sz) d.files + 1
theorem DDisk.sz_files (d : DDisk) : (szL DFile.sz) d.files ≤ d.sz := by unfold DDisk.sz; omega
theorem DDisk.lim_files {d : DDisk} (h : lim d.av) : lim ((slA 3 DFile.av) d.files) := by simp only [DDisk.av, lim, limL] at h; exact h.2.1
structure DState where
  graph : DGraph
  actions : List DAction
  disk : DDisk
  log : List DRecord
  deps : List DFound
  jobs : Int
  going : Bool
  status : List Int
def DState.av (d : DState) : AV := .st [(slA 7 DEdge.av) d.graph.edges, (slA 2 DPool.av) d.graph.pools, (slA 1 AV.s) d.graph.defaults, (slA 3 DAction.av) d.actions, (AV.i .i64) d.disk.clock, (slA 3 DFile.av) d.disk.files, (slA 3 DRecord.av) d.log, (slA 3 DFound.av) d.deps, (AV.i .i64) d.jobs, AV.b d.going, (slA 1 (AV.i .i64)) d.status]
def DState.zero : DState := ⟨DGraph.zero, [], DDisk.zero, [], [], (0 : Int), false, []⟩
instance : Inhabited DState := ⟨DState.zero⟩
def DState.sz (d : DState) : Nat := DGraph.sz d.graph + (szL DAction.sz) d.actions + DDisk.sz d.disk + (szL DRecord.sz) d.log + (szL DFound.sz) d.deps + (fun _ => 1) d.jobs + (fun _ => 1) d.going + (szL (fun _ => 1)) d.status + 1
theorem DState.sz_graph (d : DState) : DGraph.sz d.graph ≤ d.sz := by unfold DState.sz; omega
theorem DState.sz_actions (d : DState) : (szL DAction.sz) d.actions ≤ d.sz := by unfold DState.sz; omega
theorem DState.sz_disk (d : DState) : DDisk.sz d.disk ≤ d.sz := by unfold DState.sz; omega
theorem DState.sz_log (d : DState) : (szL DRecord.sz) d.log ≤ d.sz := by unfold DState.sz; omega
theorem DState.sz_deps (d : DState) : (szL DFound.sz) d.deps ≤ d.sz := by unfold DState.sz; omega
theorem DState.sz_status (d : DState) : (szL (fun _ => 1)) d.status ≤ d.sz := by unfold DState.sz; omega
theorem DState.lim_status {d : DState} (h : lim d.av) : lim ((slA 1 (AV.i .i64)) d.status) := by simp only [DState.av, lim, limL] at h; exact h.2.2.2.2.2.2.2.2.2.2.1
def lit35ef0 : DFile := (⟨(⟨#[97, 46, 99]⟩ : ByteArray), (1 : Int), (1 : Int)⟩ : DFile)
def litf2893 : DFile := (⟨(⟨#[98, 46, 99]⟩ : ByteArray), (3 : Int), (3 : Int)⟩ : DFile)
def litb1de5 : DFile := (⟨(⟨#[97, 46, 104]⟩ : ByteArray), (2 : Int), (2 : Int)⟩ : DFile)
def lit881d0 : DFile := (⟨(⟨#[122, 46, 104]⟩ : ByteArray), (4 : Int), (4 : Int)⟩ : DFile)
def lit2ad7b : DAction := (⟨(⟨#[99, 99, 32, 97]⟩ : ByteArray), [(⟨#[122, 46, 104]⟩ : ByteArray)], false⟩ : DAction)
def lit28f67 : DEdge := (⟨[(⟨#[108, 105, 98]⟩ : ByteArray)], [(⟨#[97, 46, 111]⟩ : ByteArray), (⟨#[98, 46, 111]⟩ : ByteArray)], [], [], (⟨#[97, 114]⟩ : ByteArray), false, (⟨#[]⟩ : ByteArray)⟩ : DEdge)
def lit345b9 : DEdge := (⟨[(⟨#[98, 46, 111]⟩ : ByteArray)], [(⟨#[98, 46, 99]⟩ : ByteArray)], [], [(⟨#[97, 46, 111]⟩ : ByteArray)], (⟨#[99, 99, 32, 98]⟩ : ByteArray), false, (⟨#[116, 119, 111]⟩ : ByteArray)⟩ : DEdge)
def lit17817 : DEdge := (⟨[(⟨#[97, 46, 111]⟩ : ByteArray), (⟨#[97, 46, 100]⟩ : ByteArray)], [(⟨#[97, 46, 99]⟩ : ByteArray)], [(⟨#[97, 46, 104]⟩ : ByteArray)], [], (⟨#[99, 99, 32, 97]⟩ : ByteArray), true, (⟨#[116, 119, 111]⟩ : ByteArray)⟩ : DEdge)
def lit8f7a1 : DDisk := (⟨(4 : Int), [lit35ef0, litb1de5, litf2893, lit881d0]⟩ : DDisk)
def lit7e8b3 : DGraph := (⟨[lit28f67, lit17817, lit345b9], [(⟨(⟨#[116, 119, 111]⟩ : ByteArray), (2 : Int)⟩ : DPool)], [(⟨#[108, 105, 98]⟩ : ByteArray)]⟩ : DGraph)
def lit326bd : DState := (⟨lit7e8b3, [lit2ad7b], lit8f7a1, [], [], (2 : Int), false, []⟩ : DState)
def lit06008 : DState := (⟨lit7e8b3, [lit2ad7b], lit8f7a1, [], [], (3 : Int), true, [(1 : Int), (2 : Int), (2 : Int)]⟩ : DState)
def lit37de8 : DState := (⟨lit7e8b3, [lit2ad7b], lit8f7a1, [], [], (2 : Int), true, [(1 : Int), (2 : Int), (2 : Int)]⟩ : DState)
def litd4095 : DState := (⟨lit7e8b3, [lit2ad7b], lit8f7a1, [], [], (0 : Int), true, [(1 : Int), (2 : Int), (2 : Int)]⟩ : DState)
def outsN : List DEdge → Nat
  | [] => 0
  | e :: r => e.outs.length + outsN r
def eOf (e : DEdge) : EdgeD := ⟨⟨false, e.outs⟩, ⟨false, e.ins⟩, ⟨false, e.implicit⟩, ⟨false, e.order⟩, e.command, e.deps, e.pool⟩
def pOf (p : DPool) : PoolD := ⟨p.name, p.depth⟩
def gOf (g : DGraph) : GraphD := ⟨false, g.edges.map eOf, false, g.pools.map pOf, ⟨false, g.defaults⟩⟩
def m_co (g : DGraph) : Bool := mayG (gOf g)
def m_a7 (g : DGraph) : Int := checkS (gOf g)
def needsN (g : DGraph) (edge : Int) : Nat := (g.edges.getD edge.toNat default).ins.length + (g.edges.getD edge.toNat default).implicit.length + (g.edges.getD edge.toNat default).order.length
def dmayL (pi : ByteArray → Bool) (c : Int) : List DFile → List Int → Option DFile → Bool
  | [], _, _ => true
  | f :: r, ts, p => (pi f.name && decide (0 ≤ f.content) && decide (f.content ≤ 2147483647) && decide (1 ≤ f.time) && decide (f.time ≤ c) && !(ts.any (fun t => decide (t = f.time))) && (match p with | none => true | some q => Op.bytesLess q.name.toList f.name.toList)) && dmayL pi c r (ts ++ [f.time]) (some f)
def dmayS (pi : ByteArray → Bool) (d : DDisk) : Bool := dmayL pi d.clock d.files [] none && decide (0 ≤ d.clock) && decide (d.clock ≤ 1048576) && decide (d.files.length ≤ 64)
def ThereP (s : DState) (e : Int) : Prop := 0 ≤ e ∧ e.toNat < s.graph.edges.length ∧ (s.going = true → s.status.length = s.graph.edges.length) ∧ s.status.length ≤ s.graph.edges.length ∧
  ((s.graph.edges.getD e.toNat default).pool ≠ (⟨#[]⟩ : ByteArray) → ∃ p, s.graph.pools.findIdx? (fun q => decide (q.name = (s.graph.edges.getD e.toNat default).pool)) = some p ∧ p < s.graph.pools.length)
def m_law0_SpoilInts_L1 : List Int → Nat → (List Int) → Lp (List Int) ((List Int))
  | [], i, row => Lp.brk row
  | x1 :: rest, i, row => m_law0_SpoilInts_L1 rest (i + 1) (row.set i (IntKind.wrap .i64 ((-9 : Int) - (row.getD i default))))
def m_law0_SpoilInts (a : List Int) : List Int :=
  (match m_law0_SpoilInts_L1 a 0 a with
  | Lp.ret r => r
  | Lp.brk row' => row')
def m_9 (s' : ByteArray) : Bool :=
  (decide ((cleanS s').2 = (0 : Int)) && decide ((cleanS s').1 = s'))
def m_cm : List ByteArray → Nat → Lp (Bool) (Unit)
  | [], v9 => Lp.brk ()
  | x1 :: rest, v9 => (bif (!(m_9 x1)) then Lp.ret false else m_cm rest (v9 + 1))
def m_bi (ss : List ByteArray) (most' : Int) : Bool :=
  (match m_cm ss 0 with
  | Lp.ret r => r
  | Lp.brk () => decide (((ss.length : Nat) : Int) ≤ most'))
def m_ca : List UInt8 → Nat → Lp (Bool) (Unit)
  | [], v8 => Lp.brk ()
  | x1 :: rest, v8 => (bif decide ((x1.toNat : Int) < (32 : Int)) then Lp.ret false else (bif decide ((126 : Int) < (x1.toNat : Int)) then Lp.ret false else m_ca rest (v8 + 1)))
def m_a4 (s' : ByteArray) (most' : Int) : Bool :=
  (match m_ca s'.data.toList 0 with
  | Lp.ret r => r
  | Lp.brk () => decide (((s'.size : Nat) : Int) ≤ most'))
def m_as (s' : ByteArray) : Bool :=
  ((!decide (s' = (⟨#[]⟩ : ByteArray))) && (m_a4 s' (256 : Int)))
def m_graph_Outs_L1 : List DEdge → Nat → (List ByteArray) → Lp (List ByteArray) ((List ByteArray))
  | [], v11, out => Lp.brk out
  | x1 :: rest, v11, out => m_graph_Outs_L1 rest (v11 + 1) (out ++ x1.outs)
def m_graph_Outs (g : DGraph) : List ByteArray :=
  (match m_graph_Outs_L1 g.edges 0 [] with
  | Lp.ret r => r
  | Lp.brk out' => out')
def m_ci (x' : ByteArray) : List ByteArray → Nat → Lp (Bool) (Unit)
  | [], i => Lp.brk ()
  | x1 :: rest, i => (bif decide (x1 = x') then Lp.ret true else m_ci x' rest (i + 1))
def m_b9 (xs : List ByteArray) (x' : ByteArray) : Bool :=
  (match m_ci x' xs 0 with
  | Lp.ret r => r
  | Lp.brk () => false)
def m_bg (c : Int) : Bool :=
  (bif decide ((97 : Int) ≤ c) then (decide (c ≤ (122 : Int)) || (decide ((48 : Int) ≤ c) && decide (c ≤ (57 : Int)))) else (decide ((48 : Int) ≤ c) && decide (c ≤ (57 : Int))))
def m_bx : List UInt8 → Nat → Lp (Bool) (Unit)
  | [], i => Lp.brk ()
  | x1 :: rest, i => (bif decide ((x1.toNat : Int) < (32 : Int)) then Lp.ret false else (bif decide ((126 : Int) < (x1.toNat : Int)) then Lp.ret false else m_bx rest (i + 1)))
def m_ai (s' : ByteArray) (least : Int) (most' : Int) : Bool :=
  (match m_bx s'.data.toList 0 with
  | Lp.ret r => r
  | Lp.brk () => (decide (least ≤ ((s'.size : Nat) : Int)) && decide (((s'.size : Nat) : Int) ≤ most')))
def m_a3 : List UInt8 → Nat → Lp (Bool) (Unit)
  | [], i => Lp.brk ()
  | x1 :: rest, i => (bif (!(m_bg (x1.toNat : Int))) then (bif (!decide ((x1.toNat : Int) = (46 : Int))) then (bif (!decide ((x1.toNat : Int) = (95 : Int))) then (bif (!decide ((x1.toNat : Int) = (45 : Int))) then (bif (!decide ((x1.toNat : Int) = (47 : Int))) then Lp.ret false else m_a3 rest (i + 1)) else m_a3 rest (i + 1)) else m_a3 rest (i + 1)) else m_a3 rest (i + 1)) else m_a3 rest (i + 1))
def m_8 (s' : ByteArray) : Bool :=
  (match m_a3 s'.data.toList 0 with
  | Lp.ret r => r
  | Lp.brk () => (decide ((1 : Int) ≤ ((s'.size : Nat) : Int)) && decide (((s'.size : Nat) : Int) ≤ (16 : Int))))
def m_b0 (sign : ByteArray) : List ByteArray → Nat → ByteArray → Lp (ByteArray) (ByteArray)
  | [], i, s' => Lp.brk s'
  | x1 :: rest, i, s' => (bif decide ((0 : Int) < ((i : Nat) : Int)) then m_b0 sign rest (i + 1) ((s' ++ sign) ++ x1) else m_b0 sign rest (i + 1) (s' ++ x1))
def m_cd (xs : List ByteArray) (sign : ByteArray) : ByteArray :=
  (match m_b0 sign xs 0 (⟨#[]⟩ : ByteArray) with
  | Lp.ret r => r
  | Lp.brk sv' => sv')
def m_bd (s' : ByteArray) (sign : Int) : Nat → (List ByteArray) → Nat → Nat → Lp (List ByteArray) ((List ByteArray))
  | 0, out, from', i => Lp.brk out
  | kf + 1, out, from', i => (bif decide (((i : Nat) : Int) ≤ ((s'.size : Nat) : Int)) then (bif (decide (((i : Nat) : Int) = ((s'.size : Nat) : Int)) || decide (((s'.data.getD i 0).toNat : Int) = sign)) then m_bd s' sign kf (out ++ [(s'.extract from' i)]) (i + 1) (i + 1) else m_bd s' sign kf out from' (i + 1)) else Lp.brk out)
def m_s (s' : ByteArray) (sign : Int) : List ByteArray :=
  (match m_bd s' sign (s'.size + 1 - 0 + 1) [] 0 0 with
  | Lp.ret r => r
  | Lp.brk out' => out')
def m_ao : List ByteArray → Nat → (List ByteArray) → Lp (ByteArray × Int) ((List ByteArray))
  | [], i, kept => Lp.brk kept
  | x1 :: rest, i, kept => (bif decide (x1 = (⟨#[]⟩ : ByteArray)) then m_ao rest (i + 1) kept else (bif decide (x1 = (⟨#[46]⟩ : ByteArray)) then m_ao rest (i + 1) kept else (bif decide (x1 = (⟨#[46, 46]⟩ : ByteArray)) then (bif decide (((kept.length : Nat) : Int) = (0 : Int)) then Lp.ret ((⟨#[]⟩ : ByteArray), (200 : Int)) else m_ao rest (i + 1) (kept.take (kept.length - 1))) else m_ao rest (i + 1) (kept ++ [x1]))))
def m_j (s' : ByteArray) : ByteArray × Int :=
  (bif (!(m_8 s')) then ((⟨#[]⟩ : ByteArray), (200 : Int)) else (bif decide (((s'.data.getD 0 0).toNat : Int) = (47 : Int)) then ((⟨#[]⟩ : ByteArray), (200 : Int)) else (match m_ao (m_s s' (47 : Int)) 0 [] with
  | Lp.ret r => r
  | Lp.brk kept' => (bif decide (((kept'.length : Nat) : Int) = (0 : Int)) then ((⟨#[]⟩ : ByteArray), (200 : Int)) else ((m_cd kept' (⟨#[47]⟩ : ByteArray)), (0 : Int))))))
def m_ad (s' : ByteArray) : Bool :=
  (decide ((m_j s').2 = (0 : Int)) && decide ((m_j s').1 = s'))
def m_bv : List ByteArray → Nat → Lp (Bool) (Unit)
  | [], i => Lp.brk ()
  | x1 :: rest, i => (bif (!(m_ad x1)) then Lp.ret false else m_bv rest (i + 1))
def m_g (xs : List ByteArray) : Bool :=
  (match m_bv xs 0 with
  | Lp.ret r => r
  | Lp.brk () => decide (((xs.length : Nat) : Int) ≤ (8 : Int)))
def m_b6 (name : ByteArray) : List DPool → Nat → Lp (Int) (Unit)
  | [], i => Lp.brk ()
  | x1 :: rest, i => (bif decide (x1.name = name) then Lp.ret ((i : Nat) : Int) else m_b6 name rest (i + 1))
def m_a1 (ps : List DPool) (name : ByteArray) : Int :=
  (match m_b6 name ps 0 with
  | Lp.ret r => r
  | Lp.brk () => (-1 : Int))
def m_ae (e : DEdge) : Bool :=
  (decide ((0 : Int) < ((e.outs.length : Nat) : Int)) && ((m_g e.outs) && ((m_g e.ins) && ((m_g e.implicit) && ((m_g e.order) && ((m_ai e.command (1 : Int) (256 : Int)) && (decide (e.pool = (⟨#[]⟩ : ByteArray)) || (m_8 e.pool))))))))
def m_bc (g : DGraph) : List DEdge → Nat → Lp (Bool) (Unit)
  | [], i2 => Lp.brk ()
  | x2 :: rest, i2 => (bif (!(m_ae x2)) then Lp.ret false else (bif (!decide (x2.pool = (⟨#[]⟩ : ByteArray))) then (bif decide ((m_a1 g.pools x2.pool) < (0 : Int)) then Lp.ret false else m_bc g rest (i2 + 1)) else m_bc g rest (i2 + 1)))
def m_bn (g : DGraph) : List DPool → Nat → Lp (Bool) (Unit)
  | [], i => Lp.brk ()
  | x1 :: rest, i => (bif (!(m_8 x1.name)) then Lp.ret false else (bif decide (x1.depth < (1 : Int)) then Lp.ret false else (bif decide ((8 : Int) < x1.depth) then Lp.ret false else (bif (!decide ((m_a1 g.pools x1.name) = ((i : Nat) : Int))) then Lp.ret false else m_bn g rest (i + 1)))))
def m_7 (g : DGraph) : Bool :=
  (match m_bn g g.pools 0 with
  | Lp.ret r => r
  | Lp.brk () => (match m_bc g g.edges 0 with
  | Lp.ret r => r
  | Lp.brk () => (decide (((g.pools.length : Nat) : Int) ≤ (4 : Int)) && (decide (((g.edges.length : Nat) : Int) ≤ (16 : Int)) && (m_g g.defaults)))))
def m_cc : List ByteArray → Nat → (List ByteArray) → Lp (Int) ((List ByteArray))
  | [], k, all2 => Lp.brk all2
  | x2 :: rest, k, all2 => (bif (m_b9 all2 x2) then Lp.ret (901 : Int) else m_cc rest (k + 1) (all2 ++ [x2]))
def m_cb : List DEdge → Nat → (List ByteArray) → Lp (Int) (Unit)
  | [], i, all => Lp.brk ()
  | x1 :: rest, i, all => (match m_cc x1.outs 0 all with
  | Lp.ret r => Lp.ret r
  | Lp.brk all2' => m_cb rest (i + 1) all2')
def m_bz (g : DGraph) : Int :=
  (bif (!(m_7 g)) then (900 : Int) else (match m_cb g.edges 0 [] with
  | Lp.ret r => r
  | Lp.brk () => (0 : Int)))
def m_ce (name : ByteArray) : List DEdge → Nat → Lp (Int) (Unit)
  | [], i => Lp.brk ()
  | x1 :: rest, i => (bif (m_b9 x1.outs name) then Lp.ret ((i : Nat) : Int) else m_ce name rest (i + 1))
def m_af (g : DGraph) (name : ByteArray) : Int :=
  (match m_ce name g.edges 0 with
  | Lp.ret r => r
  | Lp.brk () => (-1 : Int))
def m_b4 (g : DGraph) : List ByteArray → Nat → (List Int) → Lp (List Int) ((List Int))
  | [], i, out => Lp.brk out
  | x1 :: rest, i, out => (bif decide ((0 : Int) ≤ (m_af g x1)) then m_b4 g rest (i + 1) (out ++ [(m_af g x1)]) else m_b4 g rest (i + 1) out)
def m_ag (g : DGraph) (edge : Int) : List Int :=
  (match m_b4 g (((g.edges.getD edge.toNat default).ins ++ (g.edges.getD edge.toNat default).implicit) ++ (g.edges.getD edge.toNat default).order) 0 [] with
  | Lp.ret r => r
  | Lp.brk out' => out')
def m_bw (row : List Bool) : List Int → Nat → Bool → Lp (List Int × Int) (Bool)
  | [], k, free => Lp.brk free
  | x3 :: rest, k, free => (bif free then m_bw row rest (k + 1) (row.getD x3.toNat default) else m_bw row rest (k + 1) false)
def m_b5 (row : List Bool) (g : DGraph) : Nat → Int → Int → Lp (List Int × Int) (Int)
  | 0, next, i => Lp.brk next
  | kf + 1, next, i => (bif decide ((0 : Int) ≤ i) then (match m_bw row (m_ag g i) 0 (!(row.getD i.toNat default)) with
  | Lp.ret r => Lp.ret r
  | Lp.brk free' => (bif free' then m_b5 row g kf i (i - (1 : Int)) else m_b5 row g kf next (i - (1 : Int)))) else Lp.brk next)
def m_cj (g : DGraph) : Nat → (List Int) → (List Bool) → Lp (List Int × Int) ((List Int) × (List Bool))
  | 0, out, row => Lp.brk (out, row)
  | kf + 1, out, row => (bif decide (((out.length : Nat) : Int) < ((g.edges.length : Nat) : Int)) then (match m_b5 row g (((((g.edges.length : Nat) : Int) - (1 : Int)) + 1).toNat + 1) (-1 : Int) (((g.edges.length : Nat) : Int) - (1 : Int)) with
  | Lp.ret r => Lp.ret r
  | Lp.brk next' => (bif decide (next' < (0 : Int)) then Lp.ret (([] : List Int), (1001 : Int)) else m_cj g kf (out ++ [next']) (row.set next'.toNat true))) else Lp.brk (out, row))
def m_aq (g : DGraph) : List Int × Int :=
  (bif (!decide ((m_bz g) = (0 : Int))) then (([] : List Int), (1000 : Int)) else (match m_cj g (g.edges.length - 0 + 1) [] (List.replicate g.edges.length false) with
  | Lp.ret r => r
  | Lp.brk (out', row') => (out', (0 : Int))))
def m_law0_SameInts_L1 (b : List Int) : List Int → Nat → Lp (Bool) (Unit)
  | [], i => Lp.brk ()
  | x1 :: rest, i => (bif (!decide (x1 = (b.getD i default))) then Lp.ret false else m_law0_SameInts_L1 b rest (i + 1))
def m_bk (v : Int) : List Int → Nat → Lp (Int) (Unit)
  | [], v8 => Lp.brk ()
  | x1 :: rest, v8 => (bif decide (v = x1) then Lp.ret ((v8 : Nat) : Int) else m_bk v rest (v8 + 1))
def m_am (s' : List Int) (v : Int) : Int :=
  (match m_bk v s' 0 with
  | Lp.ret r => r
  | Lp.brk () => (-1 : Int))
def m_0 (s' : List Int) (v : Int) : Bool :=
  decide ((0 : Int) ≤ (m_am s' v))
def m_ar (v : ByteArray) : List ByteArray → Nat → Lp (Int) (Unit)
  | [], v8 => Lp.brk ()
  | x1 :: rest, v8 => (bif decide (v = x1) then Lp.ret ((v8 : Nat) : Int) else m_ar v rest (v8 + 1))
def m_5 (s' : List ByteArray) (v : ByteArray) : Int :=
  (match m_ar v s' 0 with
  | Lp.ret r => r
  | Lp.brk () => (-1 : Int))
def m_aa (s' : List ByteArray) (v : ByteArray) : Bool :=
  decide ((0 : Int) ≤ (m_5 s' v))
def m_1 (f : DPool → Bool) : List DPool → Nat → Lp (Int) (Unit)
  | [], v8 => Lp.brk ()
  | x1 :: rest, v8 => (bif (f x1) then Lp.ret ((v8 : Nat) : Int) else m_1 f rest (v8 + 1))
def m_u (s' : List DPool) (f : DPool → Bool) : Int :=
  (match m_1 f s' 0 with
  | Lp.ret r => r
  | Lp.brk () => (-1 : Int))
def m_cf (p : DPool) (name : ByteArray) : Bool :=
  decide (p.name = name)
def m_bf (g : DGraph) (s' : ByteArray) : Int :=
  (m_u g.pools (fun z0 => m_cf z0 s'))
def m_ah (f : DEdge → Bool) : List DEdge → Nat → Lp (Int) (Unit)
  | [], v8 => Lp.brk ()
  | x1 :: rest, v8 => (bif (f x1) then Lp.ret ((v8 : Nat) : Int) else m_ah f rest (v8 + 1))
def m_t (s' : List DEdge) (f : DEdge → Bool) : Int :=
  (match m_ah f s' 0 with
  | Lp.ret r => r
  | Lp.brk () => (-1 : Int))
def m_b3 (e : DEdge) (name : ByteArray) : Bool :=
  (m_aa e.outs name)
def m_3 (g : DGraph) (s' : ByteArray) : Int :=
  (m_t g.edges (fun z0 => m_b3 z0 s'))
def m_az (f : Int → Bool) : List Int → Nat → Lp (Int) (Unit)
  | [], v8 => Lp.brk ()
  | x1 :: rest, v8 => (bif (f x1) then Lp.ret ((v8 : Nat) : Int) else m_az f rest (v8 + 1))
def m_ac (s' : List Int) (f : Int → Bool) : Int :=
  (match m_az f s' 0 with
  | Lp.ret r => r
  | Lp.brk () => (-1 : Int))
def m_k (s' : List Int) (f : Int → Bool) : Bool :=
  decide ((0 : Int) ≤ (m_ac s' f))
def m_grow_string (n' : Nat) : List ByteArray :=
  (bif decide ((0 : Int) < ((n' : Nat) : Int)) then ((List.replicate n' (⟨#[]⟩ : ByteArray)).take 0) else [])
def m_d : List (List ByteArray) → Nat → (List ByteArray) → Lp (List ByteArray) ((List ByteArray))
  | [], v27, newslice => Lp.brk newslice
  | x2 :: rest, v27, newslice => m_d rest (v27 + 1) (newslice ++ x2)
def m_q : List (List ByteArray) → Nat → Nat → Lp (List ByteArray) (Nat)
  | [], v11, size => Lp.brk size
  | x1 :: rest, v11, size => m_q rest (v11 + 1) (size + x1.length)
def m_b (slices : List (List ByteArray)) : List ByteArray :=
  (match m_q slices 0 0 with
  | Lp.ret r => r
  | Lp.brk size' => (match m_d slices 0 ((List.replicate size' (⟨#[]⟩ : ByteArray)).take 0) with
  | Lp.ret r => r
  | Lp.brk newslice4' => newslice4'))
def m_br (g : DGraph) : List ByteArray → Nat → (List Int) → Lp (List Int) ((List Int))
  | [], v31, out => Lp.brk out
  | x1 :: rest, v31, out => (bif decide ((0 : Int) ≤ (m_3 g x1)) then (bif (!(m_0 out (m_3 g x1))) then m_br g rest (v31 + 1) (out ++ [(m_3 g x1)]) else m_br g rest (v31 + 1) out) else m_br g rest (v31 + 1) out)
def m_ap (g : DGraph) (edge : Int) : List Int :=
  (match m_br g (m_b [(g.edges.getD edge.toNat default).ins, (g.edges.getD edge.toNat default).implicit, (g.edges.getD edge.toNat default).order]) 0 [] with
  | Lp.ret r => r
  | Lp.brk out' => out')
def m_a5 (edge : Int) (out : List Int) : Bool :=
  (m_0 out edge)
def m_b8 (edge : Int) (told : Int → Bool) : Bool :=
  (!(told edge))
def m_ch : List (List Int) → Nat → (List Int) → Lp (List Int × Int) (Bool × (List Int))
  | [], v38, cell2 => Lp.brk (false, cell2)
  | x3 :: rest, v38, cell2 => (bif (!(m_a5 ((v38 : Nat) : Int) cell2)) then (bif (!(m_k x3 (fun z0 => m_b8 z0 (fun z0 => m_a5 z0 cell2)))) then Lp.brk (true, (cell2 ++ [((v38 : Nat) : Int)])) else m_ch rest (v38 + 1) cell2) else m_ch rest (v38 + 1) cell2)
def m_cl (g : DGraph) (row : List (List Int)) : Nat → (List Int) → Lp (List Int × Int) ((List Int))
  | 0, cell => Lp.brk cell
  | kf + 1, cell => (bif decide (((cell.length : Nat) : Int) < ((g.edges.length : Nat) : Int)) then (match m_ch row 0 cell with
  | Lp.ret r => Lp.ret r
  | Lp.brk (t', cell2') => (bif t' then m_cl g row kf cell2' else Lp.ret (([] : List Int), (1001 : Int)))) else Lp.brk cell)
def m_cg (g : DGraph) : List (List Int) → Nat → (List (List Int)) → Lp (List Int × Int) ((List (List Int)))
  | [], v20, row => Lp.brk row
  | x1 :: rest, v20, row => m_cg g rest (v20 + 1) (row.set v20 (m_ap g ((v20 : Nat) : Int)))
def m_a0 (g : DGraph) : List Int × Int :=
  (bif (!decide ((m_a7 g) = (0 : Int))) then (([] : List Int), (1000 : Int)) else (match m_cg g (List.replicate g.edges.length ([] : List Int)) 0 (List.replicate g.edges.length ([] : List Int)) with
  | Lp.ret r => r
  | Lp.brk row' => (match m_cl g row' (g.edges.length - 0 + 1) [] with
  | Lp.ret r => r
  | Lp.brk cell3' => (cell3', (0 : Int)))))
def m_ay (a : DEdge) : DEdge :=
  (⟨a.outs, a.ins, a.implicit, a.order, a.command, a.deps, a.pool⟩ : DEdge)
def m_bh : List DEdge → Nat → (List DEdge) → Lp (DGraph) ((List DEdge))
  | [], i, edges => Lp.brk edges
  | x1 :: rest, i, edges => m_bh rest (i + 1) (edges ++ [(m_ay x1)])
def m_f (a : DGraph) : DGraph :=
  (match m_bh a.edges 0 [] with
  | Lp.ret r => r
  | Lp.brk edges' => (⟨edges', a.pools, a.defaults⟩ : DGraph))
def m_z (e : Int) : Int :=
  e
def m_bo (a : DAction) : Bool :=
  ((!(m_as a.command)) || (!(m_bi a.reads (8 : Int))))
def m_v (f : DAction → Bool) : List DAction → Nat → Lp (Int) (Unit)
  | [], v8 => Lp.brk ()
  | x1 :: rest, v8 => (bif (f x1) then Lp.ret ((v8 : Nat) : Int) else m_v f rest (v8 + 1))
def m_m (s' : List DAction) (f : DAction → Bool) : Int :=
  (match m_v f s' 0 with
  | Lp.ret r => r
  | Lp.brk () => (-1 : Int))
def m_h (s' : List DAction) (f : DAction → Bool) : Bool :=
  decide ((0 : Int) ≤ (m_m s' f))
def m_b1 (as' : List DAction) : Bool :=
  (decide (((as'.length : Nat) : Int) ≤ (16 : Int)) && (!(m_h as' (fun z0 => m_bo z0))))
def m_ba (x' : Int) : Bool :=
  (decide ((1 : Int) ≤ x') && decide (x' ≤ (1048576 : Int)))
def m_aw (r : DRecord) : Bool :=
  ((m_9 r.out) && ((m_ba r.time) && ((!decide (r.sign = (⟨#[]⟩ : ByteArray))) && (m_a4 r.sign (2048 : Int)))))
def m_ck (r : DRecord) : Bool :=
  (!(m_aw r))
def m_w (f : DRecord → Bool) : List DRecord → Nat → Lp (Int) (Unit)
  | [], v8 => Lp.brk ()
  | x1 :: rest, v8 => (bif (f x1) then Lp.ret ((v8 : Nat) : Int) else m_w f rest (v8 + 1))
def m_n (s' : List DRecord) (f : DRecord → Bool) : Int :=
  (match m_w f s' 0 with
  | Lp.ret r => r
  | Lp.brk () => (-1 : Int))
def m_i (s' : List DRecord) (f : DRecord → Bool) : Bool :=
  decide ((0 : Int) ≤ (m_n s' f))
def m_cn (rs : List DRecord) : Bool :=
  (decide (((rs.length : Nat) : Int) ≤ (256 : Int)) && (!(m_i rs (fun z0 => m_ck z0))))
def m_bl (f : DFound) : Bool :=
  ((m_9 f.out) && ((m_ba f.time) && (m_bi f.ins (8 : Int))))
def m_by (f : DFound) : Bool :=
  (!(m_bl f))
def m_y (f : DFound → Bool) : List DFound → Nat → Lp (Int) (Unit)
  | [], v8 => Lp.brk ()
  | x1 :: rest, v8 => (bif (f x1) then Lp.ret ((v8 : Nat) : Int) else m_y f rest (v8 + 1))
def m_p (s' : List DFound) (f : DFound → Bool) : Int :=
  (match m_y f s' 0 with
  | Lp.ret r => r
  | Lp.brk () => (-1 : Int))
def m_l (s' : List DFound) (f : DFound → Bool) : Bool :=
  decide ((0 : Int) ≤ (m_p s' f))
def m_b7 (fs : List DFound) : Bool :=
  (decide (((fs.length : Nat) : Int) ≤ (256 : Int)) && (!(m_l fs (fun z0 => m_by z0))))
def m_bs (x' : Int) : Bool :=
  (decide ((0 : Int) ≤ x') && decide (x' ≤ (2147483647 : Int)))
def m_at (s' : DState) : Bool :=
  (decide ((m_a0 s'.graph).2 = (0 : Int)) && ((m_b1 s'.actions) && ((dmayS m_9 s'.disk) && ((m_cn s'.log) && (m_b7 s'.deps)))))
def m_ax (x' : Int) : Bool :=
  (decide (x' < (0 : Int)) || decide ((4 : Int) < x'))
def m_aj (s' : DState) : Bool :=
  (!(!(m_at s')) && (!(decide (s'.jobs < (1 : Int))) && (!(decide ((8 : Int) < s'.jobs)) && (!(m_k s'.status (fun z0 => m_ax z0)) && (decide (((s'.status.length : Nat) : Int) = ((s'.graph.edges.length : Nat) : Int)) || ((!s'.going) && decide (((s'.status.length : Nat) : Int) = (0 : Int))))))))
def m_a8 (s' : DState) (edge : Int) : Bool :=
  ((m_aj s') && (decide ((0 : Int) ≤ edge) && decide (edge < ((s'.graph.edges.length : Nat) : Int))))
def m_ready_Ready_1 (at' : Int) (s' : DState) : Bool :=
  ((!decide ((s'.status.getD at'.toNat default) = (0 : Int))) && (!decide ((s'.status.getD at'.toNat default) = (3 : Int))))
def m_ready_Ready (s' : DState) (edge : Int) : Bool :=
  (!(!s'.going) && (!(!decide ((s'.status.getD edge.toNat default) = (1 : Int))) && (!(m_k (m_ap s'.graph edge) (fun z0 => m_ready_Ready_1 z0 s')))))
def m_ready_Is (s' : DState) (edge : Int) : Bool × Int :=
  (bif (!(m_a8 s' edge)) then (false, (2100 : Int)) else ((m_ready_Ready s' edge), (0 : Int)))
def m_bj (s' : DState) (edge : Int) : List Int → Nat → Nat → Nat → Lp (Bool) (Nat × Nat)
  | [], v24, all, own => Lp.brk (all, own)
  | x1 :: rest, v24, all, own => (bif (!decide (x1 = (2 : Int))) then m_bj s' edge rest (v24 + 1) all own else (bif decide ((s'.graph.edges.getD v24 default).pool = (s'.graph.edges.getD edge.toNat default).pool) then m_bj s' edge rest (v24 + 1) (all + 1) (own + 1) else m_bj s' edge rest (v24 + 1) (all + 1) own))
def m_bq (s' : DState) (edge : Int) : Bool :=
  (match m_bj s' edge s'.status 0 0 0 with
  | Lp.ret r => r
  | Lp.brk (all', own') => (decide (((all' : Nat) : Int) < s'.jobs) && (decide ((s'.graph.edges.getD edge.toNat default).pool = (⟨#[]⟩ : ByteArray)) || decide (((own' : Nat) : Int) < (s'.graph.pools.getD (m_bf s'.graph ((s'.graph.edges.getD edge.toNat default).pool)).toNat default).depth))))
def m_c (s' : DState) (edge : Int) : Bool × Int :=
  (bif (!(m_a8 s' edge)) then (false, (2200 : Int)) else ((m_bq s' edge), (0 : Int)))
def m_r (x' : Int) (least : Int) (most' : Int) : Bool :=
  (decide (least ≤ x') && decide (x' ≤ most'))
def m_be : List DAction → Nat → Lp (Bool) (Unit)
  | [], i => Lp.brk ()
  | x1 :: rest, i => (bif (!(m_ai x1.command (1 : Int) (256 : Int))) then Lp.ret false else (bif (!(m_g x1.reads)) then Lp.ret false else m_be rest (i + 1)))
def m_an (as' : List DAction) : Bool :=
  (match m_be as' 0 with
  | Lp.ret r => r
  | Lp.brk () => decide (((as'.length : Nat) : Int) ≤ (16 : Int)))
def m_au (i : Nat) (d : DDisk) (x1 : DFile) : Nat → Nat → Lp (Bool) (Unit)
  | 0, k => Lp.brk ()
  | kf + 1, k => (bif decide (((k : Nat) : Int) < ((i : Nat) : Int)) then (bif decide ((d.files.getD k default).time = x1.time) then Lp.ret false else m_au i d x1 kf (k + 1)) else Lp.brk ())
def m_bb (d : DDisk) : List DFile → Nat → Lp (Bool) (Unit)
  | [], i => Lp.brk ()
  | x1 :: rest, i => (bif (!(m_ad x1.name)) then Lp.ret false else (bif (!(m_r x1.content (0 : Int) (2147483647 : Int))) then Lp.ret false else (bif (!(m_r x1.time (1 : Int) d.clock)) then Lp.ret false else (bif decide ((0 : Int) < ((i : Nat) : Int)) then (bif (!Op.bytesLess ((d.files.getD (i - 1) default).name).toList x1.name.toList) then Lp.ret false else (match m_au i d x1 (i - 0 + 1) 0 with
  | Lp.ret r => Lp.ret r
  | Lp.brk () => m_bb d rest (i + 1))) else (match m_au i d x1 (i - 0 + 1) 0 with
  | Lp.ret r => Lp.ret r
  | Lp.brk () => m_bb d rest (i + 1))))))
def m_6 (d : DDisk) : Bool :=
  (match m_bb d d.files 0 with
  | Lp.ret r => r
  | Lp.brk () => ((m_r d.clock (0 : Int) (1048576 : Int)) && decide (((d.files.length : Nat) : Int) ≤ (64 : Int))))
def m_av (r : DRecord) : Bool :=
  ((m_ad r.out) && ((m_r r.time (1 : Int) (1048576 : Int)) && (m_ai r.sign (1 : Int) (2048 : Int))))
def m_b2 : List DRecord → Nat → Lp (Bool) (Unit)
  | [], i => Lp.brk ()
  | x1 :: rest, i => (bif (!(m_av x1)) then Lp.ret false else m_b2 rest (i + 1))
def m_bt (rs : List DRecord) : Bool :=
  (match m_b2 rs 0 with
  | Lp.ret r => r
  | Lp.brk () => decide (((rs.length : Nat) : Int) ≤ (256 : Int)))
def m_a6 (f : DFound) : Bool :=
  ((m_ad f.out) && ((m_r f.time (1 : Int) (1048576 : Int)) && (m_g f.ins)))
def m_bu : List DFound → Nat → Lp (Bool) (Unit)
  | [], i => Lp.brk ()
  | x1 :: rest, i => (bif (!(m_a6 x1)) then Lp.ret false else m_bu rest (i + 1))
def m_bm (fs : List DFound) : Bool :=
  (match m_bu fs 0 with
  | Lp.ret r => r
  | Lp.brk () => decide (((fs.length : Nat) : Int) ≤ (256 : Int)))
def m_al (s' : DState) : Bool :=
  (decide ((m_aq (⟨s'.graph.edges, s'.graph.pools, s'.graph.defaults⟩ : DGraph)).2 = (0 : Int)) && ((m_an s'.actions) && ((m_6 (⟨s'.disk.clock, s'.disk.files⟩ : DDisk)) && ((m_bt s'.log) && (m_bm s'.deps)))))
def m_bp : List Int → Nat → Lp (Bool) (Unit)
  | [], i => Lp.brk ()
  | x1 :: rest, i => (bif (!(m_r x1 (0 : Int) (4 : Int))) then Lp.ret false else m_bp rest (i + 1))
def m_ab (s' : DState) : Bool :=
  (match m_bp s'.status 0 with
  | Lp.ret r => r
  | Lp.brk () => ((m_al s') && ((m_r s'.jobs (1 : Int) (8 : Int)) && (decide (((s'.status.length : Nat) : Int) = ((s'.graph.edges.length : Nat) : Int)) || ((!s'.going) && decide (((s'.status.length : Nat) : Int) = (0 : Int)))))))
def m_a2 : List DAction → Nat → (List DAction) → Lp (List DAction) ((List DAction))
  | [], i, out => Lp.brk out
  | x1 :: rest, i, out => m_a2 rest (i + 1) (out ++ [(⟨x1.command, x1.reads, x1.fails⟩ : DAction)])
def m_x (a : List DAction) : List DAction :=
  (match m_a2 a 0 [] with
  | Lp.ret r => r
  | Lp.brk out' => out')
def m_o (a : DDisk) : DDisk :=
  (⟨a.clock, a.files⟩ : DDisk)
def m_a9 : List DFound → Nat → (List DFound) → Lp (List DFound) ((List DFound))
  | [], i, out => Lp.brk out
  | x1 :: rest, i, out => m_a9 rest (i + 1) (out ++ [(⟨x1.out, x1.time, x1.ins⟩ : DFound)])
def m_2 (a : List DFound) : List DFound :=
  (match m_a9 a 0 [] with
  | Lp.ret r => r
  | Lp.brk out' => out')
def m_a (a : DState) : DState :=
  (⟨(⟨(m_f (⟨a.graph.edges, a.graph.pools, a.graph.defaults⟩ : DGraph)).edges, (m_f (⟨a.graph.edges, a.graph.pools, a.graph.defaults⟩ : DGraph)).pools, (m_f (⟨a.graph.edges, a.graph.pools, a.graph.defaults⟩ : DGraph)).defaults⟩ : DGraph), (m_x a.actions), (⟨(m_o (⟨a.disk.clock, a.disk.files⟩ : DDisk)).clock, (m_o (⟨a.disk.clock, a.disk.files⟩ : DDisk)).files⟩ : DDisk), a.log, (m_2 a.deps), a.jobs, a.going, a.status⟩ : DState)
def m_law22_start : DState :=
  lit326bd
def m_e : DState :=
  lit06008
def m_ak : Bool :=
  ((m_c m_e (0 : Int)).1 && (decide ((m_z ((m_c m_e (0 : Int)).2)) = (0 : Int)) && ((!(m_c m_e (1 : Int)).1) && (decide ((m_z ((m_c m_e (1 : Int)).2)) = (0 : Int)) && ((!(m_c lit37de8 (0 : Int)).1) && (decide ((m_z ((m_c lit37de8 (0 : Int)).2)) = (0 : Int)) && (decide ((m_z ((m_c lit37de8 (-1 : Int)).2)) = (2200 : Int)) && decide ((m_z ((m_c litd4095 (0 : Int)).2)) = (2200 : Int)))))))))
def m_4 (s' : DState) (edge : Int) (other : Int) : Bool :=
  (!(!m_ak) && ((!(m_ab s')) || (decide (((s'.status.length : Nat) : Int) = (0 : Int)) || (decide ((m_z ((m_c s' (((uMod edge s'.graph.edges.length) : Nat) : Int)).2)) = (0 : Int)) && (decide ((m_z ((m_c (⟨(m_a s').graph, (m_a s').actions, (m_a s').disk, (m_a s').log, (m_a s').deps, (m_a s').jobs, (m_a s').going, (bif decide ((((m_a s').status).getD (uMod other s'.graph.edges.length) default) = (2 : Int)) then (((m_a s').status).set (uMod other s'.graph.edges.length) (3 : Int)) else (m_a s').status)⟩ : DState) (((uMod edge s'.graph.edges.length) : Nat) : Int)).2)) = (0 : Int)) && (decide ((m_z ((m_c (⟨(m_a s').graph, (m_a s').actions, (m_a s').disk, (m_a s').log, (m_a s').deps, (if (IntKind.wrap .i64 ((m_a s').jobs + (1 : Int))) < (8 : Int) then (IntKind.wrap .i64 ((m_a s').jobs + (1 : Int))) else (8 : Int)), (m_a s').going, (m_a s').status⟩ : DState) (((uMod edge s'.graph.edges.length) : Nat) : Int)).2)) = (0 : Int)) && (bif (!(m_c s' (((uMod edge s'.graph.edges.length) : Nat) : Int)).1) then decide (((m_e.status.length : Nat) : Int) = (3 : Int)) else ((m_c (⟨(m_a s').graph, (m_a s').actions, (m_a s').disk, (m_a s').log, (m_a s').deps, (m_a s').jobs, (m_a s').going, (bif decide ((((m_a s').status).getD (uMod other s'.graph.edges.length) default) = (2 : Int)) then (((m_a s').status).set (uMod other s'.graph.edges.length) (3 : Int)) else (m_a s').status)⟩ : DState) (((uMod edge s'.graph.edges.length) : Nat) : Int)).1 && ((m_c (⟨(m_a s').graph, (m_a s').actions, (m_a s').disk, (m_a s').log, (m_a s').deps, (if (IntKind.wrap .i64 ((m_a s').jobs + (1 : Int))) < (8 : Int) then (IntKind.wrap .i64 ((m_a s').jobs + (1 : Int))) else (8 : Int)), (m_a s').going, (m_a s').status⟩ : DState) (((uMod edge s'.graph.edges.length) : Nat) : Int)).1 && decide (((m_e.status.length : Nat) : Int) = (3 : Int)))))))))))
end
end Go.Lift
namespace Go.Lift
noncomputable section
open Go Go.RowKit
set_option linter.unusedSimpArgs false
set_option linter.unusedVariables false
set_option linter.unusedSectionVars false
set_option maxRecDepth 20000
theorem szL_len {α : Type} {sz : α → Nat} (h : ∀ x, 1 ≤ sz x) (xs : List α) : xs.length + 1 ≤ szL sz xs := by
  unfold szL
  induction xs with
  | nil => simp
  | cons x xs ih => have := h x; simp only [List.map_cons, List.sum_cons, List.length_cons]; omega
theorem szL_mem {α : Type} {sz : α → Nat} {x : α} : ∀ {xs : List α}, x ∈ xs → sz x + 1 ≤ szL sz xs
  | [], h => by simp at h
  | y :: ys, h => by
    unfold szL
    simp only [List.map_cons, List.sum_cons]
    rcases List.mem_cons.1 h with rfl | h
    · omega
    · have := szL_mem (sz := sz) h; unfold szL at this; omega
theorem szL_getD {α : Type} [Inhabited α] {sz : α → Nat} {xs : List α} {i : Nat} (h : i < xs.length) : sz (xs.getD i default) + 1 ≤ szL sz xs :=
  szL_mem (List.mem_of_getElem? (getD_some h))
theorem szL_str (xs : List ByteArray) : xs.length + 1 ≤ szL (fun s : ByteArray => s.size + 1) xs := szL_len (fun _ => Nat.le_add_left 1 _) xs
theorem DEdge.sz_one (e : DEdge) : 1 ≤ e.sz := by unfold DEdge.sz; omega
theorem DPool.sz_one (e : DPool) : 1 ≤ e.sz := by unfold DPool.sz; omega
theorem DEdge.sz_eq (d : DEdge) : d.sz = szL (fun s : ByteArray => s.size + 1) d.outs + szL (fun s : ByteArray => s.size + 1) d.ins + szL (fun s : ByteArray => s.size + 1) d.implicit + szL (fun s : ByteArray => s.size + 1) d.order + (d.command.size + 1) + 1 + (d.pool.size + 1) + 1 := rfl
theorem DGraph.sz_len (g : DGraph) : g.edges.length ≤ g.sz := Nat.le_trans (Nat.le_of_succ_le (szL_len DEdge.sz_one g.edges)) g.sz_edges
theorem needsN_sz (g : DGraph) (i : Int) : needsN g i ≤ g.sz := by
  unfold needsN
  by_cases h : i.toNat < g.edges.length
  · have h1 := szL_getD (sz := DEdge.sz) h
    have h2 := g.sz_edges
    generalize g.edges.getD i.toNat default = e at *
    have a := szL_str e.ins; have b := szL_str e.implicit; have c := szL_str e.order
    rw [DEdge.sz_eq] at h1
    omega
  · rw [List.getD_eq_getElem?_getD, List.getElem?_eq_none (by omega)]
    show (0 + 0 + 0 : Nat) ≤ _
    omega
theorem outsN_sz' : ∀ es : List DEdge, outsN es ≤ szL DEdge.sz es
  | [] => Nat.zero_le _
  | e :: es => by
    have := outsN_sz' es
    have a := szL_str e.outs; have b := e.sz_outs
    unfold szL at *
    simp only [outsN, List.map_cons, List.sum_cons] at *
    omega
theorem outsN_sz (g : DGraph) : outsN g.edges ≤ g.sz := Nat.le_trans (outsN_sz' _) g.sz_edges
end
end Go.Lift
namespace Go.Lift
noncomputable section
open Go Go.RowKit
set_option linter.unusedSimpArgs false
set_option linter.unusedVariables false
set_option linter.unusedSectionVars false
set_option maxRecDepth 20000
theorem lp_all {α : Type} {p : α → Bool} {L : List α → Nat → Lp Bool Unit} (h0 : ∀ i, L [] i = Lp.brk ()) (h1 : ∀ x r i, L (x :: r) i = bif !(p x) then Lp.ret false else L r (i + 1)) : ∀ (l : List α) (i : Nat), L l i = if l.all p then Lp.brk () else Lp.ret false
  | [], i => by rw [h0]; rfl
  | x :: r, i => by
    rw [h1, lp_all h0 h1 r (i + 1), List.all_cons]
    cases p x <;> simp
theorem szsum_append (xs ys : List ByteArray) (k : Nat) : szsum (xs ++ ys) k = szsum xs k + szsum ys k := by
  induction xs with
  | nil => simp [szsum]
  | cons x xs ih => simp only [List.cons_append, szsum, ih]; omega
theorem szsum_take (xs : List ByteArray) (n k : Nat) : szsum (xs.take n) k ≤ szsum xs k := by
  have := szsum_append (xs.take n) (xs.drop n) k
  rw [List.take_append_drop] at this
  omega
theorem ref1_NameMay_L1 (l : List UInt8) (i : Nat) : m_a3 l i = if l.all byteOk then Lp.brk () else Lp.ret false :=
  lp_all (p := byteOk) (fun _ => rfl) (fun x r i => by
    rw [m_a3, byteOk_eq]
    have e : m_bg (x.toNat : Int) = smallS x.toNat := by
      unfold m_bg smallS
      cases decide ((97 : Int) ≤ (x.toNat : Int)) <;> cases decide ((x.toNat : Int) ≤ 122) <;> rfl
    rw [e]
    generalize smallS x.toNat = a
    generalize decide ((x.toNat : Int) = 46) = b
    generalize decide ((x.toNat : Int) = 95) = c
    generalize decide ((x.toNat : Int) = 45) = d
    generalize decide ((x.toNat : Int) = 47) = f
    cases a <;> cases b <;> cases c <;> cases d <;> cases f <;> rfl) l i
theorem ref1_NameMay_eq (s : ByteArray) : m_8 s = mayS s := by
  unfold m_8
  rw [ref1_NameMay_L1, mayS_ref]
  cases s.data.toList.all byteOk <;> rfl
theorem mayS_sz {s : ByteArray} (h : mayS s = true) : 1 ≤ s.size ∧ s.size ≤ 16 := by
  rw [mayS_ref] at h
  simp only [Bool.and_eq_true, decide_eq_true_eq] at h
  omega
theorem ref1_NameMay_sz' {s : ByteArray} (h : m_8 s = true) : 1 ≤ s.size ∧ s.size ≤ 16 := mayS_sz (by rw [← ref1_NameMay_eq]; exact h)
theorem ref1_NameMay_sz {s : ByteArray} (h : (!(m_8 s)) = false) : 1 ≤ s.size ∧ s.size ≤ 16 := ref1_NameMay_sz' (by simpa using h)
def Lp.val {α : Type} : Lp α α → α
  | .ret a => a
  | .brk a => a
theorem split_sz_L1 (s : ByteArray) (c : Int) : ∀ (k : Nat) (out : List ByteArray) (f i : Nat), szsum out 1 ≤ f → f ≤ i → i ≤ s.size + 1 → szsum (m_bd s c k out f i).val 1 ≤ s.size + 1
  | 0, out, f, i, h1, h2, h3 => by simp only [m_bd, Lp.val]; omega
  | k + 1, out, f, i, h1, h2, h3 => by
    rw [m_bd]
    by_cases h : ((i : Nat) : Int) ≤ ((s.size : Nat) : Int)
    · rw [decide_eq_true h, cond_true]
      cases (decide (((i : Nat) : Int) = ((s.size : Nat) : Int)) || decide (((s.data.getD i 0).toNat : Int) = c))
      · exact split_sz_L1 s c k out f (i + 1) h1 (by omega) (by omega)
      · refine split_sz_L1 s c k _ (i + 1) (i + 1) ?_ (Nat.le_refl _) (by omega)
        rw [szsum_append]
        simp only [szsum, ByteArray.size_extract]
        omega
    · rw [decide_eq_false h, cond_false]
      simp only [Lp.val]; omega
theorem split_sz (s : ByteArray) (c : Int) : szsum (m_s s c) 1 ≤ s.size + 1 := by
  have := split_sz_L1 s c (s.size + 1 - 0 + 1) [] 0 0 (Nat.le_refl _) (Nat.le_refl _) (Nat.zero_le _)
  unfold m_s
  cases e : m_bd s c (s.size + 1 - 0 + 1) [] 0 0 <;> rw [e] at this <;> exact this
theorem split_join {s : ByteArray} {c : Int} {kept : List ByteArray} {n : Nat} (h : s.size ≤ 16) (hk : szsum kept 1 + n ≤ szsum (m_s s c) 1) : szsum kept (⟨#[47]⟩ : ByteArray).size ≤ 281474976710656 := by
  have := split_sz s c
  show szsum kept 1 ≤ _
  omega
theorem concat_L1 : ∀ (xs : List (List ByteArray)) (i n : Nat), m_q xs i n = Lp.brk (n + xs.flatten.length)
  | [], i, n => by simp [m_q]
  | x :: xs, i, n => by rw [m_q, concat_L1 xs]; simp [Nat.add_assoc]
theorem concat_L2 : ∀ (xs : List (List ByteArray)) (i : Nat) (out : List ByteArray), m_d xs i out = Lp.brk (out ++ xs.flatten)
  | [], i, n => by simp [m_d]
  | x :: xs, i, n => by rw [m_d, concat_L2 xs]; simp [List.append_assoc]
theorem concat_eq (xs : List (List ByteArray)) : m_b xs = xs.flatten := by
  simp only [m_b, concat_L1, concat_L2, List.take_zero, List.nil_append]
theorem check_len {g : DGraph} (h : (!decide ((m_a7 g) = (0 : Int))) = false) : g.edges.length ≤ 16 := by
  have h1 : m_a7 g = 0 := by simpa using h
  unfold m_a7 checkS at h1
  split at h1
  · simp at h1
  · rename_i hm
    have hm' : mayG (gOf g) = true := by simpa using hm
    simp only [mayG, Bool.and_eq_true, decide_eq_true_eq, gOf, List.length_map] at hm'
    have := hm'.2.1; omega
end
end Go.Lift
namespace Go.Lift
noncomputable section
open Go Go.RowKit
set_option linter.unusedSimpArgs false
set_option linter.unusedVariables false
set_option linter.unusedSectionVars false
set_option maxRecDepth 20000
theorem splitL_ne (c : UInt8) : ∀ l : List UInt8, splitL c l ≠ []
  | [] => by simp [splitL]
  | b :: l => by
    rw [splitL]
    split
    · simp
    · cases h : splitL c l <;> simp
theorem extract_list (s : ByteArray) (f i : Nat) : (s.extract f i).data.toList = (s.data.toList.take i).drop f := by
  rw [ByteArray.data_extract, Array.toList_extract, List.extract_eq_take_drop, List.take_drop]
  by_cases h : f ≤ i
  · rw [show f + (i - f) = i by omega]
  · rw [show f + (i - f) = f by omega, List.drop_of_length_le (by simp; omega), List.drop_of_length_le (by simp; omega)]
theorem ref1_split_L1 (s : ByteArray) : ∀ (k : Nat) (out : List ByteArray) (f i : Nat), f ≤ i → i ≤ s.size → s.size + 1 - i < k →
    m_bd s 47 k out f i = Lp.brk (out ++ (match splitL 47 (s.data.toList.drop i) with | [] => [] | p :: r => toBA ((s.data.toList.take i).drop f ++ p) :: r.map toBA))
  | 0, _, _, _, _, _, h => by omega
  | k + 1, out, f, i, h1, h2, h3 => by
    have hl := data_len s
    rw [m_bd, decide_eq_true (by omega), cond_true]
    by_cases hi : i = s.size
    · subst hi
      rw [decide_eq_true rfl, Bool.true_or, cond_true]
      obtain ⟨k', rfl⟩ : ∃ k', k = k' + 1 := ⟨k - 1, by omega⟩
      rw [m_bd, decide_eq_false (by omega), cond_false, List.drop_of_length_le (by omega)]
      simp only [splitL, List.append_nil, List.map_nil]
      rw [← extract_list, toBA_toList]
    · have hlt : i < s.data.toList.length := by omega
      have hd : s.data.toList.drop i = s.data.getD i 0 :: s.data.toList.drop (i + 1) := by
        rw [List.drop_eq_getElem_cons hlt]
        congr 1
        have : i < s.data.size := by rw [← Array.length_toList]; exact hlt
        simp only [Array.getD, this, dif_pos]; simp
      have ht : s.data.toList.take (i + 1) = s.data.toList.take i ++ [s.data.getD i 0] := by
        rw [List.take_add_one, List.getElem?_eq_getElem hlt]
        have : i < s.data.size := by rw [← Array.length_toList]; exact hlt
        simp only [Array.getD, this, dif_pos]; simp
      rw [decide_eq_false (by omega), Bool.false_or, hd, splitL]
      by_cases hb : s.data.getD i 0 = 47
      · rw [if_pos hb, decide_eq_true (by rw [hb]; rfl), cond_true, ref1_split_L1 s k _ (i + 1) (i + 1) (Nat.le_refl _) (by omega) (by omega)]
        simp only [List.append_assoc, List.append_nil, List.singleton_append]
        rw [show toBA ((s.data.toList.take i).drop f) = s.extract f i from by rw [← extract_list]; rfl]
        congr 3
        cases h : splitL 47 (s.data.toList.drop (i + 1)) with
        | nil => exact absurd h (splitL_ne _ _)
        | cons p r => simp only [List.map_cons]; rw [List.drop_of_length_le (by simp; omega), List.nil_append]
      · have hn : ¬ ((s.data.getD i 0).toNat : Int) = 47 := fun h => hb (by
          apply UInt8.toNat_inj.1; show _ = 47; omega)
        rw [if_neg hb, decide_eq_false hn, cond_false, ref1_split_L1 s k out f (i + 1) (by omega) (by omega) (by omega)]
        congr 2
        cases h : splitL 47 (s.data.toList.drop (i + 1)) with
        | nil => exact absurd h (splitL_ne _ _)
        | cons p r =>
          simp only
          rw [ht, List.drop_append_of_le_length (by simp; omega), List.append_assoc]; rfl
theorem ref1_split_eq (s : ByteArray) : m_s s 47 = (splitL 47 s.data.toList).map toBA := by
  unfold m_s
  rw [ref1_split_L1 s _ [] 0 0 (Nat.le_refl _) (Nat.zero_le _) (by omega)]
  simp only [List.drop_zero, List.nil_append, List.take_zero]
  cases h : splitL 47 s.data.toList with
  | nil => exact absurd h (splitL_ne _ _)
  | cons p r => rfl
theorem ref1_Clean_L1 : ∀ (ps : List ByteArray) (i : Nat) (kept : List ByteArray), m_ao ps i kept = match foldB ps kept with
    | none => Lp.ret ((⟨#[]⟩ : ByteArray), (200 : Int))
    | some k => Lp.brk k
  | [], i, kept => rfl
  | p :: ps, i, kept => by
    rw [m_ao, foldB, stepB]
    by_cases h1 : p = ⟨#[]⟩
    · rw [decide_eq_true h1, cond_true, if_pos (Or.inl h1), ref1_Clean_L1 ps]; rfl
    · rw [decide_eq_false h1, cond_false]
      by_cases h2 : p = ⟨#[46]⟩
      · rw [decide_eq_true h2, cond_true, if_pos (Or.inr h2), ref1_Clean_L1 ps]; rfl
      · rw [decide_eq_false h2, cond_false, if_neg (by rintro (h | h); exact h1 h; exact h2 h)]
        by_cases h3 : p = ⟨#[46, 46]⟩
        · rw [decide_eq_true h3, cond_true, if_neg (fun h => h h3)]
          by_cases h4 : kept = []
          · subst h4; rfl
          · rw [decide_eq_false (by cases kept with
              | nil => exact absurd rfl h4
              | cons a b => simp only [List.length_cons]; omega), cond_false, if_neg h4, ref1_Clean_L1 ps, List.dropLast_eq_take]; rfl
        · rw [decide_eq_false h3, cond_false, if_pos h3, ref1_Clean_L1 ps]; rfl
theorem ref1_Join_L1 : ∀ (xs : List ByteArray) (i : Nat) (acc : ByteArray), 0 < i → m_b0 ⟨#[47]⟩ xs i acc = Lp.brk (toBA (acc.data.toList ++ Lib.joinTail [47] (xs.map (·.data.toList))))
  | [], i, acc, _ => by
    rw [m_b0]; simp only [Lib.joinTail, List.map_nil, List.flatten_nil, List.append_nil]; rfl
  | x :: xs, i, acc, h => by
    rw [m_b0, decide_eq_true (by omega), cond_true, ref1_Join_L1 xs (i + 1) _ (by omega)]
    congr 2
    simp [Lib.joinTail]
theorem ref1_Join_eq (k : ByteArray) (ks : List ByteArray) : m_cd (k :: ks) ⟨#[47]⟩ = joinB (k :: ks) := by
  unfold m_cd joinB
  rw [m_b0, decide_eq_false (by omega), cond_false, ref1_Join_L1 ks 1 _ (by omega)]
  simp only [List.map_cons, Lib.join_cons]
  show toBA _ = _
  unfold toBA
  congr 2
theorem ref1_CleanPath_eq (s : ByteArray) : m_j s = cleanS s := by
  unfold m_j cleanS
  rw [ref1_NameMay_eq]
  cases hm : mayS s
  · simp
  · have hz := mayS_sz hm
    have hl := data_len s
    have hh : s.data.toList.head? = some (s.data.getD 0 0) := by
      cases hs : s.data.toList with
      | nil => rw [hs] at hl; simp at hl; omega
      | cons a b =>
        have : 0 < s.data.size := by show 0 < s.size; omega
        simp only [Array.getD, this, dif_pos, List.head?_cons]
        have e : s.data.toList[0]? = some a := by rw [hs]; rfl
        rw [Array.getElem?_toList] at e
        rw [Array.getElem?_eq_getElem this] at e
        exact e.symm
    simp only [Bool.not_true, cond_false, Bool.true_eq_false, false_or, hh]
    by_cases hb : s.data.getD 0 0 = 47
    · rw [decide_eq_true (by rw [hb]; rfl), cond_true, if_pos (by rw [hb])]
    · have hn : ¬ ((s.data.getD 0 0).toNat : Int) = 47 := fun h => hb (by
        apply UInt8.toNat_inj.1; show _ = 47; omega)
      rw [decide_eq_false hn, cond_false, if_neg (by simpa using hb), ref1_split_eq, ref1_Clean_L1]
      cases foldB ((splitL 47 s.data.toList).map toBA) [] with
      | none => rfl
      | some k =>
        cases k with
        | nil => rfl
        | cons k ks =>
          simp only
          rw [decide_eq_false (by simp only [List.length_cons]; omega), cond_false, ref1_Join_eq]
theorem ref1_PathMay_eq (s : ByteArray) : m_ad s = isS s := by
  unfold m_ad isS; rw [ref1_CleanPath_eq]
theorem ref1_PathsMay_eq (xs : List ByteArray) : m_g xs = allS ⟨false, xs⟩ := by
  unfold m_g allS
  rw [lp_all (p := isS) (L := m_bv) (fun _ => rfl) (fun x r i => by rw [m_bv, ref1_PathMay_eq]) xs 0]
  cases xs.all isS <;> simp
theorem ref1_Plain_L1_eq (l : List UInt8) (i : Nat) : m_bx l i = if l.all plainB then Lp.brk () else Lp.ret false :=
  lp_all (p := plainB) (L := m_bx) (fun _ => rfl) (fun x r i => by
    rw [m_bx]
    have e : plainB x = (!decide ((x.toNat : Int) < 32) && !decide ((126 : Int) < (x.toNat : Int))) := by
      unfold plainB
      congr 1
      · rw [← decide_not]; congr 1; apply propext; omega
      · rw [← decide_not]; congr 1; apply propext; omega
    rw [e]
    cases decide ((x.toNat : Int) < 32) <;> cases decide ((126 : Int) < (x.toNat : Int)) <;> rfl) l i
theorem ref1_command_eq (s : ByteArray) : m_ai s 1 256 = commandS s := by
  unfold m_ai commandS plainS
  rw [ref1_Plain_L1_eq]
  have e : decide ((1 : Int) ≤ ((s.size : Nat) : Int)) = !decide (s = ⟨#[]⟩) := by
    rw [← decide_not]; congr 1; apply propext
    constructor
    · rintro h rfl; exact absurd h (by decide)
    · intro h
      have : s.size ≠ 0 := fun h0 => h (by
        apply ba_ext
        have := data_len s
        rw [h0] at this
        rw [List.length_eq_zero_iff.1 this])
      omega
  cases s.data.toList.all plainB
  · simp
  · simp only [if_true, e, Bool.true_and]
theorem ref1_EdgeMay_eq (e : DEdge) : m_ae e = edgeS (eOf e) := by
  unfold m_ae edgeS eOf
  simp only [ref1_PathsMay_eq, ref1_command_eq, ref1_NameMay_eq, List.all_cons, List.all_nil, Bool.and_true]
  have h : decide ((0 : Int) < ((e.outs.length : Nat) : Int)) = decide (((e.outs.length : Nat) : Int) > 0) := rfl
  rw [h]
  generalize decide (((e.outs.length : Nat) : Int) > 0) = a
  generalize allS ⟨false, e.outs⟩ = b
  generalize allS ⟨false, e.ins⟩ = c
  generalize allS ⟨false, e.implicit⟩ = d
  generalize allS ⟨false, e.order⟩ = f
  cases a <;> cases b <;> cases c <;> cases d <;> cases f <;> simp
theorem lp_idx {α : Type} {p : α → Bool} {L : List α → Nat → Lp Int Unit} (h0 : ∀ i, L [] i = Lp.brk ()) (h1 : ∀ x r i, L (x :: r) i = bif p x then Lp.ret ((i : Nat) : Int) else L r (i + 1)) : ∀ (l : List α) (i : Nat), L l i = match l.findIdx? p with
    | some j => Lp.ret (((i + j : Nat)) : Int)
    | none => Lp.brk ()
  | [], i => by rw [h0]; rfl
  | x :: r, i => by
    rw [h1, lp_idx h0 h1 r (i + 1), List.findIdx?_cons]
    cases p x
    · simp only [cond_false, Bool.false_eq_true, if_false]
      cases r.findIdx? p with
      | none => rfl
      | some j => simp only [Option.map_some]; congr 2; omega
    · rfl
theorem idxS_map {α β : Type} (f : α → β) (p : β → Bool) (q : α → Bool) (h : ∀ x, p (f x) = q x) (xs : List α) : idxS p (xs.map f) = idxS q xs := by
  unfold idxS
  rw [List.findIdx?_map]
  have : p ∘ f = q := funext h
  rw [this]
theorem ref1_poolAt_eq (g : DGraph) (name : ByteArray) : m_a1 g.pools name = poolAt (gOf g) name := by
  unfold m_a1 poolAt
  rw [lp_idx (p := fun p : DPool => decide (p.name = name)) (L := m_b6 name) (fun _ => rfl) (fun x r i => by rw [m_b6]) g.pools 0]
  rw [show (gOf g).pools = g.pools.map pOf from rfl, idxS_map pOf _ (fun p => decide (p.name = name)) (fun x => rfl)]
  unfold idxS
  cases g.pools.findIdx? (fun p => decide (p.name = name)) with
  | none => rfl
  | some j => simp
theorem allIdx_map {α β : Type} (f : α → β) (p : Nat → β → Bool) (q : Nat → α → Bool) (h : ∀ i x, p i (f x) = q i x) : ∀ (i : Nat) (xs : List α), allIdx p i (xs.map f) = allIdx q i xs
  | _, [] => rfl
  | i, x :: xs => by simp only [List.map_cons, allIdx, h, allIdx_map f p q h (i + 1) xs]
theorem lp_allIdx {α : Type} {p : Nat → α → Bool} {L : List α → Nat → Lp Bool Unit} (h0 : ∀ i, L [] i = Lp.brk ()) (h1 : ∀ x r i, L (x :: r) i = bif !(p i x) then Lp.ret false else L r (i + 1)) : ∀ (l : List α) (i : Nat), L l i = if allIdx p i l then Lp.brk () else Lp.ret false
  | [], i => by rw [h0]; rfl
  | x :: r, i => by
    rw [h1, lp_allIdx h0 h1 r (i + 1), allIdx]
    cases p i x <;> simp
def poolOkD (g : DGraph) (k : Nat) (p : DPool) : Bool := poolOk (gOf g) k (pOf p)
theorem ref1_GraphMay_L1_eq (g : DGraph) (l : List DPool) (i : Nat) : m_bn g l i = if allIdx (poolOkD g) i l then Lp.brk () else Lp.ret false :=
  lp_allIdx (p := poolOkD g) (L := m_bn g) (fun _ => rfl) (fun x r i => by
    rw [m_bn, ref1_NameMay_eq, ref1_poolAt_eq]
    have e : poolOkD g i x = (mayS x.name && !decide (x.depth < 1) && !decide ((8 : Int) < x.depth) && decide (poolAt (gOf g) x.name = ((i : Nat) : Int))) := rfl
    rw [e]
    cases mayS x.name <;> cases decide (x.depth < 1) <;> cases decide ((8 : Int) < x.depth) <;> cases decide (poolAt (gOf g) x.name = ((i : Nat) : Int)) <;> rfl) l i
theorem ref1_GraphMay_L2_eq (g : DGraph) (l : List DEdge) (i : Nat) : m_bc g l i = if l.all (fun e => edgeIn (gOf g) (eOf e)) then Lp.brk () else Lp.ret false :=
  lp_all (p := fun e => edgeIn (gOf g) (eOf e)) (L := m_bc g) (fun _ => rfl) (fun x r i => by
    rw [m_bc, ref1_EdgeMay_eq, ref1_poolAt_eq]
    have e : edgeIn (gOf g) (eOf x) = (edgeS (eOf x) && (decide (x.pool = (⟨#[]⟩ : ByteArray)) || !decide (poolAt (gOf g) x.pool < 0))) := rfl
    rw [e]
    cases edgeS (eOf x) <;> cases decide (x.pool = (⟨#[]⟩ : ByteArray)) <;> cases decide (poolAt (gOf g) x.pool < 0) <;> rfl) l i
theorem ref1_GraphMay_eq (g : DGraph) : m_7 g = m_co g := by
  unfold m_7 m_co mayG poolsS
  rw [ref1_GraphMay_L1_eq, ref1_GraphMay_L2_eq, ref1_PathsMay_eq]
  rw [show (gOf g).edges = g.edges.map eOf from rfl, show (gOf g).pools = g.pools.map pOf from rfl, List.all_map, List.length_map, List.length_map, allIdx_map pOf _ (poolOkD g) (fun _ _ => rfl)]
  rw [show (gOf g).defaults = ⟨false, g.defaults⟩ from rfl]
  rw [show (edgeIn (gOf g) ∘ eOf) = (fun e => edgeIn (gOf g) (eOf e)) from rfl]
  cases allIdx (poolOkD g) 0 g.pools <;> cases g.edges.all (fun e => edgeIn (gOf g) (eOf e)) <;> simp
  cases decide (((g.pools.length : Nat) : Int) ≤ 4) <;> cases decide (((g.edges.length : Nat) : Int) ≤ 16) <;> simp
theorem ref1_has_eq (xs : List ByteArray) (x : ByteArray) : (x ∈ xs → m_b9 xs x = true) ∧ (x ∉ xs → m_b9 xs x = false) := by
  have h : ∀ (l : List ByteArray) (i : Nat), (x ∈ l → m_ci x l i = Lp.ret true) ∧ (x ∉ l → m_ci x l i = Lp.brk ()) := by
    intro l; induction l with
    | nil => intro i; exact ⟨fun h => by simp at h, fun _ => rfl⟩
    | cons y l ih =>
      intro i
      rw [m_ci]
      by_cases hy : y = x
      · subst hy; rw [decide_eq_true rfl, cond_true]; exact ⟨fun _ => rfl, fun h => absurd (List.mem_cons_self) h⟩
      · rw [decide_eq_false hy, cond_false]
        refine ⟨fun h => (ih (i + 1)).1 ?_, fun h => (ih (i + 1)).2 fun h2 => h (List.mem_cons_of_mem _ h2)⟩
        rcases List.mem_cons.1 h with h | h
        · exact absurd h.symm hy
        · exact h
  unfold m_b9
  exact ⟨fun hx => by rw [(h xs 0).1 hx], fun hx => by rw [(h xs 0).2 hx]⟩
theorem ref1_Check_L2_eq : ∀ (l : List ByteArray) (k : Nat) (acc : List ByteArray), acc.Nodup → m_cc l k acc = if (acc ++ l).Nodup then Lp.brk (acc ++ l) else Lp.ret 901
  | [], k, acc, h => by rw [List.append_nil, if_pos h]; rfl
  | x :: l, k, acc, h => by
    rw [m_cc]
    by_cases hx : x ∈ acc
    · rw [(ref1_has_eq acc x).1 hx, cond_true, if_neg]
      intro hn
      rw [List.nodup_append] at hn
      exact hn.2.2 x hx x (by simp) rfl
    · rw [(ref1_has_eq acc x).2 hx, cond_false, ref1_Check_L2_eq l (k + 1) (acc ++ [x]) (by
        rw [List.nodup_append]
        exact ⟨h, by simp, fun a ha b hb => by simp only [List.mem_singleton] at hb; subst hb; rintro rfl; exact hx ha⟩), List.append_assoc, List.singleton_append]
theorem ref1_Check_L1_eq : ∀ (es : List DEdge) (i : Nat) (acc : List ByteArray), acc.Nodup → m_cb es i acc = if (acc ++ es.flatMap (·.outs)).Nodup then Lp.brk () else Lp.ret 901
  | [], i, acc, h => by rw [List.flatMap_nil, List.append_nil, if_pos h]; rfl
  | e :: es, i, acc, h => by
    rw [m_cb, ref1_Check_L2_eq _ _ _ h, List.flatMap_cons, ← List.append_assoc]
    by_cases hn : (acc ++ e.outs).Nodup
    · rw [if_pos hn]
      simp only
      rw [ref1_Check_L1_eq es (i + 1) _ hn]
    · rw [if_neg hn]
      simp only
      rw [if_neg]
      intro h2
      rw [List.nodup_append] at h2
      exact hn h2.1
theorem ref1_Check_eq (g : DGraph) : m_bz g = m_a7 g := by
  unfold m_bz m_a7 checkS
  rw [ref1_GraphMay_eq]
  show _ = if m_co g = false then _ else _
  cases m_co g
  · rfl
  · rw [ref1_Check_L1_eq _ _ _ List.nodup_nil, List.nil_append]
    have e : outsOf (gOf g).edges = g.edges.flatMap (·.outs) := by
      unfold outsOf
      rw [show (gOf g).edges = g.edges.map eOf from rfl, List.flatMap_map]; rfl
    rw [e]
    have hd := hasDup_iff ((g.edges.flatMap (·.outs)).map fun x => x.data.toList)
    have hn : ((g.edges.flatMap (·.outs)).map fun x => x.data.toList).Nodup ↔ (g.edges.flatMap (·.outs)).Nodup := by
      constructor
      · intro h; exact List.Pairwise.of_map (fun x : ByteArray => x.data.toList) (fun a b hh hab => hh (by rw [hab])) h
      · intro h; exact List.Pairwise.map _ (fun a b hab hh => hab (ba_ext hh)) h
    by_cases h : (g.edges.flatMap (·.outs)).Nodup
    · rw [if_pos h]
      have : hasDup ((g.edges.flatMap (·.outs)).map fun x => x.data.toList) = false := by
        cases hh : hasDup ((g.edges.flatMap (·.outs)).map fun x => x.data.toList)
        · rfl
        · exact absurd (hn.2 h) (hd.1 hh)
      rw [this]; rfl
    · rw [if_neg h]
      have : hasDup ((g.edges.flatMap (·.outs)).map fun x => x.data.toList) = true := hd.2 (fun hh => h (hn.1 hh))
      rw [this]; rfl
end
end Go.Lift
namespace Go.Lift
noncomputable section
open Go Go.RowKit
set_option linter.unusedSimpArgs false
set_option linter.unusedVariables false
set_option linter.unusedSectionVars false
set_option maxRecDepth 20000
def mkD (g : DGraph) (n : ByteArray) : Int := idxS (fun e => Lib.containsS e.outs n) g.edges
theorem mkD_in (g : DGraph) (x : ByteArray) : mkD g x = -1 ∨ ∃ i e, mkD g x = ((i : Nat) : Int) ∧ g.edges[i]? = some e ∧ x ∈ e.outs := by
  unfold mkD idxS
  cases h : g.edges.findIdx? (fun e => Lib.containsS e.outs x) with
  | none => exact Or.inl rfl
  | some i =>
    obtain ⟨hi, h2, _⟩ := List.findIdx?_eq_some_iff_getElem.1 h
    exact Or.inr ⟨i, g.edges[i], rfl, List.getElem?_eq_getElem hi, (Lib.containsS_iff _ _).1 h2⟩
end
end Go.Lift
namespace Go.Lift
noncomputable section
open Go Go.RowKit
set_option linter.unusedSimpArgs false
set_option linter.unusedVariables false
set_option linter.unusedSectionVars false
set_option maxRecDepth 20000
theorem check_form (g : DGraph) : m_a7 g = if m_co g = false then 900 else if (g.edges.flatMap (·.outs)).Nodup then 0 else 901 := by
  rw [← ref1_Check_eq]
  unfold m_bz
  rw [ref1_GraphMay_eq]
  cases m_co g
  · rfl
  · rw [ref1_Check_L1_eq _ _ _ List.nodup_nil, List.nil_append]
    by_cases h : (g.edges.flatMap (·.outs)).Nodup
    · rw [if_pos h, if_pos h]; rfl
    · rw [if_neg h, if_neg h]; rfl
end
end Go.Lift
namespace Go.Lift
noncomputable section
open Go Go.RowKit
set_option linter.unusedSimpArgs false
set_option linter.unusedVariables false
set_option linter.unusedSectionVars false
set_option maxRecDepth 20000
theorem idx_val {α : Type} {p : α → Bool} {L : List α → Nat → Lp Int Unit} (h0 : ∀ i, L [] i = Lp.brk ()) (h1 : ∀ x r i, L (x :: r) i = bif p x then Lp.ret ((i : Nat) : Int) else L r (i + 1)) (l : List α) :
    (match L l 0 with | Lp.ret r => r | Lp.brk () => (-1 : Int)) = idxS p l := by
  rw [lp_idx h0 h1 l 0]; unfold idxS
  cases l.findIdx? p with
  | none => rfl
  | some j => simp
theorem idxS_nonneg {α : Type} (p : α → Bool) (l : List α) : decide ((0 : Int) ≤ idxS p l) = l.any p := by
  unfold idxS
  cases h : l.findIdx? p with
  | none =>
    have := List.findIdx?_eq_none_iff.1 h
    rw [show l.any p = false from by simpa using this]; rfl
  | some j =>
    obtain ⟨hj, h2, _⟩ := List.findIdx?_eq_some_iff_getElem.1 h
    rw [List.any_eq_true.2 ⟨l[j], List.getElem_mem hj, h2⟩]
    simp
theorem contains_str (xs : List ByteArray) (v : ByteArray) : m_aa xs v = Lib.containsS xs v := by
  unfold m_aa m_5
  refine (congrArg (fun z => decide ((0 : Int) ≤ z)) (idx_val (p := fun y => decide (v = y)) (fun _ => rfl) (fun _ _ _ => rfl) xs)).trans ?_
  rw [idxS_nonneg]
  cases hc : Lib.containsS xs v
  · rw [List.any_eq_false]
    intro y hy e
    have : v = y := by simpa using e
    subst this
    rw [(Lib.containsS_iff _ _).2 hy] at hc; cases hc
  · exact List.any_eq_true.2 ⟨v, (Lib.containsS_iff _ _).1 hc, by simp⟩
theorem contains_int (xs : List Int) (v : Int) : m_0 xs v = xs.contains v := by
  unfold m_0 m_am
  refine (congrArg (fun z => decide ((0 : Int) ≤ z)) (idx_val (p := fun y => decide (v = y)) (fun _ => rfl) (fun _ _ _ => rfl) xs)).trans ?_
  rw [idxS_nonneg]
  rw [Bool.eq_iff_iff]; simp
theorem containsFunc_int (xs : List Int) (f : Int → Bool) : m_k xs f = xs.any f := by
  unfold m_k m_ac
  exact (congrArg (fun z => decide ((0 : Int) ≤ z)) (idx_val (p := f) (fun _ => rfl) (fun _ _ _ => rfl) xs)).trans (idxS_nonneg _ _)
theorem makes_mkD (g : DGraph) (x : ByteArray) : m_3 g x = mkD g x := by
  unfold m_3 m_t mkD
  refine (idx_val (p := fun e => m_b3 e x) (fun _ => rfl) (fun _ _ _ => rfl) g.edges).trans ?_
  congr 1; funext e; exact contains_str e.outs x
theorem has_str (xs : List ByteArray) (x : ByteArray) : m_b9 xs x = Lib.containsS xs x := by
  cases hc : Lib.containsS xs x
  · exact (ref1_has_eq xs x).2 fun h => by rw [(Lib.containsS_iff _ _).2 h] at hc; cases hc
  · exact (ref1_has_eq xs x).1 ((Lib.containsS_iff _ _).1 hc)
theorem makerOf_mkD (g : DGraph) (x : ByteArray) : m_af g x = mkD g x := by
  unfold m_af mkD
  refine (idx_val (p := fun e => m_b9 e.outs x) (fun _ => rfl) (fun _ _ _ => rfl) g.edges).trans ?_
  congr 1; funext e; exact has_str e.outs x
def inputs (g : DGraph) (e : Int) : List ByteArray := (g.edges.getD e.toNat default).ins ++ ((g.edges.getD e.toNat default).implicit ++ (g.edges.getD e.toNat default).order)
theorem needs_L1_iff (g : DGraph) : ∀ (xs : List ByteArray) (i : Nat) (out : List Int), ∃ out', m_br g xs i out = Lp.brk out' ∧ ∀ k, k ∈ out' ↔ k ∈ out ∨ (0 ≤ k ∧ ∃ x ∈ xs, mkD g x = k)
  | [], i, out => ⟨out, rfl, fun k => by simp⟩
  | x :: xs, i, out => by
    rw [m_br, makes_mkD, contains_int]
    by_cases h1 : 0 ≤ mkD g x
    · by_cases h2 : mkD g x ∈ out
      · obtain ⟨o, e1, e2⟩ := needs_L1_iff g xs (i + 1) out
        refine ⟨o, by simp [h1, h2, e1], fun k => ?_⟩
        rw [e2]
        constructor
        · rintro (h | ⟨h, y, hy, e⟩)
          · exact Or.inl h
          · exact Or.inr ⟨h, y, by simp [hy], e⟩
        · rintro (h | ⟨h, y, hy, e⟩)
          · exact Or.inl h
          · rcases List.mem_cons.1 hy with rfl | hy
            · subst e; exact Or.inl h2
            · exact Or.inr ⟨h, y, hy, e⟩
      · obtain ⟨o, e1, e2⟩ := needs_L1_iff g xs (i + 1) (out ++ [mkD g x])
        refine ⟨o, by simp [h1, h2, e1], fun k => ?_⟩
        rw [e2, List.mem_append, List.mem_singleton]
        constructor
        · rintro ((h | h) | ⟨h, y, hy, e⟩)
          · exact Or.inl h
          · subst h; exact Or.inr ⟨h1, x, by simp, rfl⟩
          · exact Or.inr ⟨h, y, by simp [hy], e⟩
        · rintro (h | ⟨h, y, hy, e⟩)
          · exact Or.inl (Or.inl h)
          · rcases List.mem_cons.1 hy with rfl | hy
            · exact Or.inl (Or.inr e.symm)
            · exact Or.inr ⟨h, y, hy, e⟩
    · obtain ⟨o, e1, e2⟩ := needs_L1_iff g xs (i + 1) out
      refine ⟨o, by simp [h1, e1], fun k => ?_⟩
      rw [e2]
      constructor
      · rintro (h | ⟨h, y, hy, e⟩)
        · exact Or.inl h
        · exact Or.inr ⟨h, y, by simp [hy], e⟩
      · rintro (h | ⟨h, y, hy, e⟩)
        · exact Or.inl h
        · rcases List.mem_cons.1 hy with rfl | hy
          · omega
          · exact Or.inr ⟨h, y, hy, e⟩
theorem needs_iff (g : DGraph) (e k : Int) : k ∈ m_ap g e ↔ 0 ≤ k ∧ ∃ x ∈ inputs g e, mkD g x = k := by
  unfold m_ap
  rw [concat_eq]
  obtain ⟨o, e1, e2⟩ := needs_L1_iff g ([(g.edges.getD e.toNat default).ins, (g.edges.getD e.toNat default).implicit, (g.edges.getD e.toNat default).order].flatten) 0 []
  rw [e1]
  show k ∈ o ↔ _
  rw [e2]
  simp [inputs]
theorem rneeds_L1_iff (g : DGraph) : ∀ (xs : List ByteArray) (i : Nat) (out : List Int), ∃ out', m_b4 g xs i out = Lp.brk out' ∧ ∀ k, k ∈ out' ↔ k ∈ out ∨ (0 ≤ k ∧ ∃ x ∈ xs, mkD g x = k)
  | [], i, out => ⟨out, rfl, fun k => by simp⟩
  | x :: xs, i, out => by
    rw [m_b4, makerOf_mkD]
    by_cases h1 : 0 ≤ mkD g x
    · obtain ⟨o, e1, e2⟩ := rneeds_L1_iff g xs (i + 1) (out ++ [mkD g x])
      refine ⟨o, by simp [h1, e1], fun k => ?_⟩
      rw [e2, List.mem_append, List.mem_singleton]
      constructor
      · rintro ((h | h) | ⟨h, y, hy, e⟩)
        · exact Or.inl h
        · subst h; exact Or.inr ⟨h1, x, by simp, rfl⟩
        · exact Or.inr ⟨h, y, by simp [hy], e⟩
      · rintro (h | ⟨h, y, hy, e⟩)
        · exact Or.inl (Or.inl h)
        · rcases List.mem_cons.1 hy with rfl | hy
          · exact Or.inl (Or.inr e.symm)
          · exact Or.inr ⟨h, y, hy, e⟩
    · obtain ⟨o, e1, e2⟩ := rneeds_L1_iff g xs (i + 1) out
      refine ⟨o, by simp [h1, e1], fun k => ?_⟩
      rw [e2]
      constructor
      · rintro (h | ⟨h, y, hy, e⟩)
        · exact Or.inl h
        · exact Or.inr ⟨h, y, by simp [hy], e⟩
      · rintro (h | ⟨h, y, hy, e⟩)
        · exact Or.inl h
        · rcases List.mem_cons.1 hy with rfl | hy
          · omega
          · exact Or.inr ⟨h, y, hy, e⟩
theorem rneeds_iff (g : DGraph) (e k : Int) : k ∈ m_ag g e ↔ 0 ≤ k ∧ ∃ x ∈ inputs g e, mkD g x = k := by
  unfold m_ag
  obtain ⟨o, e1, e2⟩ := rneeds_L1_iff g (((g.edges.getD e.toNat default).ins ++ (g.edges.getD e.toNat default).implicit) ++ (g.edges.getD e.toNat default).order) 0 []
  rw [e1]
  show k ∈ o ↔ _
  rw [e2]
  simp [inputs]
theorem needs_same (g : DGraph) (e k : Int) : k ∈ m_ap g e ↔ k ∈ m_ag g e := by rw [needs_iff, rneeds_iff]
theorem mkD_lt (g : DGraph) (x : ByteArray) : mkD g x < (g.edges.length : Int) := by
  rcases mkD_in g x with h | ⟨i, e, h, he, _⟩
  · rw [h]; omega
  · rw [h]; have := (List.getElem?_eq_some_iff.1 he).1; omega
theorem rneeds_mem {g : DGraph} {e k : Int} (h : k ∈ m_ag g e) : 0 ≤ k ∧ k.toNat < g.edges.length := by
  obtain ⟨h0, x, _, e1⟩ := (rneeds_iff g e k).1 h
  have := mkD_lt g x
  omega
def freeP (g : DGraph) (out : List Int) (i : Nat) : Bool := !(out.contains ((i : Nat) : Int)) && (m_ap g ((i : Nat) : Int)).all fun k => out.contains k
def nextP (g : DGraph) (out : List Int) : Option Nat := (List.range g.edges.length).find? (freeP g out)
def ordF (g : DGraph) : Nat → List Int → Option (List Int)
  | 0, out => some out
  | f + 1, out => match nextP g out with
    | some i => ordF g f (out ++ [((i : Nat) : Int)])
    | none => none
theorem of_L3_eq (g : DGraph) (c : List Int) : ∀ (l i : Nat), m_ch ((List.range' i l).map fun i => m_ap g ((i : Nat) : Int)) i c = match (List.range' i l).find? (freeP g c) with
    | some j => Lp.brk (true, c ++ [((j : Nat) : Int)])
    | none => Lp.brk (false, c)
  | 0, i => rfl
  | l + 1, i => by
    rw [List.range'_succ, List.map_cons, m_ch, of_L3_eq g c l (i + 1), List.find?_cons]
    have e : (!(m_a5 ((i : Nat) : Int) c) && !(m_k (m_ap g ((i : Nat) : Int)) (fun z0 => m_b8 z0 (fun z0 => m_a5 z0 c)))) = freeP g c i := by
      unfold freeP m_a5 m_b8
      rw [containsFunc_int]
      simp only [contains_int]
      congr 1
      rw [Bool.eq_iff_iff]; simp
    rw [← e]
    cases (!(m_a5 ((i : Nat) : Int) c)) <;> cases (!(m_k (m_ap g ((i : Nat) : Int)) (fun z0 => m_b8 z0 (fun z0 => m_a5 z0 c)))) <;> rfl
theorem of_L1_eq (g : DGraph) : ∀ (xs : List (List Int)) (i : Nat) (row : List (List Int)), i + xs.length ≤ row.length → ∃ row', m_cg g xs i row = Lp.brk row' ∧ row'.length = row.length ∧ ∀ j, row'[j]? = if i ≤ j ∧ j < i + xs.length then some (m_ap g ((j : Nat) : Int)) else row[j]?
  | [], i, row, h => ⟨row, rfl, rfl, fun j => by rw [if_neg (by simp)]⟩
  | x :: xs, i, row, h => by
    simp only [List.length_cons] at h
    obtain ⟨r, e1, e2, e3⟩ := of_L1_eq g xs (i + 1) (row.set i (m_ap g ((i : Nat) : Int))) (by simp; omega)
    refine ⟨r, by rw [m_cg]; exact e1, by simpa using e2, fun j => ?_⟩
    rw [e3, List.getElem?_set, List.length_cons]
    by_cases h1 : i = j
    · subst h1; rw [if_neg (by omega), if_pos rfl]
      have : i < row.length := by omega
      simp [this]
    · rw [if_neg h1]
      by_cases h2 : i + 1 ≤ j ∧ j < i + 1 + xs.length
      · rw [if_pos h2, if_pos (by omega)]
      · rw [if_neg h2, if_neg (by omega)]
theorem of_rows (g : DGraph) : m_cg g (List.replicate g.edges.length ([] : List Int)) 0 (List.replicate g.edges.length ([] : List Int)) = Lp.brk ((List.range' 0 g.edges.length).map fun i => m_ap g ((i : Nat) : Int)) := by
  obtain ⟨r, e1, e2, e3⟩ := of_L1_eq g (List.replicate g.edges.length ([] : List Int)) 0 (List.replicate g.edges.length ([] : List Int)) (by simp)
  rw [e1]; congr 1
  apply List.ext_getElem?
  intro j
  rw [e3, List.getElem?_map]
  simp only [List.length_replicate] at e2 ⊢
  by_cases h : j < g.edges.length
  · rw [if_pos ⟨Nat.zero_le _, by omega⟩, List.getElem?_range' h]; simp
  · rw [if_neg (by omega), List.getElem?_eq_none (by simp; omega), List.getElem?_eq_none (by simp; omega)]; rfl
theorem of_L2_eq (g : DGraph) : ∀ (f : Nat) (c : List Int), c.length ≤ g.edges.length → g.edges.length - c.length < f → m_cl g ((List.range' 0 g.edges.length).map fun i => m_ap g ((i : Nat) : Int)) f c = match ordF g (g.edges.length - c.length) c with
    | some o => Lp.brk o
    | none => Lp.ret (([] : List Int), (1001 : Int))
  | 0, c, h1, h2 => by omega
  | f + 1, c, h1, h2 => by
    rw [m_cl]
    by_cases h : c.length < g.edges.length
    · rw [decide_eq_true (by omega), cond_true, of_L3_eq, ← List.range_eq_range']
      rw [show g.edges.length - c.length = (g.edges.length - (c.length + 1)) + 1 by omega, ordF]
      show (match (match nextP g c with | some j => Lp.brk (true, c ++ [((j : Nat) : Int)]) | none => Lp.brk (false, c) : Lp (List Int × Int) (Bool × List Int)) with | Lp.ret r => Lp.ret r | Lp.brk (t', c') => _) = _
      cases hn : nextP g c with
      | none => rfl
      | some j =>
        simp only [cond_true]
        have := of_L2_eq g f (c ++ [((j : Nat) : Int)]) (by simp; omega) (by simp; omega)
        rw [List.length_append, List.length_singleton, ← List.range_eq_range'] at this
        exact this
    · rw [decide_eq_false (by omega), cond_false, show g.edges.length - c.length = 0 by omega]; rfl
theorem of_eq (g : DGraph) : m_a0 g = if m_a7 g = 0 then (match ordF g g.edges.length [] with | some o => (o, (0 : Int)) | none => (([] : List Int), (1001 : Int))) else (([] : List Int), (1000 : Int)) := by
  unfold m_a0
  by_cases h : m_a7 g = 0
  · rw [if_pos h, decide_eq_true h]
    simp only [Bool.not_true, cond_false]
    rw [of_rows]
    simp only []
    rw [of_L2_eq g _ [] (Nat.zero_le _) (by simp)]
    simp only [List.length_nil, Nat.sub_zero]
    cases ordF g g.edges.length [] <;> rfl
  · rw [if_neg h, decide_eq_false h]; rfl
inductive Steps (g : DGraph) : List Int → Prop
  | nil : Steps g []
  | snoc {out : List Int} {i : Nat} (h : Steps g out) (hn : nextP g out = some i) : Steps g (out ++ [((i : Nat) : Int)])
theorem ordF_steps (g : DGraph) : ∀ (f : Nat) (out o : List Int), Steps g out → ordF g f out = some o → Steps g o ∧ o.length = out.length + f ∧ ∃ r, o = out ++ r
  | 0, out, o, h, e => by simp only [ordF, Option.some.injEq] at e; subst e; exact ⟨h, rfl, [], by simp⟩
  | f + 1, out, o, h, e => by
    simp only [ordF] at e
    split at e
    · rename_i i hi
      obtain ⟨h1, h2, r, h3⟩ := ordF_steps g f _ o (h.snoc hi) e
      exact ⟨h1, by rw [h2]; simp; omega, [((i : Nat) : Int)] ++ r, by rw [h3]; simp⟩
    · cases e
theorem of_steps {g : DGraph} (h : (m_a0 g).2 = 0) : Steps g (m_a0 g).1 ∧ (m_a0 g).1.length = g.edges.length ∧ m_a7 g = 0 := by
  rw [of_eq] at h ⊢
  split at h <;> rename_i hc
  · rw [if_pos hc]
    cases ho : ordF g g.edges.length [] with
    | none => rw [ho] at h; simp at h
    | some o =>
      obtain ⟨h1, h2, _⟩ := ordF_steps g _ _ _ .nil ho
      exact ⟨h1, by simpa using h2, hc⟩
  · simp at h
theorem nextP_spec {g : DGraph} {out : List Int} {i : Nat} (h : nextP g out = some i) : i < g.edges.length ∧ freeP g out i = true ∧ ∀ k, k < i → freeP g out k = false := by
  unfold nextP at h
  have h1 := List.mem_of_find?_eq_some h
  refine ⟨by simpa using h1, List.find?_some h, fun k hk => ?_⟩
  have := List.find?_range_eq_some.1 h
  simpa using this.2.2 k hk
end
end Go.Lift
namespace Go.Lift
noncomputable section
open Go Go.RowKit
set_option linter.unusedSimpArgs false
set_option linter.unusedVariables false
set_option linter.unusedSectionVars false
set_option maxRecDepth 20000
theorem copyEdge_eq (a : DEdge) : m_ay a = a := rfl
theorem copyGraph_L1 : ∀ (xs : List DEdge) (i : Nat) (c : List DEdge), m_bh xs i c = Lp.brk (c ++ xs)
  | [], i, c => by simp [m_bh]
  | x :: r, i, c => by rw [m_bh, copyGraph_L1 r (i + 1), copyEdge_eq]; simp
theorem copyGraph_eq (g : DGraph) : m_f g = g := by
  unfold m_f; rw [copyGraph_L1]; rfl
end
end Go.Lift
namespace Go.Lift
noncomputable section
open Go Go.RowKit
set_option linter.unusedSimpArgs false
set_option linter.unusedVariables false
set_option linter.unusedSectionVars false
set_option maxRecDepth 20000
def flR (n : Nat) (out : List Int) : List Bool := (List.range n).map fun k => out.contains ((k : Nat) : Int)
theorem flR_get {n k : Nat} (out : List Int) (h : k < n) : (flR n out).getD k default = out.contains ((k : Nat) : Int) := by
  unfold flR
  rw [List.getD_eq_getElem?_getD, List.getElem?_map, List.getElem?_range h]; rfl
theorem flR_nil (n : Nat) : flR n [] = List.replicate n false := by
  apply List.ext_getElem?
  intro i
  unfold flR
  rw [List.getElem?_map, List.getElem?_replicate]
  by_cases h : i < n
  · rw [List.getElem?_range h, if_pos h]; rfl
  · rw [List.getElem?_eq_none (by simp; omega), if_neg h]; rfl
theorem flR_set {n i : Nat} (out : List Int) (h : i < n) : (flR n out).set i true = flR n (out ++ [((i : Nat) : Int)]) := by
  apply List.ext_getElem?
  intro k
  unfold flR
  rw [List.getElem?_set, List.getElem?_map, List.getElem?_map]
  by_cases hk : k < n
  · rw [List.getElem?_range hk]
    simp only [List.length_map, List.length_range, Option.map_some]
    by_cases e : i = k
    · subst e; rw [if_pos rfl, if_pos h]; simp
    · rw [if_neg e]; congr 1; rw [Bool.eq_iff_iff]; simp; omega
  · rw [List.getElem?_eq_none (by simp; omega)]
    rw [if_neg (by omega)]; rfl
theorem ro_key (g : DGraph) (out : List Int) (e : Int) : (m_ag g e).all (fun k : Int => (flR g.edges.length out).getD k.toNat default) = (m_ap g e).all fun k => out.contains k := by
  rw [Bool.eq_iff_iff, List.all_eq_true, List.all_eq_true]
  constructor
  · intro h k hk
    have hk' := (needs_same g e k).1 hk
    have h1 := h k hk'
    obtain ⟨m1, m2⟩ := rneeds_mem hk'
    rw [flR_get out m2, show ((k.toNat : Nat) : Int) = k by omega] at h1
    exact h1
  · intro h k hk
    have h1 := h k ((needs_same g e k).2 hk)
    obtain ⟨m1, m2⟩ := rneeds_mem hk
    rw [flR_get out m2, show ((k.toNat : Nat) : Int) = k by omega]
    exact h1
theorem ro_L3 (row : List Bool) : ∀ (xs : List Int) (k : Nat) (b : Bool), m_bw row xs k b = Lp.brk (b && xs.all fun k => row.getD k.toNat default)
  | [], k, b => by simp [m_bw]
  | x :: r, k, b => by
    rw [m_bw]
    cases b
    · rw [cond_false, ro_L3 row r]; rfl
    · rw [cond_true, ro_L3 row r, List.all_cons]; rfl
theorem ro_L2 (g : DGraph) (out : List Int) : ∀ (j f : Nat) (next i : Int), i + 1 = ((j : Nat) : Int) → j ≤ g.edges.length → j < f →
    m_b5 (flR g.edges.length out) g f next i = Lp.brk (match (List.range j).find? (freeP g out) with | some k => ((k : Nat) : Int) | none => next)
  | 0, 0, _, _, _, _, hf => by omega
  | 0, f + 1, next, i, hi, hl, hf => by
    rw [m_b5, decide_eq_false (by omega), cond_false]; rfl
  | j + 1, 0, _, _, _, _, hf => by omega
  | j + 1, f + 1, next, i, hi, hl, hf => by
    obtain rfl : i = ((j : Nat) : Int) := by omega
    rw [m_b5, decide_eq_true (by omega), cond_true, ro_L3]
    have hfr : (!(flR g.edges.length out).getD ((j : Nat) : Int).toNat default && (m_ag g ((j : Nat) : Int)).all fun k => (flR g.edges.length out).getD k.toNat default) = freeP g out j := by
      rw [ro_key, Int.toNat_natCast, flR_get out (by omega)]; rfl
    rw [hfr]
    have ih := fun nx => ro_L2 g out j f nx (((j : Nat) : Int) - 1) (by omega) (by omega) (by omega)
    rw [List.range_succ, List.find?_append]
    cases hp : freeP g out j
    · simp only [cond_false]
      rw [ih]
      cases (List.range j).find? (freeP g out) <;> simp [hp]
    · simp only [cond_true]
      rw [ih]
      cases (List.range j).find? (freeP g out) <;> simp [hp]
theorem ro_L1 (g : DGraph) : ∀ (f : Nat) (c : List Int), c.length ≤ g.edges.length → g.edges.length - c.length < f → m_cj g f c (flR g.edges.length c) = match ordF g (g.edges.length - c.length) c with
    | some o => Lp.brk (o, flR g.edges.length o)
    | none => Lp.ret (([] : List Int), (1001 : Int))
  | 0, c, h1, h2 => by omega
  | f + 1, c, h1, h2 => by
    rw [m_cj]
    by_cases h : c.length < g.edges.length
    · rw [decide_eq_true (by omega), cond_true, ro_L2 g c g.edges.length _ _ _ (by omega) (Nat.le_refl _) (by omega)]
      rw [show g.edges.length - c.length = (g.edges.length - (c.length + 1)) + 1 by omega, ordF]
      have hnp : (List.range g.edges.length).find? (freeP g c) = nextP g c := rfl
      simp only [hnp]
      cases hn : nextP g c with
      | none => rfl
      | some j =>
        have hj := (nextP_spec hn).1
        simp only []
        rw [decide_eq_false (by omega), cond_false, Int.toNat_natCast, flR_set c hj]
        have := ro_L1 g f (c ++ [((j : Nat) : Int)]) (by simp; omega) (by simp; omega)
        rw [List.length_append, List.length_singleton] at this
        exact this
    · rw [decide_eq_false (by omega), cond_false, show g.edges.length - c.length = 0 by omega]; rfl
theorem ref1_Order_eq (g : DGraph) : m_aq g = m_a0 g := by
  rw [of_eq]
  unfold m_aq
  rw [ref1_Check_eq]
  by_cases h : m_a7 g = 0
  · rw [if_pos h, decide_eq_true h]
    simp only [Bool.not_true, cond_false]
    rw [← flR_nil, ro_L1 g _ [] (Nat.zero_le _) (by simp)]
    simp only [List.length_nil, Nat.sub_zero]
    cases ordF g g.edges.length [] <;> rfl
  · rw [if_neg h, decide_eq_false h]; rfl
end
end Go.Lift
namespace Go.Lift
noncomputable section
open Go Go.RowKit
set_option linter.unusedSimpArgs false
set_option linter.unusedVariables false
set_option linter.unusedSectionVars false
set_option maxRecDepth 20000
theorem all_path (xs : List ByteArray) : m_bi xs 8 = (xs.all (fun s => m_9 s) && decide (((xs.length : Nat) : Int) ≤ 8)) := by
  unfold m_bi
  rw [lp_all (L := m_cm) (p := fun s => m_9 s) (fun _ => rfl) (fun _ _ _ => rfl)]
  cases xs.all (fun s => m_9 s) <;> rfl
end
end Go.Lift
namespace Go.Lift
noncomputable section
open Go Go.RowKit
set_option linter.unusedSimpArgs false
set_option linter.unusedVariables false
set_option linter.unusedSectionVars false
set_option maxRecDepth 20000
end
end Go.Lift
namespace Go.Lift
noncomputable section
open Go Go.RowKit
set_option linter.unusedSimpArgs false
set_option linter.unusedVariables false
set_option linter.unusedSectionVars false
set_option maxRecDepth 20000
theorem may_of {g : DGraph} (h : m_a7 g = 0) : m_co g = true := by
  rw [check_form] at h
  cases hm : m_co g
  · rw [hm] at h; simp at h
  · rfl
theorem pathIs_eq (s : ByteArray) : m_9 s = isS s := by
  unfold m_9 isS; rfl
theorem paths_eq (xs : List ByteArray) : m_g xs = m_bi xs 8 := by
  rw [ref1_PathsMay_eq, all_path]
  unfold allS
  have : (fun s => m_9 s) = isS := funext pathIs_eq
  rw [this]
end
end Go.Lift
namespace Go.Lift
noncomputable section
open Go Go.RowKit
set_option linter.unusedSimpArgs false
set_option linter.unusedVariables false
set_option linter.unusedSectionVars false
set_option maxRecDepth 20000
end
end Go.Lift
namespace Go.Lift
noncomputable section
open Go Go.RowKit
set_option linter.unusedSimpArgs false
set_option linter.unusedVariables false
set_option linter.unusedSectionVars false
set_option maxRecDepth 20000
theorem graph_pool_eq (g : DGraph) (s : ByteArray) : m_bf g s = idxS (fun p : DPool => decide (p.name = s)) g.pools := by
  unfold m_bf m_u
  exact idx_val (p := fun p : DPool => decide (p.name = s)) (L := m_1 _) (fun _ => rfl) (fun x r i => by rw [m_1]; rfl) g.pools
theorem pool_ok {g : DGraph} {s : ByteArray} (h : ∃ p, g.pools.findIdx? (fun q => decide (q.name = s)) = some p ∧ p < g.pools.length) : 0 ≤ m_bf g s ∧ (m_bf g s).toNat < g.pools.length := by
  obtain ⟨p, h1, h2⟩ := h
  rw [graph_pool_eq]; unfold idxS; rw [h1]
  exact ⟨by simp, by simpa using h2⟩
theorem pool_in {g : DGraph} (h : m_a7 g = 0) {i : Nat} (hi : i < g.edges.length) (hp : (g.edges.getD i default).pool ≠ (⟨#[]⟩ : ByteArray)) :
    ∃ p, g.pools.findIdx? (fun q => decide (q.name = (g.edges.getD i default).pool)) = some p ∧ p < g.pools.length := by
  have h0 : ((g.edges.map eOf).all (edgeIn (gOf g)) && (decide (((g.edges.map eOf).length : Int) ≤ 16) && poolsS (gOf g) && allS (gOf g).defaults)) = true := may_of h
  rw [Bool.and_eq_true, List.all_eq_true] at h0
  have he : g.edges.getD i default = g.edges[i] := by simp [hi]
  have := h0.1 (eOf (g.edges.getD i default)) (List.mem_map_of_mem (by rw [he]; exact List.getElem_mem hi))
  unfold edgeIn at this
  rw [Bool.and_eq_true] at this
  have h2 : (decide ((g.edges.getD i default).pool = (⟨#[]⟩ : ByteArray)) || !decide (poolAt (gOf g) (g.edges.getD i default).pool < 0)) = true := this.2
  rw [decide_eq_false hp, Bool.false_or] at h2
  have h3 : 0 ≤ idxS (fun p : DPool => decide (p.name = (g.edges.getD i default).pool)) g.pools := by
    have h4 : 0 ≤ poolAt (gOf g) (g.edges.getD i default).pool := by simpa using h2
    unfold poolAt at h4
    rw [show (gOf g).pools = g.pools.map pOf from rfl, idxS_map pOf _ (fun p => decide (p.name = (g.edges.getD i default).pool)) (fun x => rfl)] at h4
    exact h4
  unfold idxS at h3
  cases hf : g.pools.findIdx? (fun q => decide (q.name = (g.edges.getD i default).pool)) with
  | none => rw [hf] at h3; exact absurd h3 (by decide)
  | some p => exact ⟨p, rfl, (List.findIdx?_eq_some_iff_findIdx_eq.1 hf).1⟩
theorem there_ok {s : DState} {e : Int} (h : (!(m_a8 s e)) = false) : ThereP s e := by
  have h1 : m_a8 s e = true := by simpa using h
  unfold m_a8 m_aj m_at at h1
  simp only [Bool.and_eq_true, Bool.not_eq_true', Bool.not_not, decide_eq_true_eq, decide_eq_false_iff_not, Bool.or_eq_true] at h1
  obtain ⟨⟨⟨ho, _⟩, _, _, _, hst⟩, he1, he2⟩ := h1
  have hc := (of_steps ho).2.2
  refine ⟨he1, by omega, ?_, ?_, fun hp => pool_in hc (by omega) hp⟩
  · intro hg
    rcases hst with q | ⟨q, _⟩
    · exact_mod_cast q
    · rw [hg] at q; cases q
  · rcases hst with q | ⟨_, q⟩
    · have : s.status.length = s.graph.edges.length := by exact_mod_cast q
      omega
    · have : s.status.length = 0 := by exact_mod_cast q
      omega
theorem DAction.sz_one (e : DAction) : 1 ≤ e.sz := by unfold DAction.sz; omega
theorem DFound.sz_one (e : DFound) : 1 ≤ e.sz := by unfold DFound.sz; omega
theorem DFile.sz_one (e : DFile) : 1 ≤ e.sz := by unfold DFile.sz; omega
theorem DRecord.sz_one (e : DRecord) : 1 ≤ e.sz := by unfold DRecord.sz; omega
end
end Go.Lift
namespace Go.Lift
noncomputable section
open Go Go.RowKit
set_option linter.unusedSimpArgs false
set_option linter.unusedVariables false
set_option linter.unusedSectionVars false
set_option maxRecDepth 20000
theorem lp_all_val {α : Type} {p : α → Bool} {L : List α → Nat → Lp Bool Unit} (h0 : ∀ i, L [] i = Lp.brk ()) (h1 : ∀ x r i, L (x :: r) i = bif !(p x) then Lp.ret false else L r (i + 1)) (l : List α) (c : Bool) :
    (match L l 0 with | Lp.ret r => r | Lp.brk () => c) = (l.all p && c) := by
  rw [lp_all h0 h1 l 0]
  cases l.all p <;> rfl
theorem plain1_eq (s : ByteArray) (most : Int) : m_ai s 1 most = (!decide (s = (⟨#[]⟩ : ByteArray)) && m_a4 s most) := by
  have hL : ∀ (l : List UInt8) (i : Nat), m_ca l i = if l.all plainB then Lp.brk () else Lp.ret false := by
    intro l i
    rw [← ref1_Plain_L1_eq l i]
    induction l generalizing i with
    | nil => rfl
    | cons x r ih => rw [m_ca, m_bx, ih]
  unfold m_ai m_a4
  rw [ref1_Plain_L1_eq, hL]
  have e : decide ((1 : Int) ≤ ((s.size : Nat) : Int)) = !decide (s = (⟨#[]⟩ : ByteArray)) := by
    rw [← decide_not]; congr 1; apply propext
    constructor
    · rintro h rfl; exact absurd h (by decide)
    · intro h
      have : s.size ≠ 0 := fun h0 => h (by
        apply ba_ext
        have := data_len s
        rw [h0] at this
        rw [List.length_eq_zero_iff.1 this])
      omega
  cases s.data.toList.all plainB
  · simp
  · simp only [if_true, e]
theorem any_not {α : Type} (p : α → Bool) (l : List α) : (!l.any fun x => !(p x)) = l.all p := by
  induction l with
  | nil => rfl
  | cons x r ih => rw [List.any_cons, List.all_cons, ← ih]; cases p x <;> rfl
theorem contains_action (xs : List DAction) (f : DAction → Bool) : m_h xs f = xs.any f := by
  unfold m_h
  rw [show m_m xs f = idxS f xs from idx_val (p := f) (L := m_v f) (fun _ => rfl) (fun x r i => by rw [m_v]) xs]
  exact idxS_nonneg f xs
theorem contains_record (xs : List DRecord) (f : DRecord → Bool) : m_i xs f = xs.any f := by
  unfold m_i
  rw [show m_n xs f = idxS f xs from idx_val (p := f) (L := m_w f) (fun _ => rfl) (fun x r i => by rw [m_w]) xs]
  exact idxS_nonneg f xs
theorem contains_found (xs : List DFound) (f : DFound → Bool) : m_l xs f = xs.any f := by
  unfold m_l
  rw [show m_p xs f = idxS f xs from idx_val (p := f) (L := m_y f) (fun _ => rfl) (fun x r i => by rw [m_y]) xs]
  exact idxS_nonneg f xs
theorem pathMay_eq (s : ByteArray) : m_ad s = m_9 s := by rw [ref1_PathMay_eq, pathIs_eq]
theorem actionsMay_eq (xs : List DAction) : m_an xs = m_b1 xs := by
  unfold m_b1
  rw [show m_an xs = (xs.all (fun a : DAction => m_as a.command && m_bi a.reads 8) && decide (((xs.length : Nat) : Int) ≤ (16 : Int))) from lp_all_val (p := fun a : DAction => m_as a.command && m_bi a.reads 8) (L := m_be) (fun _ => rfl) (fun x r i => by
    rw [m_be, plain1_eq, paths_eq, show (!decide (x.command = (⟨#[]⟩ : ByteArray)) && m_a4 x.command 256) = m_as x.command from rfl]
    cases m_as x.command <;> cases m_bi x.reads 8 <;> rfl) xs _, contains_action]
  have : (fun z0 : DAction => m_bo z0) = fun a => !(m_as a.command && m_bi a.reads 8) := by
    funext a; unfold m_bo; cases m_as a.command <;> cases m_bi a.reads 8 <;> rfl
  rw [this, any_not, Bool.and_comm]
theorem recordMay_eq (r : DRecord) : m_av r = m_aw r := by
  unfold m_av m_aw
  rw [pathMay_eq, plain1_eq]; rfl
theorem logMay_eq (xs : List DRecord) : m_bt xs = m_cn xs := by
  unfold m_cn
  rw [show m_bt xs = (xs.all m_aw && decide (((xs.length : Nat) : Int) ≤ (256 : Int))) from lp_all_val (p := m_aw) (L := m_b2) (fun _ => rfl) (fun x r i => by
    rw [m_b2, recordMay_eq]) xs _, contains_record]
  have : (fun z0 : DRecord => m_ck z0) = fun r => !(m_aw r) := rfl
  rw [this, any_not, Bool.and_comm]
theorem foundMay_eq (f : DFound) : m_a6 f = m_bl f := by
  unfold m_a6 m_bl
  rw [pathMay_eq, paths_eq]; rfl
theorem depsMay_eq (xs : List DFound) : m_bm xs = m_b7 xs := by
  unfold m_b7
  rw [show m_bm xs = (xs.all m_bl && decide (((xs.length : Nat) : Int) ≤ (256 : Int))) from lp_all_val (p := m_bl) (L := m_bu) (fun _ => rfl) (fun x r i => by
    rw [m_bu, foundMay_eq]) xs _, contains_found]
  have : (fun z0 : DFound => m_by z0) = fun r => !(m_bl r) := rfl
  rw [this, any_not, Bool.and_comm]
theorem disk_L2 (d : DDisk) (x : DFile) (i : Nat) : ∀ (j k f : Nat), k + j = i → i ≤ d.files.length → j < f → m_au i d x f k = if ((d.files.take i).drop k).any (fun y => decide (y.time = x.time)) = true then Lp.ret false else Lp.brk ()
  | 0, k, 0, _, _, hf => absurd hf (by omega)
  | 0, k, f + 1, hk, hi, _ => by
    rw [m_au, decide_eq_false (by omega), List.drop_eq_nil_of_le (by simp; omega)]; rfl
  | j + 1, k, 0, _, _, hf => absurd hf (by omega)
  | j + 1, k, f + 1, hk, hi, hf => by
    rw [m_au, decide_eq_true (by omega), cond_true, disk_L2 d x i j (k + 1) f (by omega) hi (by omega)]
    have hk2 : k < (d.files.take i).length := by simp; omega
    rw [List.drop_eq_getElem_cons hk2, List.any_cons]
    have e : d.files.getD k default = (d.files.take i)[k] := by simp [show k < d.files.length by omega]
    rw [e]
    cases decide ((d.files.take i)[k].time = x.time) <;> rfl
theorem disk_L1 (d : DDisk) : ∀ (rest pre : List DFile), d.files = pre ++ rest → m_bb d rest pre.length = if dmayL m_9 d.clock rest (pre.map DFile.time) pre.getLast? = true then Lp.brk () else Lp.ret false
  | [], pre, _ => by rw [m_bb]; rfl
  | x :: rest, pre, h => by
    have hl : pre.length < d.files.length := by rw [h]; simp
    have ht : d.files.take pre.length = pre := by rw [h]; simp
    have h2 := disk_L2 d x pre.length pre.length 0 (pre.length - 0 + 1) (by omega) (by omega) (by omega)
    rw [ht, List.drop_zero] at h2
    have ih := disk_L1 d rest (pre ++ [x]) (by rw [h]; simp)
    rw [List.length_append, List.length_singleton, List.map_append, List.map_singleton, List.getLast?_concat] at ih
    have ha : (pre.map DFile.time).any (fun t => decide (t = x.time)) = pre.any (fun y => decide (y.time = x.time)) := by rw [List.any_map]; rfl
    rw [m_bb, h2, ih, pathMay_eq]
    unfold m_r
    have hp0 : pre = [] ∨ ∃ p y, pre = p ++ [y] := by
      rcases List.eq_nil_or_concat pre with q | ⟨p, y, q⟩
      · exact Or.inl q
      · exact Or.inr ⟨p, y, by simpa using q⟩
    rcases hp0 with rfl | ⟨p, y, rfl⟩
    · rw [decide_eq_false (show ¬ ((0 : Int) < ((([] : List DFile).length : Nat) : Int)) by simp), cond_false]
      rw [List.getLast?_nil, dmayL.eq_2, ha]
      generalize dmayL m_9 d.clock rest (([] : List DFile).map DFile.time ++ [x.time]) (some x) = D
      simp only [List.any_nil]
      cases m_9 x.name <;> cases decide ((0 : Int) ≤ x.content) <;> cases decide (x.content ≤ 2147483647) <;> cases decide ((1 : Int) ≤ x.time) <;> cases decide (x.time ≤ d.clock) <;> cases D <;> rfl
    · have hg : d.files.getD ((p ++ [y]).length - 1) default = y := by rw [h]; simp
      rw [hg, decide_eq_true (show (0 : Int) < (((p ++ [y]).length : Nat) : Int) by simp), cond_true, List.getLast?_concat, dmayL.eq_3, ha]
      generalize dmayL m_9 d.clock rest ((p ++ [y]).map DFile.time ++ [x.time]) (some x) = D
      cases m_9 x.name <;> cases decide ((0 : Int) ≤ x.content) <;> cases decide (x.content ≤ 2147483647) <;> cases decide ((1 : Int) ≤ x.time) <;> cases decide (x.time ≤ d.clock) <;> cases Op.bytesLess y.name.toList x.name.toList <;> cases (p ++ [y]).any (fun y => decide (y.time = x.time)) <;> cases D <;> rfl
theorem diskMay_eq (d : DDisk) : m_6 d = dmayS m_9 d := by
  unfold m_6 dmayS
  have := disk_L1 d d.files [] rfl
  rw [List.length_nil] at this
  rw [this]
  unfold m_r
  simp only [List.map_nil, List.getLast?_nil]
  have e : decide (((d.files.length : Nat) : Int) ≤ (64 : Int)) = decide (d.files.length ≤ 64) := by simp; omega
  rw [e]
  cases dmayL m_9 d.clock d.files [] none <;> simp [Bool.and_assoc]
theorem partsMay_eq (s : DState) : m_al s = m_at s := by
  unfold m_al m_at
  rw [actionsMay_eq, logMay_eq, depsMay_eq, show m_6 (⟨s.disk.clock, s.disk.files⟩ : DDisk) = dmayS m_9 s.disk from diskMay_eq s.disk, show m_aq (⟨s.graph.edges, s.graph.pools, s.graph.defaults⟩ : DGraph) = m_a0 s.graph from ref1_Order_eq s.graph]
theorem stateMay_eq (s : DState) : m_ab s = m_aj s := by
  unfold m_aj
  refine (lp_all_val (p := fun x : Int => m_r x 0 4) (L := m_bp) (fun _ => rfl) (fun x r i => by rw [m_bp]) s.status _).trans ?_
  rw [containsFunc_int, partsMay_eq]
  have : (fun z0 : Int => m_ax z0) = fun x => !(m_r x 0 4) := by
    funext x; unfold m_ax m_r
    by_cases h1 : x < 0
    · rw [decide_eq_true h1, decide_eq_false (show ¬ (0 : Int) ≤ x by omega)]; rfl
    · rw [decide_eq_false h1, decide_eq_true (by omega : (0 : Int) ≤ x)]
      by_cases h2 : 4 < x
      · rw [decide_eq_true h2, decide_eq_false (show ¬ x ≤ 4 by omega)]; rfl
      · rw [decide_eq_false h2, decide_eq_true (show x ≤ 4 by omega)]; rfl
  rw [this, any_not]
  unfold m_r
  have hj : (!(decide (s.jobs < 1)) && !(decide (8 < s.jobs))) = (decide (1 ≤ s.jobs) && decide (s.jobs ≤ 8)) := by
    rw [show (!(decide (s.jobs < 1))) = decide (1 ≤ s.jobs) by rw [← decide_not]; exact decide_eq_decide.2 (by omega), show (!(decide (8 < s.jobs))) = decide (s.jobs ≤ 8) by rw [← decide_not]; exact decide_eq_decide.2 (by omega)]
  rw [← hj]
  cases s.status.all _ <;> cases m_at s <;> cases decide (s.jobs < 1) <;> cases decide (8 < s.jobs) <;> simp
end
end Go.Lift
namespace Go.Lift
noncomputable section
open Go Go.RowKit
set_option linter.unusedSimpArgs false
set_option linter.unusedVariables false
set_option linter.unusedSectionVars false
set_option maxRecDepth 20000
def diskF (d : DDisk) : Bool :=
  (decide ((0 : Int) ≤ d.clock) && (decide (d.clock ≤ (1048576 : Int)) && decide (((d.files.length : Nat) : Int) ≤ (64 : Int))))
def diskC (d : DDisk) (ts : List Int) (x : DFile) (i : Nat) : Bool :=
  (!(!(m_9 x.name)) && (!(!(m_bs x.content)) && (!(decide (x.time < (1 : Int))) && (!(decide (d.clock < x.time)) && (!(ts.any (fun t => decide (t = x.time))) && (!(decide ((0 : Int) < ((i : Nat) : Int))) || (!(!Op.bytesLess ((d.files.getD (i - 1) default).name).toList x.name.toList))))))))
theorem take_snoc {α : Type} {l : List α} {i : Nat} {x : α} (h : l[i]? = some x) : l.take (i + 1) = l.take i ++ [x] := by
  rw [List.take_add_one, h]; rfl
theorem diskC_any {d : DDisk} {ts : List Int} {x : DFile} {i : Nat} (h : diskC d ts x i = true) : ts.any (fun t => decide (t = x.time)) = false := by
  unfold diskC at h
  simp only [Bool.and_eq_true, Bool.not_eq_true', Bool.not_not] at h
  exact h.2.2.2.2.1
theorem diskF_eq (d : DDisk) : (true && decide (0 ≤ d.clock) && decide (d.clock ≤ 1048576) && decide (d.files.length ≤ 64)) = diskF d := by
  unfold diskF
  have e : decide (((d.files.length : Nat) : Int) ≤ (64 : Int)) = decide (d.files.length ≤ 64) := decide_eq_decide.2 (by omega)
  rw [e]
  cases decide ((0 : Int) ≤ d.clock) <;> cases decide (d.clock ≤ (1048576 : Int)) <;> simp
theorem dmay_step {d : DDisk} {i : Nat} {x : DFile} (hx : d.files[i]? = some x) :
    dmayL m_9 d.clock (d.files.drop i) ((d.files.take i).map DFile.time) (d.files.take i).getLast? =
      (diskC d ((d.files.take i).map DFile.time) x i && dmayL m_9 d.clock (d.files.drop (i + 1)) ((d.files.take (i + 1)).map DFile.time) (d.files.take (i + 1)).getLast?) := by
  have hl : i < d.files.length := (List.getElem?_eq_some_iff.1 hx).1
  have h1 : d.files.drop i = x :: d.files.drop (i + 1) := drop_at hx
  rw [h1, take_snoc hx, List.map_append, List.map_singleton, List.getLast?_concat]
  have a1 : decide ((1 : Int) ≤ x.time) = !(decide (x.time < (1 : Int))) := by rw [← decide_not]; exact decide_eq_decide.2 (by omega)
  have a2 : decide (x.time ≤ d.clock) = !(decide (d.clock < x.time)) := by rw [← decide_not]; exact decide_eq_decide.2 (by omega)
  have hd : m_bs x.content = (decide ((0 : Int) ≤ x.content) && decide (x.content ≤ (2147483647 : Int))) := rfl
  cases i with
  | zero =>
    simp only [List.take_zero, List.map_nil, List.getLast?_nil, List.nil_append]
    rw [dmayL.eq_2]
    simp only [List.nil_append]
    generalize dmayL m_9 d.clock (d.files.drop (0 + 1)) [x.time] (some x) = D
    unfold diskC
    rw [hd, a1, a2, show decide ((0 : Int) < ((0 : Nat) : Int)) = false from rfl]
    simp only [List.any_nil, List.nil_append]
    cases m_9 x.name <;> cases decide ((0 : Int) ≤ x.content) <;> cases decide (x.content ≤ (2147483647 : Int)) <;> cases decide (x.time < (1 : Int)) <;> cases decide (d.clock < x.time) <;> cases D <;> rfl
  | succ j =>
    have hj : d.files[j]? = some d.files[j] := List.getElem?_eq_getElem (by omega)
    have hg : d.files.getD (j + 1 - 1) default = d.files[j] := by simp [show j < d.files.length by omega]
    have hla : (d.files.take (j + 1)).getLast? = some d.files[j] := by rw [take_snoc hj, List.getLast?_concat]
    rw [hla, dmayL.eq_3]
    generalize dmayL m_9 d.clock (d.files.drop (j + 1 + 1)) ((d.files.take (j + 1)).map DFile.time ++ [x.time]) (some x) = D
    unfold diskC
    rw [hd, a1, a2, hg, show decide ((0 : Int) < ((j + 1 : Nat) : Int)) = true from decide_eq_true (by omega)]
    cases m_9 x.name <;> cases decide ((0 : Int) ≤ x.content) <;> cases decide (x.content ≤ (2147483647 : Int)) <;> cases decide (x.time < (1 : Int)) <;> cases decide (d.clock < x.time) <;> cases ((d.files.take (j + 1)).map DFile.time).any (fun t => decide (t = x.time)) <;> cases Op.bytesLess d.files[j].name.toList x.name.toList <;> cases D <;> rfl
end
end Go.Lift
namespace Go.Lift
noncomputable section
open Go Go.RowKit
set_option linter.unusedSimpArgs false
set_option linter.unusedVariables false
set_option linter.unusedSectionVars false
set_option maxRecDepth 20000
theorem copyActions_L1 : ∀ (xs : List DAction) (i : Nat) (c : List DAction), m_a2 xs i c = Lp.brk (c ++ xs)
  | [], i, c => by rw [m_a2]; simp
  | x :: r, i, c => by rw [m_a2, copyActions_L1 r]; simp
theorem copyFounds_L1 : ∀ (xs : List DFound) (i : Nat) (c : List DFound), m_a9 xs i c = Lp.brk (c ++ xs)
  | [], i, c => by rw [m_a9]; simp
  | x :: r, i, c => by rw [m_a9, copyFounds_L1 r]; simp
theorem copyState_eq (s : DState) : m_a s = s := by
  have h1 : m_x s.actions = s.actions := by unfold m_x; rw [copyActions_L1]; rfl
  have h2 : m_2 s.deps = s.deps := by unfold m_2; rw [copyFounds_L1]; rfl
  have h3 : m_f (⟨s.graph.edges, s.graph.pools, s.graph.defaults⟩ : DGraph) = s.graph := copyGraph_eq s.graph
  unfold m_a
  rw [h1, h2, h3]; rfl
theorem law22_awake_true : m_ak = true := by
  simp only [m_ak, m_z]
  kernel_rfl
end
end Go.Lift
namespace Go.Lift
noncomputable section
open Go Go.RowKit
set_option linter.unusedSimpArgs false
set_option linter.unusedVariables false
set_option linter.unusedSectionVars false
set_option maxRecDepth 20000
theorem may_edge {s : DState} {e : Int} (h : m_aj s = true) (h0 : 0 ≤ e) (h1 : e < (s.graph.edges.length : Int)) : m_ready_Is s e = (m_ready_Ready s e, 0) ∧ m_c s e = (m_bq s e, 0) := by
  have : m_a8 s e = true := by
    unfold m_a8
    rw [h, decide_eq_true h0, decide_eq_true h1]; rfl
  unfold m_ready_Is m_c
  rw [this]; exact ⟨rfl, rfl⟩
end
end Go.Lift
namespace Go.Lift
noncomputable section
open Go Go.RowKit
set_option linter.unusedSimpArgs false
set_option linter.unusedVariables false
set_option linter.unusedSectionVars false
set_option maxRecDepth 20000
theorem set_ne {α : Type} {l : List α} (h : l ≠ []) (i : Nat) (x : α) : l.set i x ≠ [] := by simp [h]
theorem bif_ne {α : Type} {c : Bool} {a b : List α} (ha : a ≠ []) (hb : b ≠ []) : (bif c then a else b) ≠ [] := by cases c <;> assumption
theorem bif_set_len {α : Type} {c : Bool} {l : List α} {i : Nat} {x : α} : (bif c then l.set i x else l).length = l.length := by cases c <;> simp
theorem rl_facts {s : DState} (edge other : Int) (hz : s.sz ≤ 1048576) (h2 : (!(m_ab s)) = false) (h3 : decide (((s.status.length : Nat) : Int) = (0 : Int)) = false) :
    0 < s.graph.edges.length ∧ s.graph.edges.length ≤ 1048576 ∧ uMod edge s.graph.edges.length < s.graph.edges.length ∧ uMod other s.graph.edges.length < s.graph.edges.length ∧ (m_a s).status.length = s.graph.edges.length ∧ (m_a s).status ≠ [] := by
  have h1 : m_aj s = true := by rw [← stateMay_eq]; simpa using h2
  unfold m_aj m_at at h1
  simp only [Bool.and_eq_true, Bool.not_eq_true', Bool.not_not, decide_eq_true_eq, decide_eq_false_iff_not, Bool.or_eq_true] at h1
  have h3' := of_decide_eq_false h3
  have hl : s.status.length = s.graph.edges.length := by omega
  have hgl := Nat.le_trans s.graph.sz_len (Nat.le_trans s.sz_graph hz)
  have h0 : 0 < s.graph.edges.length := by omega
  rw [copyState_eq]
  refine ⟨h0, by omega, uMod_lt (by omega), uMod_lt (by omega), hl, ?_⟩
  intro q; rw [q] at hl; simp at hl; omega
theorem szI_len (l : List Int) : szL (fun _ : Int => 1) l = szL (fun _ : Int => 1) [] + l.length := by
  induction l with
  | nil => simp
  | cons x r ih => simp only [szL, List.map_cons, List.sum_cons, List.length_cons] at *; omega
theorem rl_sz {s : DState} {st : List Int} {j : Int} (hz : s.sz ≤ 1048576) (hl : st.length = (m_a s).status.length) :
    ({ m_a s with status := st, jobs := j } : DState).sz ≤ 1048576 := by
  rw [copyState_eq] at hl ⊢
  unfold DState.sz at hz ⊢
  have := szI_len s.status
  have := szI_len st
  simp only at *
  omega
def le2 : List Int → List Int → Prop
  | [], [] => True
  | x :: l, y :: m => (y = 2 → x = 2) ∧ le2 l m
  | _, _ => False
theorem le2_refl : ∀ l : List Int, le2 l l
  | [] => trivial
  | x :: l => ⟨id, le2_refl l⟩
theorem le2_set : ∀ (l : List Int) (i : Nat), le2 l (l.set i 3)
  | [], _ => trivial
  | x :: l, 0 => ⟨fun h => absurd h (by decide), le2_refl l⟩
  | x :: l, i + 1 => ⟨id, le2_set l i⟩
theorem room_mono {s t : DState} (hg : t.graph = s.graph) (e : Int) : ∀ (l m : List Int) (v a o a1 o1 : Nat), le2 l m → a1 ≤ a → o1 ≤ o →
    ∃ p q p1 q1, m_bj s e l v a o = Lp.brk (p, q) ∧ m_bj t e m v a1 o1 = Lp.brk (p1, q1) ∧ p1 ≤ p ∧ q1 ≤ q
  | [], [], v, a, o, a1, o1, _, ha, ho => ⟨a, o, a1, o1, by rw [m_bj], by rw [m_bj], ha, ho⟩
  | [], _ :: _, _, _, _, _, _, h, _, _ => h.elim
  | _ :: _, [], _, _, _, _, _, h, _, _ => h.elim
  | x :: l, y :: m, v, a, o, a1, o1, h, ha, ho => by
    rw [m_bj, m_bj, hg]
    obtain ⟨h1, h2⟩ := h
    cases decide ((s.graph.edges.getD v default).pool = (s.graph.edges.getD e.toNat default).pool)
    · by_cases hx : x = 2
      · rw [decide_eq_true hx]
        by_cases hy : y = 2
        · rw [decide_eq_true hy]; exact room_mono hg e l m (v + 1) _ _ _ _ h2 (by omega) (by omega)
        · rw [decide_eq_false hy]; exact room_mono hg e l m (v + 1) _ _ _ _ h2 (by omega) (by omega)
      · have hy : ¬ y = 2 := fun q => hx (h1 q)
        rw [decide_eq_false hx, decide_eq_false hy]; exact room_mono hg e l m (v + 1) _ _ _ _ h2 (by omega) (by omega)
    · by_cases hx : x = 2
      · rw [decide_eq_true hx]
        by_cases hy : y = 2
        · rw [decide_eq_true hy]; exact room_mono hg e l m (v + 1) _ _ _ _ h2 (by omega) (by omega)
        · rw [decide_eq_false hy]; exact room_mono hg e l m (v + 1) _ _ _ _ h2 (by omega) (by omega)
      · have hy : ¬ y = 2 := fun q => hx (h1 q)
        rw [decide_eq_false hx, decide_eq_false hy]; exact room_mono hg e l m (v + 1) _ _ _ _ h2 (by omega) (by omega)
theorem room_less {s t : DState} {e : Int} (hg : t.graph = s.graph) (hs : le2 s.status t.status) (hj : s.jobs ≤ t.jobs) (h : m_bq s e = true) : m_bq t e = true := by
  obtain ⟨p, q, p1, q1, e1, e2, hp, hq⟩ := room_mono hg e s.status t.status 0 0 0 0 0 hs (Nat.le_refl _) (Nat.le_refl _)
  unfold m_bq at h ⊢
  rw [e1] at h; rw [e2, hg]
  simp only [Bool.and_eq_true, Bool.or_eq_true, decide_eq_true_eq] at h ⊢
  refine ⟨by omega, ?_⟩
  rcases h.2 with h | h
  · exact Or.inl h
  · exact Or.inr (by omega)
theorem may_less {s t : DState} (hm : m_aj s = true) (hg : t.graph = s.graph) (h1 : t.actions = s.actions) (h2 : t.disk = s.disk) (h3 : t.log = s.log) (h4 : t.deps = s.deps) (hgo : t.going = s.going) (hl : t.status.length = s.status.length)
    (hst : (s.status.any fun z => m_ax z) = false → (t.status.any fun z => m_ax z) = false) (hj : 1 ≤ t.jobs ∧ t.jobs ≤ 8) : m_aj t = true := by
  unfold m_aj at hm ⊢
  have hd : m_at t = m_at s := by unfold m_at; rw [hg, h1, h2, h3, h4]
  rw [containsFunc_int] at hm ⊢
  rw [hd, hg, hgo, hl, decide_eq_false (show ¬ t.jobs < 1 by omega), decide_eq_false (show ¬ 8 < t.jobs by omega)]
  cases hA : s.status.any fun z => m_ax z
  · rw [hst hA]
    rw [hA] at hm
    simp only [Bool.and_eq_true, Bool.not_eq_true', Bool.not_not, decide_eq_true_eq, decide_eq_false_iff_not, Bool.or_eq_true, Bool.not_false, Bool.true_and, and_true, true_and] at hm ⊢
    exact ⟨hm.1, hm.2.2.2⟩
  · rw [hA] at hm; simp at hm
theorem any_set (l : List Int) (i : Nat) (h : (l.any fun z => m_ax z) = false) : ((l.set i 3).any fun z => m_ax z) = false := by
  rw [List.any_eq_false] at h ⊢
  intro x hx
  rcases List.mem_or_eq_of_mem_set hx with q | q
  · exact h x q
  · subst q; decide
theorem law22_RoomLess_true (s : DState) (edge other : Int) (hz : s.sz ≤ 1048576) : m_4 s edge other = true := by
  unfold m_4
  have eS : (⟨(⟨s.graph.edges, s.graph.pools, s.graph.defaults⟩ : DGraph), s.actions, (⟨s.disk.clock, s.disk.files⟩ : DDisk), s.log, s.deps, s.jobs, s.going, s.status⟩ : DState) = s := rfl
  rw [law22_awake_true]
  simp only [eS, copyState_eq]
  cases h2 : (!(m_ab s))
  case true => rfl
  cases h3 : decide (((s.status.length : Nat) : Int) = (0 : Int))
  case true => rfl
  have hf := rl_facts edge other hz h2 h3
  obtain ⟨f1, f2, f3, f4, f5, f6⟩ := hf
  rw [copyState_eq] at f5
  have hm : m_aj s = true := by rw [← stateMay_eq]; simpa using h2
  have hj : 1 ≤ s.jobs ∧ s.jobs ≤ 8 := by
    have h1 := hm
    unfold m_aj m_at at h1
    simp only [Bool.and_eq_true, Bool.not_eq_true', Bool.not_not, decide_eq_true_eq, decide_eq_false_iff_not, Bool.or_eq_true] at h1
    omega
  have hw : IntKind.wrap .i64 (s.jobs + 1) = s.jobs + 1 := wrap_i64 (by omega) (by omega)
  rw [hw]
  generalize uMod edge s.graph.edges.length = k at f3 ⊢
  generalize uMod other s.graph.edges.length = i at f4 ⊢
  have key : ∀ t : DState, t.graph = s.graph → t.actions = s.actions → t.disk = s.disk → t.log = s.log → t.deps = s.deps → t.going = s.going → t.status.length = s.status.length →
      ((s.status.any fun z => m_ax z) = false → (t.status.any fun z => m_ax z) = false) → (1 ≤ t.jobs ∧ t.jobs ≤ 8) → le2 s.status t.status → s.jobs ≤ t.jobs →
      (m_c t ((k : Nat) : Int)).2 = 0 ∧ ((m_c s ((k : Nat) : Int)).1 = true → (m_c t ((k : Nat) : Int)).1 = true) := by
    intro t hg h1 h2 h3 h4 hgo hl hst hj' hle hjj
    have ht := (may_edge (s := t) (e := ((k : Nat) : Int)) (may_less hm hg h1 h2 h3 h4 hgo hl hst hj') (by omega) (by rw [hg]; omega)).2
    have hs := (may_edge (s := s) (e := ((k : Nat) : Int)) hm (by omega) (by omega)).2
    rw [ht, hs]
    exact ⟨rfl, fun q => room_less hg hle hjj q⟩
  have ks := (key s rfl rfl rfl rfl rfl rfl rfl id hj (le2_refl _) (Int.le_refl _)).1
  have kx := key (⟨(⟨s.graph.edges, s.graph.pools, s.graph.defaults⟩ : DGraph), s.actions, (⟨s.disk.clock, s.disk.files⟩ : DDisk), s.log, s.deps, s.jobs, s.going, (bif decide ((s.status.getD i default) = (2 : Int)) then (s.status.set i (3 : Int)) else s.status)⟩ : DState) rfl rfl rfl rfl rfl rfl bif_set_len
    (fun h => by show ((bif decide ((s.status.getD i default) = (2 : Int)) then (s.status.set i (3 : Int)) else s.status).any _) = false; cases decide ((s.status.getD i default) = (2 : Int)) <;> first | exact h | exact any_set _ _ h) hj
    (by show le2 s.status (bif decide ((s.status.getD i default) = (2 : Int)) then (s.status.set i (3 : Int)) else s.status); cases decide ((s.status.getD i default) = (2 : Int)) <;> first | exact le2_refl _ | exact le2_set _ _) (Int.le_refl _)
  have ky := key (⟨(⟨s.graph.edges, s.graph.pools, s.graph.defaults⟩ : DGraph), s.actions, (⟨s.disk.clock, s.disk.files⟩ : DDisk), s.log, s.deps, (if s.jobs + 1 < (8 : Int) then s.jobs + 1 else (8 : Int)), s.going, s.status⟩ : DState) rfl rfl rfl rfl rfl rfl rfl id
    (by show 1 ≤ (if s.jobs + 1 < (8 : Int) then s.jobs + 1 else (8 : Int)) ∧ (if s.jobs + 1 < (8 : Int) then s.jobs + 1 else (8 : Int)) ≤ 8; split <;> omega) (le2_refl _)
    (by show s.jobs ≤ (if s.jobs + 1 < (8 : Int) then s.jobs + 1 else (8 : Int)); split <;> omega)
  rw [ks, kx.1, ky.1]
  have hr : decide (((m_e.status.length : Nat) : Int) = (3 : Int)) = true := by kernel_rfl
  rw [hr]
  cases ha : (m_c s ((k : Nat) : Int)).1
  · simp [m_z]
  · rw [kx.2 ha, ky.2 ha]; simp [m_z]
end
end Go.Lift
namespace Go.Lift
noncomputable section
open Go Go.RowKit
set_option linter.unusedSimpArgs false
set_option linter.unusedVariables false
set_option linter.unusedSectionVars false
set_option maxRecDepth 20000
theorem rdg_9 {H : Type} {enc : TypeId × Value → H} {w : World} {spare : Nat → Bool} {held : Bool} {bk : DataW H → Nat} {μ : Mu} (hb : BulkOk bk) (hμ : ∀ g, ¬ μ.mut g) : Rdg enc Go.Proofs.Tryz.prog w spare held bk μ 9 AV.s (fun s : ByteArray => s.size + 1) := Rdg.str hb (by kernel_rfl)
theorem rdg_24 {H : Type} {enc : TypeId × Value → H} {w : World} {spare : Nat → Bool} {held : Bool} {bk : DataW H → Nat} {μ : Mu} (hb : BulkOk bk) (hμ : ∀ g, ¬ μ.mut g) : Rdg enc Go.Proofs.Tryz.prog w spare held bk μ 24 (slA 1 AV.s) (szL (fun s : ByteArray => s.size + 1)) := Rdg.slice hb hμ (e := 9) (by kernel_rfl) (by kernel_rfl) (fun a => Or.inr ⟨(by intro fs h; cases h), rfl, rfl⟩) (rdg_9 hb hμ)
theorem rdg_4 {H : Type} {enc : TypeId × Value → H} {w : World} {spare : Nat → Bool} {held : Bool} {bk : DataW H → Nat} {μ : Mu} (hb : BulkOk bk) (hμ : ∀ g, ¬ μ.mut g) : Rdg enc Go.Proofs.Tryz.prog w spare held bk μ 4 AV.b (fun _ => 1) := Rdg.bool hb (by kernel_rfl)
theorem rdg_76 {H : Type} {enc : TypeId × Value → H} {w : World} {spare : Nat → Bool} {held : Bool} {bk : DataW H → Nat} {μ : Mu} (hb : BulkOk bk) (hμ : ∀ g, ¬ μ.mut g) : Rdg enc Go.Proofs.Tryz.prog w spare held bk μ 76 DEdge.av DEdge.sz where
  rd fuel cs x h hbd := by
    obtain ⟨xs, n, e, hl, hlen, hf⟩ := struct_rd (t := 76) (by kernel_rfl) h
    have hn : (fsOf Go.Proofs.Tryz.prog 76).size = 7 := by kernel_rfl
    have hc : Go.Proofs.Tryz.prog.cellsOf 76 = 7 := by kernel_rfl
    rw [hn] at hlen; rw [hc] at hl
    match xs, hlen, e, hf with
    | [x0, x1, x2, x3, x4, x5, x6], _, e, hf =>
      have hag := hb.agg [x0.1, x1.1, x2.1, x3.1, x4.1, x5.1, x6.1]
      simp only [List.map_cons, List.map_nil, List.sum_cons, List.sum_nil] at hag e
      rw [e] at hbd ⊢
      obtain ⟨y0, e0, r0⟩ := hf 0 0 24 1 (by kernel_rfl)
      cases e0
      obtain ⟨a0, c0, o0, s0⟩ := (rdg_24 hb hμ).rd _ _ _ r0 (by omega)
      obtain ⟨y1, e1, r1⟩ := hf 1 1 24 1 (by kernel_rfl)
      cases e1
      obtain ⟨a1, c1, o1, s1⟩ := (rdg_24 hb hμ).rd _ _ _ r1 (by omega)
      obtain ⟨y2, e2, r2⟩ := hf 2 2 24 1 (by kernel_rfl)
      cases e2
      obtain ⟨a2, c2, o2, s2⟩ := (rdg_24 hb hμ).rd _ _ _ r2 (by omega)
      obtain ⟨y3, e3, r3⟩ := hf 3 3 24 1 (by kernel_rfl)
      cases e3
      obtain ⟨a3, c3, o3, s3⟩ := (rdg_24 hb hμ).rd _ _ _ r3 (by omega)
      obtain ⟨y4, e4, r4⟩ := hf 4 4 9 1 (by kernel_rfl)
      cases e4
      obtain ⟨a4, c4, o4, s4⟩ := (rdg_9 hb hμ).rd _ _ _ r4 (by omega)
      obtain ⟨y5, e5, r5⟩ := hf 5 5 4 1 (by kernel_rfl)
      cases e5
      obtain ⟨a5, c5, o5, s5⟩ := (rdg_4 hb hμ).rd _ _ _ r5 (by omega)
      obtain ⟨y6, e6, r6⟩ := hf 6 6 9 1 (by kernel_rfl)
      cases e6
      obtain ⟨a6, c6, o6, s6⟩ := (rdg_9 hb hμ).rd _ _ _ r6 (by omega)
      refine ⟨⟨a0, a1, a2, a3, a4, a5, a6⟩, ?_, ?_, ?_⟩
      · have q := (CRs_step (CRs_step (CRs_step (CRs_step (CRs_step (CRs_step (CRs_step (show CRs w μ [] (cs.take 0) by simp [CRs]) c0) c1) c2) c3) c4) c5) c6)
        rw [show cs.take (0 + 1 + 1 + 1 + 1 + 1 + 1 + 1) = cs from List.take_of_length_le (by omega)] at q
        exact q
      · have q := (one_step (one_step (one_step (one_step (one_step (one_step (one_step (show ∀ u ∈ cs.take 0, u.oneCell' = true by simp) o0) o1) o2) o3) o4) o5) o6)
        rw [show cs.take (0 + 1 + 1 + 1 + 1 + 1 + 1 + 1) = cs from List.take_of_length_le (by omega)] at q
        exact q
      · unfold DEdge.sz; simp only at *; omega
theorem rdg_22 {H : Type} {enc : TypeId × Value → H} {w : World} {spare : Nat → Bool} {held : Bool} {bk : DataW H → Nat} {μ : Mu} (hb : BulkOk bk) (hμ : ∀ g, ¬ μ.mut g) : Rdg enc Go.Proofs.Tryz.prog w spare held bk μ 22 (slA 7 DEdge.av) (szL DEdge.sz) := Rdg.slice hb hμ (e := 76) (by kernel_rfl) (by kernel_rfl) (fun a => Or.inl ⟨_, rfl, rfl⟩) (rdg_76 hb hμ)
theorem rdg_3 {H : Type} {enc : TypeId × Value → H} {w : World} {spare : Nat → Bool} {held : Bool} {bk : DataW H → Nat} {μ : Mu} (hb : BulkOk bk) (hμ : ∀ g, ¬ μ.mut g) : Rdg enc Go.Proofs.Tryz.prog w spare held bk μ 3 (AV.i .i64) (fun _ => 1) := Rdg.int hb (by kernel_rfl)
theorem rdg_81 {H : Type} {enc : TypeId × Value → H} {w : World} {spare : Nat → Bool} {held : Bool} {bk : DataW H → Nat} {μ : Mu} (hb : BulkOk bk) (hμ : ∀ g, ¬ μ.mut g) : Rdg enc Go.Proofs.Tryz.prog w spare held bk μ 81 DPool.av DPool.sz where
  rd fuel cs x h hbd := by
    obtain ⟨xs, n, e, hl, hlen, hf⟩ := struct_rd (t := 81) (by kernel_rfl) h
    have hn : (fsOf Go.Proofs.Tryz.prog 81).size = 2 := by kernel_rfl
    have hc : Go.Proofs.Tryz.prog.cellsOf 81 = 2 := by kernel_rfl
    rw [hn] at hlen; rw [hc] at hl
    match xs, hlen, e, hf with
    | [x0, x1], _, e, hf =>
      have hag := hb.agg [x0.1, x1.1]
      simp only [List.map_cons, List.map_nil, List.sum_cons, List.sum_nil] at hag e
      rw [e] at hbd ⊢
      obtain ⟨y0, e0, r0⟩ := hf 0 0 9 1 (by kernel_rfl)
      cases e0
      obtain ⟨a0, c0, o0, s0⟩ := (rdg_9 hb hμ).rd _ _ _ r0 (by omega)
      obtain ⟨y1, e1, r1⟩ := hf 1 1 3 1 (by kernel_rfl)
      cases e1
      obtain ⟨a1, c1, o1, s1⟩ := (rdg_3 hb hμ).rd _ _ _ r1 (by omega)
      refine ⟨⟨a0, a1⟩, ?_, ?_, ?_⟩
      · have q := (CRs_step (CRs_step (show CRs w μ [] (cs.take 0) by simp [CRs]) c0) c1)
        rw [show cs.take (0 + 1 + 1) = cs from List.take_of_length_le (by omega)] at q
        exact q
      · have q := (one_step (one_step (show ∀ u ∈ cs.take 0, u.oneCell' = true by simp) o0) o1)
        rw [show cs.take (0 + 1 + 1) = cs from List.take_of_length_le (by omega)] at q
        exact q
      · unfold DPool.sz; simp only at *; omega
theorem rdg_23 {H : Type} {enc : TypeId × Value → H} {w : World} {spare : Nat → Bool} {held : Bool} {bk : DataW H → Nat} {μ : Mu} (hb : BulkOk bk) (hμ : ∀ g, ¬ μ.mut g) : Rdg enc Go.Proofs.Tryz.prog w spare held bk μ 23 (slA 2 DPool.av) (szL DPool.sz) := Rdg.slice hb hμ (e := 81) (by kernel_rfl) (by kernel_rfl) (fun a => Or.inl ⟨_, rfl, rfl⟩) (rdg_81 hb hμ)
theorem rdg_26 {H : Type} {enc : TypeId × Value → H} {w : World} {spare : Nat → Bool} {held : Bool} {bk : DataW H → Nat} {μ : Mu} (hb : BulkOk bk) (hμ : ∀ g, ¬ μ.mut g) : Rdg enc Go.Proofs.Tryz.prog w spare held bk μ 26 DGraph.av DGraph.sz where
  rd fuel cs x h hbd := by
    obtain ⟨xs, n, e, hl, hlen, hf⟩ := struct_rd (t := 26) (by kernel_rfl) h
    have hn : (fsOf Go.Proofs.Tryz.prog 26).size = 3 := by kernel_rfl
    have hc : Go.Proofs.Tryz.prog.cellsOf 26 = 3 := by kernel_rfl
    rw [hn] at hlen; rw [hc] at hl
    match xs, hlen, e, hf with
    | [x0, x1, x2], _, e, hf =>
      have hag := hb.agg [x0.1, x1.1, x2.1]
      simp only [List.map_cons, List.map_nil, List.sum_cons, List.sum_nil] at hag e
      rw [e] at hbd ⊢
      obtain ⟨y0, e0, r0⟩ := hf 0 0 22 1 (by kernel_rfl)
      cases e0
      obtain ⟨a0, c0, o0, s0⟩ := (rdg_22 hb hμ).rd _ _ _ r0 (by omega)
      obtain ⟨y1, e1, r1⟩ := hf 1 1 23 1 (by kernel_rfl)
      cases e1
      obtain ⟨a1, c1, o1, s1⟩ := (rdg_23 hb hμ).rd _ _ _ r1 (by omega)
      obtain ⟨y2, e2, r2⟩ := hf 2 2 24 1 (by kernel_rfl)
      cases e2
      obtain ⟨a2, c2, o2, s2⟩ := (rdg_24 hb hμ).rd _ _ _ r2 (by omega)
      refine ⟨⟨a0, a1, a2⟩, ?_, ?_, ?_⟩
      · have q := (CRs_step (CRs_step (CRs_step (show CRs w μ [] (cs.take 0) by simp [CRs]) c0) c1) c2)
        rw [show cs.take (0 + 1 + 1 + 1) = cs from List.take_of_length_le (by omega)] at q
        exact q
      · have q := (one_step (one_step (one_step (show ∀ u ∈ cs.take 0, u.oneCell' = true by simp) o0) o1) o2)
        rw [show cs.take (0 + 1 + 1 + 1) = cs from List.take_of_length_le (by omega)] at q
        exact q
      · unfold DGraph.sz; simp only at *; omega
theorem rdg_121 {H : Type} {enc : TypeId × Value → H} {w : World} {spare : Nat → Bool} {held : Bool} {bk : DataW H → Nat} {μ : Mu} (hb : BulkOk bk) (hμ : ∀ g, ¬ μ.mut g) : Rdg enc Go.Proofs.Tryz.prog w spare held bk μ 121 DAction.av DAction.sz where
  rd fuel cs x h hbd := by
    obtain ⟨xs, n, e, hl, hlen, hf⟩ := struct_rd (t := 121) (by kernel_rfl) h
    have hn : (fsOf Go.Proofs.Tryz.prog 121).size = 3 := by kernel_rfl
    have hc : Go.Proofs.Tryz.prog.cellsOf 121 = 3 := by kernel_rfl
    rw [hn] at hlen; rw [hc] at hl
    match xs, hlen, e, hf with
    | [x0, x1, x2], _, e, hf =>
      have hag := hb.agg [x0.1, x1.1, x2.1]
      simp only [List.map_cons, List.map_nil, List.sum_cons, List.sum_nil] at hag e
      rw [e] at hbd ⊢
      obtain ⟨y0, e0, r0⟩ := hf 0 0 9 1 (by kernel_rfl)
      cases e0
      obtain ⟨a0, c0, o0, s0⟩ := (rdg_9 hb hμ).rd _ _ _ r0 (by omega)
      obtain ⟨y1, e1, r1⟩ := hf 1 1 24 1 (by kernel_rfl)
      cases e1
      obtain ⟨a1, c1, o1, s1⟩ := (rdg_24 hb hμ).rd _ _ _ r1 (by omega)
      obtain ⟨y2, e2, r2⟩ := hf 2 2 4 1 (by kernel_rfl)
      cases e2
      obtain ⟨a2, c2, o2, s2⟩ := (rdg_4 hb hμ).rd _ _ _ r2 (by omega)
      refine ⟨⟨a0, a1, a2⟩, ?_, ?_, ?_⟩
      · have q := (CRs_step (CRs_step (CRs_step (show CRs w μ [] (cs.take 0) by simp [CRs]) c0) c1) c2)
        rw [show cs.take (0 + 1 + 1 + 1) = cs from List.take_of_length_le (by omega)] at q
        exact q
      · have q := (one_step (one_step (one_step (show ∀ u ∈ cs.take 0, u.oneCell' = true by simp) o0) o1) o2)
        rw [show cs.take (0 + 1 + 1 + 1) = cs from List.take_of_length_le (by omega)] at q
        exact q
      · unfold DAction.sz; simp only at *; omega
theorem rdg_57 {H : Type} {enc : TypeId × Value → H} {w : World} {spare : Nat → Bool} {held : Bool} {bk : DataW H → Nat} {μ : Mu} (hb : BulkOk bk) (hμ : ∀ g, ¬ μ.mut g) : Rdg enc Go.Proofs.Tryz.prog w spare held bk μ 57 (slA 3 DAction.av) (szL DAction.sz) := Rdg.slice hb hμ (e := 121) (by kernel_rfl) (by kernel_rfl) (fun a => Or.inl ⟨_, rfl, rfl⟩) (rdg_121 hb hμ)
theorem rdg_119 {H : Type} {enc : TypeId × Value → H} {w : World} {spare : Nat → Bool} {held : Bool} {bk : DataW H → Nat} {μ : Mu} (hb : BulkOk bk) (hμ : ∀ g, ¬ μ.mut g) : Rdg enc Go.Proofs.Tryz.prog w spare held bk μ 119 DFile.av DFile.sz where
  rd fuel cs x h hbd := by
    obtain ⟨xs, n, e, hl, hlen, hf⟩ := struct_rd (t := 119) (by kernel_rfl) h
    have hn : (fsOf Go.Proofs.Tryz.prog 119).size = 3 := by kernel_rfl
    have hc : Go.Proofs.Tryz.prog.cellsOf 119 = 3 := by kernel_rfl
    rw [hn] at hlen; rw [hc] at hl
    match xs, hlen, e, hf with
    | [x0, x1, x2], _, e, hf =>
      have hag := hb.agg [x0.1, x1.1, x2.1]
      simp only [List.map_cons, List.map_nil, List.sum_cons, List.sum_nil] at hag e
      rw [e] at hbd ⊢
      obtain ⟨y0, e0, r0⟩ := hf 0 0 9 1 (by kernel_rfl)
      cases e0
      obtain ⟨a0, c0, o0, s0⟩ := (rdg_9 hb hμ).rd _ _ _ r0 (by omega)
      obtain ⟨y1, e1, r1⟩ := hf 1 1 3 1 (by kernel_rfl)
      cases e1
      obtain ⟨a1, c1, o1, s1⟩ := (rdg_3 hb hμ).rd _ _ _ r1 (by omega)
      obtain ⟨y2, e2, r2⟩ := hf 2 2 3 1 (by kernel_rfl)
      cases e2
      obtain ⟨a2, c2, o2, s2⟩ := (rdg_3 hb hμ).rd _ _ _ r2 (by omega)
      refine ⟨⟨a0, a1, a2⟩, ?_, ?_, ?_⟩
      · have q := (CRs_step (CRs_step (CRs_step (show CRs w μ [] (cs.take 0) by simp [CRs]) c0) c1) c2)
        rw [show cs.take (0 + 1 + 1 + 1) = cs from List.take_of_length_le (by omega)] at q
        exact q
      · have q := (one_step (one_step (one_step (show ∀ u ∈ cs.take 0, u.oneCell' = true by simp) o0) o1) o2)
        rw [show cs.take (0 + 1 + 1 + 1) = cs from List.take_of_length_le (by omega)] at q
        exact q
      · unfold DFile.sz; simp only at *; omega
theorem rdg_58 {H : Type} {enc : TypeId × Value → H} {w : World} {spare : Nat → Bool} {held : Bool} {bk : DataW H → Nat} {μ : Mu} (hb : BulkOk bk) (hμ : ∀ g, ¬ μ.mut g) : Rdg enc Go.Proofs.Tryz.prog w spare held bk μ 58 (slA 3 DFile.av) (szL DFile.sz) := Rdg.slice hb hμ (e := 119) (by kernel_rfl) (by kernel_rfl) (fun a => Or.inl ⟨_, rfl, rfl⟩) (rdg_119 hb hμ)
theorem rdg_60 {H : Type} {enc : TypeId × Value → H} {w : World} {spare : Nat → Bool} {held : Bool} {bk : DataW H → Nat} {μ : Mu} (hb : BulkOk bk) (hμ : ∀ g, ¬ μ.mut g) : Rdg enc Go.Proofs.Tryz.prog w spare held bk μ 60 DDisk.av DDisk.sz where
  rd fuel cs x h hbd := by
    obtain ⟨xs, n, e, hl, hlen, hf⟩ := struct_rd (t := 60) (by kernel_rfl) h
    have hn : (fsOf Go.Proofs.Tryz.prog 60).size = 2 := by kernel_rfl
    have hc : Go.Proofs.Tryz.prog.cellsOf 60 = 2 := by kernel_rfl
    rw [hn] at hlen; rw [hc] at hl
    match xs, hlen, e, hf with
    | [x0, x1], _, e, hf =>
      have hag := hb.agg [x0.1, x1.1]
      simp only [List.map_cons, List.map_nil, List.sum_cons, List.sum_nil] at hag e
      rw [e] at hbd ⊢
      obtain ⟨y0, e0, r0⟩ := hf 0 0 3 1 (by kernel_rfl)
      cases e0
      obtain ⟨a0, c0, o0, s0⟩ := (rdg_3 hb hμ).rd _ _ _ r0 (by omega)
      obtain ⟨y1, e1, r1⟩ := hf 1 1 58 1 (by kernel_rfl)
      cases e1
      obtain ⟨a1, c1, o1, s1⟩ := (rdg_58 hb hμ).rd _ _ _ r1 (by omega)
      refine ⟨⟨a0, a1⟩, ?_, ?_, ?_⟩
      · have q := (CRs_step (CRs_step (show CRs w μ [] (cs.take 0) by simp [CRs]) c0) c1)
        rw [show cs.take (0 + 1 + 1) = cs from List.take_of_length_le (by omega)] at q
        exact q
      · have q := (one_step (one_step (show ∀ u ∈ cs.take 0, u.oneCell' = true by simp) o0) o1)
        rw [show cs.take (0 + 1 + 1) = cs from List.take_of_length_le (by omega)] at q
        exact q
      · unfold DDisk.sz; simp only at *; omega
theorem rdg_138 {H : Type} {enc : TypeId × Value → H} {w : World} {spare : Nat → Bool} {held : Bool} {bk : DataW H → Nat} {μ : Mu} (hb : BulkOk bk) (hμ : ∀ g, ¬ μ.mut g) : Rdg enc Go.Proofs.Tryz.prog w spare held bk μ 138 DRecord.av DRecord.sz where
  rd fuel cs x h hbd := by
    obtain ⟨xs, n, e, hl, hlen, hf⟩ := struct_rd (t := 138) (by kernel_rfl) h
    have hn : (fsOf Go.Proofs.Tryz.prog 138).size = 3 := by kernel_rfl
    have hc : Go.Proofs.Tryz.prog.cellsOf 138 = 3 := by kernel_rfl
    rw [hn] at hlen; rw [hc] at hl
    match xs, hlen, e, hf with
    | [x0, x1, x2], _, e, hf =>
      have hag := hb.agg [x0.1, x1.1, x2.1]
      simp only [List.map_cons, List.map_nil, List.sum_cons, List.sum_nil] at hag e
      rw [e] at hbd ⊢
      obtain ⟨y0, e0, r0⟩ := hf 0 0 9 1 (by kernel_rfl)
      cases e0
      obtain ⟨a0, c0, o0, s0⟩ := (rdg_9 hb hμ).rd _ _ _ r0 (by omega)
      obtain ⟨y1, e1, r1⟩ := hf 1 1 3 1 (by kernel_rfl)
      cases e1
      obtain ⟨a1, c1, o1, s1⟩ := (rdg_3 hb hμ).rd _ _ _ r1 (by omega)
      obtain ⟨y2, e2, r2⟩ := hf 2 2 9 1 (by kernel_rfl)
      cases e2
      obtain ⟨a2, c2, o2, s2⟩ := (rdg_9 hb hμ).rd _ _ _ r2 (by omega)
      refine ⟨⟨a0, a1, a2⟩, ?_, ?_, ?_⟩
      · have q := (CRs_step (CRs_step (CRs_step (show CRs w μ [] (cs.take 0) by simp [CRs]) c0) c1) c2)
        rw [show cs.take (0 + 1 + 1 + 1) = cs from List.take_of_length_le (by omega)] at q
        exact q
      · have q := (one_step (one_step (one_step (show ∀ u ∈ cs.take 0, u.oneCell' = true by simp) o0) o1) o2)
        rw [show cs.take (0 + 1 + 1 + 1) = cs from List.take_of_length_le (by omega)] at q
        exact q
      · unfold DRecord.sz; simp only at *; omega
theorem rdg_61 {H : Type} {enc : TypeId × Value → H} {w : World} {spare : Nat → Bool} {held : Bool} {bk : DataW H → Nat} {μ : Mu} (hb : BulkOk bk) (hμ : ∀ g, ¬ μ.mut g) : Rdg enc Go.Proofs.Tryz.prog w spare held bk μ 61 (slA 3 DRecord.av) (szL DRecord.sz) := Rdg.slice hb hμ (e := 138) (by kernel_rfl) (by kernel_rfl) (fun a => Or.inl ⟨_, rfl, rfl⟩) (rdg_138 hb hμ)
theorem rdg_134 {H : Type} {enc : TypeId × Value → H} {w : World} {spare : Nat → Bool} {held : Bool} {bk : DataW H → Nat} {μ : Mu} (hb : BulkOk bk) (hμ : ∀ g, ¬ μ.mut g) : Rdg enc Go.Proofs.Tryz.prog w spare held bk μ 134 DFound.av DFound.sz where
  rd fuel cs x h hbd := by
    obtain ⟨xs, n, e, hl, hlen, hf⟩ := struct_rd (t := 134) (by kernel_rfl) h
    have hn : (fsOf Go.Proofs.Tryz.prog 134).size = 3 := by kernel_rfl
    have hc : Go.Proofs.Tryz.prog.cellsOf 134 = 3 := by kernel_rfl
    rw [hn] at hlen; rw [hc] at hl
    match xs, hlen, e, hf with
    | [x0, x1, x2], _, e, hf =>
      have hag := hb.agg [x0.1, x1.1, x2.1]
      simp only [List.map_cons, List.map_nil, List.sum_cons, List.sum_nil] at hag e
      rw [e] at hbd ⊢
      obtain ⟨y0, e0, r0⟩ := hf 0 0 9 1 (by kernel_rfl)
      cases e0
      obtain ⟨a0, c0, o0, s0⟩ := (rdg_9 hb hμ).rd _ _ _ r0 (by omega)
      obtain ⟨y1, e1, r1⟩ := hf 1 1 3 1 (by kernel_rfl)
      cases e1
      obtain ⟨a1, c1, o1, s1⟩ := (rdg_3 hb hμ).rd _ _ _ r1 (by omega)
      obtain ⟨y2, e2, r2⟩ := hf 2 2 24 1 (by kernel_rfl)
      cases e2
      obtain ⟨a2, c2, o2, s2⟩ := (rdg_24 hb hμ).rd _ _ _ r2 (by omega)
      refine ⟨⟨a0, a1, a2⟩, ?_, ?_, ?_⟩
      · have q := (CRs_step (CRs_step (CRs_step (show CRs w μ [] (cs.take 0) by simp [CRs]) c0) c1) c2)
        rw [show cs.take (0 + 1 + 1 + 1) = cs from List.take_of_length_le (by omega)] at q
        exact q
      · have q := (one_step (one_step (one_step (show ∀ u ∈ cs.take 0, u.oneCell' = true by simp) o0) o1) o2)
        rw [show cs.take (0 + 1 + 1 + 1) = cs from List.take_of_length_le (by omega)] at q
        exact q
      · unfold DFound.sz; simp only at *; omega
theorem rdg_62 {H : Type} {enc : TypeId × Value → H} {w : World} {spare : Nat → Bool} {held : Bool} {bk : DataW H → Nat} {μ : Mu} (hb : BulkOk bk) (hμ : ∀ g, ¬ μ.mut g) : Rdg enc Go.Proofs.Tryz.prog w spare held bk μ 62 (slA 3 DFound.av) (szL DFound.sz) := Rdg.slice hb hμ (e := 134) (by kernel_rfl) (by kernel_rfl) (fun a => Or.inl ⟨_, rfl, rfl⟩) (rdg_134 hb hμ)
theorem rdg_40 {H : Type} {enc : TypeId × Value → H} {w : World} {spare : Nat → Bool} {held : Bool} {bk : DataW H → Nat} {μ : Mu} (hb : BulkOk bk) (hμ : ∀ g, ¬ μ.mut g) : Rdg enc Go.Proofs.Tryz.prog w spare held bk μ 40 (slA 1 (AV.i .i64)) (szL (fun _ => 1)) := Rdg.slice hb hμ (e := 3) (by kernel_rfl) (by kernel_rfl) (fun a => Or.inr ⟨(by intro fs h; cases h), rfl, rfl⟩) (rdg_3 hb hμ)
theorem rdg_64 {H : Type} {enc : TypeId × Value → H} {w : World} {spare : Nat → Bool} {held : Bool} {bk : DataW H → Nat} {μ : Mu} (hb : BulkOk bk) (hμ : ∀ g, ¬ μ.mut g) : Rdg enc Go.Proofs.Tryz.prog w spare held bk μ 64 DState.av DState.sz where
  rd fuel cs x h hbd := by
    obtain ⟨xs, n, e, hl, hlen, hf⟩ := struct_rd (t := 64) (by kernel_rfl) h
    have hn : (fsOf Go.Proofs.Tryz.prog 64).size = 8 := by kernel_rfl
    have hc : Go.Proofs.Tryz.prog.cellsOf 64 = 11 := by kernel_rfl
    rw [hn] at hlen; rw [hc] at hl
    match xs, hlen, e, hf with
    | [x0, x1, x2, x3, x4, x5, x6, x7], _, e, hf =>
      have hag := hb.agg [x0.1, x1.1, x2.1, x3.1, x4.1, x5.1, x6.1, x7.1]
      simp only [List.map_cons, List.map_nil, List.sum_cons, List.sum_nil] at hag e
      rw [e] at hbd ⊢
      obtain ⟨y0, e0, r0⟩ := hf 0 0 26 3 (by kernel_rfl)
      cases e0
      obtain ⟨a0, c0, o0, s0⟩ := (rdg_26 hb hμ).rd _ _ _ r0 (by omega)
      obtain ⟨y1, e1, r1⟩ := hf 1 3 57 1 (by kernel_rfl)
      cases e1
      obtain ⟨a1, c1, o1, s1⟩ := (rdg_57 hb hμ).rd _ _ _ r1 (by omega)
      obtain ⟨y2, e2, r2⟩ := hf 2 4 60 2 (by kernel_rfl)
      cases e2
      obtain ⟨a2, c2, o2, s2⟩ := (rdg_60 hb hμ).rd _ _ _ r2 (by omega)
      obtain ⟨y3, e3, r3⟩ := hf 3 6 61 1 (by kernel_rfl)
      cases e3
      obtain ⟨a3, c3, o3, s3⟩ := (rdg_61 hb hμ).rd _ _ _ r3 (by omega)
      obtain ⟨y4, e4, r4⟩ := hf 4 7 62 1 (by kernel_rfl)
      cases e4
      obtain ⟨a4, c4, o4, s4⟩ := (rdg_62 hb hμ).rd _ _ _ r4 (by omega)
      obtain ⟨y5, e5, r5⟩ := hf 5 8 3 1 (by kernel_rfl)
      cases e5
      obtain ⟨a5, c5, o5, s5⟩ := (rdg_3 hb hμ).rd _ _ _ r5 (by omega)
      obtain ⟨y6, e6, r6⟩ := hf 6 9 4 1 (by kernel_rfl)
      cases e6
      obtain ⟨a6, c6, o6, s6⟩ := (rdg_4 hb hμ).rd _ _ _ r6 (by omega)
      obtain ⟨y7, e7, r7⟩ := hf 7 10 40 1 (by kernel_rfl)
      cases e7
      obtain ⟨a7, c7, o7, s7⟩ := (rdg_40 hb hμ).rd _ _ _ r7 (by omega)
      refine ⟨⟨a0, a1, a2, a3, a4, a5, a6, a7⟩, ?_, ?_, ?_⟩
      · have q := (CRs_step (CRs_step (CRs_step (CRs_step (CRs_step (CRs_step (CRs_step (CRs_step (show CRs w μ [] (cs.take 0) by simp [CRs]) c0) c1) c2) c3) c4) c5) c6) c7)
        rw [show cs.take (0 + 3 + 1 + 2 + 1 + 1 + 1 + 1 + 1) = cs from List.take_of_length_le (by omega)] at q
        exact q
      · have q := (one_step (one_step (one_step (one_step (one_step (one_step (one_step (one_step (show ∀ u ∈ cs.take 0, u.oneCell' = true by simp) o0) o1) o2) o3) o4) o5) o6) o7)
        rw [show cs.take (0 + 3 + 1 + 2 + 1 + 1 + 1 + 1 + 1) = cs from List.take_of_length_le (by omega)] at q
        exact q
      · unfold DState.sz; simp only at *; omega
end
end Go.Lift
