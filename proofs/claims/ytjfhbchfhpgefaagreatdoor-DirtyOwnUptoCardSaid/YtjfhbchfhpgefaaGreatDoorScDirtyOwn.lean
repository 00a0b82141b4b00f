/-
  Lemmas of this claim: a layer over the kit's calls, contracts of the functions that the law reaches, and the law's row. No condition of its own.
-/
import Derived.Test.YtjfhbchfhpgefaaGreatDoorLbDirtyOwn
import Derived.Test.YtjfhbchfhpgefaaGreatDoorSaDirtyOwn
namespace Go.Lift
noncomputable section
open Go Go.RowKit
set_option linter.unusedSimpArgs false
set_option linter.unusedVariables false
set_option linter.unusedSectionVars false
set_option maxRecDepth 20000
structure DFile where
  name : ByteArray
  content : Int
  time : Int
def DFile.av (d : DFile) : AV := .st [AV.s d.name, (AV.i .i64) d.content, (AV.i .i64) d.time]
def DFile.zero : DFile := ⟨(⟨#[]⟩ : ByteArray), (0 : Int), (0 : Int)⟩
instance : Inhabited DFile := ⟨DFile.zero⟩
def DFile.sz (d : DFile) : Nat := (fun s : ByteArray => s.size + 1) d.name + (fun _ => 1) d.content + (fun _ => 1) d.time + 1
structure DEdge where
  outs : List ByteArray
  ins : List ByteArray
  implicit : List ByteArray
  order : List ByteArray
  command : ByteArray
  deps : Bool
  pool : ByteArray
def DEdge.av (d : DEdge) : AV := .st [(slA 1 AV.s) d.outs, (slA 1 AV.s) d.ins, (slA 1 AV.s) d.implicit, (slA 1 AV.s) d.order, AV.s d.command, AV.b d.deps, AV.s d.pool]
def DEdge.zero : DEdge := ⟨[], [], [], [], (⟨#[]⟩ : ByteArray), false, (⟨#[]⟩ : ByteArray)⟩
instance : Inhabited DEdge := ⟨DEdge.zero⟩
def DEdge.sz (d : DEdge) : Nat := (szL (fun s : ByteArray => s.size + 1)) d.outs + (szL (fun s : ByteArray => s.size + 1)) d.ins + (szL (fun s : ByteArray => s.size + 1)) d.implicit + (szL (fun s : ByteArray => s.size + 1)) d.order + (fun s : ByteArray => s.size + 1) d.command + (fun _ => 1) d.deps + (fun s : ByteArray => s.size + 1) d.pool + 1
theorem DEdge.sz_outs (d : DEdge) : (szL (fun s : ByteArray => s.size + 1)) d.outs ≤ d.sz := by unfold DEdge.sz; omega
theorem DEdge.sz_ins (d : DEdge) : (szL (fun s : ByteArray => s.size + 1)) d.ins ≤ d.sz := by unfold DEdge.sz; omega
theorem DEdge.sz_implicit (d : DEdge) : (szL (fun s : ByteArray => s.size + 1)) d.implicit ≤ d.sz := by unfold DEdge.sz; omega
structure DPool where
  name : ByteArray
  depth : Int
def DPool.av (d : DPool) : AV := .st [AV.s d.name, (AV.i .i64) d.depth]
def DPool.zero : DPool := ⟨(⟨#[]⟩ : ByteArray), (0 : Int)⟩
instance : Inhabited DPool := ⟨DPool.zero⟩
def DPool.sz (d : DPool) : Nat := (fun s : ByteArray => s.size + 1) d.name + (fun _ => 1) d.depth + 1
structure DGraph where
  edges : List DEdge
  pools : List DPool
  defaults : List ByteArray
def DGraph.av (d : DGraph) : AV := .st [(slA 7 DEdge.av) d.edges, (slA 2 DPool.av) d.pools, (slA 1 AV.s) d.defaults]
def DGraph.zero : DGraph := ⟨[], [], []⟩
instance : Inhabited DGraph := ⟨DGraph.zero⟩
def DGraph.sz (d : DGraph) : Nat := (szL DEdge.sz) d.edges + (szL DPool.sz) d.pools + (szL (fun s : ByteArray => s.size + 1)) d.defaults + 1
theorem DGraph.sz_edges (d : DGraph) : (szL DEdge.sz) d.edges ≤ d.sz := by unfold DGraph.sz; omega
structure DAction where
  command : ByteArray
  reads : List ByteArray
  fails : Bool
def DAction.av (d : DAction) : AV := .st [AV.s d.command, (slA 1 AV.s) d.reads, AV.b d.fails]
def DAction.zero : DAction := ⟨(⟨#[]⟩ : ByteArray), [], false⟩
instance : Inhabited DAction := ⟨DAction.zero⟩
def DAction.sz (d : DAction) : Nat := (fun s : ByteArray => s.size + 1) d.command + (szL (fun s : ByteArray => s.size + 1)) d.reads + (fun _ => 1) d.fails + 1
structure DRecord where
  out : ByteArray
  time : Int
  sign : ByteArray
def DRecord.av (d : DRecord) : AV := .st [AV.s d.out, (AV.i .i64) d.time, AV.s d.sign]
def DRecord.zero : DRecord := ⟨(⟨#[]⟩ : ByteArray), (0 : Int), (⟨#[]⟩ : ByteArray)⟩
instance : Inhabited DRecord := ⟨DRecord.zero⟩
def DRecord.sz (d : DRecord) : Nat := (fun s : ByteArray => s.size + 1) d.out + (fun _ => 1) d.time + (fun s : ByteArray => s.size + 1) d.sign + 1
structure DFound where
  out : ByteArray
  time : Int
  ins : List ByteArray
def DFound.av (d : DFound) : AV := .st [AV.s d.out, (AV.i .i64) d.time, (slA 1 AV.s) d.ins]
def DFound.zero : DFound := ⟨(⟨#[]⟩ : ByteArray), (0 : Int), []⟩
instance : Inhabited DFound := ⟨DFound.zero⟩
def DFound.sz (d : DFound) : Nat := (fun s : ByteArray => s.size + 1) d.out + (fun _ => 1) d.time + (szL (fun s : ByteArray => s.size + 1)) d.ins + 1
theorem DFound.sz_ins (d : DFound) : (szL (fun s : ByteArray => s.size + 1)) d.ins ≤ d.sz := by unfold DFound.sz; omega
structure DDisk where
  clock : Int
  files : List DFile
def DDisk.av (d : DDisk) : AV := .st [(AV.i .i64) d.clock, (slA 3 DFile.av) d.files]
def DDisk.zero : DDisk := ⟨(0 : Int), []⟩
instance : Inhabited DDisk := ⟨DDisk.zero⟩
def DDisk.sz (d : DDisk) : Nat := (fun _ => 1) d.clock + (szL DFile.sz) d.files + 1
theorem DDisk.sz_files (d : DDisk) : (szL DFile.sz) d.files ≤ d.sz := by unfold DDisk.sz; omega
structure DState where
  graph : DGraph
  actions : List DAction
  disk : DDisk
  log : List DRecord
  deps : List DFound
  jobs : Int
  going : Bool
  status : List Int
def DState.av (d : DState) : AV := .st [(slA 7 DEdge.av) d.graph.edges, (slA 2 DPool.av) d.graph.pools, (slA 1 AV.s) d.graph.defaults, (slA 3 DAction.av) d.actions, (AV.i .i64) d.disk.clock, (slA 3 DFile.av) d.disk.files, (slA 3 DRecord.av) d.log, (slA 3 DFound.av) d.deps, (AV.i .i64) d.jobs, AV.b d.going, (slA 1 (AV.i .i64)) d.status]
def DState.zero : DState := ⟨DGraph.zero, [], DDisk.zero, [], [], (0 : Int), false, []⟩
instance : Inhabited DState := ⟨DState.zero⟩
def DState.sz (d : DState) : Nat := DGraph.sz d.graph + (szL DAction.sz) d.actions + DDisk.sz d.disk + (szL DRecord.sz) d.log + (szL DFound.sz) d.deps + (fun _ => 1) d.jobs + (fun _ => 1) d.going + (szL (fun _ => 1)) d.status + 1
theorem DState.sz_graph (d : DState) : DGraph.sz d.graph ≤ d.sz := by unfold DState.sz; omega
theorem DState.sz_disk (d : DState) : DDisk.sz d.disk ≤ d.sz := by unfold DState.sz; omega
theorem DState.sz_log (d : DState) : (szL DRecord.sz) d.log ≤ d.sz := by unfold DState.sz; omega
theorem DState.sz_deps (d : DState) : (szL DFound.sz) d.deps ≤ d.sz := by unfold DState.sz; omega
structure Ddirty_looker where
  state : DState
  edge : DEdge
def Ddirty_looker.av (d : Ddirty_looker) : AV := .st [(ptA DState.av) d.state, (ptA DEdge.av) d.edge]
def lit35ef0 : DFile := (⟨(⟨#[97, 46, 99]⟩ : ByteArray), (1 : Int), (1 : Int)⟩ : DFile)
def litf2893 : DFile := (⟨(⟨#[98, 46, 99]⟩ : ByteArray), (3 : Int), (3 : Int)⟩ : DFile)
def litb1de5 : DFile := (⟨(⟨#[97, 46, 104]⟩ : ByteArray), (2 : Int), (2 : Int)⟩ : DFile)
def lit84134 : DRecord := (⟨(⟨#[]⟩ : ByteArray), (0 : Int), (⟨#[]⟩ : ByteArray)⟩ : DRecord)
def lit881d0 : DFile := (⟨(⟨#[122, 46, 104]⟩ : ByteArray), (4 : Int), (4 : Int)⟩ : DFile)
def lit2ad7b : DAction := (⟨(⟨#[99, 99, 32, 97]⟩ : ByteArray), [(⟨#[122, 46, 104]⟩ : ByteArray)], false⟩ : DAction)
def lit1e15f : DEdge := (⟨[(⟨#[108, 105, 98]⟩ : ByteArray)], [(⟨#[97, 46, 111]⟩ : ByteArray), (⟨#[98, 46, 111]⟩ : ByteArray)], [], [], (⟨#[]⟩ : ByteArray), false, (⟨#[]⟩ : ByteArray)⟩ : DEdge)
def lit28f67 : DEdge := (⟨[(⟨#[108, 105, 98]⟩ : ByteArray)], [(⟨#[97, 46, 111]⟩ : ByteArray), (⟨#[98, 46, 111]⟩ : ByteArray)], [], [], (⟨#[97, 114]⟩ : ByteArray), false, (⟨#[]⟩ : ByteArray)⟩ : DEdge)
def lit345b9 : DEdge := (⟨[(⟨#[98, 46, 111]⟩ : ByteArray)], [(⟨#[98, 46, 99]⟩ : ByteArray)], [], [(⟨#[97, 46, 111]⟩ : ByteArray)], (⟨#[99, 99, 32, 98]⟩ : ByteArray), false, (⟨#[116, 119, 111]⟩ : ByteArray)⟩ : DEdge)
def lit17817 : DEdge := (⟨[(⟨#[97, 46, 111]⟩ : ByteArray), (⟨#[97, 46, 100]⟩ : ByteArray)], [(⟨#[97, 46, 99]⟩ : ByteArray)], [(⟨#[97, 46, 104]⟩ : ByteArray)], [], (⟨#[99, 99, 32, 97]⟩ : ByteArray), true, (⟨#[116, 119, 111]⟩ : ByteArray)⟩ : DEdge)
def lit8f7a1 : DDisk := (⟨(4 : Int), [lit35ef0, litb1de5, litf2893, lit881d0]⟩ : DDisk)
def lit0860e : DGraph := (⟨[lit1e15f, lit17817, lit345b9], [(⟨(⟨#[116, 119, 111]⟩ : ByteArray), (2 : Int)⟩ : DPool)], [(⟨#[108, 105, 98]⟩ : ByteArray)]⟩ : DGraph)
def lit7e8b3 : DGraph := (⟨[lit28f67, lit17817, lit345b9], [(⟨(⟨#[116, 119, 111]⟩ : ByteArray), (2 : Int)⟩ : DPool)], [(⟨#[108, 105, 98]⟩ : ByteArray)]⟩ : DGraph)
def lit326bd : DState := (⟨lit7e8b3, [lit2ad7b], lit8f7a1, [], [], (2 : Int), false, []⟩ : DState)
def outsN : List DEdge → Nat
  | [] => 0
  | e :: r => e.outs.length + outsN r
def eOf (e : DEdge) : EdgeD := ⟨⟨false, e.outs⟩, ⟨false, e.ins⟩, ⟨false, e.implicit⟩, ⟨false, e.order⟩, e.command, e.deps, e.pool⟩
def pOf (p : DPool) : PoolD := ⟨p.name, p.depth⟩
def gOf (g : DGraph) : GraphD := ⟨false, g.edges.map eOf, false, g.pools.map pOf, ⟨false, g.defaults⟩⟩
def m_cj (g : DGraph) : Bool := mayG (gOf g)
def m_ak (g : DGraph) : Int := checkS (gOf g)
def needsN (g : DGraph) (edge : Int) : Nat := (g.edges.getD edge.toNat default).ins.length + (g.edges.getD edge.toNat default).implicit.length + (g.edges.getD edge.toNat default).order.length
def dmayL (pi : ByteArray → Bool) (c : Int) : List DFile → List Int → Option DFile → Bool
  | [], _, _ => true
  | f :: r, ts, p => (pi f.name && decide (0 ≤ f.content) && decide (f.content ≤ 2147483647) && decide (1 ≤ f.time) && decide (f.time ≤ c) && !(ts.any (fun t => decide (t = f.time))) && (match p with | none => true | some q => Op.bytesLess q.name.toList f.name.toList)) && dmayL pi c r (ts ++ [f.time]) (some f)
def dmayS (pi : ByteArray → Bool) (d : DDisk) : Bool := dmayL pi d.clock d.files [] none && decide (0 ≤ d.clock) && decide (d.clock ≤ 1048576) && decide (d.files.length ≤ 64)
def joinS (xs : List ByteArray) (sep : ByteArray) : ByteArray := ⟨(Lib.join (xs.map (·.data.toList)) sep.data.toList).toArray⟩
def cloneS (xs : List ByteArray) : List ByteArray := xs
def lastI {α : Type} (p : α → Bool) : List α → Int
  | [] => -1
  | x :: xs => if 0 ≤ lastI p xs then lastI p xs + 1 else if p x then 0 else -1
def log_lastS (rs : List DRecord) (out : ByteArray) : Int := lastI (fun r => decide (r.out = out)) rs
def deplog_lastS (fs : List DFound) (out : ByteArray) : Int := lastI (fun r => decide (r.out = out)) fs
def m_law0_SpoilTexts_L1 : List ByteArray → Nat → (List ByteArray) → Lp (List ByteArray) ((List ByteArray))
  | [], i, row => Lp.brk row
  | x1 :: rest, i, row => m_law0_SpoilTexts_L1 rest (i + 1) (row.set i ((⟨#[126]⟩ : ByteArray) ++ (row.getD i default)))
def m_law0_SpoilTexts (a : List ByteArray) : List ByteArray :=
  (match m_law0_SpoilTexts_L1 a 0 a with
  | Lp.ret r => r
  | Lp.brk row' => row')
def m_law0_SpoilBools_L1 : List Bool → Nat → (List Bool) → Lp (List Bool) ((List Bool))
  | [], i, row => Lp.brk row
  | x1 :: rest, i, row => m_law0_SpoilBools_L1 rest (i + 1) (row.set i (!(row.getD i default)))
def m_6 (s' : ByteArray) : Bool :=
  (decide ((cleanS s').2 = (0 : Int)) && decide ((cleanS s').1 = s'))
def m_ce : List ByteArray → Nat → Lp (Bool) (Unit)
  | [], v9 => Lp.brk ()
  | x1 :: rest, v9 => (bif (!(m_6 x1)) then Lp.ret false else m_ce rest (v9 + 1))
def m_a1 (ss : List ByteArray) (most' : Int) : Bool :=
  (match m_ce ss 0 with
  | Lp.ret r => r
  | Lp.brk () => decide (((ss.length : Nat) : Int) ≤ most'))
def m_b0 : List UInt8 → Nat → Lp (Bool) (Unit)
  | [], v8 => Lp.brk ()
  | x1 :: rest, v8 => (bif decide ((x1.toNat : Int) < (32 : Int)) then Lp.ret false else (bif decide ((126 : Int) < (x1.toNat : Int)) then Lp.ret false else m_b0 rest (v8 + 1)))
def m_a3 (s' : ByteArray) (most' : Int) : Bool :=
  (match m_b0 s'.data.toList 0 with
  | Lp.ret r => r
  | Lp.brk () => decide (((s'.size : Nat) : Int) ≤ most'))
def m_ae (s' : ByteArray) : Bool :=
  ((!decide (s' = (⟨#[]⟩ : ByteArray))) && (m_a3 s' (256 : Int)))
def m_cb : List (List ByteArray) → Nat → Lp (Bool) (Unit)
  | [], v23 => Lp.brk ()
  | x1 :: rest, v23 => (bif (!(m_a1 x1 (8 : Int))) then Lp.ret false else m_cb rest (v23 + 1))
def m_bm (e : DEdge) : Bool :=
  (match m_cb [e.outs, e.ins, e.implicit, e.order] 0 with
  | Lp.ret r => r
  | Lp.brk () => (decide ((0 : Int) < ((e.outs.length : Nat) : Int)) && ((m_ae e.command) && (decide (e.pool = (⟨#[]⟩ : ByteArray)) || (mayS e.pool)))))
def m_graph_Outs_L1 : List DEdge → Nat → (List ByteArray) → Lp (List ByteArray) ((List ByteArray))
  | [], v11, out => Lp.brk out
  | x1 :: rest, v11, out => m_graph_Outs_L1 rest (v11 + 1) (out ++ x1.outs)
def m_ref1_has_L1 (x' : ByteArray) : List ByteArray → Nat → Lp (Bool) (Unit)
  | [], i => Lp.brk ()
  | x1 :: rest, i => (bif decide (x1 = x') then Lp.ret true else m_ref1_has_L1 x' rest (i + 1))
def m_ref1_has (xs : List ByteArray) (x' : ByteArray) : Bool :=
  (match m_ref1_has_L1 x' xs 0 with
  | Lp.ret r => r
  | Lp.brk () => false)
def m_bb (c : Int) : Bool :=
  (bif decide ((97 : Int) ≤ c) then (decide (c ≤ (122 : Int)) || (decide ((48 : Int) ≤ c) && decide (c ≤ (57 : Int)))) else (decide ((48 : Int) ≤ c) && decide (c ≤ (57 : Int))))
def m_bp : List UInt8 → Nat → Lp (Bool) (Unit)
  | [], i => Lp.brk ()
  | x1 :: rest, i => (bif decide ((x1.toNat : Int) < (32 : Int)) then Lp.ret false else (bif decide ((126 : Int) < (x1.toNat : Int)) then Lp.ret false else m_bp rest (i + 1)))
def m_a4 (s' : ByteArray) (least : Int) (most' : Int) : Bool :=
  (match m_bp s'.data.toList 0 with
  | Lp.ret r => r
  | Lp.brk () => (decide (least ≤ ((s'.size : Nat) : Int)) && decide (((s'.size : Nat) : Int) ≤ most')))
def m_a2 : List UInt8 → Nat → Lp (Bool) (Unit)
  | [], i => Lp.brk ()
  | x1 :: rest, i => (bif (!(m_bb (x1.toNat : Int))) then (bif (!decide ((x1.toNat : Int) = (46 : Int))) then (bif (!decide ((x1.toNat : Int) = (95 : Int))) then (bif (!decide ((x1.toNat : Int) = (45 : Int))) then (bif (!decide ((x1.toNat : Int) = (47 : Int))) then Lp.ret false else m_a2 rest (i + 1)) else m_a2 rest (i + 1)) else m_a2 rest (i + 1)) else m_a2 rest (i + 1)) else m_a2 rest (i + 1))
def m_av (s' : ByteArray) : Bool :=
  (match m_a2 s'.data.toList 0 with
  | Lp.ret r => r
  | Lp.brk () => (decide ((1 : Int) ≤ ((s'.size : Nat) : Int)) && decide (((s'.size : Nat) : Int) ≤ (16 : Int))))
def m_br (sign : ByteArray) : List ByteArray → Nat → ByteArray → Lp (ByteArray) (ByteArray)
  | [], i, s' => Lp.brk s'
  | x1 :: rest, i, s' => (bif decide ((0 : Int) < ((i : Nat) : Int)) then m_br sign rest (i + 1) ((s' ++ sign) ++ x1) else m_br sign rest (i + 1) (s' ++ x1))
def m_b5 (xs : List ByteArray) (sign : ByteArray) : ByteArray :=
  (match m_br sign xs 0 (⟨#[]⟩ : ByteArray) with
  | Lp.ret r => r
  | Lp.brk sv' => sv')
def m_ba (s' : ByteArray) (sign : Int) : Nat → (List ByteArray) → Nat → Nat → Lp (List ByteArray) ((List ByteArray))
  | 0, out, from', i => Lp.brk out
  | kf + 1, out, from', i => (bif decide (((i : Nat) : Int) ≤ ((s'.size : Nat) : Int)) then (bif (decide (((i : Nat) : Int) = ((s'.size : Nat) : Int)) || decide (((s'.data.getD i 0).toNat : Int) = sign)) then m_ba s' sign kf (out ++ [(s'.extract from' i)]) (i + 1) (i + 1) else m_ba s' sign kf out from' (i + 1)) else Lp.brk out)
def m_x (s' : ByteArray) (sign : Int) : List ByteArray :=
  (match m_ba s' sign (s'.size + 1 - 0 + 1) [] 0 0 with
  | Lp.ret r => r
  | Lp.brk out' => out')
def m_ar : List ByteArray → Nat → (List ByteArray) → Lp (ByteArray × Int) ((List ByteArray))
  | [], i, kept => Lp.brk kept
  | x1 :: rest, i, kept => (bif decide (x1 = (⟨#[]⟩ : ByteArray)) then m_ar rest (i + 1) kept else (bif decide (x1 = (⟨#[46]⟩ : ByteArray)) then m_ar rest (i + 1) kept else (bif decide (x1 = (⟨#[46, 46]⟩ : ByteArray)) then (bif decide (((kept.length : Nat) : Int) = (0 : Int)) then Lp.ret ((⟨#[]⟩ : ByteArray), (200 : Int)) else m_ar rest (i + 1) (kept.take (kept.length - 1))) else m_ar rest (i + 1) (kept ++ [x1]))))
def m_m (s' : ByteArray) : ByteArray × Int :=
  (bif (!(m_av s')) then ((⟨#[]⟩ : ByteArray), (200 : Int)) else (bif decide (((s'.data.getD 0 0).toNat : Int) = (47 : Int)) then ((⟨#[]⟩ : ByteArray), (200 : Int)) else (match m_ar (m_x s' (47 : Int)) 0 [] with
  | Lp.ret r => r
  | Lp.brk kept' => (bif decide (((kept'.length : Nat) : Int) = (0 : Int)) then ((⟨#[]⟩ : ByteArray), (200 : Int)) else ((m_b5 kept' (⟨#[47]⟩ : ByteArray)), (0 : Int))))))
def m_a8 (s' : ByteArray) : Bool :=
  (decide ((m_m s').2 = (0 : Int)) && decide ((m_m s').1 = s'))
def m_ch : List ByteArray → Nat → Lp (Bool) (Unit)
  | [], i => Lp.brk ()
  | x1 :: rest, i => (bif (!(m_a8 x1)) then Lp.ret false else m_ch rest (i + 1))
def m_bo (xs : List ByteArray) : Bool :=
  (match m_ch xs 0 with
  | Lp.ret r => r
  | Lp.brk () => decide (((xs.length : Nat) : Int) ≤ (8 : Int)))
def m_ref1_poolAt_L1 (name : ByteArray) : List DPool → Nat → Lp (Int) (Unit)
  | [], i => Lp.brk ()
  | x1 :: rest, i => (bif decide (x1.name = name) then Lp.ret ((i : Nat) : Int) else m_ref1_poolAt_L1 name rest (i + 1))
def m_ref1_poolAt (ps : List DPool) (name : ByteArray) : Int :=
  (match m_ref1_poolAt_L1 name ps 0 with
  | Lp.ret r => r
  | Lp.brk () => (-1 : Int))
def m_ref1_EdgeMay (e : DEdge) : Bool :=
  (decide ((0 : Int) < ((e.outs.length : Nat) : Int)) && ((m_bo e.outs) && ((m_bo e.ins) && ((m_bo e.implicit) && ((m_bo e.order) && ((m_a4 e.command (1 : Int) (256 : Int)) && (decide (e.pool = (⟨#[]⟩ : ByteArray)) || (m_av e.pool))))))))
def m_b4 (g : DGraph) : List DEdge → Nat → Lp (Bool) (Unit)
  | [], i2 => Lp.brk ()
  | x2 :: rest, i2 => (bif (!(m_ref1_EdgeMay x2)) then Lp.ret false else (bif (!decide (x2.pool = (⟨#[]⟩ : ByteArray))) then (bif decide ((m_ref1_poolAt g.pools x2.pool) < (0 : Int)) then Lp.ret false else m_b4 g rest (i2 + 1)) else m_b4 g rest (i2 + 1)))
def m_ca (g : DGraph) : List DPool → Nat → Lp (Bool) (Unit)
  | [], i => Lp.brk ()
  | x1 :: rest, i => (bif (!(m_av x1.name)) then Lp.ret false else (bif decide (x1.depth < (1 : Int)) then Lp.ret false else (bif decide ((8 : Int) < x1.depth) then Lp.ret false else (bif (!decide ((m_ref1_poolAt g.pools x1.name) = ((i : Nat) : Int))) then Lp.ret false else m_ca g rest (i + 1)))))
def m_ref1_GraphMay (g : DGraph) : Bool :=
  (match m_ca g g.pools 0 with
  | Lp.ret r => r
  | Lp.brk () => (match m_b4 g g.edges 0 with
  | Lp.ret r => r
  | Lp.brk () => (decide (((g.pools.length : Nat) : Int) ≤ (4 : Int)) && (decide (((g.edges.length : Nat) : Int) ≤ (16 : Int)) && (m_bo g.defaults)))))
def m_ref1_Check_L2 : List ByteArray → Nat → (List ByteArray) → Lp (Int) ((List ByteArray))
  | [], k, all2 => Lp.brk all2
  | x2 :: rest, k, all2 => (bif (m_ref1_has all2 x2) then Lp.ret (901 : Int) else m_ref1_Check_L2 rest (k + 1) (all2 ++ [x2]))
def m_ref1_Check_L1 : List DEdge → Nat → (List ByteArray) → Lp (Int) (Unit)
  | [], i, all => Lp.brk ()
  | x1 :: rest, i, all => (match m_ref1_Check_L2 x1.outs 0 all with
  | Lp.ret r => Lp.ret r
  | Lp.brk all2' => m_ref1_Check_L1 rest (i + 1) all2')
def m_ref1_Check (g : DGraph) : Int :=
  (bif (!(m_ref1_GraphMay g)) then (900 : Int) else (match m_ref1_Check_L1 g.edges 0 [] with
  | Lp.ret r => r
  | Lp.brk () => (0 : Int)))
def m_ref1_MakerOf_L1 (name : ByteArray) : List DEdge → Nat → Lp (Int) (Unit)
  | [], i => Lp.brk ()
  | x1 :: rest, i => (bif (m_ref1_has x1.outs name) then Lp.ret ((i : Nat) : Int) else m_ref1_MakerOf_L1 name rest (i + 1))
def m_b7 (g : DGraph) (name : ByteArray) : Int :=
  (match m_ref1_MakerOf_L1 name g.edges 0 with
  | Lp.ret r => r
  | Lp.brk () => (-1 : Int))
def m_ci (g : DGraph) : List ByteArray → Nat → (List Int) → Lp (List Int) ((List Int))
  | [], i, out => Lp.brk out
  | x1 :: rest, i, out => (bif decide ((0 : Int) ≤ (m_b7 g x1)) then m_ci g rest (i + 1) (out ++ [(m_b7 g x1)]) else m_ci g rest (i + 1) out)
def m_cf (g : DGraph) (edge : Int) : List Int :=
  (match m_ci g (((g.edges.getD edge.toNat default).ins ++ (g.edges.getD edge.toNat default).implicit) ++ (g.edges.getD edge.toNat default).order) 0 [] with
  | Lp.ret r => r
  | Lp.brk out' => out')
def m_cd (row : List Bool) : List Int → Nat → Bool → Lp (List Int × Int) (Bool)
  | [], k, free => Lp.brk free
  | x3 :: rest, k, free => (bif free then m_cd row rest (k + 1) (row.getD x3.toNat default) else m_cd row rest (k + 1) false)
def m_cc (row : List Bool) (g : DGraph) : Nat → Int → Int → Lp (List Int × Int) (Int)
  | 0, next, i => Lp.brk next
  | kf + 1, next, i => (bif decide ((0 : Int) ≤ i) then (match m_cd row (m_cf g i) 0 (!(row.getD i.toNat default)) with
  | Lp.ret r => Lp.ret r
  | Lp.brk free' => (bif free' then m_cc row g kf i (i - (1 : Int)) else m_cc row g kf next (i - (1 : Int)))) else Lp.brk next)
def m_ref1_Order_L1 (g : DGraph) : Nat → (List Int) → (List Bool) → Lp (List Int × Int) ((List Int) × (List Bool))
  | 0, out, row => Lp.brk (out, row)
  | kf + 1, out, row => (bif decide (((out.length : Nat) : Int) < ((g.edges.length : Nat) : Int)) then (match m_cc row g (((((g.edges.length : Nat) : Int) - (1 : Int)) + 1).toNat + 1) (-1 : Int) (((g.edges.length : Nat) : Int) - (1 : Int)) with
  | Lp.ret r => Lp.ret r
  | Lp.brk next' => (bif decide (next' < (0 : Int)) then Lp.ret (([] : List Int), (1001 : Int)) else m_ref1_Order_L1 g kf (out ++ [next']) (row.set next'.toNat true))) else Lp.brk (out, row))
def m_ref1_Order (g : DGraph) : List Int × Int :=
  (bif (!decide ((m_ref1_Check g) = (0 : Int))) then (([] : List Int), (1000 : Int)) else (match m_ref1_Order_L1 g (g.edges.length - 0 + 1) [] (List.replicate g.edges.length false) with
  | Lp.ret r => r
  | Lp.brk (out', row') => (out', (0 : Int))))
def m_law0_SameInts_L1 (b : List Int) : List Int → Nat → Lp (Bool) (Unit)
  | [], i => Lp.brk ()
  | x1 :: rest, i => (bif (!decide (x1 = (b.getD i default))) then Lp.ret false else m_law0_SameInts_L1 b rest (i + 1))
def m_bz (b : List Bool) : List Bool → Nat → Lp (Bool) (Unit)
  | [], i => Lp.brk ()
  | x1 :: rest, i => (bif (!(x1 == (b.getD i default))) then Lp.ret false else m_bz b rest (i + 1))
def m_a9 (a : List Bool) (b : List Bool) : Bool :=
  (!(!decide (((a.length : Nat) : Int) = ((b.length : Nat) : Int))) && (match m_bz b a 0 with
  | Lp.ret r => r
  | Lp.brk () => true))
def m_be (v : Int) : List Int → Nat → Lp (Int) (Unit)
  | [], v8 => Lp.brk ()
  | x1 :: rest, v8 => (bif decide (v = x1) then Lp.ret ((v8 : Nat) : Int) else m_be v rest (v8 + 1))
def m_aq (s' : List Int) (v : Int) : Int :=
  (match m_be v s' 0 with
  | Lp.ret r => r
  | Lp.brk () => (-1 : Int))
def m_4 (s' : List Int) (v : Int) : Bool :=
  decide ((0 : Int) ≤ (m_aq s' v))
def m_aw (v : ByteArray) : List ByteArray → Nat → Lp (Int) (Unit)
  | [], v8 => Lp.brk ()
  | x1 :: rest, v8 => (bif decide (v = x1) then Lp.ret ((v8 : Nat) : Int) else m_aw v rest (v8 + 1))
def m_9 (s' : List ByteArray) (v : ByteArray) : Int :=
  (match m_aw v s' 0 with
  | Lp.ret r => r
  | Lp.brk () => (-1 : Int))
def m_ab (s' : List ByteArray) (v : ByteArray) : Bool :=
  decide ((0 : Int) ≤ (m_9 s' v))
def m_1 (f : DEdge → Bool) : List DEdge → Nat → Lp (Int) (Unit)
  | [], v8 => Lp.brk ()
  | x1 :: rest, v8 => (bif (f x1) then Lp.ret ((v8 : Nat) : Int) else m_1 f rest (v8 + 1))
def m_v (s' : List DEdge) (f : DEdge → Bool) : Int :=
  (match m_1 f s' 0 with
  | Lp.ret r => r
  | Lp.brk () => (-1 : Int))
def m_bn (e : DEdge) (name : ByteArray) : Bool :=
  (m_ab e.outs name)
def m_g (g : DGraph) (s' : ByteArray) : Int :=
  (m_v g.edges (fun z0 => m_bn z0 s'))
def m_a0 (f : Int → Bool) : List Int → Nat → Lp (Int) (Unit)
  | [], v8 => Lp.brk ()
  | x1 :: rest, v8 => (bif (f x1) then Lp.ret ((v8 : Nat) : Int) else m_a0 f rest (v8 + 1))
def m_ad (s' : List Int) (f : Int → Bool) : Int :=
  (match m_a0 f s' 0 with
  | Lp.ret r => r
  | Lp.brk () => (-1 : Int))
def m_0 (s' : List Int) (f : Int → Bool) : Bool :=
  decide ((0 : Int) ≤ (m_ad s' f))
def m_grow_string (n' : Nat) : List ByteArray :=
  (bif decide ((0 : Int) < ((n' : Nat) : Int)) then ((List.replicate n' (⟨#[]⟩ : ByteArray)).take 0) else [])
def m_e : List (List ByteArray) → Nat → (List ByteArray) → Lp (List ByteArray) ((List ByteArray))
  | [], v27, newslice => Lp.brk newslice
  | x2 :: rest, v27, newslice => m_e rest (v27 + 1) (newslice ++ x2)
def m_u : List (List ByteArray) → Nat → Nat → Lp (List ByteArray) (Nat)
  | [], v11, size => Lp.brk size
  | x1 :: rest, v11, size => m_u rest (v11 + 1) (size + x1.length)
def m_a (slices : List (List ByteArray)) : List ByteArray :=
  (match m_u slices 0 0 with
  | Lp.ret r => r
  | Lp.brk size' => (match m_e slices 0 ((List.replicate size' (⟨#[]⟩ : ByteArray)).take 0) with
  | Lp.ret r => r
  | Lp.brk newslice4' => newslice4'))
def m_bj (g : DGraph) : List ByteArray → Nat → (List Int) → Lp (List Int) ((List Int))
  | [], v31, out => Lp.brk out
  | x1 :: rest, v31, out => (bif decide ((0 : Int) ≤ (m_g g x1)) then (bif (!(m_4 out (m_g g x1))) then m_bj g rest (v31 + 1) (out ++ [(m_g g x1)]) else m_bj g rest (v31 + 1) out) else m_bj g rest (v31 + 1) out)
def m_am (g : DGraph) (edge : Int) : List Int :=
  (match m_bj g (m_a [(g.edges.getD edge.toNat default).ins, (g.edges.getD edge.toNat default).implicit, (g.edges.getD edge.toNat default).order]) 0 [] with
  | Lp.ret r => r
  | Lp.brk out' => out')
def m_ax (edge : Int) (out : List Int) : Bool :=
  (m_4 out edge)
def m_bu (edge : Int) (told : Int → Bool) : Bool :=
  (!(told edge))
def m_by : List (List Int) → Nat → (List Int) → Lp (List Int × Int) (Bool × (List Int))
  | [], v38, cell2 => Lp.brk (false, cell2)
  | x3 :: rest, v38, cell2 => (bif (!(m_ax ((v38 : Nat) : Int) cell2)) then (bif (!(m_0 x3 (fun z0 => m_bu z0 (fun z0 => m_ax z0 cell2)))) then Lp.brk (true, (cell2 ++ [((v38 : Nat) : Int)])) else m_by rest (v38 + 1) cell2) else m_by rest (v38 + 1) cell2)
def m_b1 (g : DGraph) (row : List (List Int)) : Nat → (List Int) → Lp (List Int × Int) ((List Int))
  | 0, cell => Lp.brk cell
  | kf + 1, cell => (bif decide (((cell.length : Nat) : Int) < ((g.edges.length : Nat) : Int)) then (match m_by row 0 cell with
  | Lp.ret r => Lp.ret r
  | Lp.brk (t', cell2') => (bif t' then m_b1 g row kf cell2' else Lp.ret (([] : List Int), (1001 : Int)))) else Lp.brk cell)
def m_bx (g : DGraph) : List (List Int) → Nat → (List (List Int)) → Lp (List Int × Int) ((List (List Int)))
  | [], v20, row => Lp.brk row
  | x1 :: rest, v20, row => m_bx g rest (v20 + 1) (row.set v20 (m_am g ((v20 : Nat) : Int)))
def m_s (g : DGraph) : List Int × Int :=
  (bif (!decide ((m_ak g) = (0 : Int))) then (([] : List Int), (1000 : Int)) else (match m_bx g (List.replicate g.edges.length ([] : List Int)) 0 (List.replicate g.edges.length ([] : List Int)) with
  | Lp.ret r => r
  | Lp.brk row' => (match m_b1 g row' (g.edges.length - 0 + 1) [] with
  | Lp.ret r => r
  | Lp.brk cell3' => (cell3', (0 : Int)))))
def m_ref12_Want_L4 (g : DGraph) (i3 : Int) : List Int → Nat → (List Bool) → Lp (List Bool × Int) ((List Bool))
  | [], k, row4 => Lp.brk row4
  | x4 :: rest, k, row4 => (bif (row4.getD x4.toNat default) then m_ref12_Want_L4 g i3 rest (k + 1) (row4.set x4.toNat true) else m_ref12_Want_L4 g i3 rest (k + 1) (row4.set x4.toNat (row4.getD ((((m_ref1_Order g).1).getD i3.toNat default).toNat) default)))
def m_ref12_Want_L3 (g : DGraph) : Nat → Int → (List Bool) → Lp (List Bool × Int) ((List Bool))
  | 0, i3, row3 => Lp.brk row3
  | kf + 1, i3, row3 => (bif decide ((0 : Int) ≤ i3) then (match m_ref12_Want_L4 g i3 (m_cf (⟨g.edges, g.pools, g.defaults⟩ : DGraph) (((m_ref1_Order g).1).getD i3.toNat default)) 0 row3 with
  | Lp.ret r => Lp.ret r
  | Lp.brk row4' => m_ref12_Want_L3 g kf (i3 - (1 : Int)) row4') else Lp.brk row3)
def m_ref12_Want_L2 (g : DGraph) : List ByteArray → Nat → (List Bool) → Lp (List Bool × Int) ((List Bool))
  | [], i2, row2 => Lp.brk row2
  | x2 :: rest, i2, row2 => (bif decide ((m_b7 (⟨g.edges, g.pools, g.defaults⟩ : DGraph) x2) < (0 : Int)) then Lp.ret (([] : List Bool), (2001 : Int)) else m_ref12_Want_L2 g rest (i2 + 1) (row2.set (m_b7 (⟨g.edges, g.pools, g.defaults⟩ : DGraph) x2).toNat true))
def m_3 (e : Int) : Int :=
  e
def m_bi (a : DAction) : Bool :=
  ((!(m_ae a.command)) || (!(m_a1 a.reads (8 : Int))))
def m_y (f : DAction → Bool) : List DAction → Nat → Lp (Int) (Unit)
  | [], v8 => Lp.brk ()
  | x1 :: rest, v8 => (bif (f x1) then Lp.ret ((v8 : Nat) : Int) else m_y f rest (v8 + 1))
def m_p (s' : List DAction) (f : DAction → Bool) : Int :=
  (match m_y f s' 0 with
  | Lp.ret r => r
  | Lp.brk () => (-1 : Int))
def m_j (s' : List DAction) (f : DAction → Bool) : Bool :=
  decide ((0 : Int) ≤ (m_p s' f))
def m_bs (as' : List DAction) : Bool :=
  (decide (((as'.length : Nat) : Int) ≤ (16 : Int)) && (!(m_j as' (fun z0 => m_bi z0))))
def m_a6 (x' : Int) : Bool :=
  (decide ((1 : Int) ≤ x') && decide (x' ≤ (1048576 : Int)))
def m_az (r : DRecord) : Bool :=
  ((m_6 r.out) && ((m_a6 r.time) && ((!decide (r.sign = (⟨#[]⟩ : ByteArray))) && (m_a3 r.sign (2048 : Int)))))
def m_b9 (r : DRecord) : Bool :=
  (!(m_az r))
def m_z (f : DRecord → Bool) : List DRecord → Nat → Lp (Int) (Unit)
  | [], v8 => Lp.brk ()
  | x1 :: rest, v8 => (bif (f x1) then Lp.ret ((v8 : Nat) : Int) else m_z f rest (v8 + 1))
def m_q (s' : List DRecord) (f : DRecord → Bool) : Int :=
  (match m_z f s' 0 with
  | Lp.ret r => r
  | Lp.brk () => (-1 : Int))
def m_k (s' : List DRecord) (f : DRecord → Bool) : Bool :=
  decide ((0 : Int) ≤ (m_q s' f))
def m_b6 (rs : List DRecord) : Bool :=
  (decide (((rs.length : Nat) : Int) ≤ (256 : Int)) && (!(m_k rs (fun z0 => m_b9 z0))))
def m_bg (f : DFound) : Bool :=
  ((m_6 f.out) && ((m_a6 f.time) && (m_a1 f.ins (8 : Int))))
def m_bq (f : DFound) : Bool :=
  (!(m_bg f))
def m_2 (f : DFound → Bool) : List DFound → Nat → Lp (Int) (Unit)
  | [], v8 => Lp.brk ()
  | x1 :: rest, v8 => (bif (f x1) then Lp.ret ((v8 : Nat) : Int) else m_2 f rest (v8 + 1))
def m_r (s' : List DFound) (f : DFound → Bool) : Int :=
  (match m_2 f s' 0 with
  | Lp.ret r => r
  | Lp.brk () => (-1 : Int))
def m_n (s' : List DFound) (f : DFound → Bool) : Bool :=
  decide ((0 : Int) ≤ (m_r s' f))
def m_bf (fs : List DFound) : Bool :=
  (decide (((fs.length : Nat) : Int) ≤ (256 : Int)) && (!(m_n fs (fun z0 => m_bq z0))))
def m_bl (x' : Int) : Bool :=
  (decide ((0 : Int) ≤ x') && decide (x' ≤ (2147483647 : Int)))
def m_aa (s' : DState) : Bool :=
  (decide ((m_s s'.graph).2 = (0 : Int)) && ((m_bs s'.actions) && ((dmayS m_6 s'.disk) && ((m_b6 s'.log) && (m_bf s'.deps)))))
def m_a7 (x' : Int) (least : Int) (most' : Int) : Bool :=
  (decide (least ≤ x') && decide (x' ≤ most'))
def m_b8 : List DAction → Nat → Lp (Bool) (Unit)
  | [], i => Lp.brk ()
  | x1 :: rest, i => (bif (!(m_a4 x1.command (1 : Int) (256 : Int))) then Lp.ret false else (bif (!(m_bo x1.reads)) then Lp.ret false else m_b8 rest (i + 1)))
def m_ref12_ActionsMay (as' : List DAction) : Bool :=
  (match m_b8 as' 0 with
  | Lp.ret r => r
  | Lp.brk () => decide (((as'.length : Nat) : Int) ≤ (16 : Int)))
def m_b3 (i : Nat) (d : DDisk) (x1 : DFile) : Nat → Nat → Lp (Bool) (Unit)
  | 0, k => Lp.brk ()
  | kf + 1, k => (bif decide (((k : Nat) : Int) < ((i : Nat) : Int)) then (bif decide ((d.files.getD k default).time = x1.time) then Lp.ret false else m_b3 i d x1 kf (k + 1)) else Lp.brk ())
def m_b2 (d : DDisk) : List DFile → Nat → Lp (Bool) (Unit)
  | [], i => Lp.brk ()
  | x1 :: rest, i => (bif (!(m_a8 x1.name)) then Lp.ret false else (bif (!(m_a7 x1.content (0 : Int) (2147483647 : Int))) then Lp.ret false else (bif (!(m_a7 x1.time (1 : Int) d.clock)) then Lp.ret false else (bif decide ((0 : Int) < ((i : Nat) : Int)) then (bif (!Op.bytesLess ((d.files.getD (i - 1) default).name).toList x1.name.toList) then Lp.ret false else (match m_b3 i d x1 (i - 0 + 1) 0 with
  | Lp.ret r => Lp.ret r
  | Lp.brk () => m_b2 d rest (i + 1))) else (match m_b3 i d x1 (i - 0 + 1) 0 with
  | Lp.ret r => Lp.ret r
  | Lp.brk () => m_b2 d rest (i + 1))))))
def m_ref12_DiskMay (d : DDisk) : Bool :=
  (match m_b2 d d.files 0 with
  | Lp.ret r => r
  | Lp.brk () => ((m_a7 d.clock (0 : Int) (1048576 : Int)) && decide (((d.files.length : Nat) : Int) ≤ (64 : Int))))
def m_ay (r : DRecord) : Bool :=
  ((m_a8 r.out) && ((m_a7 r.time (1 : Int) (1048576 : Int)) && (m_a4 r.sign (1 : Int) (2048 : Int))))
def m_bt : List DRecord → Nat → Lp (Bool) (Unit)
  | [], i => Lp.brk ()
  | x1 :: rest, i => (bif (!(m_ay x1)) then Lp.ret false else m_bt rest (i + 1))
def m_bd (rs : List DRecord) : Bool :=
  (match m_bt rs 0 with
  | Lp.ret r => r
  | Lp.brk () => decide (((rs.length : Nat) : Int) ≤ (256 : Int)))
def m_ref12_FoundMay (f : DFound) : Bool :=
  ((m_a8 f.out) && ((m_a7 f.time (1 : Int) (1048576 : Int)) && (m_bo f.ins)))
def m_cg : List DFound → Nat → Lp (Bool) (Unit)
  | [], i => Lp.brk ()
  | x1 :: rest, i => (bif (!(m_ref12_FoundMay x1)) then Lp.ret false else m_cg rest (i + 1))
def m_ref12_DepsMay (fs : List DFound) : Bool :=
  (match m_cg fs 0 with
  | Lp.ret r => r
  | Lp.brk () => decide (((fs.length : Nat) : Int) ≤ (256 : Int)))
def m_ref12_partsMay (s' : DState) : Bool :=
  (decide ((m_ref1_Order (⟨s'.graph.edges, s'.graph.pools, s'.graph.defaults⟩ : DGraph)).2 = (0 : Int)) && ((m_ref12_ActionsMay s'.actions) && ((m_ref12_DiskMay (⟨s'.disk.clock, s'.disk.files⟩ : DDisk)) && ((m_bd s'.log) && (m_ref12_DepsMay s'.deps)))))
def m_ah (x' : ByteArray) : Bool :=
  (!decide (x' = x'))
def m_7 (x' : ByteArray) (y : ByteArray) : Int :=
  (bif (m_ah x') then (bif (m_ah y) then (0 : Int) else (-1 : Int)) else (bif (m_ah y) then (1 : Int) else (bif (Op.bytesLess x'.toList y.toList) then (-1 : Int) else (bif (!(Op.bytesLess x'.toList y.toList || decide (x' = y))) then (1 : Int) else (0 : Int)))))
def m_an (f : DFile) (s' : ByteArray) : Int :=
  (m_7 f.name s')
def m_i (cmp : DFile → ByteArray → Int) (x' : List DFile) (target : ByteArray) : Nat → Int → Int → Lp (Int × Bool) (Int)
  | 0, i, j => Lp.brk i
  | kf + 1, i, j => (bif decide (i < j) then (bif decide ((cmp (x'.getD (IntKind.wrap .i64 (Int.fdiv (IntKind.wrap .u64 (IntKind.wrap .i64 (i + j))) (2 ^ (min 1 IntKind.u64.bits)))).toNat default) target) < (0 : Int)) then m_i cmp x' target kf (IntKind.wrap .i64 ((IntKind.wrap .i64 (Int.fdiv (IntKind.wrap .u64 (IntKind.wrap .i64 (i + j))) (2 ^ (min 1 IntKind.u64.bits)))) + (1 : Int))) j else m_i cmp x' target kf i (IntKind.wrap .i64 (Int.fdiv (IntKind.wrap .u64 (IntKind.wrap .i64 (i + j))) (2 ^ (min 1 IntKind.u64.bits))))) else Lp.brk i)
def m_c (x' : List DFile) (target : ByteArray) (cmp : DFile → ByteArray → Int) : Int × Bool :=
  (match m_i cmp x' target ((((x'.length : Nat) : Int) - (0 : Int)).toNat + 1) (0 : Int) ((x'.length : Nat) : Int) with
  | Lp.ret r => r
  | Lp.brk i' => (bif decide (i' < ((x'.length : Nat) : Int)) then (i', decide ((cmp (x'.getD i'.toNat default) target) = (0 : Int))) else (i', false)))
def m_w (d : DDisk) (s' : ByteArray) : Int × Bool :=
  ((m_c d.files s' (fun z0 z1 => m_an z0 z1)).1, (m_c d.files s' (fun z0 z1 => m_an z0 z1)).2)
def m_h (d : DDisk) (s' : ByteArray) : DFile × Bool :=
  (bif (m_w d s').2 then (bif (dmayS m_6 d) then ((⟨(d.files.getD ((m_w d s').1).toNat default).name, (d.files.getD ((m_w d s').1).toNat default).content, (d.files.getD ((m_w d s').1).toNat default).time⟩ : DFile), true) else ((⟨(⟨#[]⟩ : ByteArray), (0 : Int), (0 : Int)⟩ : DFile), false)) else ((⟨(⟨#[]⟩ : ByteArray), (0 : Int), (0 : Int)⟩ : DFile), false))
def m_bv (e : DEdge) : ByteArray × Int :=
  (bif (!(m_bm e)) then ((⟨#[]⟩ : ByteArray), (1100 : Int)) else ((joinS [(joinS e.outs (⟨#[32]⟩ : ByteArray)), (joinS e.ins (⟨#[32]⟩ : ByteArray)), (joinS e.implicit (⟨#[32]⟩ : ByteArray)), (bif e.deps then (⟨#[100]⟩ : ByteArray) else (⟨#[110]⟩ : ByteArray)), e.command] (⟨#[124]⟩ : ByteArray)), (0 : Int)))
def m_ap (rs : List DRecord) (out : ByteArray) : DRecord × Bool :=
  (bif decide ((log_lastS rs out) < (0 : Int)) then (lit84134, false) else (bif (!(m_b6 rs)) then (lit84134, false) else ((⟨(rs.getD (log_lastS rs out).toNat default).out, (rs.getD (log_lastS rs out).toNat default).time, (rs.getD (log_lastS rs out).toNat default).sign⟩ : DRecord), true)))
def m_ai (f : DFound) : DFound :=
  (⟨f.out, f.time, (cloneS f.ins)⟩ : DFound)
def m_t (fs : List DFound) (out : ByteArray) : DFound × Bool :=
  (bif decide ((deplog_lastS fs out) < (0 : Int)) then ((⟨(⟨#[]⟩ : ByteArray), (0 : Int), []⟩ : DFound), false) else (bif (!(m_bf fs)) then ((⟨(⟨#[]⟩ : ByteArray), (0 : Int), []⟩ : DFound), false) else ((⟨(m_ai (fs.getD (deplog_lastS fs out).toNat default)).out, (m_ai (fs.getD (deplog_lastS fs out).toNat default)).time, (m_ai (fs.getD (deplog_lastS fs out).toNat default)).ins⟩ : DFound), true)))
def m_aj (l : Ddirty_looker) (s' : ByteArray) : Bool :=
  ((!(m_h l.state.disk s').2) && decide ((m_g l.state.graph s') < (0 : Int)))
def m_bh (l : Ddirty_looker) : List ByteArray → Nat → Int → Lp (Int) (Int)
  | [], v32, out => Lp.brk out
  | x1 :: rest, v32, out => (bif (!(m_h l.state.disk x1).2) then Lp.ret (-1 : Int) else (bif (!(m_ap l.state.log x1).2) then Lp.ret (-1 : Int) else (bif (!decide (((m_ap l.state.log x1).1).sign = (m_bv l.edge).1)) then Lp.ret (-1 : Int) else (bif (!decide (((m_ap l.state.log x1).1).time = ((m_h l.state.disk x1).1).time)) then Lp.ret (-1 : Int) else m_bh l rest (v32 + 1) (if ((m_h l.state.disk x1).1).time < out then ((m_h l.state.disk x1).1).time else out)))))
def m_f (l : Ddirty_looker) : Int :=
  (match m_bh l l.edge.outs 0 l.state.disk.clock with
  | Lp.ret r => r
  | Lp.brk out' => out')
def m_as (s' : ByteArray) (l : Ddirty_looker) (time : Int) : Bool :=
  ((!(m_h l.state.disk s').2) || decide (time < ((m_h l.state.disk s').1).time))
def m_ao (f : ByteArray → Bool) : List ByteArray → Nat → Lp (Int) (Unit)
  | [], v8 => Lp.brk ()
  | x1 :: rest, v8 => (bif (f x1) then Lp.ret ((v8 : Nat) : Int) else m_ao f rest (v8 + 1))
def m_5 (s' : List ByteArray) (f : ByteArray → Bool) : Int :=
  (match m_ao f s' 0 with
  | Lp.ret r => r
  | Lp.brk () => (-1 : Int))
def m_o (s' : List ByteArray) (f : ByteArray → Bool) : Bool :=
  decide ((0 : Int) ≤ (m_5 s' f))
def m_8 (l : Ddirty_looker) (ss : List ByteArray) (time : Int) : Bool :=
  (m_o ss (fun z0 => m_as z0 l time))
def m_l (l : Ddirty_looker) : Bool :=
  (decide ((m_f l) < (0 : Int)) || ((m_8 l l.edge.ins (m_f l)) || ((m_8 l l.edge.implicit (m_f l)) || (!(!l.edge.deps) && ((!(m_t l.state.deps (l.edge.outs.getD 0 default)).2) || ((!decide (((m_t l.state.deps (l.edge.outs.getD 0 default)).1).time = ((m_h l.state.disk (l.edge.outs.getD 0 default)).1).time)) || (m_8 l (((m_t l.state.deps (l.edge.outs.getD 0 default)).1).ins) (m_f l))))))))
def m_d (s' : DState) (edge : Int) : Bool × Int :=
  (bif (!(m_aa s')) then (false, (1900 : Int)) else (bif decide (edge < (0 : Int)) then (false, (1900 : Int)) else (bif decide (((s'.graph.edges.length : Nat) : Int) ≤ edge) then (false, (1900 : Int)) else (bif (m_o (m_a [(s'.graph.edges.getD edge.toNat default).ins, (s'.graph.edges.getD edge.toNat default).implicit, (s'.graph.edges.getD edge.toNat default).order]) (fun z0 => m_aj (⟨s', (s'.graph.edges.getD edge.toNat default)⟩ : Ddirty_looker) z0)) then (false, (1901 : Int)) else ((m_l (⟨s', (s'.graph.edges.getD edge.toNat default)⟩ : Ddirty_looker)), (0 : Int))))))
def m_au (s' : DState) (x2 : Int) : List ByteArray → Nat → (List Bool) → Lp (List Bool × Int) ((List Bool))
  | [], v70, row3 => Lp.brk row3
  | x3 :: rest, v70, row3 => (bif decide ((0 : Int) ≤ (m_g s'.graph x3)) then (bif (row3.getD ((m_g s'.graph x3).toNat) default) then m_au s' x2 rest (v70 + 1) (row3.set x2.toNat true) else m_au s' x2 rest (v70 + 1) row3) else m_au s' x2 rest (v70 + 1) row3)
def m_bc (s' : DState) : List Int → Nat → (List Bool) → Lp (List Bool × Int) ((List Bool))
  | [], v50, row2 => Lp.brk row2
  | x2 :: rest, v50, row2 => (match m_au s' x2 (m_a [(s'.graph.edges.getD x2.toNat default).ins, (s'.graph.edges.getD x2.toNat default).implicit]) 0 row2 with
  | Lp.ret r => Lp.ret r
  | Lp.brk row4' => m_bc s' rest (v50 + 1) row4')
def m_bk (s' : DState) : List Bool → Nat → (List Bool) → Lp (List Bool × Int) ((List Bool))
  | [], v25, row => Lp.brk row
  | x1 :: rest, v25, row => (bif (!decide ((m_d s' ((v25 : Nat) : Int)).2 = (0 : Int))) then Lp.ret (([] : List Bool), (m_d s' ((v25 : Nat) : Int)).2) else m_bk s' rest (v25 + 1) (row.set v25 ((m_d s' ((v25 : Nat) : Int)).1)))
def m_b (s' : DState) : List Bool × Int :=
  (bif (!(m_aa s')) then (([] : List Bool), (1900 : Int)) else (match m_bk s' (List.replicate s'.graph.edges.length false) 0 (List.replicate s'.graph.edges.length false) with
  | Lp.ret r => r
  | Lp.brk row' => (match m_bc s' ((m_s (⟨s'.graph.edges, s'.graph.pools, s'.graph.defaults⟩ : DGraph)).1) 0 row' with
  | Lp.ret r => r
  | Lp.brk row5' => (row5', (0 : Int)))))
def m_ref12_AllDirty_L2 (s' : DState) (row : List Bool) : List ByteArray → Nat → Bool → Lp (List Bool × Int) (Bool)
  | [], k, is => Lp.brk is
  | x2 :: rest, k, is => (bif is then m_ref12_AllDirty_L2 s' row rest (k + 1) true else (bif decide ((0 : Int) ≤ (m_b7 (⟨s'.graph.edges, s'.graph.pools, s'.graph.defaults⟩ : DGraph) x2)) then m_ref12_AllDirty_L2 s' row rest (k + 1) (row.getD ((m_b7 (⟨s'.graph.edges, s'.graph.pools, s'.graph.defaults⟩ : DGraph) x2).toNat) default) else m_ref12_AllDirty_L2 s' row rest (k + 1) false))
def m_bw : DState :=
  lit326bd
def m_at : Bool :=
  ((m_d lit326bd (1 : Int)).1 && (decide ((m_3 ((m_d lit326bd (1 : Int)).2)) = (0 : Int)) && ((m_a9 ((m_b lit326bd).1) [true, true, true]) && (decide ((m_3 ((m_b lit326bd).2)) = (0 : Int)) && (decide ((m_3 ((m_d (⟨lit7e8b3, [lit2ad7b], (⟨(4 : Int), (([lit35ef0, litb1de5, litf2893, lit881d0].take [lit35ef0, litb1de5, litf2893, lit881d0].length).drop 1)⟩ : DDisk), [], [], (2 : Int), false, []⟩ : DState) (1 : Int)).2)) = (1901 : Int)) && (decide ((m_3 ((m_d lit326bd (3 : Int)).2)) = (1900 : Int)) && decide ((m_3 ((m_b (⟨lit0860e, [lit2ad7b], (⟨(4 : Int), (([lit35ef0, litb1de5, litf2893, lit881d0].take [lit35ef0, litb1de5, litf2893, lit881d0].length).drop 1)⟩ : DDisk), [], [], (2 : Int), false, []⟩ : DState)).2)) = (1900 : Int))))))))
def m_ag (x2 : Bool) (x3 : ByteArray) : List ByteArray → Nat → Bool → Lp (Bool) (Bool)
  | [], o, why3 => Lp.brk why3
  | x4 :: rest, o, why3 => (bif why3 then m_ag x2 x3 rest (o + 1) true else (bif x2 then m_ag x2 x3 rest (o + 1) (decide (x4 = x3)) else m_ag x2 x3 rest (o + 1) false))
def m_al (x2 : Bool) (s' : DState) (k : Nat) : List ByteArray → Nat → Bool → Lp (Bool) (Bool)
  | [], m', why2 => Lp.brk why2
  | x3 :: rest, m', why2 => (match m_ag x2 x3 ((s'.graph.edges.getD k default).outs) 0 why2 with
  | Lp.ret r => Lp.ret r
  | Lp.brk why3' => m_al x2 s' k rest (m' + 1) why3')
def m_af (s' : DState) (i : Nat) : List Bool → Nat → Bool → Lp (Bool) (Bool)
  | [], k, why => Lp.brk why
  | x2 :: rest, k, why => (match m_al x2 s' k ((s'.graph.edges.getD i default).ins ++ (s'.graph.edges.getD i default).implicit) 0 why with
  | Lp.ret r => Lp.ret r
  | Lp.brk why2' => m_af s' i rest (k + 1) why2')
def m_a5 (s' : DState) : List Bool → Nat → Lp (Bool) (Unit)
  | [], i => Lp.brk ()
  | x1 :: rest, i => (bif (!decide ((m_3 ((m_d s' ((i : Nat) : Int)).2)) = (0 : Int))) then Lp.ret false else (bif (m_d s' ((i : Nat) : Int)).1 then (bif (!x1) then Lp.ret false else (match m_af s' i ((m_b s').1) 0 true with
  | Lp.ret r => Lp.ret r
  | Lp.brk why4' => (bif (!(x1 == why4')) then Lp.ret false else m_a5 s' rest (i + 1)))) else (match m_af s' i ((m_b s').1) 0 false with
  | Lp.ret r => Lp.ret r
  | Lp.brk why' => (bif (!(x1 == why')) then Lp.ret false else m_a5 s' rest (i + 1)))))
def m_ac (s' : DState) : Bool :=
  (!(!m_at) && (bif ((!decide ((m_3 ((m_b s').2)) = (0 : Int))) || (!decide (((((m_b s').1).length : Nat) : Int) = ((s'.graph.edges.length : Nat) : Int)))) then ((!decide ((m_3 ((m_b s').2)) = (0 : Int))) && decide (((((m_b s').1).length : Nat) : Int) = (0 : Int))) else (match m_a5 s' ((m_b s').1) 0 with
  | Lp.ret r => r
  | Lp.brk () => (decide (((m_bw.log.length : Nat) : Int) = (0 : Int)) && (m_bd s'.log)))))
end
end Go.Lift
namespace Go.Lift
noncomputable section
open Go Go.RowKit
set_option linter.unusedSimpArgs false
set_option linter.unusedVariables false
set_option linter.unusedSectionVars false
set_option maxRecDepth 20000
theorem szL_len {α : Type} {sz : α → Nat} (h : ∀ x, 1 ≤ sz x) (xs : List α) : xs.length + 1 ≤ szL sz xs := by
  unfold szL
  induction xs with
  | nil => simp
  | cons x xs ih => have := h x; simp only [List.map_cons, List.sum_cons, List.length_cons]; omega
theorem szL_mem {α : Type} {sz : α → Nat} {x : α} : ∀ {xs : List α}, x ∈ xs → sz x + 1 ≤ szL sz xs
  | [], h => by simp at h
  | y :: ys, h => by
    unfold szL
    simp only [List.map_cons, List.sum_cons]
    rcases List.mem_cons.1 h with rfl | h
    · omega
    · have := szL_mem (sz := sz) h; unfold szL at this; omega
theorem szL_getD {α : Type} [Inhabited α] {sz : α → Nat} {xs : List α} {i : Nat} (h : i < xs.length) : sz (xs.getD i default) + 1 ≤ szL sz xs :=
  szL_mem (List.mem_of_getElem? (getD_some h))
theorem szL_str (xs : List ByteArray) : xs.length + 1 ≤ szL (fun s : ByteArray => s.size + 1) xs := szL_len (fun _ => Nat.le_add_left 1 _) xs
theorem DEdge.sz_one (e : DEdge) : 1 ≤ e.sz := by unfold DEdge.sz; omega
theorem DEdge.sz_eq (d : DEdge) : d.sz = szL (fun s : ByteArray => s.size + 1) d.outs + szL (fun s : ByteArray => s.size + 1) d.ins + szL (fun s : ByteArray => s.size + 1) d.implicit + szL (fun s : ByteArray => s.size + 1) d.order + (d.command.size + 1) + 1 + (d.pool.size + 1) + 1 := rfl
theorem DGraph.sz_len (g : DGraph) : g.edges.length ≤ g.sz := Nat.le_trans (Nat.le_of_succ_le (szL_len DEdge.sz_one g.edges)) g.sz_edges
theorem needsN_sz (g : DGraph) (i : Int) : needsN g i ≤ g.sz := by
  unfold needsN
  by_cases h : i.toNat < g.edges.length
  · have h1 := szL_getD (sz := DEdge.sz) h
    have h2 := g.sz_edges
    generalize g.edges.getD i.toNat default = e at *
    have a := szL_str e.ins; have b := szL_str e.implicit; have c := szL_str e.order
    rw [DEdge.sz_eq] at h1
    omega
  · rw [List.getD_eq_getElem?_getD, List.getElem?_eq_none (by omega)]
    show (0 + 0 + 0 : Nat) ≤ _
    omega
theorem outsN_sz' : ∀ es : List DEdge, outsN es ≤ szL DEdge.sz es
  | [] => Nat.zero_le _
  | e :: es => by
    have := outsN_sz' es
    have a := szL_str e.outs; have b := e.sz_outs
    unfold szL at *
    simp only [outsN, List.map_cons, List.sum_cons] at *
    omega
theorem outsN_sz (g : DGraph) : outsN g.edges ≤ g.sz := Nat.le_trans (outsN_sz' _) g.sz_edges
end
end Go.Lift
namespace Go.Lift
noncomputable section
open Go Go.RowKit
set_option linter.unusedSimpArgs false
set_option linter.unusedVariables false
set_option linter.unusedSectionVars false
set_option maxRecDepth 20000
theorem lp_all {α : Type} {p : α → Bool} {L : List α → Nat → Lp Bool Unit} (h0 : ∀ i, L [] i = Lp.brk ()) (h1 : ∀ x r i, L (x :: r) i = bif !(p x) then Lp.ret false else L r (i + 1)) : ∀ (l : List α) (i : Nat), L l i = if l.all p then Lp.brk () else Lp.ret false
  | [], i => by rw [h0]; rfl
  | x :: r, i => by
    rw [h1, lp_all h0 h1 r (i + 1), List.all_cons]
    cases p x <;> simp
theorem szsum_append (xs ys : List ByteArray) (k : Nat) : szsum (xs ++ ys) k = szsum xs k + szsum ys k := by
  induction xs with
  | nil => simp [szsum]
  | cons x xs ih => simp only [List.cons_append, szsum, ih]; omega
theorem szsum_take (xs : List ByteArray) (n k : Nat) : szsum (xs.take n) k ≤ szsum xs k := by
  have := szsum_append (xs.take n) (xs.drop n) k
  rw [List.take_append_drop] at this
  omega
theorem ref1_NameMay_L1 (l : List UInt8) (i : Nat) : m_a2 l i = if l.all byteOk then Lp.brk () else Lp.ret false :=
  lp_all (p := byteOk) (fun _ => rfl) (fun x r i => by
    rw [m_a2, byteOk_eq]
    have e : m_bb (x.toNat : Int) = smallS x.toNat := by
      unfold m_bb smallS
      cases decide ((97 : Int) ≤ (x.toNat : Int)) <;> cases decide ((x.toNat : Int) ≤ 122) <;> rfl
    rw [e]
    generalize smallS x.toNat = a
    generalize decide ((x.toNat : Int) = 46) = b
    generalize decide ((x.toNat : Int) = 95) = c
    generalize decide ((x.toNat : Int) = 45) = d
    generalize decide ((x.toNat : Int) = 47) = f
    cases a <;> cases b <;> cases c <;> cases d <;> cases f <;> rfl) l i
theorem ref1_NameMay_eq (s : ByteArray) : m_av s = mayS s := by
  unfold m_av
  rw [ref1_NameMay_L1, mayS_ref]
  cases s.data.toList.all byteOk <;> rfl
theorem mayS_sz {s : ByteArray} (h : mayS s = true) : 1 ≤ s.size ∧ s.size ≤ 16 := by
  rw [mayS_ref] at h
  simp only [Bool.and_eq_true, decide_eq_true_eq] at h
  omega
theorem ref1_NameMay_sz' {s : ByteArray} (h : m_av s = true) : 1 ≤ s.size ∧ s.size ≤ 16 := mayS_sz (by rw [← ref1_NameMay_eq]; exact h)
theorem ref1_NameMay_sz {s : ByteArray} (h : (!(m_av s)) = false) : 1 ≤ s.size ∧ s.size ≤ 16 := ref1_NameMay_sz' (by simpa using h)
def Lp.val {α : Type} : Lp α α → α
  | .ret a => a
  | .brk a => a
theorem split_sz_L1 (s : ByteArray) (c : Int) : ∀ (k : Nat) (out : List ByteArray) (f i : Nat), szsum out 1 ≤ f → f ≤ i → i ≤ s.size + 1 → szsum (m_ba s c k out f i).val 1 ≤ s.size + 1
  | 0, out, f, i, h1, h2, h3 => by simp only [m_ba, Lp.val]; omega
  | k + 1, out, f, i, h1, h2, h3 => by
    rw [m_ba]
    by_cases h : ((i : Nat) : Int) ≤ ((s.size : Nat) : Int)
    · rw [decide_eq_true h, cond_true]
      cases (decide (((i : Nat) : Int) = ((s.size : Nat) : Int)) || decide (((s.data.getD i 0).toNat : Int) = c))
      · exact split_sz_L1 s c k out f (i + 1) h1 (by omega) (by omega)
      · refine split_sz_L1 s c k _ (i + 1) (i + 1) ?_ (Nat.le_refl _) (by omega)
        rw [szsum_append]
        simp only [szsum, ByteArray.size_extract]
        omega
    · rw [decide_eq_false h, cond_false]
      simp only [Lp.val]; omega
theorem split_sz (s : ByteArray) (c : Int) : szsum (m_x s c) 1 ≤ s.size + 1 := by
  have := split_sz_L1 s c (s.size + 1 - 0 + 1) [] 0 0 (Nat.le_refl _) (Nat.le_refl _) (Nat.zero_le _)
  unfold m_x
  cases e : m_ba s c (s.size + 1 - 0 + 1) [] 0 0 <;> rw [e] at this <;> exact this
theorem split_join {s : ByteArray} {c : Int} {kept : List ByteArray} {n : Nat} (h : s.size ≤ 16) (hk : szsum kept 1 + n ≤ szsum (m_x s c) 1) : szsum kept (⟨#[47]⟩ : ByteArray).size ≤ 281474976710656 := by
  have := split_sz s c
  show szsum kept 1 ≤ _
  omega
theorem concat_L1 : ∀ (xs : List (List ByteArray)) (i n : Nat), m_u xs i n = Lp.brk (n + xs.flatten.length)
  | [], i, n => by simp [m_u]
  | x :: xs, i, n => by rw [m_u, concat_L1 xs]; simp [Nat.add_assoc]
theorem concat_L2 : ∀ (xs : List (List ByteArray)) (i : Nat) (out : List ByteArray), m_e xs i out = Lp.brk (out ++ xs.flatten)
  | [], i, n => by simp [m_e]
  | x :: xs, i, n => by rw [m_e, concat_L2 xs]; simp [List.append_assoc]
theorem concat_eq (xs : List (List ByteArray)) : m_a xs = xs.flatten := by
  simp only [m_a, concat_L1, concat_L2, List.take_zero, List.nil_append]
theorem check_len {g : DGraph} (h : (!decide ((m_ak g) = (0 : Int))) = false) : g.edges.length ≤ 16 := by
  have h1 : m_ak g = 0 := by simpa using h
  unfold m_ak checkS at h1
  split at h1
  · simp at h1
  · rename_i hm
    have hm' : mayG (gOf g) = true := by simpa using hm
    simp only [mayG, Bool.and_eq_true, decide_eq_true_eq, gOf, List.length_map] at hm'
    have := hm'.2.1; omega
theorem idxE_L1 (f : DEdge → Bool) : ∀ (xs : List DEdge) (i : Nat), m_1 f xs i = Lp.brk () ∨ ∃ r : Nat, m_1 f xs i = Lp.ret (r : Int) ∧ i ≤ r ∧ r < i + xs.length
  | [], i => Or.inl rfl
  | x :: xs, i => by
    rw [m_1]
    cases f x
    · simp only [cond_false]
      rcases idxE_L1 f xs (i + 1) with h | ⟨r, h, h1, h2⟩
      · exact Or.inl h
      · exact Or.inr ⟨r, h, by omega, by simp only [List.length_cons]; omega⟩
    · exact Or.inr ⟨i, rfl, Nat.le_refl _, by simp⟩
theorem makes_lt (g : DGraph) (s : ByteArray) : m_g g s < (g.edges.length : Int) ∧ -1 ≤ m_g g s := by
  unfold m_g m_v
  rcases idxE_L1 (fun z0 => m_bn z0 s) g.edges 0 with h | ⟨r, h, h1, h2⟩
  · rw [h]; exact ⟨by show (-1 : Int) < _; omega, Int.le_refl _⟩
  · rw [h]; exact ⟨by show (r : Int) < _; omega, by show (-1 : Int) ≤ r; omega⟩
def inG (g : DGraph) (k : Int) : Prop := 0 ≤ k ∧ k.toNat < g.edges.length
theorem of_L3 (g : DGraph) : ∀ (xs : List (List Int)) (i : Nat) (c : List Int), i + xs.length ≤ g.edges.length → (∀ k ∈ c, inG g k) → ∃ t c', m_by xs i c = Lp.brk (t, c') ∧ (∀ k ∈ c', inG g k) ∧ c'.length ≤ c.length + 1
  | [], i, c, _, h => ⟨_, _, rfl, h, by omega⟩
  | x :: xs, i, c, hl, h => by
    simp only [List.length_cons] at hl
    rw [m_by]
    cases (!(m_ax ((i : Nat) : Int) c))
    · exact of_L3 g xs (i + 1) c (by omega) h
    · simp only [cond_true]
      cases (!(m_0 x (fun z0 => m_bu z0 (fun z0 => m_ax z0 c))))
      · exact of_L3 g xs (i + 1) c (by omega) h
      · refine ⟨_, _, rfl, ?_, by simp⟩
        intro k hk
        rcases List.mem_append.1 hk with hk | hk
        · exact h k hk
        · rw [List.mem_singleton.1 hk]; exact ⟨by omega, by omega⟩
theorem of_L2 (g : DGraph) (row : List (List Int)) (hr : row.length ≤ g.edges.length) : ∀ (f : Nat) (c : List Int), (∀ k ∈ c, inG g k) → (∃ c', m_b1 g row f c = Lp.brk c' ∧ (∀ k ∈ c', inG g k) ∧ (c.length ≤ g.edges.length → c'.length ≤ g.edges.length)) ∨ m_b1 g row f c = Lp.ret (([] : List Int), (1001 : Int))
  | 0, c, h => Or.inl ⟨c, rfl, h, id⟩
  | f + 1, c, h => by
    rw [m_b1]
    cases hd : decide (((c.length : Nat) : Int) < ((g.edges.length : Nat) : Int))
    · exact Or.inl ⟨c, rfl, h, id⟩
    · have hd' := of_decide_eq_true hd
      obtain ⟨t, c', e, a, l⟩ := of_L3 g row 0 c (by omega) h
      simp only [cond_true, e]
      cases t
      · exact Or.inr rfl
      · rcases of_L2 g row hr f c' a with ⟨c2, h1, h2, h3⟩ | h1
        · exact Or.inl ⟨c2, h1, h2, fun _ => h3 (by omega)⟩
        · exact Or.inr h1
theorem of_L1 (g : DGraph) : ∀ (xs : List (List Int)) (i : Nat) (row : List (List Int)), ∃ row', m_bx g xs i row = Lp.brk row' ∧ row'.length = row.length
  | [], i, row => ⟨_, rfl, rfl⟩
  | x :: xs, i, row => by
    rw [m_bx]
    obtain ⟨r, e, a⟩ := of_L1 g xs (i + 1) (row.set i (m_am g ((i : Nat) : Int)))
    exact ⟨r, e, by simpa using a⟩
theorem of_mem {g : DGraph} {k : Int} (h : k ∈ (m_s g).1) : 0 ≤ k ∧ k.toNat < g.edges.length := by
  unfold m_s at h
  cases hc : (!decide ((m_ak g) = (0 : Int)))
  · rw [hc] at h
    simp only [cond_false] at h
    obtain ⟨row, e, a⟩ := of_L1 g (List.replicate g.edges.length ([] : List Int)) 0 (List.replicate g.edges.length ([] : List Int))
    rw [e] at h
    simp only at h
    rcases of_L2 g row (by rw [a]; simp) (g.edges.length - 0 + 1) [] (by simp) with ⟨c, e2, b, _⟩ | e2
    · rw [e2] at h; exact b k h
    · rw [e2] at h; simp at h
  · rw [hc] at h; simp at h
end
end Go.Lift
namespace Go.Lift
noncomputable section
open Go Go.RowKit
set_option linter.unusedSimpArgs false
set_option linter.unusedVariables false
set_option linter.unusedSectionVars false
set_option maxRecDepth 20000
theorem splitL_ne (c : UInt8) : ∀ l : List UInt8, splitL c l ≠ []
  | [] => by simp [splitL]
  | b :: l => by
    rw [splitL]
    split
    · simp
    · cases h : splitL c l <;> simp
theorem extract_list (s : ByteArray) (f i : Nat) : (s.extract f i).data.toList = (s.data.toList.take i).drop f := by
  rw [ByteArray.data_extract, Array.toList_extract, List.extract_eq_take_drop, List.take_drop]
  by_cases h : f ≤ i
  · rw [show f + (i - f) = i by omega]
  · rw [show f + (i - f) = f by omega, List.drop_of_length_le (by simp; omega), List.drop_of_length_le (by simp; omega)]
theorem ref1_split_L1 (s : ByteArray) : ∀ (k : Nat) (out : List ByteArray) (f i : Nat), f ≤ i → i ≤ s.size → s.size + 1 - i < k →
    m_ba s 47 k out f i = Lp.brk (out ++ (match splitL 47 (s.data.toList.drop i) with | [] => [] | p :: r => toBA ((s.data.toList.take i).drop f ++ p) :: r.map toBA))
  | 0, _, _, _, _, _, h => by omega
  | k + 1, out, f, i, h1, h2, h3 => by
    have hl := data_len s
    rw [m_ba, decide_eq_true (by omega), cond_true]
    by_cases hi : i = s.size
    · subst hi
      rw [decide_eq_true rfl, Bool.true_or, cond_true]
      obtain ⟨k', rfl⟩ : ∃ k', k = k' + 1 := ⟨k - 1, by omega⟩
      rw [m_ba, decide_eq_false (by omega), cond_false, List.drop_of_length_le (by omega)]
      simp only [splitL, List.append_nil, List.map_nil]
      rw [← extract_list, toBA_toList]
    · have hlt : i < s.data.toList.length := by omega
      have hd : s.data.toList.drop i = s.data.getD i 0 :: s.data.toList.drop (i + 1) := by
        rw [List.drop_eq_getElem_cons hlt]
        congr 1
        have : i < s.data.size := by rw [← Array.length_toList]; exact hlt
        simp only [Array.getD, this, dif_pos]; simp
      have ht : s.data.toList.take (i + 1) = s.data.toList.take i ++ [s.data.getD i 0] := by
        rw [List.take_add_one, List.getElem?_eq_getElem hlt]
        have : i < s.data.size := by rw [← Array.length_toList]; exact hlt
        simp only [Array.getD, this, dif_pos]; simp
      rw [decide_eq_false (by omega), Bool.false_or, hd, splitL]
      by_cases hb : s.data.getD i 0 = 47
      · rw [if_pos hb, decide_eq_true (by rw [hb]; rfl), cond_true, ref1_split_L1 s k _ (i + 1) (i + 1) (Nat.le_refl _) (by omega) (by omega)]
        simp only [List.append_assoc, List.append_nil, List.singleton_append]
        rw [show toBA ((s.data.toList.take i).drop f) = s.extract f i from by rw [← extract_list]; rfl]
        congr 3
        cases h : splitL 47 (s.data.toList.drop (i + 1)) with
        | nil => exact absurd h (splitL_ne _ _)
        | cons p r => simp only [List.map_cons]; rw [List.drop_of_length_le (by simp; omega), List.nil_append]
      · have hn : ¬ ((s.data.getD i 0).toNat : Int) = 47 := fun h => hb (by
          apply UInt8.toNat_inj.1; show _ = 47; omega)
        rw [if_neg hb, decide_eq_false hn, cond_false, ref1_split_L1 s k out f (i + 1) (by omega) (by omega) (by omega)]
        congr 2
        cases h : splitL 47 (s.data.toList.drop (i + 1)) with
        | nil => exact absurd h (splitL_ne _ _)
        | cons p r =>
          simp only
          rw [ht, List.drop_append_of_le_length (by simp; omega), List.append_assoc]; rfl
theorem ref1_split_eq (s : ByteArray) : m_x s 47 = (splitL 47 s.data.toList).map toBA := by
  unfold m_x
  rw [ref1_split_L1 s _ [] 0 0 (Nat.le_refl _) (Nat.zero_le _) (by omega)]
  simp only [List.drop_zero, List.nil_append, List.take_zero]
  cases h : splitL 47 s.data.toList with
  | nil => exact absurd h (splitL_ne _ _)
  | cons p r => rfl
theorem ref1_Clean_L1 : ∀ (ps : List ByteArray) (i : Nat) (kept : List ByteArray), m_ar ps i kept = match foldB ps kept with
    | none => Lp.ret ((⟨#[]⟩ : ByteArray), (200 : Int))
    | some k => Lp.brk k
  | [], i, kept => rfl
  | p :: ps, i, kept => by
    rw [m_ar, foldB, stepB]
    by_cases h1 : p = ⟨#[]⟩
    · rw [decide_eq_true h1, cond_true, if_pos (Or.inl h1), ref1_Clean_L1 ps]; rfl
    · rw [decide_eq_false h1, cond_false]
      by_cases h2 : p = ⟨#[46]⟩
      · rw [decide_eq_true h2, cond_true, if_pos (Or.inr h2), ref1_Clean_L1 ps]; rfl
      · rw [decide_eq_false h2, cond_false, if_neg (by rintro (h | h); exact h1 h; exact h2 h)]
        by_cases h3 : p = ⟨#[46, 46]⟩
        · rw [decide_eq_true h3, cond_true, if_neg (fun h => h h3)]
          by_cases h4 : kept = []
          · subst h4; rfl
          · rw [decide_eq_false (by cases kept with
              | nil => exact absurd rfl h4
              | cons a b => simp only [List.length_cons]; omega), cond_false, if_neg h4, ref1_Clean_L1 ps, List.dropLast_eq_take]; rfl
        · rw [decide_eq_false h3, cond_false, if_pos h3, ref1_Clean_L1 ps]; rfl
theorem ref1_Join_L1 : ∀ (xs : List ByteArray) (i : Nat) (acc : ByteArray), 0 < i → m_br ⟨#[47]⟩ xs i acc = Lp.brk (toBA (acc.data.toList ++ Lib.joinTail [47] (xs.map (·.data.toList))))
  | [], i, acc, _ => by
    rw [m_br]; simp only [Lib.joinTail, List.map_nil, List.flatten_nil, List.append_nil]; rfl
  | x :: xs, i, acc, h => by
    rw [m_br, decide_eq_true (by omega), cond_true, ref1_Join_L1 xs (i + 1) _ (by omega)]
    congr 2
    simp [Lib.joinTail]
theorem ref1_Join_eq (k : ByteArray) (ks : List ByteArray) : m_b5 (k :: ks) ⟨#[47]⟩ = joinB (k :: ks) := by
  unfold m_b5 joinB
  rw [m_br, decide_eq_false (by omega), cond_false, ref1_Join_L1 ks 1 _ (by omega)]
  simp only [List.map_cons, Lib.join_cons]
  show toBA _ = _
  unfold toBA
  congr 2
theorem ref1_CleanPath_eq (s : ByteArray) : m_m s = cleanS s := by
  unfold m_m cleanS
  rw [ref1_NameMay_eq]
  cases hm : mayS s
  · simp
  · have hz := mayS_sz hm
    have hl := data_len s
    have hh : s.data.toList.head? = some (s.data.getD 0 0) := by
      cases hs : s.data.toList with
      | nil => rw [hs] at hl; simp at hl; omega
      | cons a b =>
        have : 0 < s.data.size := by show 0 < s.size; omega
        simp only [Array.getD, this, dif_pos, List.head?_cons]
        have e : s.data.toList[0]? = some a := by rw [hs]; rfl
        rw [Array.getElem?_toList] at e
        rw [Array.getElem?_eq_getElem this] at e
        exact e.symm
    simp only [Bool.not_true, cond_false, Bool.true_eq_false, false_or, hh]
    by_cases hb : s.data.getD 0 0 = 47
    · rw [decide_eq_true (by rw [hb]; rfl), cond_true, if_pos (by rw [hb])]
    · have hn : ¬ ((s.data.getD 0 0).toNat : Int) = 47 := fun h => hb (by
        apply UInt8.toNat_inj.1; show _ = 47; omega)
      rw [decide_eq_false hn, cond_false, if_neg (by simpa using hb), ref1_split_eq, ref1_Clean_L1]
      cases foldB ((splitL 47 s.data.toList).map toBA) [] with
      | none => rfl
      | some k =>
        cases k with
        | nil => rfl
        | cons k ks =>
          simp only
          rw [decide_eq_false (by simp only [List.length_cons]; omega), cond_false, ref1_Join_eq]
theorem ref1_PathMay_eq (s : ByteArray) : m_a8 s = isS s := by
  unfold m_a8 isS; rw [ref1_CleanPath_eq]
theorem ref1_PathsMay_eq (xs : List ByteArray) : m_bo xs = allS ⟨false, xs⟩ := by
  unfold m_bo allS
  rw [lp_all (p := isS) (L := m_ch) (fun _ => rfl) (fun x r i => by rw [m_ch, ref1_PathMay_eq]) xs 0]
  cases xs.all isS <;> simp
theorem ref1_Plain_L1_eq (l : List UInt8) (i : Nat) : m_bp l i = if l.all plainB then Lp.brk () else Lp.ret false :=
  lp_all (p := plainB) (L := m_bp) (fun _ => rfl) (fun x r i => by
    rw [m_bp]
    have e : plainB x = (!decide ((x.toNat : Int) < 32) && !decide ((126 : Int) < (x.toNat : Int))) := by
      unfold plainB
      congr 1
      · rw [← decide_not]; congr 1; apply propext; omega
      · rw [← decide_not]; congr 1; apply propext; omega
    rw [e]
    cases decide ((x.toNat : Int) < 32) <;> cases decide ((126 : Int) < (x.toNat : Int)) <;> rfl) l i
theorem ref1_command_eq (s : ByteArray) : m_a4 s 1 256 = commandS s := by
  unfold m_a4 commandS plainS
  rw [ref1_Plain_L1_eq]
  have e : decide ((1 : Int) ≤ ((s.size : Nat) : Int)) = !decide (s = ⟨#[]⟩) := by
    rw [← decide_not]; congr 1; apply propext
    constructor
    · rintro h rfl; exact absurd h (by decide)
    · intro h
      have : s.size ≠ 0 := fun h0 => h (by
        apply ba_ext
        have := data_len s
        rw [h0] at this
        rw [List.length_eq_zero_iff.1 this])
      omega
  cases s.data.toList.all plainB
  · simp
  · simp only [if_true, e, Bool.true_and]
theorem ref1_EdgeMay_eq (e : DEdge) : m_ref1_EdgeMay e = edgeS (eOf e) := by
  unfold m_ref1_EdgeMay edgeS eOf
  simp only [ref1_PathsMay_eq, ref1_command_eq, ref1_NameMay_eq, List.all_cons, List.all_nil, Bool.and_true]
  have h : decide ((0 : Int) < ((e.outs.length : Nat) : Int)) = decide (((e.outs.length : Nat) : Int) > 0) := rfl
  rw [h]
  generalize decide (((e.outs.length : Nat) : Int) > 0) = a
  generalize allS ⟨false, e.outs⟩ = b
  generalize allS ⟨false, e.ins⟩ = c
  generalize allS ⟨false, e.implicit⟩ = d
  generalize allS ⟨false, e.order⟩ = f
  cases a <;> cases b <;> cases c <;> cases d <;> cases f <;> simp
theorem lp_idx {α : Type} {p : α → Bool} {L : List α → Nat → Lp Int Unit} (h0 : ∀ i, L [] i = Lp.brk ()) (h1 : ∀ x r i, L (x :: r) i = bif p x then Lp.ret ((i : Nat) : Int) else L r (i + 1)) : ∀ (l : List α) (i : Nat), L l i = match l.findIdx? p with
    | some j => Lp.ret (((i + j : Nat)) : Int)
    | none => Lp.brk ()
  | [], i => by rw [h0]; rfl
  | x :: r, i => by
    rw [h1, lp_idx h0 h1 r (i + 1), List.findIdx?_cons]
    cases p x
    · simp only [cond_false, Bool.false_eq_true, if_false]
      cases r.findIdx? p with
      | none => rfl
      | some j => simp only [Option.map_some]; congr 2; omega
    · rfl
theorem idxS_map {α β : Type} (f : α → β) (p : β → Bool) (q : α → Bool) (h : ∀ x, p (f x) = q x) (xs : List α) : idxS p (xs.map f) = idxS q xs := by
  unfold idxS
  rw [List.findIdx?_map]
  have : p ∘ f = q := funext h
  rw [this]
theorem ref1_poolAt_eq (g : DGraph) (name : ByteArray) : m_ref1_poolAt g.pools name = poolAt (gOf g) name := by
  unfold m_ref1_poolAt poolAt
  rw [lp_idx (p := fun p : DPool => decide (p.name = name)) (L := m_ref1_poolAt_L1 name) (fun _ => rfl) (fun x r i => by rw [m_ref1_poolAt_L1]) g.pools 0]
  rw [show (gOf g).pools = g.pools.map pOf from rfl, idxS_map pOf _ (fun p => decide (p.name = name)) (fun x => rfl)]
  unfold idxS
  cases g.pools.findIdx? (fun p => decide (p.name = name)) with
  | none => rfl
  | some j => simp
theorem allIdx_map {α β : Type} (f : α → β) (p : Nat → β → Bool) (q : Nat → α → Bool) (h : ∀ i x, p i (f x) = q i x) : ∀ (i : Nat) (xs : List α), allIdx p i (xs.map f) = allIdx q i xs
  | _, [] => rfl
  | i, x :: xs => by simp only [List.map_cons, allIdx, h, allIdx_map f p q h (i + 1) xs]
theorem lp_allIdx {α : Type} {p : Nat → α → Bool} {L : List α → Nat → Lp Bool Unit} (h0 : ∀ i, L [] i = Lp.brk ()) (h1 : ∀ x r i, L (x :: r) i = bif !(p i x) then Lp.ret false else L r (i + 1)) : ∀ (l : List α) (i : Nat), L l i = if allIdx p i l then Lp.brk () else Lp.ret false
  | [], i => by rw [h0]; rfl
  | x :: r, i => by
    rw [h1, lp_allIdx h0 h1 r (i + 1), allIdx]
    cases p i x <;> simp
def poolOkD (g : DGraph) (k : Nat) (p : DPool) : Bool := poolOk (gOf g) k (pOf p)
theorem ref1_GraphMay_L1_eq (g : DGraph) (l : List DPool) (i : Nat) : m_ca g l i = if allIdx (poolOkD g) i l then Lp.brk () else Lp.ret false :=
  lp_allIdx (p := poolOkD g) (L := m_ca g) (fun _ => rfl) (fun x r i => by
    rw [m_ca, ref1_NameMay_eq, ref1_poolAt_eq]
    have e : poolOkD g i x = (mayS x.name && !decide (x.depth < 1) && !decide ((8 : Int) < x.depth) && decide (poolAt (gOf g) x.name = ((i : Nat) : Int))) := rfl
    rw [e]
    cases mayS x.name <;> cases decide (x.depth < 1) <;> cases decide ((8 : Int) < x.depth) <;> cases decide (poolAt (gOf g) x.name = ((i : Nat) : Int)) <;> rfl) l i
theorem ref1_GraphMay_L2_eq (g : DGraph) (l : List DEdge) (i : Nat) : m_b4 g l i = if l.all (fun e => edgeIn (gOf g) (eOf e)) then Lp.brk () else Lp.ret false :=
  lp_all (p := fun e => edgeIn (gOf g) (eOf e)) (L := m_b4 g) (fun _ => rfl) (fun x r i => by
    rw [m_b4, ref1_EdgeMay_eq, ref1_poolAt_eq]
    have e : edgeIn (gOf g) (eOf x) = (edgeS (eOf x) && (decide (x.pool = (⟨#[]⟩ : ByteArray)) || !decide (poolAt (gOf g) x.pool < 0))) := rfl
    rw [e]
    cases edgeS (eOf x) <;> cases decide (x.pool = (⟨#[]⟩ : ByteArray)) <;> cases decide (poolAt (gOf g) x.pool < 0) <;> rfl) l i
theorem ref1_GraphMay_eq (g : DGraph) : m_ref1_GraphMay g = m_cj g := by
  unfold m_ref1_GraphMay m_cj mayG poolsS
  rw [ref1_GraphMay_L1_eq, ref1_GraphMay_L2_eq, ref1_PathsMay_eq]
  rw [show (gOf g).edges = g.edges.map eOf from rfl, show (gOf g).pools = g.pools.map pOf from rfl, List.all_map, List.length_map, List.length_map, allIdx_map pOf _ (poolOkD g) (fun _ _ => rfl)]
  rw [show (gOf g).defaults = ⟨false, g.defaults⟩ from rfl]
  rw [show (edgeIn (gOf g) ∘ eOf) = (fun e => edgeIn (gOf g) (eOf e)) from rfl]
  cases allIdx (poolOkD g) 0 g.pools <;> cases g.edges.all (fun e => edgeIn (gOf g) (eOf e)) <;> simp
  cases decide (((g.pools.length : Nat) : Int) ≤ 4) <;> cases decide (((g.edges.length : Nat) : Int) ≤ 16) <;> simp
theorem ref1_has_eq (xs : List ByteArray) (x : ByteArray) : (x ∈ xs → m_ref1_has xs x = true) ∧ (x ∉ xs → m_ref1_has xs x = false) := by
  have h : ∀ (l : List ByteArray) (i : Nat), (x ∈ l → m_ref1_has_L1 x l i = Lp.ret true) ∧ (x ∉ l → m_ref1_has_L1 x l i = Lp.brk ()) := by
    intro l; induction l with
    | nil => intro i; exact ⟨fun h => by simp at h, fun _ => rfl⟩
    | cons y l ih =>
      intro i
      rw [m_ref1_has_L1]
      by_cases hy : y = x
      · subst hy; rw [decide_eq_true rfl, cond_true]; exact ⟨fun _ => rfl, fun h => absurd (List.mem_cons_self) h⟩
      · rw [decide_eq_false hy, cond_false]
        refine ⟨fun h => (ih (i + 1)).1 ?_, fun h => (ih (i + 1)).2 fun h2 => h (List.mem_cons_of_mem _ h2)⟩
        rcases List.mem_cons.1 h with h | h
        · exact absurd h.symm hy
        · exact h
  unfold m_ref1_has
  exact ⟨fun hx => by rw [(h xs 0).1 hx], fun hx => by rw [(h xs 0).2 hx]⟩
theorem ref1_Check_L2_eq : ∀ (l : List ByteArray) (k : Nat) (acc : List ByteArray), acc.Nodup → m_ref1_Check_L2 l k acc = if (acc ++ l).Nodup then Lp.brk (acc ++ l) else Lp.ret 901
  | [], k, acc, h => by rw [List.append_nil, if_pos h]; rfl
  | x :: l, k, acc, h => by
    rw [m_ref1_Check_L2]
    by_cases hx : x ∈ acc
    · rw [(ref1_has_eq acc x).1 hx, cond_true, if_neg]
      intro hn
      rw [List.nodup_append] at hn
      exact hn.2.2 x hx x (by simp) rfl
    · rw [(ref1_has_eq acc x).2 hx, cond_false, ref1_Check_L2_eq l (k + 1) (acc ++ [x]) (by
        rw [List.nodup_append]
        exact ⟨h, by simp, fun a ha b hb => by simp only [List.mem_singleton] at hb; subst hb; rintro rfl; exact hx ha⟩), List.append_assoc, List.singleton_append]
theorem ref1_Check_L1_eq : ∀ (es : List DEdge) (i : Nat) (acc : List ByteArray), acc.Nodup → m_ref1_Check_L1 es i acc = if (acc ++ es.flatMap (·.outs)).Nodup then Lp.brk () else Lp.ret 901
  | [], i, acc, h => by rw [List.flatMap_nil, List.append_nil, if_pos h]; rfl
  | e :: es, i, acc, h => by
    rw [m_ref1_Check_L1, ref1_Check_L2_eq _ _ _ h, List.flatMap_cons, ← List.append_assoc]
    by_cases hn : (acc ++ e.outs).Nodup
    · rw [if_pos hn]
      simp only
      rw [ref1_Check_L1_eq es (i + 1) _ hn]
    · rw [if_neg hn]
      simp only
      rw [if_neg]
      intro h2
      rw [List.nodup_append] at h2
      exact hn h2.1
theorem ref1_Check_eq (g : DGraph) : m_ref1_Check g = m_ak g := by
  unfold m_ref1_Check m_ak checkS
  rw [ref1_GraphMay_eq]
  show _ = if m_cj g = false then _ else _
  cases m_cj g
  · rfl
  · rw [ref1_Check_L1_eq _ _ _ List.nodup_nil, List.nil_append]
    have e : outsOf (gOf g).edges = g.edges.flatMap (·.outs) := by
      unfold outsOf
      rw [show (gOf g).edges = g.edges.map eOf from rfl, List.flatMap_map]; rfl
    rw [e]
    have hd := hasDup_iff ((g.edges.flatMap (·.outs)).map fun x => x.data.toList)
    have hn : ((g.edges.flatMap (·.outs)).map fun x => x.data.toList).Nodup ↔ (g.edges.flatMap (·.outs)).Nodup := by
      constructor
      · intro h; exact List.Pairwise.of_map (fun x : ByteArray => x.data.toList) (fun a b hh hab => hh (by rw [hab])) h
      · intro h; exact List.Pairwise.map _ (fun a b hab hh => hab (ba_ext hh)) h
    by_cases h : (g.edges.flatMap (·.outs)).Nodup
    · rw [if_pos h]
      have : hasDup ((g.edges.flatMap (·.outs)).map fun x => x.data.toList) = false := by
        cases hh : hasDup ((g.edges.flatMap (·.outs)).map fun x => x.data.toList)
        · rfl
        · exact absurd (hn.2 h) (hd.1 hh)
      rw [this]; rfl
    · rw [if_neg h]
      have : hasDup ((g.edges.flatMap (·.outs)).map fun x => x.data.toList) = true := hd.2 (fun hh => h (hn.1 hh))
      rw [this]; rfl
end
end Go.Lift
namespace Go.Lift
noncomputable section
open Go Go.RowKit
set_option linter.unusedSimpArgs false
set_option linter.unusedVariables false
set_option linter.unusedSectionVars false
set_option maxRecDepth 20000
def mkD (g : DGraph) (n : ByteArray) : Int := idxS (fun e => Lib.containsS e.outs n) g.edges
theorem check_nodup {g : DGraph} (h : m_ak g = 0) : (g.edges.flatMap (·.outs)).Nodup := by
  rw [← ref1_Check_eq] at h
  unfold m_ref1_Check at h
  cases hm : m_ref1_GraphMay g
  · rw [hm] at h; simp at h
  · rw [hm, ref1_Check_L1_eq _ _ _ List.nodup_nil, List.nil_append] at h
    by_cases hn : (g.edges.flatMap (·.outs)).Nodup
    · exact hn
    · rw [if_neg hn] at h; simp at h
theorem idx_unique (x : ByteArray) : ∀ (es : List DEdge) (i : Nat) (e : DEdge), (es.flatMap (·.outs)).Nodup → es[i]? = some e → x ∈ e.outs → es.findIdx? (fun e => Lib.containsS e.outs x) = some i
  | [], i, e, _, he, _ => by simp at he
  | e0 :: r, 0, e, _, he, hx => by
    simp only [List.getElem?_cons_zero, Option.some.injEq] at he
    subst he
    rw [List.findIdx?_cons, (Lib.containsS_iff _ _).2 hx]; rfl
  | e0 :: r, i + 1, e, hn, he, hx => by
    simp only [List.getElem?_cons_succ] at he
    rw [List.flatMap_cons, List.nodup_append] at hn
    have h0 : Lib.containsS e0.outs x = false := by
      cases hc : Lib.containsS e0.outs x
      · rfl
      · exact absurd rfl (hn.2.2 x ((Lib.containsS_iff _ _).1 hc) x (List.mem_flatMap.2 ⟨e, List.mem_of_getElem? he, hx⟩))
    rw [List.findIdx?_cons, h0, idx_unique x r i e hn.2.1 he hx]; rfl
theorem mkD_at {g : DGraph} (hn : (g.edges.flatMap (·.outs)).Nodup) {i : Nat} {e : DEdge} (he : g.edges[i]? = some e) {x : ByteArray} (hx : x ∈ e.outs) : mkD g x = i := by
  unfold mkD idxS
  rw [idx_unique x g.edges i e hn he hx]
theorem mkD_in (g : DGraph) (x : ByteArray) : mkD g x = -1 ∨ ∃ i e, mkD g x = ((i : Nat) : Int) ∧ g.edges[i]? = some e ∧ x ∈ e.outs := by
  unfold mkD idxS
  cases h : g.edges.findIdx? (fun e => Lib.containsS e.outs x) with
  | none => exact Or.inl rfl
  | some i =>
    obtain ⟨hi, h2, _⟩ := List.findIdx?_eq_some_iff_getElem.1 h
    exact Or.inr ⟨i, g.edges[i], rfl, List.getElem?_eq_getElem hi, (Lib.containsS_iff _ _).1 h2⟩
end
end Go.Lift
namespace Go.Lift
noncomputable section
open Go Go.RowKit
set_option linter.unusedSimpArgs false
set_option linter.unusedVariables false
set_option linter.unusedSectionVars false
set_option maxRecDepth 20000
theorem check_form (g : DGraph) : m_ak g = if m_cj g = false then 900 else if (g.edges.flatMap (·.outs)).Nodup then 0 else 901 := by
  rw [← ref1_Check_eq]
  unfold m_ref1_Check
  rw [ref1_GraphMay_eq]
  cases m_cj g
  · rfl
  · rw [ref1_Check_L1_eq _ _ _ List.nodup_nil, List.nil_append]
    by_cases h : (g.edges.flatMap (·.outs)).Nodup
    · rw [if_pos h, if_pos h]; rfl
    · rw [if_neg h, if_neg h]; rfl
end
end Go.Lift
namespace Go.Lift
noncomputable section
open Go Go.RowKit
set_option linter.unusedSimpArgs false
set_option linter.unusedVariables false
set_option linter.unusedSectionVars false
set_option maxRecDepth 20000
theorem idx_val {α : Type} {p : α → Bool} {L : List α → Nat → Lp Int Unit} (h0 : ∀ i, L [] i = Lp.brk ()) (h1 : ∀ x r i, L (x :: r) i = bif p x then Lp.ret ((i : Nat) : Int) else L r (i + 1)) (l : List α) :
    (match L l 0 with | Lp.ret r => r | Lp.brk () => (-1 : Int)) = idxS p l := by
  rw [lp_idx h0 h1 l 0]; unfold idxS
  cases l.findIdx? p with
  | none => rfl
  | some j => simp
theorem idxS_nonneg {α : Type} (p : α → Bool) (l : List α) : decide ((0 : Int) ≤ idxS p l) = l.any p := by
  unfold idxS
  cases h : l.findIdx? p with
  | none =>
    have := List.findIdx?_eq_none_iff.1 h
    rw [show l.any p = false from by simpa using this]; rfl
  | some j =>
    obtain ⟨hj, h2, _⟩ := List.findIdx?_eq_some_iff_getElem.1 h
    rw [List.any_eq_true.2 ⟨l[j], List.getElem_mem hj, h2⟩]
    simp
theorem contains_str (xs : List ByteArray) (v : ByteArray) : m_ab xs v = Lib.containsS xs v := by
  unfold m_ab m_9
  refine (congrArg (fun z => decide ((0 : Int) ≤ z)) (idx_val (p := fun y => decide (v = y)) (fun _ => rfl) (fun _ _ _ => rfl) xs)).trans ?_
  rw [idxS_nonneg]
  cases hc : Lib.containsS xs v
  · rw [List.any_eq_false]
    intro y hy e
    have : v = y := by simpa using e
    subst this
    rw [(Lib.containsS_iff _ _).2 hy] at hc; cases hc
  · exact List.any_eq_true.2 ⟨v, (Lib.containsS_iff _ _).1 hc, by simp⟩
theorem contains_int (xs : List Int) (v : Int) : m_4 xs v = xs.contains v := by
  unfold m_4 m_aq
  refine (congrArg (fun z => decide ((0 : Int) ≤ z)) (idx_val (p := fun y => decide (v = y)) (fun _ => rfl) (fun _ _ _ => rfl) xs)).trans ?_
  rw [idxS_nonneg]
  rw [Bool.eq_iff_iff]; simp
theorem containsFunc_int (xs : List Int) (f : Int → Bool) : m_0 xs f = xs.any f := by
  unfold m_0 m_ad
  exact (congrArg (fun z => decide ((0 : Int) ≤ z)) (idx_val (p := f) (fun _ => rfl) (fun _ _ _ => rfl) xs)).trans (idxS_nonneg _ _)
theorem makes_mkD (g : DGraph) (x : ByteArray) : m_g g x = mkD g x := by
  unfold m_g m_v mkD
  refine (idx_val (p := fun e => m_bn e x) (fun _ => rfl) (fun _ _ _ => rfl) g.edges).trans ?_
  congr 1; funext e; exact contains_str e.outs x
theorem has_str (xs : List ByteArray) (x : ByteArray) : m_ref1_has xs x = Lib.containsS xs x := by
  cases hc : Lib.containsS xs x
  · exact (ref1_has_eq xs x).2 fun h => by rw [(Lib.containsS_iff _ _).2 h] at hc; cases hc
  · exact (ref1_has_eq xs x).1 ((Lib.containsS_iff _ _).1 hc)
theorem makerOf_mkD (g : DGraph) (x : ByteArray) : m_b7 g x = mkD g x := by
  unfold m_b7 mkD
  refine (idx_val (p := fun e => m_ref1_has e.outs x) (fun _ => rfl) (fun _ _ _ => rfl) g.edges).trans ?_
  congr 1; funext e; exact has_str e.outs x
def inputs (g : DGraph) (e : Int) : List ByteArray := (g.edges.getD e.toNat default).ins ++ ((g.edges.getD e.toNat default).implicit ++ (g.edges.getD e.toNat default).order)
theorem needs_L1_iff (g : DGraph) : ∀ (xs : List ByteArray) (i : Nat) (out : List Int), ∃ out', m_bj g xs i out = Lp.brk out' ∧ ∀ k, k ∈ out' ↔ k ∈ out ∨ (0 ≤ k ∧ ∃ x ∈ xs, mkD g x = k)
  | [], i, out => ⟨out, rfl, fun k => by simp⟩
  | x :: xs, i, out => by
    rw [m_bj, makes_mkD, contains_int]
    by_cases h1 : 0 ≤ mkD g x
    · by_cases h2 : mkD g x ∈ out
      · obtain ⟨o, e1, e2⟩ := needs_L1_iff g xs (i + 1) out
        refine ⟨o, by simp [h1, h2, e1], fun k => ?_⟩
        rw [e2]
        constructor
        · rintro (h | ⟨h, y, hy, e⟩)
          · exact Or.inl h
          · exact Or.inr ⟨h, y, by simp [hy], e⟩
        · rintro (h | ⟨h, y, hy, e⟩)
          · exact Or.inl h
          · rcases List.mem_cons.1 hy with rfl | hy
            · subst e; exact Or.inl h2
            · exact Or.inr ⟨h, y, hy, e⟩
      · obtain ⟨o, e1, e2⟩ := needs_L1_iff g xs (i + 1) (out ++ [mkD g x])
        refine ⟨o, by simp [h1, h2, e1], fun k => ?_⟩
        rw [e2, List.mem_append, List.mem_singleton]
        constructor
        · rintro ((h | h) | ⟨h, y, hy, e⟩)
          · exact Or.inl h
          · subst h; exact Or.inr ⟨h1, x, by simp, rfl⟩
          · exact Or.inr ⟨h, y, by simp [hy], e⟩
        · rintro (h | ⟨h, y, hy, e⟩)
          · exact Or.inl (Or.inl h)
          · rcases List.mem_cons.1 hy with rfl | hy
            · exact Or.inl (Or.inr e.symm)
            · exact Or.inr ⟨h, y, hy, e⟩
    · obtain ⟨o, e1, e2⟩ := needs_L1_iff g xs (i + 1) out
      refine ⟨o, by simp [h1, e1], fun k => ?_⟩
      rw [e2]
      constructor
      · rintro (h | ⟨h, y, hy, e⟩)
        · exact Or.inl h
        · exact Or.inr ⟨h, y, by simp [hy], e⟩
      · rintro (h | ⟨h, y, hy, e⟩)
        · exact Or.inl h
        · rcases List.mem_cons.1 hy with rfl | hy
          · omega
          · exact Or.inr ⟨h, y, hy, e⟩
theorem needs_iff (g : DGraph) (e k : Int) : k ∈ m_am g e ↔ 0 ≤ k ∧ ∃ x ∈ inputs g e, mkD g x = k := by
  unfold m_am
  rw [concat_eq]
  obtain ⟨o, e1, e2⟩ := needs_L1_iff g ([(g.edges.getD e.toNat default).ins, (g.edges.getD e.toNat default).implicit, (g.edges.getD e.toNat default).order].flatten) 0 []
  rw [e1]
  show k ∈ o ↔ _
  rw [e2]
  simp [inputs]
theorem rneeds_L1_iff (g : DGraph) : ∀ (xs : List ByteArray) (i : Nat) (out : List Int), ∃ out', m_ci g xs i out = Lp.brk out' ∧ ∀ k, k ∈ out' ↔ k ∈ out ∨ (0 ≤ k ∧ ∃ x ∈ xs, mkD g x = k)
  | [], i, out => ⟨out, rfl, fun k => by simp⟩
  | x :: xs, i, out => by
    rw [m_ci, makerOf_mkD]
    by_cases h1 : 0 ≤ mkD g x
    · obtain ⟨o, e1, e2⟩ := rneeds_L1_iff g xs (i + 1) (out ++ [mkD g x])
      refine ⟨o, by simp [h1, e1], fun k => ?_⟩
      rw [e2, List.mem_append, List.mem_singleton]
      constructor
      · rintro ((h | h) | ⟨h, y, hy, e⟩)
        · exact Or.inl h
        · subst h; exact Or.inr ⟨h1, x, by simp, rfl⟩
        · exact Or.inr ⟨h, y, by simp [hy], e⟩
      · rintro (h | ⟨h, y, hy, e⟩)
        · exact Or.inl (Or.inl h)
        · rcases List.mem_cons.1 hy with rfl | hy
          · exact Or.inl (Or.inr e.symm)
          · exact Or.inr ⟨h, y, hy, e⟩
    · obtain ⟨o, e1, e2⟩ := rneeds_L1_iff g xs (i + 1) out
      refine ⟨o, by simp [h1, e1], fun k => ?_⟩
      rw [e2]
      constructor
      · rintro (h | ⟨h, y, hy, e⟩)
        · exact Or.inl h
        · exact Or.inr ⟨h, y, by simp [hy], e⟩
      · rintro (h | ⟨h, y, hy, e⟩)
        · exact Or.inl h
        · rcases List.mem_cons.1 hy with rfl | hy
          · omega
          · exact Or.inr ⟨h, y, hy, e⟩
theorem rneeds_iff (g : DGraph) (e k : Int) : k ∈ m_cf g e ↔ 0 ≤ k ∧ ∃ x ∈ inputs g e, mkD g x = k := by
  unfold m_cf
  obtain ⟨o, e1, e2⟩ := rneeds_L1_iff g (((g.edges.getD e.toNat default).ins ++ (g.edges.getD e.toNat default).implicit) ++ (g.edges.getD e.toNat default).order) 0 []
  rw [e1]
  show k ∈ o ↔ _
  rw [e2]
  simp [inputs]
theorem needs_same (g : DGraph) (e k : Int) : k ∈ m_am g e ↔ k ∈ m_cf g e := by rw [needs_iff, rneeds_iff]
theorem mkD_lt (g : DGraph) (x : ByteArray) : mkD g x < (g.edges.length : Int) := by
  rcases mkD_in g x with h | ⟨i, e, h, he, _⟩
  · rw [h]; omega
  · rw [h]; have := (List.getElem?_eq_some_iff.1 he).1; omega
theorem rneeds_mem {g : DGraph} {e k : Int} (h : k ∈ m_cf g e) : 0 ≤ k ∧ k.toNat < g.edges.length := by
  obtain ⟨h0, x, _, e1⟩ := (rneeds_iff g e k).1 h
  have := mkD_lt g x
  omega
def freeP (g : DGraph) (out : List Int) (i : Nat) : Bool := !(out.contains ((i : Nat) : Int)) && (m_am g ((i : Nat) : Int)).all fun k => out.contains k
def nextP (g : DGraph) (out : List Int) : Option Nat := (List.range g.edges.length).find? (freeP g out)
def ordF (g : DGraph) : Nat → List Int → Option (List Int)
  | 0, out => some out
  | f + 1, out => match nextP g out with
    | some i => ordF g f (out ++ [((i : Nat) : Int)])
    | none => none
theorem of_L3_eq (g : DGraph) (c : List Int) : ∀ (l i : Nat), m_by ((List.range' i l).map fun i => m_am g ((i : Nat) : Int)) i c = match (List.range' i l).find? (freeP g c) with
    | some j => Lp.brk (true, c ++ [((j : Nat) : Int)])
    | none => Lp.brk (false, c)
  | 0, i => rfl
  | l + 1, i => by
    rw [List.range'_succ, List.map_cons, m_by, of_L3_eq g c l (i + 1), List.find?_cons]
    have e : (!(m_ax ((i : Nat) : Int) c) && !(m_0 (m_am g ((i : Nat) : Int)) (fun z0 => m_bu z0 (fun z0 => m_ax z0 c)))) = freeP g c i := by
      unfold freeP m_ax m_bu
      rw [containsFunc_int]
      simp only [contains_int]
      congr 1
      rw [Bool.eq_iff_iff]; simp
    rw [← e]
    cases (!(m_ax ((i : Nat) : Int) c)) <;> cases (!(m_0 (m_am g ((i : Nat) : Int)) (fun z0 => m_bu z0 (fun z0 => m_ax z0 c)))) <;> rfl
theorem of_L1_eq (g : DGraph) : ∀ (xs : List (List Int)) (i : Nat) (row : List (List Int)), i + xs.length ≤ row.length → ∃ row', m_bx g xs i row = Lp.brk row' ∧ row'.length = row.length ∧ ∀ j, row'[j]? = if i ≤ j ∧ j < i + xs.length then some (m_am g ((j : Nat) : Int)) else row[j]?
  | [], i, row, h => ⟨row, rfl, rfl, fun j => by rw [if_neg (by simp)]⟩
  | x :: xs, i, row, h => by
    simp only [List.length_cons] at h
    obtain ⟨r, e1, e2, e3⟩ := of_L1_eq g xs (i + 1) (row.set i (m_am g ((i : Nat) : Int))) (by simp; omega)
    refine ⟨r, by rw [m_bx]; exact e1, by simpa using e2, fun j => ?_⟩
    rw [e3, List.getElem?_set, List.length_cons]
    by_cases h1 : i = j
    · subst h1; rw [if_neg (by omega), if_pos rfl]
      have : i < row.length := by omega
      simp [this]
    · rw [if_neg h1]
      by_cases h2 : i + 1 ≤ j ∧ j < i + 1 + xs.length
      · rw [if_pos h2, if_pos (by omega)]
      · rw [if_neg h2, if_neg (by omega)]
theorem of_rows (g : DGraph) : m_bx g (List.replicate g.edges.length ([] : List Int)) 0 (List.replicate g.edges.length ([] : List Int)) = Lp.brk ((List.range' 0 g.edges.length).map fun i => m_am g ((i : Nat) : Int)) := by
  obtain ⟨r, e1, e2, e3⟩ := of_L1_eq g (List.replicate g.edges.length ([] : List Int)) 0 (List.replicate g.edges.length ([] : List Int)) (by simp)
  rw [e1]; congr 1
  apply List.ext_getElem?
  intro j
  rw [e3, List.getElem?_map]
  simp only [List.length_replicate] at e2 ⊢
  by_cases h : j < g.edges.length
  · rw [if_pos ⟨Nat.zero_le _, by omega⟩, List.getElem?_range' h]; simp
  · rw [if_neg (by omega), List.getElem?_eq_none (by simp; omega), List.getElem?_eq_none (by simp; omega)]; rfl
theorem of_L2_eq (g : DGraph) : ∀ (f : Nat) (c : List Int), c.length ≤ g.edges.length → g.edges.length - c.length < f → m_b1 g ((List.range' 0 g.edges.length).map fun i => m_am g ((i : Nat) : Int)) f c = match ordF g (g.edges.length - c.length) c with
    | some o => Lp.brk o
    | none => Lp.ret (([] : List Int), (1001 : Int))
  | 0, c, h1, h2 => by omega
  | f + 1, c, h1, h2 => by
    rw [m_b1]
    by_cases h : c.length < g.edges.length
    · rw [decide_eq_true (by omega), cond_true, of_L3_eq, ← List.range_eq_range']
      rw [show g.edges.length - c.length = (g.edges.length - (c.length + 1)) + 1 by omega, ordF]
      show (match (match nextP g c with | some j => Lp.brk (true, c ++ [((j : Nat) : Int)]) | none => Lp.brk (false, c) : Lp (List Int × Int) (Bool × List Int)) with | Lp.ret r => Lp.ret r | Lp.brk (t', c') => _) = _
      cases hn : nextP g c with
      | none => rfl
      | some j =>
        simp only [cond_true]
        have := of_L2_eq g f (c ++ [((j : Nat) : Int)]) (by simp; omega) (by simp; omega)
        rw [List.length_append, List.length_singleton, ← List.range_eq_range'] at this
        exact this
    · rw [decide_eq_false (by omega), cond_false, show g.edges.length - c.length = 0 by omega]; rfl
theorem of_eq (g : DGraph) : m_s g = if m_ak g = 0 then (match ordF g g.edges.length [] with | some o => (o, (0 : Int)) | none => (([] : List Int), (1001 : Int))) else (([] : List Int), (1000 : Int)) := by
  unfold m_s
  by_cases h : m_ak g = 0
  · rw [if_pos h, decide_eq_true h]
    simp only [Bool.not_true, cond_false]
    rw [of_rows]
    simp only []
    rw [of_L2_eq g _ [] (Nat.zero_le _) (by simp)]
    simp only [List.length_nil, Nat.sub_zero]
    cases ordF g g.edges.length [] <;> rfl
  · rw [if_neg h, decide_eq_false h]; rfl
inductive Steps (g : DGraph) : List Int → Prop
  | nil : Steps g []
  | snoc {out : List Int} {i : Nat} (h : Steps g out) (hn : nextP g out = some i) : Steps g (out ++ [((i : Nat) : Int)])
theorem ordF_steps (g : DGraph) : ∀ (f : Nat) (out o : List Int), Steps g out → ordF g f out = some o → Steps g o ∧ o.length = out.length + f ∧ ∃ r, o = out ++ r
  | 0, out, o, h, e => by simp only [ordF, Option.some.injEq] at e; subst e; exact ⟨h, rfl, [], by simp⟩
  | f + 1, out, o, h, e => by
    simp only [ordF] at e
    split at e
    · rename_i i hi
      obtain ⟨h1, h2, r, h3⟩ := ordF_steps g f _ o (h.snoc hi) e
      exact ⟨h1, by rw [h2]; simp; omega, [((i : Nat) : Int)] ++ r, by rw [h3]; simp⟩
    · cases e
theorem of_steps {g : DGraph} (h : (m_s g).2 = 0) : Steps g (m_s g).1 ∧ (m_s g).1.length = g.edges.length ∧ m_ak g = 0 := by
  rw [of_eq] at h ⊢
  split at h <;> rename_i hc
  · rw [if_pos hc]
    cases ho : ordF g g.edges.length [] with
    | none => rw [ho] at h; simp at h
    | some o =>
      obtain ⟨h1, h2, _⟩ := ordF_steps g _ _ _ .nil ho
      exact ⟨h1, by simpa using h2, hc⟩
  · simp at h
theorem nextP_spec {g : DGraph} {out : List Int} {i : Nat} (h : nextP g out = some i) : i < g.edges.length ∧ freeP g out i = true ∧ ∀ k, k < i → freeP g out k = false := by
  unfold nextP at h
  have h1 := List.mem_of_find?_eq_some h
  refine ⟨by simpa using h1, List.find?_some h, fun k hk => ?_⟩
  have := List.find?_range_eq_some.1 h
  simpa using this.2.2 k hk
theorem steps_take {g : DGraph} {o : List Int} (h : Steps g o) : ∀ (k : Nat) (x : Int), o[k]? = some x → ∃ i : Nat, x = ((i : Nat) : Int) ∧ Steps g (o.take k) ∧ nextP g (o.take k) = some i := by
  induction h with
  | nil => intro k x hx; simp at hx
  | @snoc out i h hn ih =>
    intro k x hx
    rcases Nat.lt_trichotomy k out.length with q | q | q
    · rw [List.getElem?_append_left q] at hx
      obtain ⟨j, h1, h2, h3⟩ := ih k x hx
      rw [List.take_append_of_le_length (Nat.le_of_lt q)]
      exact ⟨j, h1, h2, h3⟩
    · subst q
      rw [List.getElem?_append_right (Nat.le_refl _), Nat.sub_self] at hx
      simp at hx; subst hx
      exact ⟨i, rfl, by simpa using h, by simpa using hn⟩
    · rw [List.getElem?_eq_none (by simp; omega)] at hx; cases hx
end
end Go.Lift
namespace Go.Lift
noncomputable section
open Go Go.RowKit
set_option linter.unusedSimpArgs false
set_option linter.unusedVariables false
set_option linter.unusedSectionVars false
set_option maxRecDepth 20000
end
end Go.Lift
namespace Go.Lift
noncomputable section
open Go Go.RowKit
set_option linter.unusedSimpArgs false
set_option linter.unusedVariables false
set_option linter.unusedSectionVars false
set_option maxRecDepth 20000
def flR (n : Nat) (out : List Int) : List Bool := (List.range n).map fun k => out.contains ((k : Nat) : Int)
theorem flR_get {n k : Nat} (out : List Int) (h : k < n) : (flR n out).getD k default = out.contains ((k : Nat) : Int) := by
  unfold flR
  rw [List.getD_eq_getElem?_getD, List.getElem?_map, List.getElem?_range h]; rfl
theorem flR_nil (n : Nat) : flR n [] = List.replicate n false := by
  apply List.ext_getElem?
  intro i
  unfold flR
  rw [List.getElem?_map, List.getElem?_replicate]
  by_cases h : i < n
  · rw [List.getElem?_range h, if_pos h]; rfl
  · rw [List.getElem?_eq_none (by simp; omega), if_neg h]; rfl
theorem flR_set {n i : Nat} (out : List Int) (h : i < n) : (flR n out).set i true = flR n (out ++ [((i : Nat) : Int)]) := by
  apply List.ext_getElem?
  intro k
  unfold flR
  rw [List.getElem?_set, List.getElem?_map, List.getElem?_map]
  by_cases hk : k < n
  · rw [List.getElem?_range hk]
    simp only [List.length_map, List.length_range, Option.map_some]
    by_cases e : i = k
    · subst e; rw [if_pos rfl, if_pos h]; simp
    · rw [if_neg e]; congr 1; rw [Bool.eq_iff_iff]; simp; omega
  · rw [List.getElem?_eq_none (by simp; omega)]
    rw [if_neg (by omega)]; rfl
theorem ro_key (g : DGraph) (out : List Int) (e : Int) : (m_cf g e).all (fun k : Int => (flR g.edges.length out).getD k.toNat default) = (m_am g e).all fun k => out.contains k := by
  rw [Bool.eq_iff_iff, List.all_eq_true, List.all_eq_true]
  constructor
  · intro h k hk
    have hk' := (needs_same g e k).1 hk
    have h1 := h k hk'
    obtain ⟨m1, m2⟩ := rneeds_mem hk'
    rw [flR_get out m2, show ((k.toNat : Nat) : Int) = k by omega] at h1
    exact h1
  · intro h k hk
    have h1 := h k ((needs_same g e k).2 hk)
    obtain ⟨m1, m2⟩ := rneeds_mem hk
    rw [flR_get out m2, show ((k.toNat : Nat) : Int) = k by omega]
    exact h1
theorem ro_L3 (row : List Bool) : ∀ (xs : List Int) (k : Nat) (b : Bool), m_cd row xs k b = Lp.brk (b && xs.all fun k => row.getD k.toNat default)
  | [], k, b => by simp [m_cd]
  | x :: r, k, b => by
    rw [m_cd]
    cases b
    · rw [cond_false, ro_L3 row r]; rfl
    · rw [cond_true, ro_L3 row r, List.all_cons]; rfl
theorem ro_L2 (g : DGraph) (out : List Int) : ∀ (j f : Nat) (next i : Int), i + 1 = ((j : Nat) : Int) → j ≤ g.edges.length → j < f →
    m_cc (flR g.edges.length out) g f next i = Lp.brk (match (List.range j).find? (freeP g out) with | some k => ((k : Nat) : Int) | none => next)
  | 0, 0, _, _, _, _, hf => by omega
  | 0, f + 1, next, i, hi, hl, hf => by
    rw [m_cc, decide_eq_false (by omega), cond_false]; rfl
  | j + 1, 0, _, _, _, _, hf => by omega
  | j + 1, f + 1, next, i, hi, hl, hf => by
    obtain rfl : i = ((j : Nat) : Int) := by omega
    rw [m_cc, decide_eq_true (by omega), cond_true, ro_L3]
    have hfr : (!(flR g.edges.length out).getD ((j : Nat) : Int).toNat default && (m_cf g ((j : Nat) : Int)).all fun k => (flR g.edges.length out).getD k.toNat default) = freeP g out j := by
      rw [ro_key, Int.toNat_natCast, flR_get out (by omega)]; rfl
    rw [hfr]
    have ih := fun nx => ro_L2 g out j f nx (((j : Nat) : Int) - 1) (by omega) (by omega) (by omega)
    rw [List.range_succ, List.find?_append]
    cases hp : freeP g out j
    · simp only [cond_false]
      rw [ih]
      cases (List.range j).find? (freeP g out) <;> simp [hp]
    · simp only [cond_true]
      rw [ih]
      cases (List.range j).find? (freeP g out) <;> simp [hp]
theorem ro_L1 (g : DGraph) : ∀ (f : Nat) (c : List Int), c.length ≤ g.edges.length → g.edges.length - c.length < f → m_ref1_Order_L1 g f c (flR g.edges.length c) = match ordF g (g.edges.length - c.length) c with
    | some o => Lp.brk (o, flR g.edges.length o)
    | none => Lp.ret (([] : List Int), (1001 : Int))
  | 0, c, h1, h2 => by omega
  | f + 1, c, h1, h2 => by
    rw [m_ref1_Order_L1]
    by_cases h : c.length < g.edges.length
    · rw [decide_eq_true (by omega), cond_true, ro_L2 g c g.edges.length _ _ _ (by omega) (Nat.le_refl _) (by omega)]
      rw [show g.edges.length - c.length = (g.edges.length - (c.length + 1)) + 1 by omega, ordF]
      have hnp : (List.range g.edges.length).find? (freeP g c) = nextP g c := rfl
      simp only [hnp]
      cases hn : nextP g c with
      | none => rfl
      | some j =>
        have hj := (nextP_spec hn).1
        simp only []
        rw [decide_eq_false (by omega), cond_false, Int.toNat_natCast, flR_set c hj]
        have := ro_L1 g f (c ++ [((j : Nat) : Int)]) (by simp; omega) (by simp; omega)
        rw [List.length_append, List.length_singleton] at this
        exact this
    · rw [decide_eq_false (by omega), cond_false, show g.edges.length - c.length = 0 by omega]; rfl
theorem ref1_Order_eq (g : DGraph) : m_ref1_Order g = m_s g := by
  rw [of_eq]
  unfold m_ref1_Order
  rw [ref1_Check_eq]
  by_cases h : m_ak g = 0
  · rw [if_pos h, decide_eq_true h]
    simp only [Bool.not_true, cond_false]
    rw [← flR_nil, ro_L1 g _ [] (Nat.zero_le _) (by simp)]
    simp only [List.length_nil, Nat.sub_zero]
    cases ordF g g.edges.length [] <;> rfl
  · rw [if_neg h, decide_eq_false h]; rfl
end
end Go.Lift
namespace Go.Lift
noncomputable section
open Go Go.RowKit
set_option linter.unusedSimpArgs false
set_option linter.unusedVariables false
set_option linter.unusedSectionVars false
set_option maxRecDepth 20000
theorem all_path (xs : List ByteArray) : m_a1 xs 8 = (xs.all (fun s => m_6 s) && decide (((xs.length : Nat) : Int) ≤ 8)) := by
  unfold m_a1
  rw [lp_all (L := m_ce) (p := fun s => m_6 s) (fun _ => rfl) (fun _ _ _ => rfl)]
  cases xs.all (fun s => m_6 s) <;> rfl
end
end Go.Lift
namespace Go.Lift
noncomputable section
open Go Go.RowKit
set_option linter.unusedSimpArgs false
set_option linter.unusedVariables false
set_option linter.unusedSectionVars false
set_option maxRecDepth 20000
end
end Go.Lift
namespace Go.Lift
noncomputable section
open Go Go.RowKit
set_option linter.unusedSimpArgs false
set_option linter.unusedVariables false
set_option linter.unusedSectionVars false
set_option maxRecDepth 20000
theorem may_of {g : DGraph} (h : m_ak g = 0) : m_cj g = true := by
  rw [check_form] at h
  cases hm : m_cj g
  · rw [hm] at h; simp at h
  · rfl
theorem edge_ok {g : DGraph} (h : m_ak g = 0) {e : DEdge} (he : e ∈ g.edges) : edgeS (eOf e) = true := by
  have h0 : ((g.edges.map eOf).all (edgeIn (gOf g)) && (decide (((g.edges.map eOf).length : Int) ≤ 16) && poolsS (gOf g) && allS (gOf g).defaults)) = true := may_of h
  rw [Bool.and_eq_true, List.all_eq_true] at h0
  have := h0.1 (eOf e) (List.mem_map_of_mem he)
  unfold edgeIn at this
  rw [Bool.and_eq_true] at this
  exact this.1
theorem outs_pos {g : DGraph} (h : m_ak g = 0) {e : DEdge} (he : e ∈ g.edges) : 0 < e.outs.length := by
  have := edge_ok h he
  unfold edgeS at this
  simp only [Bool.and_eq_true, decide_eq_true_eq] at this
  have h2 := this.2.1
  have : (eOf e).outs.xs = e.outs := rfl
  rw [this] at h2; omega
theorem pathIs_eq (s : ByteArray) : m_6 s = isS s := by
  unfold m_6 isS; rfl
theorem paths_eq (xs : List ByteArray) : m_bo xs = m_a1 xs 8 := by
  rw [ref1_PathsMay_eq, all_path]
  unfold allS
  have : (fun s => m_6 s) = isS := funext pathIs_eq
  rw [this]
end
end Go.Lift
namespace Go.Lift
noncomputable section
open Go Go.RowKit
set_option linter.unusedSimpArgs false
set_option linter.unusedVariables false
set_option linter.unusedSectionVars false
set_option maxRecDepth 20000
end
end Go.Lift
namespace Go.Lift
noncomputable section
open Go Go.RowKit
set_option linter.unusedSimpArgs false
set_option linter.unusedVariables false
set_option linter.unusedSectionVars false
set_option maxRecDepth 20000
theorem DFound.sz_one (e : DFound) : 1 ≤ e.sz := by unfold DFound.sz; omega
theorem DFile.sz_one (e : DFile) : 1 ≤ e.sz := by unfold DFile.sz; omega
theorem DRecord.sz_one (e : DRecord) : 1 ≤ e.sz := by unfold DRecord.sz; omega
end
end Go.Lift
namespace Go.Lift
noncomputable section
open Go Go.RowKit
set_option linter.unusedSimpArgs false
set_option linter.unusedVariables false
set_option linter.unusedSectionVars false
set_option maxRecDepth 20000
theorem lp_all_val {α : Type} {p : α → Bool} {L : List α → Nat → Lp Bool Unit} (h0 : ∀ i, L [] i = Lp.brk ()) (h1 : ∀ x r i, L (x :: r) i = bif !(p x) then Lp.ret false else L r (i + 1)) (l : List α) (c : Bool) :
    (match L l 0 with | Lp.ret r => r | Lp.brk () => c) = (l.all p && c) := by
  rw [lp_all h0 h1 l 0]
  cases l.all p <;> rfl
theorem plain1_eq (s : ByteArray) (most : Int) : m_a4 s 1 most = (!decide (s = (⟨#[]⟩ : ByteArray)) && m_a3 s most) := by
  have hL : ∀ (l : List UInt8) (i : Nat), m_b0 l i = if l.all plainB then Lp.brk () else Lp.ret false := by
    intro l i
    rw [← ref1_Plain_L1_eq l i]
    induction l generalizing i with
    | nil => rfl
    | cons x r ih => rw [m_b0, m_bp, ih]
  unfold m_a4 m_a3
  rw [ref1_Plain_L1_eq, hL]
  have e : decide ((1 : Int) ≤ ((s.size : Nat) : Int)) = !decide (s = (⟨#[]⟩ : ByteArray)) := by
    rw [← decide_not]; congr 1; apply propext
    constructor
    · rintro h rfl; exact absurd h (by decide)
    · intro h
      have : s.size ≠ 0 := fun h0 => h (by
        apply ba_ext
        have := data_len s
        rw [h0] at this
        rw [List.length_eq_zero_iff.1 this])
      omega
  cases s.data.toList.all plainB
  · simp
  · simp only [if_true, e]
theorem any_not {α : Type} (p : α → Bool) (l : List α) : (!l.any fun x => !(p x)) = l.all p := by
  induction l with
  | nil => rfl
  | cons x r ih => rw [List.any_cons, List.all_cons, ← ih]; cases p x <;> rfl
theorem contains_action (xs : List DAction) (f : DAction → Bool) : m_j xs f = xs.any f := by
  unfold m_j
  rw [show m_p xs f = idxS f xs from idx_val (p := f) (L := m_y f) (fun _ => rfl) (fun x r i => by rw [m_y]) xs]
  exact idxS_nonneg f xs
theorem contains_record (xs : List DRecord) (f : DRecord → Bool) : m_k xs f = xs.any f := by
  unfold m_k
  rw [show m_q xs f = idxS f xs from idx_val (p := f) (L := m_z f) (fun _ => rfl) (fun x r i => by rw [m_z]) xs]
  exact idxS_nonneg f xs
theorem contains_found (xs : List DFound) (f : DFound → Bool) : m_n xs f = xs.any f := by
  unfold m_n
  rw [show m_r xs f = idxS f xs from idx_val (p := f) (L := m_2 f) (fun _ => rfl) (fun x r i => by rw [m_2]) xs]
  exact idxS_nonneg f xs
theorem pathMay_eq (s : ByteArray) : m_a8 s = m_6 s := by rw [ref1_PathMay_eq, pathIs_eq]
theorem actionsMay_eq (xs : List DAction) : m_ref12_ActionsMay xs = m_bs xs := by
  unfold m_bs
  rw [show m_ref12_ActionsMay xs = (xs.all (fun a : DAction => m_ae a.command && m_a1 a.reads 8) && decide (((xs.length : Nat) : Int) ≤ (16 : Int))) from lp_all_val (p := fun a : DAction => m_ae a.command && m_a1 a.reads 8) (L := m_b8) (fun _ => rfl) (fun x r i => by
    rw [m_b8, plain1_eq, paths_eq, show (!decide (x.command = (⟨#[]⟩ : ByteArray)) && m_a3 x.command 256) = m_ae x.command from rfl]
    cases m_ae x.command <;> cases m_a1 x.reads 8 <;> rfl) xs _, contains_action]
  have : (fun z0 : DAction => m_bi z0) = fun a => !(m_ae a.command && m_a1 a.reads 8) := by
    funext a; unfold m_bi; cases m_ae a.command <;> cases m_a1 a.reads 8 <;> rfl
  rw [this, any_not, Bool.and_comm]
theorem recordMay_eq (r : DRecord) : m_ay r = m_az r := by
  unfold m_ay m_az
  rw [pathMay_eq, plain1_eq]; rfl
theorem logMay_eq (xs : List DRecord) : m_bd xs = m_b6 xs := by
  unfold m_b6
  rw [show m_bd xs = (xs.all m_az && decide (((xs.length : Nat) : Int) ≤ (256 : Int))) from lp_all_val (p := m_az) (L := m_bt) (fun _ => rfl) (fun x r i => by
    rw [m_bt, recordMay_eq]) xs _, contains_record]
  have : (fun z0 : DRecord => m_b9 z0) = fun r => !(m_az r) := rfl
  rw [this, any_not, Bool.and_comm]
theorem foundMay_eq (f : DFound) : m_ref12_FoundMay f = m_bg f := by
  unfold m_ref12_FoundMay m_bg
  rw [pathMay_eq, paths_eq]; rfl
theorem depsMay_eq (xs : List DFound) : m_ref12_DepsMay xs = m_bf xs := by
  unfold m_bf
  rw [show m_ref12_DepsMay xs = (xs.all m_bg && decide (((xs.length : Nat) : Int) ≤ (256 : Int))) from lp_all_val (p := m_bg) (L := m_cg) (fun _ => rfl) (fun x r i => by
    rw [m_cg, foundMay_eq]) xs _, contains_found]
  have : (fun z0 : DFound => m_bq z0) = fun r => !(m_bg r) := rfl
  rw [this, any_not, Bool.and_comm]
theorem disk_L2 (d : DDisk) (x : DFile) (i : Nat) : ∀ (j k f : Nat), k + j = i → i ≤ d.files.length → j < f → m_b3 i d x f k = if ((d.files.take i).drop k).any (fun y => decide (y.time = x.time)) = true then Lp.ret false else Lp.brk ()
  | 0, k, 0, _, _, hf => absurd hf (by omega)
  | 0, k, f + 1, hk, hi, _ => by
    rw [m_b3, decide_eq_false (by omega), List.drop_eq_nil_of_le (by simp; omega)]; rfl
  | j + 1, k, 0, _, _, hf => absurd hf (by omega)
  | j + 1, k, f + 1, hk, hi, hf => by
    rw [m_b3, decide_eq_true (by omega), cond_true, disk_L2 d x i j (k + 1) f (by omega) hi (by omega)]
    have hk2 : k < (d.files.take i).length := by simp; omega
    rw [List.drop_eq_getElem_cons hk2, List.any_cons]
    have e : d.files.getD k default = (d.files.take i)[k] := by simp [show k < d.files.length by omega]
    rw [e]
    cases decide ((d.files.take i)[k].time = x.time) <;> rfl
theorem disk_L1 (d : DDisk) : ∀ (rest pre : List DFile), d.files = pre ++ rest → m_b2 d rest pre.length = if dmayL m_6 d.clock rest (pre.map DFile.time) pre.getLast? = true then Lp.brk () else Lp.ret false
  | [], pre, _ => by rw [m_b2]; rfl
  | x :: rest, pre, h => by
    have hl : pre.length < d.files.length := by rw [h]; simp
    have ht : d.files.take pre.length = pre := by rw [h]; simp
    have h2 := disk_L2 d x pre.length pre.length 0 (pre.length - 0 + 1) (by omega) (by omega) (by omega)
    rw [ht, List.drop_zero] at h2
    have ih := disk_L1 d rest (pre ++ [x]) (by rw [h]; simp)
    rw [List.length_append, List.length_singleton, List.map_append, List.map_singleton, List.getLast?_concat] at ih
    have ha : (pre.map DFile.time).any (fun t => decide (t = x.time)) = pre.any (fun y => decide (y.time = x.time)) := by rw [List.any_map]; rfl
    rw [m_b2, h2, ih, pathMay_eq]
    unfold m_a7
    have hp0 : pre = [] ∨ ∃ p y, pre = p ++ [y] := by
      rcases List.eq_nil_or_concat pre with q | ⟨p, y, q⟩
      · exact Or.inl q
      · exact Or.inr ⟨p, y, by simpa using q⟩
    rcases hp0 with rfl | ⟨p, y, rfl⟩
    · rw [decide_eq_false (show ¬ ((0 : Int) < ((([] : List DFile).length : Nat) : Int)) by simp), cond_false]
      rw [List.getLast?_nil, dmayL.eq_2, ha]
      generalize dmayL m_6 d.clock rest (([] : List DFile).map DFile.time ++ [x.time]) (some x) = D
      simp only [List.any_nil]
      cases m_6 x.name <;> cases decide ((0 : Int) ≤ x.content) <;> cases decide (x.content ≤ 2147483647) <;> cases decide ((1 : Int) ≤ x.time) <;> cases decide (x.time ≤ d.clock) <;> cases D <;> rfl
    · have hg : d.files.getD ((p ++ [y]).length - 1) default = y := by rw [h]; simp
      rw [hg, decide_eq_true (show (0 : Int) < (((p ++ [y]).length : Nat) : Int) by simp), cond_true, List.getLast?_concat, dmayL.eq_3, ha]
      generalize dmayL m_6 d.clock rest ((p ++ [y]).map DFile.time ++ [x.time]) (some x) = D
      cases m_6 x.name <;> cases decide ((0 : Int) ≤ x.content) <;> cases decide (x.content ≤ 2147483647) <;> cases decide ((1 : Int) ≤ x.time) <;> cases decide (x.time ≤ d.clock) <;> cases Op.bytesLess y.name.toList x.name.toList <;> cases (p ++ [y]).any (fun y => decide (y.time = x.time)) <;> cases D <;> rfl
theorem diskMay_eq (d : DDisk) : m_ref12_DiskMay d = dmayS m_6 d := by
  unfold m_ref12_DiskMay dmayS
  have := disk_L1 d d.files [] rfl
  rw [List.length_nil] at this
  rw [this]
  unfold m_a7
  simp only [List.map_nil, List.getLast?_nil]
  have e : decide (((d.files.length : Nat) : Int) ≤ (64 : Int)) = decide (d.files.length ≤ 64) := by simp; omega
  rw [e]
  cases dmayL m_6 d.clock d.files [] none <;> simp [Bool.and_assoc]
theorem partsMay_eq (s : DState) : m_ref12_partsMay s = m_aa s := by
  unfold m_ref12_partsMay m_aa
  rw [actionsMay_eq, logMay_eq, depsMay_eq, show m_ref12_DiskMay (⟨s.disk.clock, s.disk.files⟩ : DDisk) = dmayS m_6 s.disk from diskMay_eq s.disk, show m_ref1_Order (⟨s.graph.edges, s.graph.pools, s.graph.defaults⟩ : DGraph) = m_s s.graph from ref1_Order_eq s.graph]
theorem upTo_edge {e : Int} {n : Nat} (hn : n ≤ 281474976710656) : m_a7 e 0 (IntKind.wrap .i64 (((n : Nat) : Int) - (1 : Int))) = (decide (0 ≤ e) && decide (e < ((n : Nat) : Int))) := by
  unfold m_a7
  rw [wrap_i64 (by omega) (by omega)]
  congr 1
  exact decide_eq_decide.2 (by omega)
end
end Go.Lift
namespace Go.Lift
noncomputable section
open Go Go.RowKit
set_option linter.unusedSimpArgs false
set_option linter.unusedVariables false
set_option linter.unusedSectionVars false
set_option maxRecDepth 20000
def diskF (d : DDisk) : Bool :=
  (decide ((0 : Int) ≤ d.clock) && (decide (d.clock ≤ (1048576 : Int)) && decide (((d.files.length : Nat) : Int) ≤ (64 : Int))))
def diskC (d : DDisk) (ts : List Int) (x : DFile) (i : Nat) : Bool :=
  (!(!(m_6 x.name)) && (!(!(m_bl x.content)) && (!(decide (x.time < (1 : Int))) && (!(decide (d.clock < x.time)) && (!(ts.any (fun t => decide (t = x.time))) && (!(decide ((0 : Int) < ((i : Nat) : Int))) || (!(!Op.bytesLess ((d.files.getD (i - 1) default).name).toList x.name.toList))))))))
theorem take_snoc {α : Type} {l : List α} {i : Nat} {x : α} (h : l[i]? = some x) : l.take (i + 1) = l.take i ++ [x] := by
  rw [List.take_add_one, h]; rfl
theorem diskC_any {d : DDisk} {ts : List Int} {x : DFile} {i : Nat} (h : diskC d ts x i = true) : ts.any (fun t => decide (t = x.time)) = false := by
  unfold diskC at h
  simp only [Bool.and_eq_true, Bool.not_eq_true', Bool.not_not] at h
  exact h.2.2.2.2.1
theorem diskF_eq (d : DDisk) : (true && decide (0 ≤ d.clock) && decide (d.clock ≤ 1048576) && decide (d.files.length ≤ 64)) = diskF d := by
  unfold diskF
  have e : decide (((d.files.length : Nat) : Int) ≤ (64 : Int)) = decide (d.files.length ≤ 64) := decide_eq_decide.2 (by omega)
  rw [e]
  cases decide ((0 : Int) ≤ d.clock) <;> cases decide (d.clock ≤ (1048576 : Int)) <;> simp
theorem dmay_step {d : DDisk} {i : Nat} {x : DFile} (hx : d.files[i]? = some x) :
    dmayL m_6 d.clock (d.files.drop i) ((d.files.take i).map DFile.time) (d.files.take i).getLast? =
      (diskC d ((d.files.take i).map DFile.time) x i && dmayL m_6 d.clock (d.files.drop (i + 1)) ((d.files.take (i + 1)).map DFile.time) (d.files.take (i + 1)).getLast?) := by
  have hl : i < d.files.length := (List.getElem?_eq_some_iff.1 hx).1
  have h1 : d.files.drop i = x :: d.files.drop (i + 1) := drop_at hx
  rw [h1, take_snoc hx, List.map_append, List.map_singleton, List.getLast?_concat]
  have a1 : decide ((1 : Int) ≤ x.time) = !(decide (x.time < (1 : Int))) := by rw [← decide_not]; exact decide_eq_decide.2 (by omega)
  have a2 : decide (x.time ≤ d.clock) = !(decide (d.clock < x.time)) := by rw [← decide_not]; exact decide_eq_decide.2 (by omega)
  have hd : m_bl x.content = (decide ((0 : Int) ≤ x.content) && decide (x.content ≤ (2147483647 : Int))) := rfl
  cases i with
  | zero =>
    simp only [List.take_zero, List.map_nil, List.getLast?_nil, List.nil_append]
    rw [dmayL.eq_2]
    simp only [List.nil_append]
    generalize dmayL m_6 d.clock (d.files.drop (0 + 1)) [x.time] (some x) = D
    unfold diskC
    rw [hd, a1, a2, show decide ((0 : Int) < ((0 : Nat) : Int)) = false from rfl]
    simp only [List.any_nil, List.nil_append]
    cases m_6 x.name <;> cases decide ((0 : Int) ≤ x.content) <;> cases decide (x.content ≤ (2147483647 : Int)) <;> cases decide (x.time < (1 : Int)) <;> cases decide (d.clock < x.time) <;> cases D <;> rfl
  | succ j =>
    have hj : d.files[j]? = some d.files[j] := List.getElem?_eq_getElem (by omega)
    have hg : d.files.getD (j + 1 - 1) default = d.files[j] := by simp [show j < d.files.length by omega]
    have hla : (d.files.take (j + 1)).getLast? = some d.files[j] := by rw [take_snoc hj, List.getLast?_concat]
    rw [hla, dmayL.eq_3]
    generalize dmayL m_6 d.clock (d.files.drop (j + 1 + 1)) ((d.files.take (j + 1)).map DFile.time ++ [x.time]) (some x) = D
    unfold diskC
    rw [hd, a1, a2, hg, show decide ((0 : Int) < ((j + 1 : Nat) : Int)) = true from decide_eq_true (by omega)]
    cases m_6 x.name <;> cases decide ((0 : Int) ≤ x.content) <;> cases decide (x.content ≤ (2147483647 : Int)) <;> cases decide (x.time < (1 : Int)) <;> cases decide (d.clock < x.time) <;> cases ((d.files.take (j + 1)).map DFile.time).any (fun t => decide (t = x.time)) <;> cases Op.bytesLess d.files[j].name.toList x.name.toList <;> cases D <;> rfl
end
end Go.Lift
namespace Go.Lift
noncomputable section
open Go Go.RowKit
set_option linter.unusedSimpArgs false
set_option linter.unusedVariables false
set_option linter.unusedSectionVars false
set_option maxRecDepth 20000
end
end Go.Lift
namespace Go.Lift
noncomputable section
open Go Go.RowKit
set_option linter.unusedSimpArgs false
set_option linter.unusedVariables false
set_option linter.unusedSectionVars false
set_option maxRecDepth 20000
theorem bs_mid {i j : Int} {n : Nat} (h0 : 0 ≤ i) (h : i < j) (h2 : j ≤ ((n : Nat) : Int)) (hn : n ≤ 1048576) :
    IntKind.wrap .i64 (i + j) = i + j ∧ i ≤ IntKind.wrap .i64 (Int.fdiv (IntKind.wrap .u64 (IntKind.wrap .i64 (i + j))) (2 ^ (min 1 IntKind.u64.bits))) ∧ IntKind.wrap .i64 (Int.fdiv (IntKind.wrap .u64 (IntKind.wrap .i64 (i + j))) (2 ^ (min 1 IntKind.u64.bits))) < j ∧
    IntKind.wrap .i64 (IntKind.wrap .i64 (Int.fdiv (IntKind.wrap .u64 (IntKind.wrap .i64 (i + j))) (2 ^ (min 1 IntKind.u64.bits))) + 1) = IntKind.wrap .i64 (Int.fdiv (IntKind.wrap .u64 (IntKind.wrap .i64 (i + j))) (2 ^ (min 1 IntKind.u64.bits))) + 1 := by
  have e1 : IntKind.wrap .i64 (i + j) = i + j := wrap_i64 (by omega) (by omega)
  have e2 : IntKind.wrap .u64 (i + j) = i + j := by
    unfold IntKind.wrap; simp only [IntKind.signed]; first | (simp; omega) | omega | exact Int.emod_eq_of_lt (by omega) (by show _ < (2 : Int) ^ 64; omega)
  have e3 : Int.fdiv (i + j) (2 ^ (min 1 IntKind.u64.bits)) = (i + j) / 2 := by
    show Int.fdiv (i + j) 2 = (i + j) / 2
    exact Int.fdiv_eq_ediv_of_nonneg _ (by decide)
  rw [e1, e2, e3]
  have e4 : IntKind.wrap .i64 ((i + j) / 2) = (i + j) / 2 := wrap_i64 (by omega) (by omega)
  rw [e4]
  have e5 : IntKind.wrap .i64 ((i + j) / 2 + 1) = (i + j) / 2 + 1 := wrap_i64 (by omega) (by omega)
  exact ⟨rfl, by omega, by omega, e5⟩
theorem bs_L1 (cmp : DFile → ByteArray → Int) (xs : List DFile) (t : ByteArray) (hn : xs.length ≤ 1048576) : ∀ (f : Nat) (i j : Int), 0 ≤ i → i ≤ j → j ≤ ((xs.length : Nat) : Int) → ∃ k, m_i cmp xs t f i j = Lp.brk k ∧ 0 ≤ k ∧ k ≤ ((xs.length : Nat) : Int)
  | 0, i, j, h0, h1, h2 => ⟨i, by rw [m_i], h0, by omega⟩
  | f + 1, i, j, h0, h1, h2 => by
    rw [m_i]
    by_cases h : i < j
    · rw [decide_eq_true h]
      obtain ⟨m1, m2, m3, m4⟩ := bs_mid h0 h h2 hn
      rw [m4]
      generalize IntKind.wrap .i64 (Int.fdiv (IntKind.wrap .u64 (IntKind.wrap .i64 (i + j))) (2 ^ (min 1 IntKind.u64.bits))) = m at *
      cases decide ((cmp (xs.getD m.toNat default) t) < (0 : Int))
      · exact bs_L1 cmp xs t hn f i m h0 (by omega) (by omega)
      · exact bs_L1 cmp xs t hn f (m + 1) j (by omega) (by omega) h2
    · rw [decide_eq_false h]; exact ⟨i, rfl, h0, by omega⟩
theorem place_ok {d : DDisk} {s : ByteArray} (hz : d.sz ≤ 1048576) (h : (m_w d s).2 = true) : 0 ≤ (m_w d s).1 ∧ (m_w d s).1.toNat < d.files.length := by
  have hl := szL_len DFile.sz_one d.files
  have hl2 := d.sz_files
  unfold m_w m_c at h ⊢
  obtain ⟨k, e, h0, h1⟩ := bs_L1 (fun z0 z1 => m_an z0 z1) d.files s (by omega) ((((d.files.length : Nat) : Int) - (0 : Int)).toNat + 1) 0 ((d.files.length : Nat) : Int) (Int.le_refl _) (by omega) (Int.le_refl _)
  rw [e] at h ⊢
  dsimp only at h ⊢
  by_cases hk : k < ((d.files.length : Nat) : Int)
  · rw [decide_eq_true hk]; show 0 ≤ k ∧ k.toNat < _; omega
  · rw [decide_eq_false hk] at h; cases h
theorem joinTail_sz (sep : List UInt8) (hs : sep.length = 1) : ∀ r : List ByteArray, (Lib.joinTail sep (r.map (·.data.toList))).length = (r.map fun s : ByteArray => s.size + 1).sum
  | [] => by simp [Lib.joinTail]
  | x :: r => by
    have ih := joinTail_sz sep hs r
    simp only [Lib.joinTail, List.map_cons, List.flatten_cons, List.length_append, List.sum_cons] at ih ⊢
    rw [ih, hs]
    have : x.data.toList.length = x.size := by rw [Array.length_toList]; rfl
    omega
theorem joinS_sz (xs : List ByteArray) (sep : ByteArray) (hs : sep.data.toList.length = 1) : (joinS xs sep).size ≤ szL (fun s : ByteArray => s.size + 1) xs := by
  show (Lib.join (xs.map (·.data.toList)) sep.data.toList).toArray.size ≤ _
  rw [List.size_toArray]
  cases xs with
  | nil => simp [Lib.join_nil, szL]
  | cons x r =>
    rw [List.map_cons, Lib.join_cons, List.length_append, joinTail_sz _ hs r]
    have : x.data.toList.length = x.size := by rw [Array.length_toList]; rfl
    simp only [szL, List.map_cons, List.sum_cons]
    omega
theorem signs_ok {e : DEdge} (hz : e.sz ≤ 1048576) : (joinS e.outs ⟨#[32]⟩).size ≤ 1048576 ∧ (joinS e.ins ⟨#[32]⟩).size ≤ 1048576 ∧ (joinS e.implicit ⟨#[32]⟩).size ≤ 1048576 ∧ e.command.size ≤ 1048576 := by
  have h1 := joinS_sz e.outs ⟨#[32]⟩ rfl
  have h2 := joinS_sz e.ins ⟨#[32]⟩ rfl
  have h3 := joinS_sz e.implicit ⟨#[32]⟩ rfl
  unfold DEdge.sz at hz
  simp only at hz
  refine ⟨by omega, by omega, by omega, by omega⟩
theorem signs5 {e : DEdge} (hz : e.sz ≤ 1048576) : (joinS [joinS e.outs (⟨#[32]⟩ : ByteArray), joinS e.ins (⟨#[32]⟩ : ByteArray), joinS e.implicit (⟨#[32]⟩ : ByteArray), (bif e.deps then (⟨#[100]⟩ : ByteArray) else (⟨#[110]⟩ : ByteArray)), e.command] (⟨#[124]⟩ : ByteArray)).size ≤ 140737488355328 := by
  obtain ⟨h1, h2, h3, h4⟩ := signs_ok hz
  refine Nat.le_trans (joinS_sz _ _ rfl) ?_
  have h5 : (bif e.deps then (⟨#[100]⟩ : ByteArray) else (⟨#[110]⟩ : ByteArray)).size ≤ 1 := by cases e.deps <;> decide
  simp only [szL, List.map_cons, List.map_nil, List.sum_cons, List.sum_nil]
  omega
theorem own_facts {s : DState} {edge : Int} (hz : s.sz ≤ 1048576) (h1 : (!(m_ref12_partsMay s)) = false) (h2 : (!(m_a7 edge (0 : Int) (IntKind.wrap .i64 (((s.graph.edges.length : Nat) : Int) - (1 : Int))))) = false) :
    0 ≤ edge ∧ edge.toNat < s.graph.edges.length ∧ (s.graph.edges.getD edge.toNat default).sz ≤ 1048576 ∧ 0 < (s.graph.edges.getD edge.toNat default).outs.length := by
  have hgl := Nat.le_trans s.graph.sz_len (Nat.le_trans s.sz_graph hz)
  rw [upTo_edge (by omega)] at h2
  simp only [Bool.not_eq_false', Bool.and_eq_true, decide_eq_true_eq] at h2
  have hlt : edge.toNat < s.graph.edges.length := by omega
  have hd : m_aa s = true := by rw [← partsMay_eq]; simpa using h1
  unfold m_aa at hd
  simp only [Bool.and_eq_true, decide_eq_true_eq] at hd
  have hc : m_ak s.graph = 0 := by
    rcases Decidable.em (m_ak s.graph = 0) with q | q
    · exact q
    · have := hd.1; rw [of_eq, if_neg q] at this; exact absurd this (by decide)
  have hm : s.graph.edges.getD edge.toNat default ∈ s.graph.edges := by
    have : s.graph.edges.getD edge.toNat default = s.graph.edges[edge.toNat] := by simp [List.getD, hlt]
    rw [this]; exact List.getElem_mem hlt
  have hs := szL_mem (sz := DEdge.sz) hm
  have := s.graph.sz_edges
  have := s.sz_graph
  exact ⟨h2.1, hlt, by omega, outs_pos hc hm⟩
theorem lastI_lt {α : Type} (p : α → Bool) : ∀ xs : List α, -1 ≤ lastI p xs ∧ lastI p xs < ((xs.length : Nat) : Int)
  | [] => by simp [lastI]
  | x :: xs => by
    have ih := lastI_lt p xs
    simp only [lastI, List.length_cons]
    split
    · omega
    · split <;> omega
theorem log_last_lt (rs : List DRecord) (out : ByteArray) : -1 ≤ log_lastS rs out ∧ log_lastS rs out < ((rs.length : Nat) : Int) := lastI_lt _ rs
theorem deplog_last_lt (fs : List DFound) (out : ByteArray) : -1 ≤ deplog_lastS fs out ∧ deplog_lastS fs out < ((fs.length : Nat) : Int) := lastI_lt _ fs
theorem deplog_last_sz {fs : List DFound} {out : ByteArray} (hz : szL DFound.sz fs ≤ 1048576) (h : 0 ≤ deplog_lastS fs out) : (fs.getD (deplog_lastS fs out).toNat default).sz ≤ 1048576 := by
  have hl := (deplog_last_lt fs out).2
  have hlt : (deplog_lastS fs out).toNat < fs.length := by omega
  have hm : fs.getD (deplog_lastS fs out).toNat default ∈ fs := by
    have : fs.getD (deplog_lastS fs out).toNat default = fs[(deplog_lastS fs out).toNat] := by simp [List.getD, hlt]
    rw [this]; exact List.getElem_mem hlt
  have := szL_mem (sz := DFound.sz) hm
  omega
theorem own_facts2 {s : DState} {edge : Int} (hz : s.sz ≤ 1048576) (h1 : (!(m_aa s)) = false) (h2 : decide (edge < (0 : Int)) = false) (h3 : decide (((s.graph.edges.length : Nat) : Int) ≤ edge) = false) :
    0 ≤ edge ∧ edge.toNat < s.graph.edges.length ∧ (s.graph.edges.getD edge.toNat default).sz ≤ 1048576 ∧ 0 < (s.graph.edges.getD edge.toNat default).outs.length := by
  have hgl := Nat.le_trans s.graph.sz_len (Nat.le_trans s.sz_graph hz)
  have h2' := of_decide_eq_false h2
  have h3' := of_decide_eq_false h3
  refine own_facts hz (by rw [partsMay_eq]; exact h1) ?_
  rw [upTo_edge (by omega), decide_eq_true (by omega : 0 ≤ edge), decide_eq_true (by omega : edge < ((s.graph.edges.length : Nat) : Int))]; rfl
theorem dall_facts {s : DState} {x : Int} (hz : s.sz ≤ 1048576) (h1 : (!(m_aa s)) = false) (hx : x ∈ (m_s (⟨s.graph.edges, s.graph.pools, s.graph.defaults⟩ : DGraph)).1) :
    0 ≤ x ∧ x.toNat < s.graph.edges.length ∧ (s.graph.edges.getD x.toNat default).sz ≤ 1048576 ∧ (s.graph.edges.getD x.toNat default).ins.length + (s.graph.edges.getD x.toNat default).implicit.length ≤ 1048576 := by
  obtain ⟨h0, hlt⟩ := of_mem (g := s.graph) hx
  obtain ⟨_, _, h3, _⟩ := own_facts2 (edge := x) hz h1 (decide_eq_false (by omega)) (decide_eq_false (by omega))
  refine ⟨h0, hlt, h3, ?_⟩
  have hr1 := szL_str (s.graph.edges.getD x.toNat default).ins
  have hr2 := szL_str (s.graph.edges.getD x.toNat default).implicit
  generalize s.graph.edges.getD x.toNat default = e at *
  unfold DEdge.sz at h3; simp only at h3; omega
theorem own_flat {s : DState} {edge : Int} (hz : s.sz ≤ 1048576) (h1 : (!(m_aa s)) = false) (h2 : decide (edge < (0 : Int)) = false) (h3 : decide (((s.graph.edges.length : Nat) : Int) ≤ edge) = false) :
    (s.graph.edges.getD edge.toNat default).ins.length + (s.graph.edges.getD edge.toNat default).implicit.length + (s.graph.edges.getD edge.toNat default).order.length ≤ 1048576 := by
  obtain ⟨_, _, h3, _⟩ := own_facts2 hz h1 h2 h3
  have hr1 := szL_str (s.graph.edges.getD edge.toNat default).ins
  have hr2 := szL_str (s.graph.edges.getD edge.toNat default).implicit
  have hr3 := szL_str (s.graph.edges.getD edge.toNat default).order
  generalize s.graph.edges.getD edge.toNat default = e at *
  unfold DEdge.sz at h3; simp only at h3; omega
theorem own_facts3 {s : DState} {edge : Int} (hz : s.sz ≤ 1048576) (h1 : (!(m_aa s)) = false) (h2 : decide (edge < (0 : Int)) = false) (h3 : decide (((s.graph.edges.length : Nat) : Int) ≤ edge) = false) :
    0 ≤ edge ∧ edge.toNat < s.graph.edges.length ∧ (m_a [(s.graph.edges.getD edge.toNat default).ins, (s.graph.edges.getD edge.toNat default).implicit, (s.graph.edges.getD edge.toNat default).order]).length ≤ 1048576 := by
  obtain ⟨h4, h5, _, _⟩ := own_facts2 hz h1 h2 h3
  refine ⟨h4, h5, ?_⟩
  have := own_flat hz h1 h2 h3
  rw [concat_eq]
  simp only [List.flatten_cons, List.flatten_nil, List.append_nil, List.length_append]; omega
end
end Go.Lift
namespace Go.Lift
noncomputable section
open Go Go.RowKit
set_option linter.unusedSimpArgs false
set_option linter.unusedVariables false
set_option linter.unusedSectionVars false
set_option maxRecDepth 20000
theorem law19_awake_true : m_at = true := by
  simp only [m_at, m_3]
  kernel_rfl
def ownB (s : DState) (i : Nat) : Bool := (m_d s ((i : Nat) : Int)).1
def ownE (s : DState) (i : Nat) : Int := (m_d s ((i : Nat) : Int)).2
theorem all_L1 (s : DState) : ∀ (xs : List Bool) (v : Nat) (row : List Bool), row.length = v + xs.length →
    (∃ row', m_bk s xs v row = Lp.brk row' ∧ row'.length = row.length ∧ (∀ i, i < v → row'.getD i default = row.getD i default) ∧ ∀ i, v ≤ i → i < row.length → row'.getD i default = ownB s i ∧ ownE s i = 0) ∨
    (∃ i, v ≤ i ∧ i < row.length ∧ ownE s i ≠ 0 ∧ m_bk s xs v row = Lp.ret ([], ownE s i))
  | [], v, row, h => Or.inl ⟨row, by rw [m_bk], rfl, fun _ _ => rfl, fun i h1 h2 => by simp at h; omega⟩
  | x :: xs, v, row, h => by
    simp only [List.length_cons] at h
    rw [m_bk]
    show (∃ row', (bif (!decide (ownE s v = 0)) then Lp.ret (([] : List Bool), ownE s v) else m_bk s xs (v + 1) (row.set v (ownB s v))) = Lp.brk row' ∧ _) ∨ (∃ i, _ ∧ _ ∧ _ ∧ (bif (!decide (ownE s v = 0)) then Lp.ret (([] : List Bool), ownE s v) else m_bk s xs (v + 1) (row.set v (ownB s v))) = _)
    by_cases e : ownE s v = 0
    · rw [decide_eq_true e]
      simp only [Bool.not_true, cond_false]
      have hset : ∀ i, i ≠ v → (row.set v (ownB s v)).getD i default = row.getD i default := fun i hi => by simp only [List.getD, List.getElem?_set]; rw [if_neg (fun q => hi q.symm)]
      have hsv : (row.set v (ownB s v)).getD v default = ownB s v := by simp only [List.getD, List.getElem?_set]; rw [if_pos trivial, if_pos (by omega)]; rfl
      rcases all_L1 s xs (v + 1) (row.set v (ownB s v)) (by simp; omega) with ⟨row', h1, h2, h3, h4⟩ | ⟨i, h1, h2, h3, h4⟩
      · refine Or.inl ⟨row', h1, by simpa using h2, fun i hi => by rw [h3 i (by omega), hset i (by omega)], fun i hi hl => ?_⟩
        rcases Nat.eq_or_lt_of_le hi with q | q
        · subst q; exact ⟨by rw [h3 v (by omega), hsv], e⟩
        · exact h4 i q (by simpa using hl)
      · exact Or.inr ⟨i, by omega, by simpa using h2, h3, h4⟩
    · rw [decide_eq_false e]
      exact Or.inr ⟨v, Nat.le_refl _, by omega, e, rfl⟩
theorem all_L3 (s : DState) (x : Int) : ∀ (xs : List ByteArray) (v : Nat) (row : List Bool), ∃ row', m_au s x xs v row = Lp.brk row' ∧ row'.length = row.length ∧ (∀ i, i ≠ x.toNat → row'.getD i default = row.getD i default) ∧ ∀ i, row.getD i default = true → row'.getD i default = true
  | [], v, row => ⟨row, by rw [m_au], rfl, fun _ _ => rfl, fun _ h => h⟩
  | y :: ys, v, row => by
    rw [m_au]
    cases decide ((0 : Int) ≤ m_g s.graph y)
    · exact all_L3 s x ys (v + 1) row
    · cases row.getD (m_g s.graph y).toNat default
      · exact all_L3 s x ys (v + 1) row
      · obtain ⟨row', h1, h2, h3, h4⟩ := all_L3 s x ys (v + 1) (row.set x.toNat true)
        refine ⟨row', h1, by simpa using h2, fun i hi => ?_, fun i hi => h4 i ?_⟩
        · rw [h3 i hi]; simp only [List.getD, List.getElem?_set]; rw [if_neg (fun q => hi q.symm)]
        · simp only [List.getD, List.getElem?_set] at hi ⊢
          split
          · split
            · rfl
            · rename_i q1 q2; subst q1; rw [List.getElem?_eq_none (by omega)] at hi; exact hi
          · exact hi
theorem all_L2 (s : DState) : ∀ (xs : List Int) (v : Nat) (row : List Bool), ∃ row', m_bc s xs v row = Lp.brk row' ∧ row'.length = row.length ∧ ∀ i, row.getD i default = true → row'.getD i default = true
  | [], v, row => ⟨row, by rw [m_bc], rfl, fun _ h => h⟩
  | x :: xs, v, row => by
    rw [m_bc]
    obtain ⟨r1, h1, h2, _, h4⟩ := all_L3 s x (m_a [(s.graph.edges.getD x.toNat default).ins, (s.graph.edges.getD x.toNat default).implicit]) 0 row
    rw [h1]
    obtain ⟨r2, k1, k2, k3⟩ := all_L2 s xs (v + 1) r1
    exact ⟨r2, k1, k2.trans h2, fun i hi => k3 i (h4 i hi)⟩
theorem all_spec (s : DState) : (m_aa s = false ∧ m_b s = ([], 1900)) ∨
    (m_aa s = true ∧ ∃ i, i < s.graph.edges.length ∧ ownE s i ≠ 0 ∧ m_b s = ([], ownE s i)) ∨
    (m_aa s = true ∧ (∀ i, i < s.graph.edges.length → ownE s i = 0) ∧ ∃ row row', row.length = s.graph.edges.length ∧ (∀ i, i < s.graph.edges.length → row.getD i default = ownB s i) ∧
      m_bc s ((m_s s.graph).1) 0 row = Lp.brk row' ∧ row'.length = s.graph.edges.length ∧ (∀ i, row.getD i default = true → row'.getD i default = true) ∧ m_b s = (row', 0)) := by
  unfold m_b
  cases hm : m_aa s
  · exact Or.inl ⟨rfl, rfl⟩
  · simp only [Bool.not_true, cond_false]
    rcases all_L1 s (List.replicate s.graph.edges.length false) 0 (List.replicate s.graph.edges.length false) (by simp) with ⟨row, h1, h2, _, h4⟩ | ⟨i, h1, h2, h3, h4⟩
    · rw [h1]
      obtain ⟨row', k1, k2, k3⟩ := all_L2 s ((m_s s.graph).1) 0 row
      have hl : row.length = s.graph.edges.length := by simpa using h2
      refine Or.inr (Or.inr ⟨trivial, fun i hi => (h4 i (Nat.zero_le _) (by simpa using hi)).2, row, row', hl, fun i hi => (h4 i (Nat.zero_le _) (by simpa using hi)).1, k1, k2.trans hl, k3, ?_⟩)
      show (match m_bc s ((m_s s.graph).1) 0 row with | Lp.ret r => r | Lp.brk row5' => (row5', (0 : Int))) = _
      rw [k1]
    · rw [h4]; exact Or.inr (Or.inl ⟨trivial, i, by simpa using h2, h3, rfl⟩)
theorem ownE_val (s : DState) (i : Nat) : ownE s i = 0 ∨ ownE s i = 1900 ∨ ownE s i = 1901 := by
  unfold ownE m_d
  cases (!(m_aa s)) <;> simp only [cond_true, cond_false]
  · cases decide (((i : Nat) : Int) < 0) <;> simp only [cond_true, cond_false]
    · cases decide (((s.graph.edges.length : Nat) : Int) ≤ ((i : Nat) : Int)) <;> simp only [cond_true, cond_false]
      · cases (m_o _ _) <;> simp only [cond_true, cond_false] <;> simp
      · simp
    · simp
  · simp
end
end Go.Lift
namespace Go.Lift
noncomputable section
open Go Go.RowKit
set_option linter.unusedSimpArgs false
set_option linter.unusedVariables false
set_option linter.unusedSectionVars false
set_option maxRecDepth 20000
def takesB (s : DState) (row : List Bool) (i : Nat) : Bool := ((s.graph.edges.getD i default).ins ++ (s.graph.edges.getD i default).implicit).any fun y => decide (0 ≤ mkD s.graph y) && row.getD (mkD s.graph y).toNat default
theorem set_getD {row : List Bool} {i j : Nat} {b : Bool} (h : j ≠ i) : (row.set i b).getD j default = row.getD j default := by
  simp only [List.getD, List.getElem?_set]; rw [if_neg (fun q => h q.symm)]
theorem set_getD_same {row : List Bool} {i : Nat} {b : Bool} (h : i < row.length) : (row.set i b).getD i default = b := by
  simp only [List.getD, List.getElem?_set]; rw [if_pos trivial, if_pos h]; rfl
theorem all_L3x (s : DState) (x : Int) : ∀ (xs : List ByteArray) (v : Nat) (row : List Bool), (∀ y ∈ xs, 0 ≤ mkD s.graph y → (mkD s.graph y).toNat ≠ x.toNat) →
    m_au s x xs v row = Lp.brk (if (xs.any fun y => decide (0 ≤ mkD s.graph y) && row.getD (mkD s.graph y).toNat default) then row.set x.toNat true else row)
  | [], v, row, _ => by rw [m_au]; rfl
  | y :: ys, v, row, h => by
    rw [m_au, makes_mkD]
    have hy := h y (by simp)
    have hys : ∀ z ∈ ys, 0 ≤ mkD s.graph z → (mkD s.graph z).toNat ≠ x.toNat := fun z hz => h z (by simp [hz])
    by_cases h0 : 0 ≤ mkD s.graph y
    · rw [decide_eq_true h0, List.any_cons, decide_eq_true h0]
      cases hr : row.getD (mkD s.graph y).toNat default
      · simp only [cond_true, cond_false, Bool.true_and, Bool.false_or]
        exact all_L3x s x ys (v + 1) row hys
      · simp only [cond_true, Bool.true_and, Bool.true_or, if_true]
        rw [all_L3x s x ys (v + 1) (row.set x.toNat true) hys]
        split
        · rw [List.set_set]
        · rfl
    · rw [decide_eq_false h0, List.any_cons, decide_eq_false h0]
      simp only [cond_false, Bool.false_and, Bool.false_or]
      exact all_L3x s x ys (v + 1) row hys
structure AllInv (s : DState) (own row : List Bool) (pre : List Int) : Prop where
  len : row.length = s.graph.edges.length
  rest : ∀ i : Nat, ((i : Nat) : Int) ∉ pre → row.getD i default = own.getD i default
  done : ∀ i : Nat, ((i : Nat) : Int) ∈ pre → row.getD i default = (own.getD i default || takesB s row i)
theorem of_next {g : DGraph} {o pre post : List Int} {x : Int} (h : Steps g o) (e : o = pre ++ x :: post) : ∃ i : Nat, x = ((i : Nat) : Int) ∧ i < g.edges.length ∧ x ∉ pre ∧ ∀ k ∈ m_am g x, k ∈ pre := by
  obtain ⟨i, h1, _, h3⟩ := steps_take h pre.length x (by rw [e, List.getElem?_append_right (Nat.le_refl _), Nat.sub_self]; rfl)
  rw [e, List.take_left] at h3
  obtain ⟨a, b, _⟩ := nextP_spec h3
  unfold freeP at b
  simp only [Bool.and_eq_true, Bool.not_eq_true', List.all_eq_true] at b
  refine ⟨i, h1, a, ?_, ?_⟩
  · subst h1; intro q; have := b.1; rw [List.contains_iff_mem.2 q] at this; cases this
  · subst h1; intro k hk; have := b.2 k hk; simpa using this
theorem takes_needs {s : DState} {i : Nat} {y : ByteArray} (hy : y ∈ (s.graph.edges.getD i default).ins ++ (s.graph.edges.getD i default).implicit) (h0 : 0 ≤ mkD s.graph y) : mkD s.graph y ∈ m_am s.graph ((i : Nat) : Int) := by
  rw [needs_iff]
  refine ⟨h0, y, ?_, rfl⟩
  unfold inputs
  rw [Int.toNat_natCast]
  rcases List.mem_append.1 hy with q | q
  · exact List.mem_append.2 (Or.inl q)
  · exact List.mem_append.2 (Or.inr (List.mem_append.2 (Or.inl q)))
theorem takesB_congr {s : DState} {r1 r2 : List Bool} {i : Nat} (h : ∀ y ∈ (s.graph.edges.getD i default).ins ++ (s.graph.edges.getD i default).implicit, 0 ≤ mkD s.graph y → r1.getD (mkD s.graph y).toNat default = r2.getD (mkD s.graph y).toNat default) : takesB s r1 i = takesB s r2 i := by
  unfold takesB
  rw [Bool.eq_iff_iff, List.any_eq_true, List.any_eq_true]
  constructor
  · rintro ⟨y, hy, e⟩
    simp only [Bool.and_eq_true, decide_eq_true_eq] at e
    exact ⟨y, hy, by simp only [Bool.and_eq_true, decide_eq_true_eq]; exact ⟨e.1, by rw [← h y hy e.1]; exact e.2⟩⟩
  · rintro ⟨y, hy, e⟩
    simp only [Bool.and_eq_true, decide_eq_true_eq] at e
    exact ⟨y, hy, by simp only [Bool.and_eq_true, decide_eq_true_eq]; exact ⟨e.1, by rw [h y hy e.1]; exact e.2⟩⟩
theorem AllInv.next {s : DState} {own row : List Bool} {o pre post : List Int} {x : Int} (hs : Steps s.graph o) (e : o = pre ++ x :: post) (I : AllInv s own row pre) :
    ∃ i : Nat, x = ((i : Nat) : Int) ∧ i < s.graph.edges.length ∧ AllInv s own (if takesB s row i then row.set i true else row) (pre ++ [x]) ∧ (∀ y ∈ (s.graph.edges.getD i default).ins ++ (s.graph.edges.getD i default).implicit, 0 ≤ mkD s.graph y → (mkD s.graph y).toNat ≠ i) := by
  obtain ⟨i, rfl, hi, hn, hk⟩ := of_next hs e
  have hne : ∀ y ∈ (s.graph.edges.getD i default).ins ++ (s.graph.edges.getD i default).implicit, 0 ≤ mkD s.graph y → (mkD s.graph y).toNat ≠ i := by
    intro y hy h0 q
    have := hk _ (takes_needs hy h0)
    rw [show mkD s.graph y = ((i : Nat) : Int) by omega] at this
    exact hn this
  refine ⟨i, rfl, hi, ?_, hne⟩
  have hstay : ∀ j, j ≠ i → (if takesB s row i then row.set i true else row).getD j default = row.getD j default := by
    intro j hj; split
    · exact set_getD hj
    · rfl
  refine ⟨by split <;> simp [I.len], fun j hj => ?_, fun j hj => ?_⟩
  · have hji : j ≠ i := fun q => hj (by rw [q]; simp)
    rw [hstay j hji]; exact I.rest j (fun q => hj (by simp [q]))
  · rcases List.mem_append.1 hj with hj | hj
    · -- a former one
      have hji : j ≠ i := fun q => hn (by rw [← q]; exact hj)
      rw [hstay j hji, I.done j hj]
      rw [takesB_congr (r1 := row) (r2 := if takesB s row i then row.set i true else row)]
      intro y hy h0
      refine (hstay _ fun q => ?_).symm
      obtain ⟨p1, p2, hp⟩ := List.append_of_mem hj
      obtain ⟨_, _, _, _, hk'⟩ := of_next (x := ((j : Nat) : Int)) hs (pre := p1) (post := p2 ++ ((i : Nat) : Int) :: post) (by rw [e, hp]; simp)
      have := hk' _ (takes_needs hy h0)
      rw [show mkD s.graph y = ((i : Nat) : Int) by omega] at this
      exact hn (by rw [hp]; simp [this])
    · have hji : j = i := by simp only [List.mem_singleton] at hj; omega
      subst hji
      rw [takesB_congr (r1 := if takesB s row j then row.set j true else row) (r2 := row) (fun y hy h0 => hstay _ (hne y hy h0))]
      rw [← I.rest j hn]
      cases ht : takesB s row j
      · simp
      · simp only [if_true, Bool.or_true]; exact set_getD_same (by rw [I.len]; exact hi)
theorem all_L2x (s : DState) (own : List Bool) {o : List Int} (hs : Steps s.graph o) : ∀ (post pre : List Int) (v : Nat) (row : List Bool), o = pre ++ post → AllInv s own row pre → ∃ row', m_bc s post v row = Lp.brk row' ∧ AllInv s own row' o
  | [], pre, v, row, e, I => ⟨row, by rw [m_bc], by rw [e, List.append_nil]; exact I⟩
  | x :: post, pre, v, row, e, I => by
    obtain ⟨i, rfl, hi, I2, hne⟩ := I.next hs e
    rw [m_bc, concat_eq]
    simp only [List.flatten_cons, List.flatten_nil, List.append_nil, Int.toNat_natCast]
    rw [all_L3x s ((i : Nat) : Int) _ 0 row (by rw [Int.toNat_natCast]; exact hne)]
    rw [Int.toNat_natCast]
    exact all_L2x s own hs post (pre ++ [((i : Nat) : Int)]) (v + 1) _ (by rw [e]; simp) I2
theorem pigeon : ∀ (n : Nat) (o : List Int), (∀ x ∈ o, 0 ≤ x ∧ x.toNat < n) → o.Pairwise (· ≠ ·) → n ≤ o.length → ∀ i, i < n → ((i : Nat) : Int) ∈ o
  | 0, o, _, _, _, i, hi => by omega
  | n + 1, o, hb, hp, hl, i, hi => by
    have hn : ((n : Nat) : Int) ∈ o := by
      refine Classical.byContradiction fun hno => ?_
      have hb' : ∀ x ∈ o, 0 ≤ x ∧ x.toNat < n := fun x hx => by
        have := hb x hx
        refine ⟨this.1, ?_⟩
        have : x ≠ ((n : Nat) : Int) := fun q => hno (q ▸ hx)
        omega
      cases o with
      | nil => simp at hl
      | cons y r =>
        have hy := hb' y (by simp)
        have := pigeon n r (fun x hx => hb' x (by simp [hx])) (List.pairwise_cons.1 hp).2 (by simp at hl; omega) y.toNat hy.2
        exact (List.pairwise_cons.1 hp).1 _ this (by omega)
    rcases Nat.lt_or_ge i n with q | q
    · have hsub : ∀ x ∈ o.filter (fun x => decide (x ≠ ((n : Nat) : Int))), 0 ≤ x ∧ x.toNat < n := fun x hx => by
        obtain ⟨h1, h2⟩ := List.mem_filter.1 hx
        have := hb x h1
        have h3 : x ≠ ((n : Nat) : Int) := by simpa using h2
        omega
      have hlen : n ≤ (o.filter (fun x => decide (x ≠ ((n : Nat) : Int)))).length := by
        obtain ⟨p1, p2, hp12⟩ := List.append_of_mem hn
        subst hp12
        rw [List.pairwise_append, List.pairwise_cons] at hp
        have f1 : p1.filter (fun x => decide (x ≠ ((n : Nat) : Int))) = p1 := List.filter_eq_self.2 fun x hx => by simpa using hp.2.2 x hx _ (by simp)
        have f2 : p2.filter (fun x => decide (x ≠ ((n : Nat) : Int))) = p2 := List.filter_eq_self.2 fun x hx => by simpa using fun q => hp.2.1.1 x hx q.symm
        rw [List.filter_append, List.filter_cons, f1, f2]
        simp only [ne_eq, not_true, decide_false, if_false, List.length_append, List.length_cons] at hl ⊢
        simp; omega
      have := pigeon n _ hsub (hp.filter _) hlen i q
      exact (List.mem_filter.1 this).1
    · have : i = n := by omega
      subst this; exact hn
theorem steps_mem {g : DGraph} {o : List Int} (h : Steps g o) (hl : o.length = g.edges.length) {i : Nat} (hi : i < g.edges.length) : ((i : Nat) : Int) ∈ o := by
  have key : ∀ {o : List Int}, Steps g o → (∀ x ∈ o, 0 ≤ x ∧ x.toNat < g.edges.length) ∧ o.Pairwise (· ≠ ·) := by
    intro o h
    induction h with
    | nil => exact ⟨fun x hx => by simp at hx, .nil⟩
    | @snoc out j h hn ih =>
      obtain ⟨a, b, _⟩ := nextP_spec hn
      unfold freeP at b
      simp only [Bool.and_eq_true, Bool.not_eq_true'] at b
      refine ⟨fun x hx => ?_, ?_⟩
      · rcases List.mem_append.1 hx with q | q
        · exact ih.1 x q
        · simp only [List.mem_singleton] at q; subst q; exact ⟨by omega, by omega⟩
      · rw [List.pairwise_append]
        refine ⟨ih.2, by simp, fun x hx y hy => ?_⟩
        simp only [List.mem_singleton] at hy; subst hy
        intro q; subst q
        have := b.1; rw [List.contains_iff_mem.2 hx] at this; cases this
  exact pigeon _ o (key h).1 (key h).2 (by omega) i hi
theorem dmay_of {s : DState} (h : m_aa s = true) : (m_s s.graph).2 = 0 := by
  unfold m_aa at h
  simp only [Bool.and_eq_true, decide_eq_true_eq] at h
  exact h.1
theorem all_rec (s : DState) : (m_aa s = false ∧ m_b s = ([], 1900)) ∨
    (m_aa s = true ∧ ∃ i, i < s.graph.edges.length ∧ ownE s i ≠ 0 ∧ m_b s = ([], ownE s i)) ∨
    (m_aa s = true ∧ (∀ i, i < s.graph.edges.length → ownE s i = 0) ∧ ∃ row', m_b s = (row', 0) ∧ row'.length = s.graph.edges.length ∧ ∀ i, i < s.graph.edges.length → row'.getD i default = (ownB s i || takesB s row' i)) := by
  rcases all_spec s with h | h | ⟨hm, h0, row, row', hl, hrow, e2, hl', hup, e⟩
  · exact Or.inl h
  · exact Or.inr (Or.inl h)
  · obtain ⟨hs, hol, _⟩ := of_steps (dmay_of hm)
    obtain ⟨r2, k1, k2⟩ := all_L2x s row hs (m_s s.graph).1 [] 0 row rfl ⟨hl, fun _ _ => rfl, fun _ h => by simp at h⟩
    rw [e2] at k1
    cases k1
    refine Or.inr (Or.inr ⟨hm, h0, row', e, hl', fun i hi => ?_⟩)
    rw [k2.done i (steps_mem hs hol hi), hrow i hi]
theorem down_L4 (b : Bool) (y : ByteArray) : ∀ (xs : List ByteArray) (o : Nat) (why : Bool), m_ag b y xs o why = Lp.brk (why || (b && xs.any fun z => decide (z = y)))
  | [], o, why => by rw [m_ag]; cases why <;> cases b <;> rfl
  | z :: zs, o, why => by
    rw [m_ag]
    cases why
    · cases b
      · simp only [cond_false]; rw [down_L4 false y zs (o + 1) false]; rfl
      · simp only [cond_false, cond_true]; rw [down_L4 true y zs (o + 1) _]; simp [List.any_cons]
    · simp only [cond_true]; rw [down_L4 b y zs (o + 1) true]; rfl
theorem down_L3 (b : Bool) (s : DState) (k : Nat) : ∀ (ys : List ByteArray) (m : Nat) (why : Bool), m_al b s k ys m why = Lp.brk (why || (b && ys.any fun y => (s.graph.edges.getD k default).outs.any fun z => decide (z = y)))
  | [], m, why => by rw [m_al]; cases why <;> cases b <;> rfl
  | y :: ys, m, why => by
    rw [m_al, down_L4]
    show m_al b s k ys (m + 1) _ = _
    rw [down_L3 b s k ys (m + 1) _]
    cases why <;> cases b <;> simp [List.any_cons]
theorem down_L2 (s : DState) (i : Nat) : ∀ (row : List Bool) (k : Nat) (why : Bool), m_af s i row k why = Lp.brk (why || (row.zipIdx k).any fun p => p.1 && ((s.graph.edges.getD i default).ins ++ (s.graph.edges.getD i default).implicit).any fun y => (s.graph.edges.getD p.2 default).outs.any fun z => decide (z = y))
  | [], k, why => by rw [m_af]; cases why <;> rfl
  | b :: row, k, why => by
    rw [m_af, down_L3]
    show m_af s i row (k + 1) _ = _
    rw [down_L2 s i row (k + 1) _, List.zipIdx_cons, List.any_cons]
    cases why <;> simp
theorem down_why {s : DState} (hc : m_ak s.graph = 0) {row : List Bool} (hl : row.length = s.graph.edges.length) (i : Nat) : ((row.zipIdx 0).any fun p => p.1 && ((s.graph.edges.getD i default).ins ++ (s.graph.edges.getD i default).implicit).any fun y => (s.graph.edges.getD p.2 default).outs.any fun z => decide (z = y)) = takesB s row i := by
  unfold takesB
  rw [Bool.eq_iff_iff, List.any_eq_true, List.any_eq_true]
  constructor
  · rintro ⟨⟨b, k⟩, hp, e⟩
    simp only [Bool.and_eq_true, List.any_eq_true, decide_eq_true_eq] at e
    obtain ⟨e1, y, hy, z, hz, rfl⟩ := e
    have hk := List.mem_zipIdx hp
    simp only [Nat.zero_add, Nat.sub_zero] at hk
    obtain ⟨_, hk2, hk3⟩ := hk
    have hkl : k < s.graph.edges.length := by omega
    have he : s.graph.edges[k]? = some (s.graph.edges.getD k default) := by rw [List.getD_eq_getElem?_getD, List.getElem?_eq_getElem hkl]; rfl
    have hm := mkD_at (check_nodup hc) he hz
    refine ⟨z, hy, ?_⟩
    rw [hm]
    simp only [Bool.and_eq_true, decide_eq_true_eq, Int.toNat_natCast]
    refine ⟨by omega, ?_⟩
    rw [List.getD_eq_getElem?_getD, List.getElem?_eq_getElem hk2]
    show row[k] = true
    rw [← hk3]; exact e1
  · rintro ⟨y, hy, e⟩
    simp only [Bool.and_eq_true, decide_eq_true_eq] at e
    rcases mkD_in s.graph y with q | ⟨k, ed, q, he, hx⟩
    · rw [q] at e; exact absurd e.1 (by decide)
    · rw [q] at e
      simp only [Int.toNat_natCast] at e
      have hkl := (List.getElem?_eq_some_iff.1 he).1
      have hr : row[k]? = some true := by
        rw [List.getD_eq_getElem?_getD, List.getElem?_eq_getElem (by omega)] at e
        rw [List.getElem?_eq_getElem (by omega)]; exact congrArg some e.2
      refine ⟨(true, k), List.mem_zipIdx_iff_getElem?.2 (by simpa using hr), ?_⟩
      simp only [Bool.true_and, List.any_eq_true, decide_eq_true_eq]
      refine ⟨y, hy, y, ?_, rfl⟩
      rw [List.getD_eq_getElem?_getD, he]; exact hx
theorem down_L1 {s : DState} {a : List Bool} (ha : (m_b s).1 = a) (hc : m_ak s.graph = 0) (hl : a.length = s.graph.edges.length) (h0 : ∀ i, i < s.graph.edges.length → ownE s i = 0) (hr : ∀ i, i < s.graph.edges.length → a.getD i default = (ownB s i || takesB s a i)) :
    ∀ (post : List Bool) (i : Nat), i + post.length = a.length → (∀ j, post[j]? = a[i + j]?) → m_a5 s post i = Lp.brk ()
  | [], i, _, _ => by rw [m_a5]
  | x :: post, i, hlen, hget => by
    have hi : i < s.graph.edges.length := by simp at hlen; omega
    have hx : a.getD i default = x := by
      have := hget 0
      simp only [List.getElem?_cons_zero, Nat.add_zero] at this
      rw [List.getD_eq_getElem?_getD, ← this]; rfl
    rw [m_a5, ha]
    show (bif (!decide ((m_3 (ownE s i)) = (0 : Int))) then _ else (bif ownB s i then _ else _)) = _
    rw [h0 i hi]
    simp only [m_3]
    rw [down_L2, down_L2, down_why hc hl i]
    have h1 := hr i hi
    rw [hx] at h1
    have ih := down_L1 ha hc hl h0 hr post (i + 1) (by simp at hlen ⊢; omega) (fun j => by have := hget (j + 1); simp only [List.getElem?_cons_succ] at this; rw [this]; congr 1; omega)
    simp only [decide_true, Bool.not_true, cond_false]
    cases hob : ownB s i
    · rw [hob] at h1
      simp only [Bool.false_or] at h1 ⊢
      simp only [cond_false]
      rw [h1]; simp only [beq_self_eq_true, Bool.not_true, cond_false]; exact ih
    · rw [hob] at h1
      simp only [Bool.true_or] at h1 ⊢
      rw [h1]; simp only [cond_true, Bool.not_true, cond_false, beq_self_eq_true]; exact ih
theorem law19_DirtyOwn_true (s : DState) : m_ac s = true := by
  unfold m_ac
  rw [law19_awake_true]
  rcases all_rec s with ⟨_, e⟩ | ⟨_, i, _, hne, e⟩ | ⟨hm, h0, row', e, hl, hr⟩
  · rw [e]; rfl
  · rw [e]
    rcases ownE_val s i with q | q | q
    · exact absurd q hne
    · rw [q]; rfl
    · rw [q]; rfl
  · have hL := down_L1 (a := (m_b s).1) rfl (of_steps (dmay_of hm)).2.2 (by rw [e]; exact hl) h0 (by rw [e]; exact hr) (m_b s).1 0 (by simp) (fun j => by simp)
    rw [hL, e]
    have hlog : m_bd s.log = true := by
      rw [logMay_eq]
      unfold m_aa at hm
      simp only [Bool.and_eq_true] at hm
      exact hm.2.2.2.1
    simp only [m_3, hl, hlog]
    rfl
theorem all_len (s : DState) : (m_b s).1.length ≤ s.graph.edges.length := by
  rcases all_rec s with ⟨_, e⟩ | ⟨_, i, _, hne, e⟩ | ⟨_, _, row', e, hl, _⟩
  · rw [e]; exact Nat.zero_le _
  · rw [e]; exact Nat.zero_le _
  · rw [e]; exact Nat.le_of_eq hl
theorem edge_sz {s : DState} (hz : s.sz ≤ 1048576) (i : Nat) : (s.graph.edges.getD i default).ins.length + (s.graph.edges.getD i default).implicit.length + (s.graph.edges.getD i default).outs.length + (s.graph.edges.getD i default).order.length ≤ 1048576 := by
  rcases Nat.lt_or_ge i s.graph.edges.length with h | h
  · have hm : s.graph.edges.getD i default ∈ s.graph.edges := by
      have : s.graph.edges.getD i default = s.graph.edges[i] := by simp [List.getD, h]
      rw [this]; exact List.getElem_mem h
    have hs := szL_mem (sz := DEdge.sz) hm
    have := s.graph.sz_edges
    have := s.sz_graph
    have hr0 := szL_str (s.graph.edges.getD i default).outs
    have hr1 := szL_str (s.graph.edges.getD i default).ins
    have hr2 := szL_str (s.graph.edges.getD i default).implicit
    have hr3 := szL_str (s.graph.edges.getD i default).order
    have he : (s.graph.edges.getD i default).sz ≤ 1048576 := by omega
    clear hs
    generalize s.graph.edges.getD i default = e at *
    unfold DEdge.sz at he; simp only at he; omega
  · rw [List.getD_eq_getElem?_getD, List.getElem?_eq_none h]
    show ([] : List ByteArray).length + ([] : List ByteArray).length + ([] : List ByteArray).length + ([] : List ByteArray).length ≤ _
    simp
end
end Go.Lift
namespace Go.Lift
noncomputable section
open Go Go.RowKit
set_option linter.unusedSimpArgs false
set_option linter.unusedVariables false
set_option linter.unusedSectionVars false
set_option maxRecDepth 20000
theorem rdg_9 {H : Type} {enc : TypeId × Value → H} {w : World} {spare : Nat → Bool} {held : Bool} {bk : DataW H → Nat} {μ : Mu} (hb : BulkOk bk) (hμ : ∀ g, ¬ μ.mut g) : Rdg enc Go.Proofs.Tryz.prog w spare held bk μ 9 AV.s (fun s : ByteArray => s.size + 1) := Rdg.str hb (by kernel_rfl)
theorem rdg_24 {H : Type} {enc : TypeId × Value → H} {w : World} {spare : Nat → Bool} {held : Bool} {bk : DataW H → Nat} {μ : Mu} (hb : BulkOk bk) (hμ : ∀ g, ¬ μ.mut g) : Rdg enc Go.Proofs.Tryz.prog w spare held bk μ 24 (slA 1 AV.s) (szL (fun s : ByteArray => s.size + 1)) := Rdg.slice hb hμ (e := 9) (by kernel_rfl) (by kernel_rfl) (fun a => Or.inr ⟨(by intro fs h; cases h), rfl, rfl⟩) (rdg_9 hb hμ)
theorem rdg_4 {H : Type} {enc : TypeId × Value → H} {w : World} {spare : Nat → Bool} {held : Bool} {bk : DataW H → Nat} {μ : Mu} (hb : BulkOk bk) (hμ : ∀ g, ¬ μ.mut g) : Rdg enc Go.Proofs.Tryz.prog w spare held bk μ 4 AV.b (fun _ => 1) := Rdg.bool hb (by kernel_rfl)
theorem rdg_65 {H : Type} {enc : TypeId × Value → H} {w : World} {spare : Nat → Bool} {held : Bool} {bk : DataW H → Nat} {μ : Mu} (hb : BulkOk bk) (hμ : ∀ g, ¬ μ.mut g) : Rdg enc Go.Proofs.Tryz.prog w spare held bk μ 65 DEdge.av DEdge.sz where
  rd fuel cs x h hbd := by
    obtain ⟨xs, n, e, hl, hlen, hf⟩ := struct_rd (t := 65) (by kernel_rfl) h
    have hn : (fsOf Go.Proofs.Tryz.prog 65).size = 7 := by kernel_rfl
    have hc : Go.Proofs.Tryz.prog.cellsOf 65 = 7 := by kernel_rfl
    rw [hn] at hlen; rw [hc] at hl
    match xs, hlen, e, hf with
    | [x0, x1, x2, x3, x4, x5, x6], _, e, hf =>
      have hag := hb.agg [x0.1, x1.1, x2.1, x3.1, x4.1, x5.1, x6.1]
      simp only [List.map_cons, List.map_nil, List.sum_cons, List.sum_nil] at hag e
      rw [e] at hbd ⊢
      obtain ⟨y0, e0, r0⟩ := hf 0 0 24 1 (by kernel_rfl)
      cases e0
      obtain ⟨a0, c0, o0, s0⟩ := (rdg_24 hb hμ).rd _ _ _ r0 (by omega)
      obtain ⟨y1, e1, r1⟩ := hf 1 1 24 1 (by kernel_rfl)
      cases e1
      obtain ⟨a1, c1, o1, s1⟩ := (rdg_24 hb hμ).rd _ _ _ r1 (by omega)
      obtain ⟨y2, e2, r2⟩ := hf 2 2 24 1 (by kernel_rfl)
      cases e2
      obtain ⟨a2, c2, o2, s2⟩ := (rdg_24 hb hμ).rd _ _ _ r2 (by omega)
      obtain ⟨y3, e3, r3⟩ := hf 3 3 24 1 (by kernel_rfl)
      cases e3
      obtain ⟨a3, c3, o3, s3⟩ := (rdg_24 hb hμ).rd _ _ _ r3 (by omega)
      obtain ⟨y4, e4, r4⟩ := hf 4 4 9 1 (by kernel_rfl)
      cases e4
      obtain ⟨a4, c4, o4, s4⟩ := (rdg_9 hb hμ).rd _ _ _ r4 (by omega)
      obtain ⟨y5, e5, r5⟩ := hf 5 5 4 1 (by kernel_rfl)
      cases e5
      obtain ⟨a5, c5, o5, s5⟩ := (rdg_4 hb hμ).rd _ _ _ r5 (by omega)
      obtain ⟨y6, e6, r6⟩ := hf 6 6 9 1 (by kernel_rfl)
      cases e6
      obtain ⟨a6, c6, o6, s6⟩ := (rdg_9 hb hμ).rd _ _ _ r6 (by omega)
      refine ⟨⟨a0, a1, a2, a3, a4, a5, a6⟩, ?_, ?_, ?_⟩
      · have q := (CRs_step (CRs_step (CRs_step (CRs_step (CRs_step (CRs_step (CRs_step (show CRs w μ [] (cs.take 0) by simp [CRs]) c0) c1) c2) c3) c4) c5) c6)
        rw [show cs.take (0 + 1 + 1 + 1 + 1 + 1 + 1 + 1) = cs from List.take_of_length_le (by omega)] at q
        exact q
      · have q := (one_step (one_step (one_step (one_step (one_step (one_step (one_step (show ∀ u ∈ cs.take 0, u.oneCell' = true by simp) o0) o1) o2) o3) o4) o5) o6)
        rw [show cs.take (0 + 1 + 1 + 1 + 1 + 1 + 1 + 1) = cs from List.take_of_length_le (by omega)] at q
        exact q
      · unfold DEdge.sz; simp only at *; omega
theorem rdg_22 {H : Type} {enc : TypeId × Value → H} {w : World} {spare : Nat → Bool} {held : Bool} {bk : DataW H → Nat} {μ : Mu} (hb : BulkOk bk) (hμ : ∀ g, ¬ μ.mut g) : Rdg enc Go.Proofs.Tryz.prog w spare held bk μ 22 (slA 7 DEdge.av) (szL DEdge.sz) := Rdg.slice hb hμ (e := 65) (by kernel_rfl) (by kernel_rfl) (fun a => Or.inl ⟨_, rfl, rfl⟩) (rdg_65 hb hμ)
theorem rdg_3 {H : Type} {enc : TypeId × Value → H} {w : World} {spare : Nat → Bool} {held : Bool} {bk : DataW H → Nat} {μ : Mu} (hb : BulkOk bk) (hμ : ∀ g, ¬ μ.mut g) : Rdg enc Go.Proofs.Tryz.prog w spare held bk μ 3 (AV.i .i64) (fun _ => 1) := Rdg.int hb (by kernel_rfl)
theorem rdg_122 {H : Type} {enc : TypeId × Value → H} {w : World} {spare : Nat → Bool} {held : Bool} {bk : DataW H → Nat} {μ : Mu} (hb : BulkOk bk) (hμ : ∀ g, ¬ μ.mut g) : Rdg enc Go.Proofs.Tryz.prog w spare held bk μ 122 DPool.av DPool.sz where
  rd fuel cs x h hbd := by
    obtain ⟨xs, n, e, hl, hlen, hf⟩ := struct_rd (t := 122) (by kernel_rfl) h
    have hn : (fsOf Go.Proofs.Tryz.prog 122).size = 2 := by kernel_rfl
    have hc : Go.Proofs.Tryz.prog.cellsOf 122 = 2 := by kernel_rfl
    rw [hn] at hlen; rw [hc] at hl
    match xs, hlen, e, hf with
    | [x0, x1], _, e, hf =>
      have hag := hb.agg [x0.1, x1.1]
      simp only [List.map_cons, List.map_nil, List.sum_cons, List.sum_nil] at hag e
      rw [e] at hbd ⊢
      obtain ⟨y0, e0, r0⟩ := hf 0 0 9 1 (by kernel_rfl)
      cases e0
      obtain ⟨a0, c0, o0, s0⟩ := (rdg_9 hb hμ).rd _ _ _ r0 (by omega)
      obtain ⟨y1, e1, r1⟩ := hf 1 1 3 1 (by kernel_rfl)
      cases e1
      obtain ⟨a1, c1, o1, s1⟩ := (rdg_3 hb hμ).rd _ _ _ r1 (by omega)
      refine ⟨⟨a0, a1⟩, ?_, ?_, ?_⟩
      · have q := (CRs_step (CRs_step (show CRs w μ [] (cs.take 0) by simp [CRs]) c0) c1)
        rw [show cs.take (0 + 1 + 1) = cs from List.take_of_length_le (by omega)] at q
        exact q
      · have q := (one_step (one_step (show ∀ u ∈ cs.take 0, u.oneCell' = true by simp) o0) o1)
        rw [show cs.take (0 + 1 + 1) = cs from List.take_of_length_le (by omega)] at q
        exact q
      · unfold DPool.sz; simp only at *; omega
theorem rdg_23 {H : Type} {enc : TypeId × Value → H} {w : World} {spare : Nat → Bool} {held : Bool} {bk : DataW H → Nat} {μ : Mu} (hb : BulkOk bk) (hμ : ∀ g, ¬ μ.mut g) : Rdg enc Go.Proofs.Tryz.prog w spare held bk μ 23 (slA 2 DPool.av) (szL DPool.sz) := Rdg.slice hb hμ (e := 122) (by kernel_rfl) (by kernel_rfl) (fun a => Or.inl ⟨_, rfl, rfl⟩) (rdg_122 hb hμ)
theorem rdg_26 {H : Type} {enc : TypeId × Value → H} {w : World} {spare : Nat → Bool} {held : Bool} {bk : DataW H → Nat} {μ : Mu} (hb : BulkOk bk) (hμ : ∀ g, ¬ μ.mut g) : Rdg enc Go.Proofs.Tryz.prog w spare held bk μ 26 DGraph.av DGraph.sz where
  rd fuel cs x h hbd := by
    obtain ⟨xs, n, e, hl, hlen, hf⟩ := struct_rd (t := 26) (by kernel_rfl) h
    have hn : (fsOf Go.Proofs.Tryz.prog 26).size = 3 := by kernel_rfl
    have hc : Go.Proofs.Tryz.prog.cellsOf 26 = 3 := by kernel_rfl
    rw [hn] at hlen; rw [hc] at hl
    match xs, hlen, e, hf with
    | [x0, x1, x2], _, e, hf =>
      have hag := hb.agg [x0.1, x1.1, x2.1]
      simp only [List.map_cons, List.map_nil, List.sum_cons, List.sum_nil] at hag e
      rw [e] at hbd ⊢
      obtain ⟨y0, e0, r0⟩ := hf 0 0 22 1 (by kernel_rfl)
      cases e0
      obtain ⟨a0, c0, o0, s0⟩ := (rdg_22 hb hμ).rd _ _ _ r0 (by omega)
      obtain ⟨y1, e1, r1⟩ := hf 1 1 23 1 (by kernel_rfl)
      cases e1
      obtain ⟨a1, c1, o1, s1⟩ := (rdg_23 hb hμ).rd _ _ _ r1 (by omega)
      obtain ⟨y2, e2, r2⟩ := hf 2 2 24 1 (by kernel_rfl)
      cases e2
      obtain ⟨a2, c2, o2, s2⟩ := (rdg_24 hb hμ).rd _ _ _ r2 (by omega)
      refine ⟨⟨a0, a1, a2⟩, ?_, ?_, ?_⟩
      · have q := (CRs_step (CRs_step (CRs_step (show CRs w μ [] (cs.take 0) by simp [CRs]) c0) c1) c2)
        rw [show cs.take (0 + 1 + 1 + 1) = cs from List.take_of_length_le (by omega)] at q
        exact q
      · have q := (one_step (one_step (one_step (show ∀ u ∈ cs.take 0, u.oneCell' = true by simp) o0) o1) o2)
        rw [show cs.take (0 + 1 + 1 + 1) = cs from List.take_of_length_le (by omega)] at q
        exact q
      · unfold DGraph.sz; simp only at *; omega
theorem rdg_67 {H : Type} {enc : TypeId × Value → H} {w : World} {spare : Nat → Bool} {held : Bool} {bk : DataW H → Nat} {μ : Mu} (hb : BulkOk bk) (hμ : ∀ g, ¬ μ.mut g) : Rdg enc Go.Proofs.Tryz.prog w spare held bk μ 67 DAction.av DAction.sz where
  rd fuel cs x h hbd := by
    obtain ⟨xs, n, e, hl, hlen, hf⟩ := struct_rd (t := 67) (by kernel_rfl) h
    have hn : (fsOf Go.Proofs.Tryz.prog 67).size = 3 := by kernel_rfl
    have hc : Go.Proofs.Tryz.prog.cellsOf 67 = 3 := by kernel_rfl
    rw [hn] at hlen; rw [hc] at hl
    match xs, hlen, e, hf with
    | [x0, x1, x2], _, e, hf =>
      have hag := hb.agg [x0.1, x1.1, x2.1]
      simp only [List.map_cons, List.map_nil, List.sum_cons, List.sum_nil] at hag e
      rw [e] at hbd ⊢
      obtain ⟨y0, e0, r0⟩ := hf 0 0 9 1 (by kernel_rfl)
      cases e0
      obtain ⟨a0, c0, o0, s0⟩ := (rdg_9 hb hμ).rd _ _ _ r0 (by omega)
      obtain ⟨y1, e1, r1⟩ := hf 1 1 24 1 (by kernel_rfl)
      cases e1
      obtain ⟨a1, c1, o1, s1⟩ := (rdg_24 hb hμ).rd _ _ _ r1 (by omega)
      obtain ⟨y2, e2, r2⟩ := hf 2 2 4 1 (by kernel_rfl)
      cases e2
      obtain ⟨a2, c2, o2, s2⟩ := (rdg_4 hb hμ).rd _ _ _ r2 (by omega)
      refine ⟨⟨a0, a1, a2⟩, ?_, ?_, ?_⟩
      · have q := (CRs_step (CRs_step (CRs_step (show CRs w μ [] (cs.take 0) by simp [CRs]) c0) c1) c2)
        rw [show cs.take (0 + 1 + 1 + 1) = cs from List.take_of_length_le (by omega)] at q
        exact q
      · have q := (one_step (one_step (one_step (show ∀ u ∈ cs.take 0, u.oneCell' = true by simp) o0) o1) o2)
        rw [show cs.take (0 + 1 + 1 + 1) = cs from List.take_of_length_le (by omega)] at q
        exact q
      · unfold DAction.sz; simp only at *; omega
theorem rdg_27 {H : Type} {enc : TypeId × Value → H} {w : World} {spare : Nat → Bool} {held : Bool} {bk : DataW H → Nat} {μ : Mu} (hb : BulkOk bk) (hμ : ∀ g, ¬ μ.mut g) : Rdg enc Go.Proofs.Tryz.prog w spare held bk μ 27 (slA 3 DAction.av) (szL DAction.sz) := Rdg.slice hb hμ (e := 67) (by kernel_rfl) (by kernel_rfl) (fun a => Or.inl ⟨_, rfl, rfl⟩) (rdg_67 hb hμ)
theorem rdg_85 {H : Type} {enc : TypeId × Value → H} {w : World} {spare : Nat → Bool} {held : Bool} {bk : DataW H → Nat} {μ : Mu} (hb : BulkOk bk) (hμ : ∀ g, ¬ μ.mut g) : Rdg enc Go.Proofs.Tryz.prog w spare held bk μ 85 DFile.av DFile.sz where
  rd fuel cs x h hbd := by
    obtain ⟨xs, n, e, hl, hlen, hf⟩ := struct_rd (t := 85) (by kernel_rfl) h
    have hn : (fsOf Go.Proofs.Tryz.prog 85).size = 3 := by kernel_rfl
    have hc : Go.Proofs.Tryz.prog.cellsOf 85 = 3 := by kernel_rfl
    rw [hn] at hlen; rw [hc] at hl
    match xs, hlen, e, hf with
    | [x0, x1, x2], _, e, hf =>
      have hag := hb.agg [x0.1, x1.1, x2.1]
      simp only [List.map_cons, List.map_nil, List.sum_cons, List.sum_nil] at hag e
      rw [e] at hbd ⊢
      obtain ⟨y0, e0, r0⟩ := hf 0 0 9 1 (by kernel_rfl)
      cases e0
      obtain ⟨a0, c0, o0, s0⟩ := (rdg_9 hb hμ).rd _ _ _ r0 (by omega)
      obtain ⟨y1, e1, r1⟩ := hf 1 1 3 1 (by kernel_rfl)
      cases e1
      obtain ⟨a1, c1, o1, s1⟩ := (rdg_3 hb hμ).rd _ _ _ r1 (by omega)
      obtain ⟨y2, e2, r2⟩ := hf 2 2 3 1 (by kernel_rfl)
      cases e2
      obtain ⟨a2, c2, o2, s2⟩ := (rdg_3 hb hμ).rd _ _ _ r2 (by omega)
      refine ⟨⟨a0, a1, a2⟩, ?_, ?_, ?_⟩
      · have q := (CRs_step (CRs_step (CRs_step (show CRs w μ [] (cs.take 0) by simp [CRs]) c0) c1) c2)
        rw [show cs.take (0 + 1 + 1 + 1) = cs from List.take_of_length_le (by omega)] at q
        exact q
      · have q := (one_step (one_step (one_step (show ∀ u ∈ cs.take 0, u.oneCell' = true by simp) o0) o1) o2)
        rw [show cs.take (0 + 1 + 1 + 1) = cs from List.take_of_length_le (by omega)] at q
        exact q
      · unfold DFile.sz; simp only at *; omega
theorem rdg_28 {H : Type} {enc : TypeId × Value → H} {w : World} {spare : Nat → Bool} {held : Bool} {bk : DataW H → Nat} {μ : Mu} (hb : BulkOk bk) (hμ : ∀ g, ¬ μ.mut g) : Rdg enc Go.Proofs.Tryz.prog w spare held bk μ 28 (slA 3 DFile.av) (szL DFile.sz) := Rdg.slice hb hμ (e := 85) (by kernel_rfl) (by kernel_rfl) (fun a => Or.inl ⟨_, rfl, rfl⟩) (rdg_85 hb hμ)
theorem rdg_30 {H : Type} {enc : TypeId × Value → H} {w : World} {spare : Nat → Bool} {held : Bool} {bk : DataW H → Nat} {μ : Mu} (hb : BulkOk bk) (hμ : ∀ g, ¬ μ.mut g) : Rdg enc Go.Proofs.Tryz.prog w spare held bk μ 30 DDisk.av DDisk.sz where
  rd fuel cs x h hbd := by
    obtain ⟨xs, n, e, hl, hlen, hf⟩ := struct_rd (t := 30) (by kernel_rfl) h
    have hn : (fsOf Go.Proofs.Tryz.prog 30).size = 2 := by kernel_rfl
    have hc : Go.Proofs.Tryz.prog.cellsOf 30 = 2 := by kernel_rfl
    rw [hn] at hlen; rw [hc] at hl
    match xs, hlen, e, hf with
    | [x0, x1], _, e, hf =>
      have hag := hb.agg [x0.1, x1.1]
      simp only [List.map_cons, List.map_nil, List.sum_cons, List.sum_nil] at hag e
      rw [e] at hbd ⊢
      obtain ⟨y0, e0, r0⟩ := hf 0 0 3 1 (by kernel_rfl)
      cases e0
      obtain ⟨a0, c0, o0, s0⟩ := (rdg_3 hb hμ).rd _ _ _ r0 (by omega)
      obtain ⟨y1, e1, r1⟩ := hf 1 1 28 1 (by kernel_rfl)
      cases e1
      obtain ⟨a1, c1, o1, s1⟩ := (rdg_28 hb hμ).rd _ _ _ r1 (by omega)
      refine ⟨⟨a0, a1⟩, ?_, ?_, ?_⟩
      · have q := (CRs_step (CRs_step (show CRs w μ [] (cs.take 0) by simp [CRs]) c0) c1)
        rw [show cs.take (0 + 1 + 1) = cs from List.take_of_length_le (by omega)] at q
        exact q
      · have q := (one_step (one_step (show ∀ u ∈ cs.take 0, u.oneCell' = true by simp) o0) o1)
        rw [show cs.take (0 + 1 + 1) = cs from List.take_of_length_le (by omega)] at q
        exact q
      · unfold DDisk.sz; simp only at *; omega
theorem rdg_56 {H : Type} {enc : TypeId × Value → H} {w : World} {spare : Nat → Bool} {held : Bool} {bk : DataW H → Nat} {μ : Mu} (hb : BulkOk bk) (hμ : ∀ g, ¬ μ.mut g) : Rdg enc Go.Proofs.Tryz.prog w spare held bk μ 56 DRecord.av DRecord.sz where
  rd fuel cs x h hbd := by
    obtain ⟨xs, n, e, hl, hlen, hf⟩ := struct_rd (t := 56) (by kernel_rfl) h
    have hn : (fsOf Go.Proofs.Tryz.prog 56).size = 3 := by kernel_rfl
    have hc : Go.Proofs.Tryz.prog.cellsOf 56 = 3 := by kernel_rfl
    rw [hn] at hlen; rw [hc] at hl
    match xs, hlen, e, hf with
    | [x0, x1, x2], _, e, hf =>
      have hag := hb.agg [x0.1, x1.1, x2.1]
      simp only [List.map_cons, List.map_nil, List.sum_cons, List.sum_nil] at hag e
      rw [e] at hbd ⊢
      obtain ⟨y0, e0, r0⟩ := hf 0 0 9 1 (by kernel_rfl)
      cases e0
      obtain ⟨a0, c0, o0, s0⟩ := (rdg_9 hb hμ).rd _ _ _ r0 (by omega)
      obtain ⟨y1, e1, r1⟩ := hf 1 1 3 1 (by kernel_rfl)
      cases e1
      obtain ⟨a1, c1, o1, s1⟩ := (rdg_3 hb hμ).rd _ _ _ r1 (by omega)
      obtain ⟨y2, e2, r2⟩ := hf 2 2 9 1 (by kernel_rfl)
      cases e2
      obtain ⟨a2, c2, o2, s2⟩ := (rdg_9 hb hμ).rd _ _ _ r2 (by omega)
      refine ⟨⟨a0, a1, a2⟩, ?_, ?_, ?_⟩
      · have q := (CRs_step (CRs_step (CRs_step (show CRs w μ [] (cs.take 0) by simp [CRs]) c0) c1) c2)
        rw [show cs.take (0 + 1 + 1 + 1) = cs from List.take_of_length_le (by omega)] at q
        exact q
      · have q := (one_step (one_step (one_step (show ∀ u ∈ cs.take 0, u.oneCell' = true by simp) o0) o1) o2)
        rw [show cs.take (0 + 1 + 1 + 1) = cs from List.take_of_length_le (by omega)] at q
        exact q
      · unfold DRecord.sz; simp only at *; omega
theorem rdg_31 {H : Type} {enc : TypeId × Value → H} {w : World} {spare : Nat → Bool} {held : Bool} {bk : DataW H → Nat} {μ : Mu} (hb : BulkOk bk) (hμ : ∀ g, ¬ μ.mut g) : Rdg enc Go.Proofs.Tryz.prog w spare held bk μ 31 (slA 3 DRecord.av) (szL DRecord.sz) := Rdg.slice hb hμ (e := 56) (by kernel_rfl) (by kernel_rfl) (fun a => Or.inl ⟨_, rfl, rfl⟩) (rdg_56 hb hμ)
theorem rdg_61 {H : Type} {enc : TypeId × Value → H} {w : World} {spare : Nat → Bool} {held : Bool} {bk : DataW H → Nat} {μ : Mu} (hb : BulkOk bk) (hμ : ∀ g, ¬ μ.mut g) : Rdg enc Go.Proofs.Tryz.prog w spare held bk μ 61 DFound.av DFound.sz where
  rd fuel cs x h hbd := by
    obtain ⟨xs, n, e, hl, hlen, hf⟩ := struct_rd (t := 61) (by kernel_rfl) h
    have hn : (fsOf Go.Proofs.Tryz.prog 61).size = 3 := by kernel_rfl
    have hc : Go.Proofs.Tryz.prog.cellsOf 61 = 3 := by kernel_rfl
    rw [hn] at hlen; rw [hc] at hl
    match xs, hlen, e, hf with
    | [x0, x1, x2], _, e, hf =>
      have hag := hb.agg [x0.1, x1.1, x2.1]
      simp only [List.map_cons, List.map_nil, List.sum_cons, List.sum_nil] at hag e
      rw [e] at hbd ⊢
      obtain ⟨y0, e0, r0⟩ := hf 0 0 9 1 (by kernel_rfl)
      cases e0
      obtain ⟨a0, c0, o0, s0⟩ := (rdg_9 hb hμ).rd _ _ _ r0 (by omega)
      obtain ⟨y1, e1, r1⟩ := hf 1 1 3 1 (by kernel_rfl)
      cases e1
      obtain ⟨a1, c1, o1, s1⟩ := (rdg_3 hb hμ).rd _ _ _ r1 (by omega)
      obtain ⟨y2, e2, r2⟩ := hf 2 2 24 1 (by kernel_rfl)
      cases e2
      obtain ⟨a2, c2, o2, s2⟩ := (rdg_24 hb hμ).rd _ _ _ r2 (by omega)
      refine ⟨⟨a0, a1, a2⟩, ?_, ?_, ?_⟩
      · have q := (CRs_step (CRs_step (CRs_step (show CRs w μ [] (cs.take 0) by simp [CRs]) c0) c1) c2)
        rw [show cs.take (0 + 1 + 1 + 1) = cs from List.take_of_length_le (by omega)] at q
        exact q
      · have q := (one_step (one_step (one_step (show ∀ u ∈ cs.take 0, u.oneCell' = true by simp) o0) o1) o2)
        rw [show cs.take (0 + 1 + 1 + 1) = cs from List.take_of_length_le (by omega)] at q
        exact q
      · unfold DFound.sz; simp only at *; omega
theorem rdg_32 {H : Type} {enc : TypeId × Value → H} {w : World} {spare : Nat → Bool} {held : Bool} {bk : DataW H → Nat} {μ : Mu} (hb : BulkOk bk) (hμ : ∀ g, ¬ μ.mut g) : Rdg enc Go.Proofs.Tryz.prog w spare held bk μ 32 (slA 3 DFound.av) (szL DFound.sz) := Rdg.slice hb hμ (e := 61) (by kernel_rfl) (by kernel_rfl) (fun a => Or.inl ⟨_, rfl, rfl⟩) (rdg_61 hb hμ)
theorem rdg_33 {H : Type} {enc : TypeId × Value → H} {w : World} {spare : Nat → Bool} {held : Bool} {bk : DataW H → Nat} {μ : Mu} (hb : BulkOk bk) (hμ : ∀ g, ¬ μ.mut g) : Rdg enc Go.Proofs.Tryz.prog w spare held bk μ 33 (slA 1 (AV.i .i64)) (szL (fun _ => 1)) := Rdg.slice hb hμ (e := 3) (by kernel_rfl) (by kernel_rfl) (fun a => Or.inr ⟨(by intro fs h; cases h), rfl, rfl⟩) (rdg_3 hb hμ)
theorem rdg_35 {H : Type} {enc : TypeId × Value → H} {w : World} {spare : Nat → Bool} {held : Bool} {bk : DataW H → Nat} {μ : Mu} (hb : BulkOk bk) (hμ : ∀ g, ¬ μ.mut g) : Rdg enc Go.Proofs.Tryz.prog w spare held bk μ 35 DState.av DState.sz where
  rd fuel cs x h hbd := by
    obtain ⟨xs, n, e, hl, hlen, hf⟩ := struct_rd (t := 35) (by kernel_rfl) h
    have hn : (fsOf Go.Proofs.Tryz.prog 35).size = 8 := by kernel_rfl
    have hc : Go.Proofs.Tryz.prog.cellsOf 35 = 11 := by kernel_rfl
    rw [hn] at hlen; rw [hc] at hl
    match xs, hlen, e, hf with
    | [x0, x1, x2, x3, x4, x5, x6, x7], _, e, hf =>
      have hag := hb.agg [x0.1, x1.1, x2.1, x3.1, x4.1, x5.1, x6.1, x7.1]
      simp only [List.map_cons, List.map_nil, List.sum_cons, List.sum_nil] at hag e
      rw [e] at hbd ⊢
      obtain ⟨y0, e0, r0⟩ := hf 0 0 26 3 (by kernel_rfl)
      cases e0
      obtain ⟨a0, c0, o0, s0⟩ := (rdg_26 hb hμ).rd _ _ _ r0 (by omega)
      obtain ⟨y1, e1, r1⟩ := hf 1 3 27 1 (by kernel_rfl)
      cases e1
      obtain ⟨a1, c1, o1, s1⟩ := (rdg_27 hb hμ).rd _ _ _ r1 (by omega)
      obtain ⟨y2, e2, r2⟩ := hf 2 4 30 2 (by kernel_rfl)
      cases e2
      obtain ⟨a2, c2, o2, s2⟩ := (rdg_30 hb hμ).rd _ _ _ r2 (by omega)
      obtain ⟨y3, e3, r3⟩ := hf 3 6 31 1 (by kernel_rfl)
      cases e3
      obtain ⟨a3, c3, o3, s3⟩ := (rdg_31 hb hμ).rd _ _ _ r3 (by omega)
      obtain ⟨y4, e4, r4⟩ := hf 4 7 32 1 (by kernel_rfl)
      cases e4
      obtain ⟨a4, c4, o4, s4⟩ := (rdg_32 hb hμ).rd _ _ _ r4 (by omega)
      obtain ⟨y5, e5, r5⟩ := hf 5 8 3 1 (by kernel_rfl)
      cases e5
      obtain ⟨a5, c5, o5, s5⟩ := (rdg_3 hb hμ).rd _ _ _ r5 (by omega)
      obtain ⟨y6, e6, r6⟩ := hf 6 9 4 1 (by kernel_rfl)
      cases e6
      obtain ⟨a6, c6, o6, s6⟩ := (rdg_4 hb hμ).rd _ _ _ r6 (by omega)
      obtain ⟨y7, e7, r7⟩ := hf 7 10 33 1 (by kernel_rfl)
      cases e7
      obtain ⟨a7, c7, o7, s7⟩ := (rdg_33 hb hμ).rd _ _ _ r7 (by omega)
      refine ⟨⟨a0, a1, a2, a3, a4, a5, a6, a7⟩, ?_, ?_, ?_⟩
      · have q := (CRs_step (CRs_step (CRs_step (CRs_step (CRs_step (CRs_step (CRs_step (CRs_step (show CRs w μ [] (cs.take 0) by simp [CRs]) c0) c1) c2) c3) c4) c5) c6) c7)
        rw [show cs.take (0 + 3 + 1 + 2 + 1 + 1 + 1 + 1 + 1) = cs from List.take_of_length_le (by omega)] at q
        exact q
      · have q := (one_step (one_step (one_step (one_step (one_step (one_step (one_step (one_step (show ∀ u ∈ cs.take 0, u.oneCell' = true by simp) o0) o1) o2) o3) o4) o5) o6) o7)
        rw [show cs.take (0 + 3 + 1 + 2 + 1 + 1 + 1 + 1 + 1) = cs from List.take_of_length_le (by omega)] at q
        exact q
      · unfold DState.sz; simp only at *; omega
end
end Go.Lift
