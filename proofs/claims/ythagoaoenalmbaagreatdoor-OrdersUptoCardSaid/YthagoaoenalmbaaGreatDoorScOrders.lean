/-
  Lemmas of this claim: a layer over the kit's calls, contracts of the functions that the law reaches, and the law's row. No condition of its own.
-/
import Derived.Test.YthagoaoenalmbaaGreatDoorLbOrders
import Derived.Test.YthagoaoenalmbaaGreatDoorSaOrders
namespace Go.Lift
noncomputable section
open Go Go.RowKit
set_option linter.unusedSimpArgs false
set_option linter.unusedVariables false
set_option linter.unusedSectionVars false
set_option maxRecDepth 20000
structure DEdge where
  outs : List ByteArray
  ins : List ByteArray
  implicit : List ByteArray
  order : List ByteArray
  command : ByteArray
  deps : Bool
  pool : ByteArray
def DEdge.av (d : DEdge) : AV := .st [(slA 1 AV.s) d.outs, (slA 1 AV.s) d.ins, (slA 1 AV.s) d.implicit, (slA 1 AV.s) d.order, AV.s d.command, AV.b d.deps, AV.s d.pool]
def DEdge.zero : DEdge := ⟨[], [], [], [], (⟨#[]⟩ : ByteArray), false, (⟨#[]⟩ : ByteArray)⟩
instance : Inhabited DEdge := ⟨DEdge.zero⟩
def DEdge.sz (d : DEdge) : Nat := (szL (fun s : ByteArray => s.size + 1)) d.outs + (szL (fun s : ByteArray => s.size + 1)) d.ins + (szL (fun s : ByteArray => s.size + 1)) d.implicit + (szL (fun s : ByteArray => s.size + 1)) d.order + (fun s : ByteArray => s.size + 1) d.command + (fun _ => 1) d.deps + (fun s : ByteArray => s.size + 1) d.pool + 1
theorem DEdge.sz_outs (d : DEdge) : (szL (fun s : ByteArray => s.size + 1)) d.outs ≤ d.sz := by unfold DEdge.sz; omega
theorem DEdge.sz_ins (d : DEdge) : (szL (fun s : ByteArray => s.size + 1)) d.ins ≤ d.sz := by unfold DEdge.sz; omega
theorem DEdge.sz_implicit (d : DEdge) : (szL (fun s : ByteArray => s.size + 1)) d.implicit ≤ d.sz := by unfold DEdge.sz; omega
theorem DEdge.sz_order (d : DEdge) : (szL (fun s : ByteArray => s.size + 1)) d.order ≤ d.sz := by unfold DEdge.sz; omega
theorem DEdge.lim_outs {d : DEdge} (h : lim d.av) : lim ((slA 1 AV.s) d.outs) := by simp only [DEdge.av, lim, limL] at h; exact h.1
structure DPool where
  name : ByteArray
  depth : Int
def DPool.av (d : DPool) : AV := .st [AV.s d.name, (AV.i .i64) d.depth]
def DPool.zero : DPool := ⟨(⟨#[]⟩ : ByteArray), (0 : Int)⟩
instance : Inhabited DPool := ⟨DPool.zero⟩
def DPool.sz (d : DPool) : Nat := (fun s : ByteArray => s.size + 1) d.name + (fun _ => 1) d.depth + 1
structure DGraph where
  edges : List DEdge
  pools : List DPool
  defaults : List ByteArray
def DGraph.av (d : DGraph) : AV := .st [(slA 7 DEdge.av) d.edges, (slA 2 DPool.av) d.pools, (slA 1 AV.s) d.defaults]
def DGraph.zero : DGraph := ⟨[], [], []⟩
instance : Inhabited DGraph := ⟨DGraph.zero⟩
def DGraph.sz (d : DGraph) : Nat := (szL DEdge.sz) d.edges + (szL DPool.sz) d.pools + (szL (fun s : ByteArray => s.size + 1)) d.defaults + 1
theorem DGraph.sz_edges (d : DGraph) : (szL DEdge.sz) d.edges ≤ d.sz := by unfold DGraph.sz; omega
theorem DGraph.sz_pools (d : DGraph) : (szL DPool.sz) d.pools ≤ d.sz := by unfold DGraph.sz; omega
theorem DGraph.sz_defaults (d : DGraph) : (szL (fun s : ByteArray => s.size + 1)) d.defaults ≤ d.sz := by unfold DGraph.sz; omega
theorem DGraph.lim_pt {d : DGraph} (h : lim (.pt d.av.cells)) : lim d.av := by simp only [DGraph.av, AV.cells, lim] at h ⊢; exact h
theorem DGraph.lim_edges {d : DGraph} (h : lim d.av) : lim ((slA 7 DEdge.av) d.edges) := by simp only [DGraph.av, lim, limL] at h; exact h.1
theorem DGraph.lim_pools {d : DGraph} (h : lim d.av) : lim ((slA 2 DPool.av) d.pools) := by simp only [DGraph.av, lim, limL] at h; exact h.2.1
structure DAction where
  command : ByteArray
  reads : List ByteArray
  fails : Bool
def DAction.zero : DAction := ⟨(⟨#[]⟩ : ByteArray), [], false⟩
instance : Inhabited DAction := ⟨DAction.zero⟩
structure DRecord where
  out : ByteArray
  time : Int
  sign : ByteArray
def DRecord.zero : DRecord := ⟨(⟨#[]⟩ : ByteArray), (0 : Int), (⟨#[]⟩ : ByteArray)⟩
instance : Inhabited DRecord := ⟨DRecord.zero⟩
structure DFound where
  out : ByteArray
  time : Int
  ins : List ByteArray
def DFound.zero : DFound := ⟨(⟨#[]⟩ : ByteArray), (0 : Int), []⟩
instance : Inhabited DFound := ⟨DFound.zero⟩
structure DFile where
  name : ByteArray
  content : Int
  time : Int
def DFile.zero : DFile := ⟨(⟨#[]⟩ : ByteArray), (0 : Int), (0 : Int)⟩
instance : Inhabited DFile := ⟨DFile.zero⟩
structure DDisk where
  clock : Int
  files : List DFile
def DDisk.zero : DDisk := ⟨(0 : Int), []⟩
instance : Inhabited DDisk := ⟨DDisk.zero⟩
structure DState where
  graph : DGraph
  actions : List DAction
  disk : DDisk
  log : List DRecord
  deps : List DFound
  jobs : Int
  going : Bool
  status : List Int
def DState.zero : DState := ⟨DGraph.zero, [], DDisk.zero, [], [], (0 : Int), false, []⟩
instance : Inhabited DState := ⟨DState.zero⟩
def lit28f67 : DEdge := (⟨[(⟨#[108, 105, 98]⟩ : ByteArray)], [(⟨#[97, 46, 111]⟩ : ByteArray), (⟨#[98, 46, 111]⟩ : ByteArray)], [], [], (⟨#[97, 114]⟩ : ByteArray), false, (⟨#[]⟩ : ByteArray)⟩ : DEdge)
def lit345b9 : DEdge := (⟨[(⟨#[98, 46, 111]⟩ : ByteArray)], [(⟨#[98, 46, 99]⟩ : ByteArray)], [], [(⟨#[97, 46, 111]⟩ : ByteArray)], (⟨#[99, 99, 32, 98]⟩ : ByteArray), false, (⟨#[116, 119, 111]⟩ : ByteArray)⟩ : DEdge)
def lit17817 : DEdge := (⟨[(⟨#[97, 46, 111]⟩ : ByteArray), (⟨#[97, 46, 100]⟩ : ByteArray)], [(⟨#[97, 46, 99]⟩ : ByteArray)], [(⟨#[97, 46, 104]⟩ : ByteArray)], [], (⟨#[99, 99, 32, 97]⟩ : ByteArray), true, (⟨#[116, 119, 111]⟩ : ByteArray)⟩ : DEdge)
def litdcc5a : DEdge := (⟨[(⟨#[97, 46, 111]⟩ : ByteArray), (⟨#[97, 46, 100]⟩ : ByteArray)], [(⟨#[97, 46, 99]⟩ : ByteArray)], [(⟨#[97, 46, 104]⟩ : ByteArray)], [(⟨#[108, 105, 98]⟩ : ByteArray)], (⟨#[]⟩ : ByteArray), true, (⟨#[116, 119, 111]⟩ : ByteArray)⟩ : DEdge)
def lit1765d : DEdge := (⟨[(⟨#[97, 46, 111]⟩ : ByteArray), (⟨#[97, 46, 100]⟩ : ByteArray)], [(⟨#[97, 46, 99]⟩ : ByteArray)], [(⟨#[97, 46, 104]⟩ : ByteArray)], [(⟨#[108, 105, 98]⟩ : ByteArray)], (⟨#[99, 99, 32, 97]⟩ : ByteArray), true, (⟨#[116, 119, 111]⟩ : ByteArray)⟩ : DEdge)
def lit7e8b3 : DGraph := (⟨[lit28f67, lit17817, lit345b9], [(⟨(⟨#[116, 119, 111]⟩ : ByteArray), (2 : Int)⟩ : DPool)], [(⟨#[108, 105, 98]⟩ : ByteArray)]⟩ : DGraph)
def litc6c08 : DGraph := (⟨[lit28f67, litdcc5a, lit345b9], [(⟨(⟨#[116, 119, 111]⟩ : ByteArray), (2 : Int)⟩ : DPool)], [(⟨#[108, 105, 98]⟩ : ByteArray)]⟩ : DGraph)
def litf4af2 : DGraph := (⟨[lit28f67, lit1765d, lit345b9], [(⟨(⟨#[116, 119, 111]⟩ : ByteArray), (2 : Int)⟩ : DPool)], [(⟨#[108, 105, 98]⟩ : ByteArray)]⟩ : DGraph)
def outsN : List DEdge → Nat
  | [] => 0
  | e :: r => e.outs.length + outsN r
def eOf (e : DEdge) : EdgeD := ⟨⟨false, e.outs⟩, ⟨false, e.ins⟩, ⟨false, e.implicit⟩, ⟨false, e.order⟩, e.command, e.deps, e.pool⟩
def pOf (p : DPool) : PoolD := ⟨p.name, p.depth⟩
def gOf (g : DGraph) : GraphD := ⟨false, g.edges.map eOf, false, g.pools.map pOf, ⟨false, g.defaults⟩⟩
def m_graph_May (g : DGraph) : Bool := mayG (gOf g)
def m_7 (g : DGraph) : Int := checkS (gOf g)
def needsN (g : DGraph) (edge : Int) : Nat := (g.edges.getD edge.toNat default).ins.length + (g.edges.getD edge.toNat default).implicit.length + (g.edges.getD edge.toNat default).order.length
def m_a4 : List Int → Nat → (List Int) → Lp (List Int) ((List Int))
  | [], i, row => Lp.brk row
  | x1 :: rest, i, row => m_a4 rest (i + 1) (row.set i (IntKind.wrap .i64 ((-9 : Int) - (row.getD i default))))
def m_law0_SpoilInts (a : List Int) : List Int :=
  (match m_a4 a 0 a with
  | Lp.ret r => r
  | Lp.brk row' => row')
def m_path_Is (s' : ByteArray) : Bool :=
  (decide ((cleanS s').2 = (0 : Int)) && decide ((cleanS s').1 = s'))
def m_path_All_L1 : List ByteArray → Nat → Lp (Bool) (Unit)
  | [], v9 => Lp.brk ()
  | x1 :: rest, v9 => (bif (!(m_path_Is x1)) then Lp.ret false else m_path_All_L1 rest (v9 + 1))
def m_path_All (ss : List ByteArray) (most' : Int) : Bool :=
  (match m_path_All_L1 ss 0 with
  | Lp.ret r => r
  | Lp.brk () => decide (((ss.length : Nat) : Int) ≤ most'))
def m_name_Plain_L1 : List UInt8 → Nat → Lp (Bool) (Unit)
  | [], v8 => Lp.brk ()
  | x1 :: rest, v8 => (bif decide ((x1.toNat : Int) < (32 : Int)) then Lp.ret false else (bif decide ((126 : Int) < (x1.toNat : Int)) then Lp.ret false else m_name_Plain_L1 rest (v8 + 1)))
def m_graph_Outs_L1 : List DEdge → Nat → (List ByteArray) → Lp (List ByteArray) ((List ByteArray))
  | [], v11, out => Lp.brk out
  | x1 :: rest, v11, out => m_graph_Outs_L1 rest (v11 + 1) (out ++ x1.outs)
def m_graph_Outs (g : DGraph) : List ByteArray :=
  (match m_graph_Outs_L1 g.edges 0 [] with
  | Lp.ret r => r
  | Lp.brk out' => out')
def m_ba (x' : ByteArray) : List ByteArray → Nat → Lp (Bool) (Unit)
  | [], i => Lp.brk ()
  | x1 :: rest, i => (bif decide (x1 = x') then Lp.ret true else m_ba x' rest (i + 1))
def m_a5 (xs : List ByteArray) (x' : ByteArray) : Bool :=
  (match m_ba x' xs 0 with
  | Lp.ret r => r
  | Lp.brk () => false)
def m_ah (c : Int) : Bool :=
  (bif decide ((97 : Int) ≤ c) then (decide (c ≤ (122 : Int)) || (decide ((48 : Int) ≤ c) && decide (c ≤ (57 : Int)))) else (decide ((48 : Int) ≤ c) && decide (c ≤ (57 : Int))))
def m_a2 : List UInt8 → Nat → Lp (Bool) (Unit)
  | [], i => Lp.brk ()
  | x1 :: rest, i => (bif decide ((x1.toNat : Int) < (32 : Int)) then Lp.ret false else (bif decide ((126 : Int) < (x1.toNat : Int)) then Lp.ret false else m_a2 rest (i + 1)))
def m_an (s' : ByteArray) (least : Int) (most' : Int) : Bool :=
  (match m_a2 s'.data.toList 0 with
  | Lp.ret r => r
  | Lp.brk () => (decide (least ≤ ((s'.size : Nat) : Int)) && decide (((s'.size : Nat) : Int) ≤ most')))
def m_ac : List UInt8 → Nat → Lp (Bool) (Unit)
  | [], i => Lp.brk ()
  | x1 :: rest, i => (bif (!(m_ah (x1.toNat : Int))) then (bif (!decide ((x1.toNat : Int) = (46 : Int))) then (bif (!decide ((x1.toNat : Int) = (95 : Int))) then (bif (!decide ((x1.toNat : Int) = (45 : Int))) then (bif (!decide ((x1.toNat : Int) = (47 : Int))) then Lp.ret false else m_ac rest (i + 1)) else m_ac rest (i + 1)) else m_ac rest (i + 1)) else m_ac rest (i + 1)) else m_ac rest (i + 1))
def m_q (s' : ByteArray) : Bool :=
  (match m_ac s'.data.toList 0 with
  | Lp.ret r => r
  | Lp.brk () => (decide ((1 : Int) ≤ ((s'.size : Nat) : Int)) && decide (((s'.size : Nat) : Int) ≤ (16 : Int))))
def m_aw (sign : ByteArray) : List ByteArray → Nat → ByteArray → Lp (ByteArray) (ByteArray)
  | [], i, s' => Lp.brk s'
  | x1 :: rest, i, s' => (bif decide ((0 : Int) < ((i : Nat) : Int)) then m_aw sign rest (i + 1) ((s' ++ sign) ++ x1) else m_aw sign rest (i + 1) (s' ++ x1))
def m_a8 (xs : List ByteArray) (sign : ByteArray) : ByteArray :=
  (match m_aw sign xs 0 (⟨#[]⟩ : ByteArray) with
  | Lp.ret r => r
  | Lp.brk sv' => sv')
def m_af (s' : ByteArray) (sign : Int) : Nat → (List ByteArray) → Nat → Nat → Lp (List ByteArray) ((List ByteArray))
  | 0, out, from', i => Lp.brk out
  | kf + 1, out, from', i => (bif decide (((i : Nat) : Int) ≤ ((s'.size : Nat) : Int)) then (bif (decide (((i : Nat) : Int) = ((s'.size : Nat) : Int)) || decide (((s'.data.getD i 0).toNat : Int) = sign)) then m_af s' sign kf (out ++ [(s'.extract from' i)]) (i + 1) (i + 1) else m_af s' sign kf out from' (i + 1)) else Lp.brk out)
def m_k (s' : ByteArray) (sign : Int) : List ByteArray :=
  (match m_af s' sign (s'.size + 1 - 0 + 1) [] 0 0 with
  | Lp.ret r => r
  | Lp.brk out' => out')
def m_3 : List ByteArray → Nat → (List ByteArray) → Lp (ByteArray × Int) ((List ByteArray))
  | [], i, kept => Lp.brk kept
  | x1 :: rest, i, kept => (bif decide (x1 = (⟨#[]⟩ : ByteArray)) then m_3 rest (i + 1) kept else (bif decide (x1 = (⟨#[46]⟩ : ByteArray)) then m_3 rest (i + 1) kept else (bif decide (x1 = (⟨#[46, 46]⟩ : ByteArray)) then (bif decide (((kept.length : Nat) : Int) = (0 : Int)) then Lp.ret ((⟨#[]⟩ : ByteArray), (200 : Int)) else m_3 rest (i + 1) (kept.take (kept.length - 1))) else m_3 rest (i + 1) (kept ++ [x1]))))
def m_e (s' : ByteArray) : ByteArray × Int :=
  (bif (!(m_q s')) then ((⟨#[]⟩ : ByteArray), (200 : Int)) else (bif decide (((s'.data.getD 0 0).toNat : Int) = (47 : Int)) then ((⟨#[]⟩ : ByteArray), (200 : Int)) else (match m_3 (m_k s' (47 : Int)) 0 [] with
  | Lp.ret r => r
  | Lp.brk kept' => (bif decide (((kept'.length : Nat) : Int) = (0 : Int)) then ((⟨#[]⟩ : ByteArray), (200 : Int)) else ((m_a8 kept' (⟨#[47]⟩ : ByteArray)), (0 : Int))))))
def m_ax (s' : ByteArray) : Bool :=
  (decide ((m_e s').2 = (0 : Int)) && decide ((m_e s').1 = s'))
def m_au : List ByteArray → Nat → Lp (Bool) (Unit)
  | [], i => Lp.brk ()
  | x1 :: rest, i => (bif (!(m_ax x1)) then Lp.ret false else m_au rest (i + 1))
def m_j (xs : List ByteArray) : Bool :=
  (match m_au xs 0 with
  | Lp.ret r => r
  | Lp.brk () => decide (((xs.length : Nat) : Int) ≤ (8 : Int)))
def m_a3 (name : ByteArray) : List DPool → Nat → Lp (Int) (Unit)
  | [], i => Lp.brk ()
  | x1 :: rest, i => (bif decide (x1.name = name) then Lp.ret ((i : Nat) : Int) else m_a3 name rest (i + 1))
def m_ab (ps : List DPool) (name : ByteArray) : Int :=
  (match m_a3 name ps 0 with
  | Lp.ret r => r
  | Lp.brk () => (-1 : Int))
def m_w (e : DEdge) : Bool :=
  (decide ((0 : Int) < ((e.outs.length : Nat) : Int)) && ((m_j e.outs) && ((m_j e.ins) && ((m_j e.implicit) && ((m_j e.order) && ((m_an e.command (1 : Int) (256 : Int)) && (decide (e.pool = (⟨#[]⟩ : ByteArray)) || (m_q e.pool))))))))
def m_ae (g : DGraph) : List DEdge → Nat → Lp (Bool) (Unit)
  | [], i2 => Lp.brk ()
  | x2 :: rest, i2 => (bif (!(m_w x2)) then Lp.ret false else (bif (!decide (x2.pool = (⟨#[]⟩ : ByteArray))) then (bif decide ((m_ab g.pools x2.pool) < (0 : Int)) then Lp.ret false else m_ae g rest (i2 + 1)) else m_ae g rest (i2 + 1)))
def m_am (g : DGraph) : List DPool → Nat → Lp (Bool) (Unit)
  | [], i => Lp.brk ()
  | x1 :: rest, i => (bif (!(m_q x1.name)) then Lp.ret false else (bif decide (x1.depth < (1 : Int)) then Lp.ret false else (bif decide ((8 : Int) < x1.depth) then Lp.ret false else (bif (!decide ((m_ab g.pools x1.name) = ((i : Nat) : Int))) then Lp.ret false else m_am g rest (i + 1)))))
def m_p (g : DGraph) : Bool :=
  (match m_am g g.pools 0 with
  | Lp.ret r => r
  | Lp.brk () => (match m_ae g g.edges 0 with
  | Lp.ret r => r
  | Lp.brk () => (decide (((g.pools.length : Nat) : Int) ≤ (4 : Int)) && (decide (((g.edges.length : Nat) : Int) ≤ (16 : Int)) && (m_j g.defaults)))))
def m_a7 : List ByteArray → Nat → (List ByteArray) → Lp (Int) ((List ByteArray))
  | [], k, all2 => Lp.brk all2
  | x2 :: rest, k, all2 => (bif (m_a5 all2 x2) then Lp.ret (901 : Int) else m_a7 rest (k + 1) (all2 ++ [x2]))
def m_a6 : List DEdge → Nat → (List ByteArray) → Lp (Int) (Unit)
  | [], i, all => Lp.brk ()
  | x1 :: rest, i, all => (match m_a7 x1.outs 0 all with
  | Lp.ret r => Lp.ret r
  | Lp.brk all2' => m_a6 rest (i + 1) all2')
def m_ay (g : DGraph) : Int :=
  (bif (!(m_p g)) then (900 : Int) else (match m_a6 g.edges 0 [] with
  | Lp.ret r => r
  | Lp.brk () => (0 : Int)))
def m_a9 (name : ByteArray) : List DEdge → Nat → Lp (Int) (Unit)
  | [], i => Lp.brk ()
  | x1 :: rest, i => (bif (m_a5 x1.outs name) then Lp.ret ((i : Nat) : Int) else m_a9 name rest (i + 1))
def m_x (g : DGraph) (name : ByteArray) : Int :=
  (match m_a9 name g.edges 0 with
  | Lp.ret r => r
  | Lp.brk () => (-1 : Int))
def m_a0 (g : DGraph) : List ByteArray → Nat → (List Int) → Lp (List Int) ((List Int))
  | [], i, out => Lp.brk out
  | x1 :: rest, i, out => (bif decide ((0 : Int) ≤ (m_x g x1)) then m_a0 g rest (i + 1) (out ++ [(m_x g x1)]) else m_a0 g rest (i + 1) out)
def m_y (g : DGraph) (edge : Int) : List Int :=
  (match m_a0 g (((g.edges.getD edge.toNat default).ins ++ (g.edges.getD edge.toNat default).implicit) ++ (g.edges.getD edge.toNat default).order) 0 [] with
  | Lp.ret r => r
  | Lp.brk out' => out')
def m_av (row : List Bool) : List Int → Nat → Bool → Lp (List Int × Int) (Bool)
  | [], k, free => Lp.brk free
  | x3 :: rest, k, free => (bif free then m_av row rest (k + 1) (row.getD x3.toNat default) else m_av row rest (k + 1) false)
def m_a1 (row : List Bool) (g : DGraph) : Nat → Int → Int → Lp (List Int × Int) (Int)
  | 0, next, i => Lp.brk next
  | kf + 1, next, i => (bif decide ((0 : Int) ≤ i) then (match m_av row (m_y g i) 0 (!(row.getD i.toNat default)) with
  | Lp.ret r => Lp.ret r
  | Lp.brk free' => (bif free' then m_a1 row g kf i (i - (1 : Int)) else m_a1 row g kf next (i - (1 : Int)))) else Lp.brk next)
def m_bb (g : DGraph) : Nat → (List Int) → (List Bool) → Lp (List Int × Int) ((List Int) × (List Bool))
  | 0, out, row => Lp.brk (out, row)
  | kf + 1, out, row => (bif decide (((out.length : Nat) : Int) < ((g.edges.length : Nat) : Int)) then (match m_a1 row g (((((g.edges.length : Nat) : Int) - (1 : Int)) + 1).toNat + 1) (-1 : Int) (((g.edges.length : Nat) : Int) - (1 : Int)) with
  | Lp.ret r => Lp.ret r
  | Lp.brk next' => (bif decide (next' < (0 : Int)) then Lp.ret (([] : List Int), (1001 : Int)) else m_bb g kf (out ++ [next']) (row.set next'.toNat true))) else Lp.brk (out, row))
def m_g (g : DGraph) : List Int × Int :=
  (bif (!decide ((m_ay g) = (0 : Int))) then (([] : List Int), (1000 : Int)) else (match m_bb g (g.edges.length - 0 + 1) [] (List.replicate g.edges.length false) with
  | Lp.ret r => r
  | Lp.brk (out', row') => (out', (0 : Int))))
def m_as (b : List Int) : List Int → Nat → Lp (Bool) (Unit)
  | [], i => Lp.brk ()
  | x1 :: rest, i => (bif (!decide (x1 = (b.getD i default))) then Lp.ret false else m_as b rest (i + 1))
def m_u (a : List Int) (b : List Int) : Bool :=
  (!(!decide (((a.length : Nat) : Int) = ((b.length : Nat) : Int))) && (match m_as b a 0 with
  | Lp.ret r => r
  | Lp.brk () => true))
def m_aj (v : Int) : List Int → Nat → Lp (Int) (Unit)
  | [], v8 => Lp.brk ()
  | x1 :: rest, v8 => (bif decide (v = x1) then Lp.ret ((v8 : Nat) : Int) else m_aj v rest (v8 + 1))
def m_2 (s' : List Int) (v : Int) : Int :=
  (match m_aj v s' 0 with
  | Lp.ret r => r
  | Lp.brk () => (-1 : Int))
def m_m (s' : List Int) (v : Int) : Bool :=
  decide ((0 : Int) ≤ (m_2 s' v))
def m_6 (v : ByteArray) : List ByteArray → Nat → Lp (Int) (Unit)
  | [], v8 => Lp.brk ()
  | x1 :: rest, v8 => (bif decide (v = x1) then Lp.ret ((v8 : Nat) : Int) else m_6 v rest (v8 + 1))
def m_o (s' : List ByteArray) (v : ByteArray) : Int :=
  (match m_6 v s' 0 with
  | Lp.ret r => r
  | Lp.brk () => (-1 : Int))
def m_r (s' : List ByteArray) (v : ByteArray) : Bool :=
  decide ((0 : Int) ≤ (m_o s' v))
def m_z (f : DEdge → Bool) : List DEdge → Nat → Lp (Int) (Unit)
  | [], v8 => Lp.brk ()
  | x1 :: rest, v8 => (bif (f x1) then Lp.ret ((v8 : Nat) : Int) else m_z f rest (v8 + 1))
def m_l (s' : List DEdge) (f : DEdge → Bool) : Int :=
  (match m_z f s' 0 with
  | Lp.ret r => r
  | Lp.brk () => (-1 : Int))
def m_az (e : DEdge) (name : ByteArray) : Bool :=
  (m_r e.outs name)
def m_n (g : DGraph) (s' : ByteArray) : Int :=
  (m_l g.edges (fun z0 => m_az z0 s'))
def m_aa (f : Int → Bool) : List Int → Nat → Lp (Int) (Unit)
  | [], v8 => Lp.brk ()
  | x1 :: rest, v8 => (bif (f x1) then Lp.ret ((v8 : Nat) : Int) else m_aa f rest (v8 + 1))
def m_t (s' : List Int) (f : Int → Bool) : Int :=
  (match m_aa f s' 0 with
  | Lp.ret r => r
  | Lp.brk () => (-1 : Int))
def m_f (s' : List Int) (f : Int → Bool) : Bool :=
  decide ((0 : Int) ≤ (m_t s' f))
def m_grow_string (n' : Nat) : List ByteArray :=
  (bif decide ((0 : Int) < ((n' : Nat) : Int)) then ((List.replicate n' (⟨#[]⟩ : ByteArray)).take 0) else [])
def m_d : List (List ByteArray) → Nat → (List ByteArray) → Lp (List ByteArray) ((List ByteArray))
  | [], v27, newslice => Lp.brk newslice
  | x2 :: rest, v27, newslice => m_d rest (v27 + 1) (newslice ++ x2)
def m_i : List (List ByteArray) → Nat → Nat → Lp (List ByteArray) (Nat)
  | [], v11, size => Lp.brk size
  | x1 :: rest, v11, size => m_i rest (v11 + 1) (size + x1.length)
def m_b (slices : List (List ByteArray)) : List ByteArray :=
  (match m_i slices 0 0 with
  | Lp.ret r => r
  | Lp.brk size' => (match m_d slices 0 ((List.replicate size' (⟨#[]⟩ : ByteArray)).take 0) with
  | Lp.ret r => r
  | Lp.brk newslice4' => newslice4'))
def m_ar (g : DGraph) : List ByteArray → Nat → (List Int) → Lp (List Int) ((List Int))
  | [], v31, out => Lp.brk out
  | x1 :: rest, v31, out => (bif decide ((0 : Int) ≤ (m_n g x1)) then (bif (!(m_m out (m_n g x1))) then m_ar g rest (v31 + 1) (out ++ [(m_n g x1)]) else m_ar g rest (v31 + 1) out) else m_ar g rest (v31 + 1) out)
def m_v (g : DGraph) (edge : Int) : List Int :=
  (match m_ar g (m_b [(g.edges.getD edge.toNat default).ins, (g.edges.getD edge.toNat default).implicit, (g.edges.getD edge.toNat default).order]) 0 [] with
  | Lp.ret r => r
  | Lp.brk out' => out')
def m_s (edge : Int) (out : List Int) : Bool :=
  (m_m out edge)
def m_ag (edge : Int) (told : Int → Bool) : Bool :=
  (!(told edge))
def m_al : List (List Int) → Nat → (List Int) → Lp (List Int × Int) (Bool × (List Int))
  | [], v38, cell2 => Lp.brk (false, cell2)
  | x3 :: rest, v38, cell2 => (bif (!(m_s ((v38 : Nat) : Int) cell2)) then (bif (!(m_f x3 (fun z0 => m_ag z0 (fun z0 => m_s z0 cell2)))) then Lp.brk (true, (cell2 ++ [((v38 : Nat) : Int)])) else m_al rest (v38 + 1) cell2) else m_al rest (v38 + 1) cell2)
def m_at (g : DGraph) (row : List (List Int)) : Nat → (List Int) → Lp (List Int × Int) ((List Int))
  | 0, cell => Lp.brk cell
  | kf + 1, cell => (bif decide (((cell.length : Nat) : Int) < ((g.edges.length : Nat) : Int)) then (match m_al row 0 cell with
  | Lp.ret r => Lp.ret r
  | Lp.brk (t', cell2') => (bif t' then m_at g row kf cell2' else Lp.ret (([] : List Int), (1001 : Int)))) else Lp.brk cell)
def m_ak (g : DGraph) : List (List Int) → Nat → (List (List Int)) → Lp (List Int × Int) ((List (List Int)))
  | [], v20, row => Lp.brk row
  | x1 :: rest, v20, row => m_ak g rest (v20 + 1) (row.set v20 (m_v g ((v20 : Nat) : Int)))
def m_c (g : DGraph) : List Int × Int :=
  (bif (!decide ((m_7 g) = (0 : Int))) then (([] : List Int), (1000 : Int)) else (match m_ak g (List.replicate g.edges.length ([] : List Int)) 0 (List.replicate g.edges.length ([] : List Int)) with
  | Lp.ret r => r
  | Lp.brk row' => (match m_at g row' (g.edges.length - 0 + 1) [] with
  | Lp.ret r => r
  | Lp.brk cell3' => (cell3', (0 : Int)))))
def m_9 (a : DEdge) : DEdge :=
  (⟨a.outs, a.ins, a.implicit, a.order, a.command, a.deps, a.pool⟩ : DEdge)
def m_ai : List DEdge → Nat → (List DEdge) → Lp (DGraph) ((List DEdge))
  | [], i, edges => Lp.brk edges
  | x1 :: rest, i, edges => m_ai rest (i + 1) (edges ++ [(m_9 x1)])
def m_a (a : DGraph) : DGraph :=
  (match m_ai a.edges 0 [] with
  | Lp.ret r => r
  | Lp.brk edges' => (⟨edges', a.pools, a.defaults⟩ : DGraph))
def m_aq (b : List ByteArray) : List ByteArray → Nat → Lp (Bool) (Unit)
  | [], i => Lp.brk ()
  | x1 :: rest, i => (bif (!decide (x1 = (b.getD i default))) then Lp.ret false else m_aq b rest (i + 1))
def m_h (a : List ByteArray) (b : List ByteArray) : Bool :=
  (!(!decide (((a.length : Nat) : Int) = ((b.length : Nat) : Int))) && (match m_aq b a 0 with
  | Lp.ret r => r
  | Lp.brk () => true))
def m_0 (a : DEdge) (b : DEdge) : Bool :=
  ((m_h a.outs b.outs) && ((m_h a.ins b.ins) && ((m_h a.implicit b.implicit) && ((m_h a.order b.order) && (decide (a.command = b.command) && ((a.deps == b.deps) && decide (a.pool = b.pool)))))))
def m_ap (b : List DPool) : List DPool → Nat → Lp (Bool) (Unit)
  | [], i => Lp.brk ()
  | x1 :: rest, i => (bif (!(decide (x1.name = (b.getD i default).name) && (decide (x1.depth = (b.getD i default).depth) && true))) then Lp.ret false else m_ap b rest (i + 1))
def m_ad (a : List DPool) (b : List DPool) : Bool :=
  (!(!decide (((a.length : Nat) : Int) = ((b.length : Nat) : Int))) && (match m_ap b a 0 with
  | Lp.ret r => r
  | Lp.brk () => true))
def m_ao (b : DGraph) : List DEdge → Nat → Lp (Bool) (Unit)
  | [], i => Lp.brk ()
  | x1 :: rest, i => (bif (!(m_0 x1 (b.edges.getD i default))) then Lp.ret false else m_ao b rest (i + 1))
def m_1 (a : DGraph) (b : DGraph) : Bool :=
  (!(!decide (((a.edges.length : Nat) : Int) = ((b.edges.length : Nat) : Int))) && (match m_ao b a.edges 0 with
  | Lp.ret r => r
  | Lp.brk () => ((m_ad a.pools b.pools) && (m_h a.defaults b.defaults))))
def m_5 (e : Int) : Int :=
  e
def m_law10_given : DGraph :=
  lit7e8b3
def m_8 : Bool :=
  ((m_u ((m_c lit7e8b3).1) [(1 : Int), (2 : Int), (0 : Int)]) && (decide ((m_5 ((m_c lit7e8b3).2)) = (0 : Int)) && (decide ((m_5 ((m_c litf4af2).2)) = (1001 : Int)) && decide ((m_5 ((m_c litc6c08).2)) = (1000 : Int)))))
def m_4 (g : DGraph) : Bool :=
  (!(!(m_u ((m_c (⟨(m_a g).edges, (m_a g).pools, (m_a g).defaults⟩ : DGraph)).1) ((m_g g).1))) && (!(!decide ((m_5 ((m_c (⟨(m_a g).edges, (m_a g).pools, (m_a g).defaults⟩ : DGraph)).2)) = (m_g g).2)) && ((m_1 (⟨(m_a g).edges, (m_a g).pools, (m_a g).defaults⟩ : DGraph) g) && m_8)))
end
end Go.Lift
namespace Go.Lift
noncomputable section
open Go Go.RowKit
set_option linter.unusedSimpArgs false
set_option linter.unusedVariables false
set_option linter.unusedSectionVars false
set_option maxRecDepth 20000
theorem szL_len {α : Type} {sz : α → Nat} (h : ∀ x, 1 ≤ sz x) (xs : List α) : xs.length + 1 ≤ szL sz xs := by
  unfold szL
  induction xs with
  | nil => simp
  | cons x xs ih => have := h x; simp only [List.map_cons, List.sum_cons, List.length_cons]; omega
theorem szL_mem {α : Type} {sz : α → Nat} {x : α} : ∀ {xs : List α}, x ∈ xs → sz x + 1 ≤ szL sz xs
  | [], h => by simp at h
  | y :: ys, h => by
    unfold szL
    simp only [List.map_cons, List.sum_cons]
    rcases List.mem_cons.1 h with rfl | h
    · omega
    · have := szL_mem (sz := sz) h; unfold szL at this; omega
theorem szL_getD {α : Type} [Inhabited α] {sz : α → Nat} {xs : List α} {i : Nat} (h : i < xs.length) : sz (xs.getD i default) + 1 ≤ szL sz xs :=
  szL_mem (List.mem_of_getElem? (getD_some h))
theorem szL_str (xs : List ByteArray) : xs.length + 1 ≤ szL (fun s : ByteArray => s.size + 1) xs := szL_len (fun _ => Nat.le_add_left 1 _) xs
theorem DEdge.sz_one (e : DEdge) : 1 ≤ e.sz := by unfold DEdge.sz; omega
theorem DPool.sz_one (e : DPool) : 1 ≤ e.sz := by unfold DPool.sz; omega
theorem DEdge.sz_eq (d : DEdge) : d.sz = szL (fun s : ByteArray => s.size + 1) d.outs + szL (fun s : ByteArray => s.size + 1) d.ins + szL (fun s : ByteArray => s.size + 1) d.implicit + szL (fun s : ByteArray => s.size + 1) d.order + (d.command.size + 1) + 1 + (d.pool.size + 1) + 1 := rfl
theorem DGraph.sz_len (g : DGraph) : g.edges.length ≤ g.sz := Nat.le_trans (Nat.le_of_succ_le (szL_len DEdge.sz_one g.edges)) g.sz_edges
theorem needsN_sz (g : DGraph) (i : Int) : needsN g i ≤ g.sz := by
  unfold needsN
  by_cases h : i.toNat < g.edges.length
  · have h1 := szL_getD (sz := DEdge.sz) h
    have h2 := g.sz_edges
    generalize g.edges.getD i.toNat default = e at *
    have a := szL_str e.ins; have b := szL_str e.implicit; have c := szL_str e.order
    rw [DEdge.sz_eq] at h1
    omega
  · rw [List.getD_eq_getElem?_getD, List.getElem?_eq_none (by omega)]
    show (0 + 0 + 0 : Nat) ≤ _
    omega
theorem outsN_sz' : ∀ es : List DEdge, outsN es ≤ szL DEdge.sz es
  | [] => Nat.zero_le _
  | e :: es => by
    have := outsN_sz' es
    have a := szL_str e.outs; have b := e.sz_outs
    unfold szL at *
    simp only [outsN, List.map_cons, List.sum_cons] at *
    omega
theorem outsN_sz (g : DGraph) : outsN g.edges ≤ g.sz := Nat.le_trans (outsN_sz' _) g.sz_edges
end
end Go.Lift
namespace Go.Lift
noncomputable section
open Go Go.RowKit
set_option linter.unusedSimpArgs false
set_option linter.unusedVariables false
set_option linter.unusedSectionVars false
set_option maxRecDepth 20000
theorem lp_all {α : Type} {p : α → Bool} {L : List α → Nat → Lp Bool Unit} (h0 : ∀ i, L [] i = Lp.brk ()) (h1 : ∀ x r i, L (x :: r) i = bif !(p x) then Lp.ret false else L r (i + 1)) : ∀ (l : List α) (i : Nat), L l i = if l.all p then Lp.brk () else Lp.ret false
  | [], i => by rw [h0]; rfl
  | x :: r, i => by
    rw [h1, lp_all h0 h1 r (i + 1), List.all_cons]
    cases p x <;> simp
theorem szsum_append (xs ys : List ByteArray) (k : Nat) : szsum (xs ++ ys) k = szsum xs k + szsum ys k := by
  induction xs with
  | nil => simp [szsum]
  | cons x xs ih => simp only [List.cons_append, szsum, ih]; omega
theorem szsum_take (xs : List ByteArray) (n k : Nat) : szsum (xs.take n) k ≤ szsum xs k := by
  have := szsum_append (xs.take n) (xs.drop n) k
  rw [List.take_append_drop] at this
  omega
theorem ref1_NameMay_L1 (l : List UInt8) (i : Nat) : m_ac l i = if l.all byteOk then Lp.brk () else Lp.ret false :=
  lp_all (p := byteOk) (fun _ => rfl) (fun x r i => by
    rw [m_ac, byteOk_eq]
    have e : m_ah (x.toNat : Int) = smallS x.toNat := by
      unfold m_ah smallS
      cases decide ((97 : Int) ≤ (x.toNat : Int)) <;> cases decide ((x.toNat : Int) ≤ 122) <;> rfl
    rw [e]
    generalize smallS x.toNat = a
    generalize decide ((x.toNat : Int) = 46) = b
    generalize decide ((x.toNat : Int) = 95) = c
    generalize decide ((x.toNat : Int) = 45) = d
    generalize decide ((x.toNat : Int) = 47) = f
    cases a <;> cases b <;> cases c <;> cases d <;> cases f <;> rfl) l i
theorem ref1_NameMay_eq (s : ByteArray) : m_q s = mayS s := by
  unfold m_q
  rw [ref1_NameMay_L1, mayS_ref]
  cases s.data.toList.all byteOk <;> rfl
theorem mayS_sz {s : ByteArray} (h : mayS s = true) : 1 ≤ s.size ∧ s.size ≤ 16 := by
  rw [mayS_ref] at h
  simp only [Bool.and_eq_true, decide_eq_true_eq] at h
  omega
theorem ref1_NameMay_sz' {s : ByteArray} (h : m_q s = true) : 1 ≤ s.size ∧ s.size ≤ 16 := mayS_sz (by rw [← ref1_NameMay_eq]; exact h)
theorem ref1_NameMay_sz {s : ByteArray} (h : (!(m_q s)) = false) : 1 ≤ s.size ∧ s.size ≤ 16 := ref1_NameMay_sz' (by simpa using h)
def Lp.val {α : Type} : Lp α α → α
  | .ret a => a
  | .brk a => a
theorem split_sz_L1 (s : ByteArray) (c : Int) : ∀ (k : Nat) (out : List ByteArray) (f i : Nat), szsum out 1 ≤ f → f ≤ i → i ≤ s.size + 1 → szsum (m_af s c k out f i).val 1 ≤ s.size + 1
  | 0, out, f, i, h1, h2, h3 => by simp only [m_af, Lp.val]; omega
  | k + 1, out, f, i, h1, h2, h3 => by
    rw [m_af]
    by_cases h : ((i : Nat) : Int) ≤ ((s.size : Nat) : Int)
    · rw [decide_eq_true h, cond_true]
      cases (decide (((i : Nat) : Int) = ((s.size : Nat) : Int)) || decide (((s.data.getD i 0).toNat : Int) = c))
      · exact split_sz_L1 s c k out f (i + 1) h1 (by omega) (by omega)
      · refine split_sz_L1 s c k _ (i + 1) (i + 1) ?_ (Nat.le_refl _) (by omega)
        rw [szsum_append]
        simp only [szsum, ByteArray.size_extract]
        omega
    · rw [decide_eq_false h, cond_false]
      simp only [Lp.val]; omega
theorem split_sz (s : ByteArray) (c : Int) : szsum (m_k s c) 1 ≤ s.size + 1 := by
  have := split_sz_L1 s c (s.size + 1 - 0 + 1) [] 0 0 (Nat.le_refl _) (Nat.le_refl _) (Nat.zero_le _)
  unfold m_k
  cases e : m_af s c (s.size + 1 - 0 + 1) [] 0 0 <;> rw [e] at this <;> exact this
theorem split_join {s : ByteArray} {c : Int} {kept : List ByteArray} {n : Nat} (h : s.size ≤ 16) (hk : szsum kept 1 + n ≤ szsum (m_k s c) 1) : szsum kept (⟨#[47]⟩ : ByteArray).size ≤ 281474976710656 := by
  have := split_sz s c
  show szsum kept 1 ≤ _
  omega
theorem concat_L1 : ∀ (xs : List (List ByteArray)) (i n : Nat), m_i xs i n = Lp.brk (n + xs.flatten.length)
  | [], i, n => by simp [m_i]
  | x :: xs, i, n => by rw [m_i, concat_L1 xs]; simp [Nat.add_assoc]
theorem concat_L2 : ∀ (xs : List (List ByteArray)) (i : Nat) (out : List ByteArray), m_d xs i out = Lp.brk (out ++ xs.flatten)
  | [], i, n => by simp [m_d]
  | x :: xs, i, n => by rw [m_d, concat_L2 xs]; simp [List.append_assoc]
theorem concat_eq (xs : List (List ByteArray)) : m_b xs = xs.flatten := by
  simp only [m_b, concat_L1, concat_L2, List.take_zero, List.nil_append]
theorem check_len {g : DGraph} (h : (!decide ((m_7 g) = (0 : Int))) = false) : g.edges.length ≤ 16 := by
  have h1 : m_7 g = 0 := by simpa using h
  unfold m_7 checkS at h1
  split at h1
  · simp at h1
  · rename_i hm
    have hm' : mayG (gOf g) = true := by simpa using hm
    simp only [mayG, Bool.and_eq_true, decide_eq_true_eq, gOf, List.length_map] at hm'
    have := hm'.2.1; omega
def inG (g : DGraph) (k : Int) : Prop := 0 ≤ k ∧ k.toNat < g.edges.length
theorem of_L3 (g : DGraph) : ∀ (xs : List (List Int)) (i : Nat) (c : List Int), i + xs.length ≤ g.edges.length → (∀ k ∈ c, inG g k) → ∃ t c', m_al xs i c = Lp.brk (t, c') ∧ (∀ k ∈ c', inG g k) ∧ c'.length ≤ c.length + 1
  | [], i, c, _, h => ⟨_, _, rfl, h, by omega⟩
  | x :: xs, i, c, hl, h => by
    simp only [List.length_cons] at hl
    rw [m_al]
    cases (!(m_s ((i : Nat) : Int) c))
    · exact of_L3 g xs (i + 1) c (by omega) h
    · simp only [cond_true]
      cases (!(m_f x (fun z0 => m_ag z0 (fun z0 => m_s z0 c))))
      · exact of_L3 g xs (i + 1) c (by omega) h
      · refine ⟨_, _, rfl, ?_, by simp⟩
        intro k hk
        rcases List.mem_append.1 hk with hk | hk
        · exact h k hk
        · rw [List.mem_singleton.1 hk]; exact ⟨by omega, by omega⟩
theorem of_L2 (g : DGraph) (row : List (List Int)) (hr : row.length ≤ g.edges.length) : ∀ (f : Nat) (c : List Int), (∀ k ∈ c, inG g k) → (∃ c', m_at g row f c = Lp.brk c' ∧ (∀ k ∈ c', inG g k) ∧ (c.length ≤ g.edges.length → c'.length ≤ g.edges.length)) ∨ m_at g row f c = Lp.ret (([] : List Int), (1001 : Int))
  | 0, c, h => Or.inl ⟨c, rfl, h, id⟩
  | f + 1, c, h => by
    rw [m_at]
    cases hd : decide (((c.length : Nat) : Int) < ((g.edges.length : Nat) : Int))
    · exact Or.inl ⟨c, rfl, h, id⟩
    · have hd' := of_decide_eq_true hd
      obtain ⟨t, c', e, a, l⟩ := of_L3 g row 0 c (by omega) h
      simp only [cond_true, e]
      cases t
      · exact Or.inr rfl
      · rcases of_L2 g row hr f c' a with ⟨c2, h1, h2, h3⟩ | h1
        · exact Or.inl ⟨c2, h1, h2, fun _ => h3 (by omega)⟩
        · exact Or.inr h1
theorem of_L1 (g : DGraph) : ∀ (xs : List (List Int)) (i : Nat) (row : List (List Int)), ∃ row', m_ak g xs i row = Lp.brk row' ∧ row'.length = row.length
  | [], i, row => ⟨_, rfl, rfl⟩
  | x :: xs, i, row => by
    rw [m_ak]
    obtain ⟨r, e, a⟩ := of_L1 g xs (i + 1) (row.set i (m_v g ((i : Nat) : Int)))
    exact ⟨r, e, by simpa using a⟩
theorem of_ok {g : DGraph} (h : (!decide ((m_c g).2 = (0 : Int))) = false) : g.edges.length ≤ 16 ∧ (m_c g).1.length ≤ g.edges.length := by
  have h1 : (m_c g).2 = 0 := by simpa using h
  clear h
  unfold m_c at h1 ⊢
  cases hc : (!decide ((m_7 g) = (0 : Int)))
  · rw [hc] at h1
    simp only [cond_false] at h1 ⊢
    refine ⟨check_len hc, ?_⟩
    obtain ⟨row, e, a⟩ := of_L1 g (List.replicate g.edges.length ([] : List Int)) 0 (List.replicate g.edges.length ([] : List Int))
    rw [e] at h1 ⊢
    simp only at h1 ⊢
    rcases of_L2 g row (by rw [a]; simp) (g.edges.length - 0 + 1) [] (by simp) with ⟨c, e2, b, l⟩ | e2
    · rw [e2]; exact l (by simp)
    · rw [e2] at h1; simp at h1
  · rw [hc] at h1; simp at h1
end
end Go.Lift
namespace Go.Lift
noncomputable section
open Go Go.RowKit
set_option linter.unusedSimpArgs false
set_option linter.unusedVariables false
set_option linter.unusedSectionVars false
set_option maxRecDepth 20000
theorem splitL_ne (c : UInt8) : ∀ l : List UInt8, splitL c l ≠ []
  | [] => by simp [splitL]
  | b :: l => by
    rw [splitL]
    split
    · simp
    · cases h : splitL c l <;> simp
theorem extract_list (s : ByteArray) (f i : Nat) : (s.extract f i).data.toList = (s.data.toList.take i).drop f := by
  rw [ByteArray.data_extract, Array.toList_extract, List.extract_eq_take_drop, List.take_drop]
  by_cases h : f ≤ i
  · rw [show f + (i - f) = i by omega]
  · rw [show f + (i - f) = f by omega, List.drop_of_length_le (by simp; omega), List.drop_of_length_le (by simp; omega)]
theorem ref1_split_L1 (s : ByteArray) : ∀ (k : Nat) (out : List ByteArray) (f i : Nat), f ≤ i → i ≤ s.size → s.size + 1 - i < k →
    m_af s 47 k out f i = Lp.brk (out ++ (match splitL 47 (s.data.toList.drop i) with | [] => [] | p :: r => toBA ((s.data.toList.take i).drop f ++ p) :: r.map toBA))
  | 0, _, _, _, _, _, h => by omega
  | k + 1, out, f, i, h1, h2, h3 => by
    have hl := data_len s
    rw [m_af, decide_eq_true (by omega), cond_true]
    by_cases hi : i = s.size
    · subst hi
      rw [decide_eq_true rfl, Bool.true_or, cond_true]
      obtain ⟨k', rfl⟩ : ∃ k', k = k' + 1 := ⟨k - 1, by omega⟩
      rw [m_af, decide_eq_false (by omega), cond_false, List.drop_of_length_le (by omega)]
      simp only [splitL, List.append_nil, List.map_nil]
      rw [← extract_list, toBA_toList]
    · have hlt : i < s.data.toList.length := by omega
      have hd : s.data.toList.drop i = s.data.getD i 0 :: s.data.toList.drop (i + 1) := by
        rw [List.drop_eq_getElem_cons hlt]
        congr 1
        have : i < s.data.size := by rw [← Array.length_toList]; exact hlt
        simp only [Array.getD, this, dif_pos]; simp
      have ht : s.data.toList.take (i + 1) = s.data.toList.take i ++ [s.data.getD i 0] := by
        rw [List.take_add_one, List.getElem?_eq_getElem hlt]
        have : i < s.data.size := by rw [← Array.length_toList]; exact hlt
        simp only [Array.getD, this, dif_pos]; simp
      rw [decide_eq_false (by omega), Bool.false_or, hd, splitL]
      by_cases hb : s.data.getD i 0 = 47
      · rw [if_pos hb, decide_eq_true (by rw [hb]; rfl), cond_true, ref1_split_L1 s k _ (i + 1) (i + 1) (Nat.le_refl _) (by omega) (by omega)]
        simp only [List.append_assoc, List.append_nil, List.singleton_append]
        rw [show toBA ((s.data.toList.take i).drop f) = s.extract f i from by rw [← extract_list]; rfl]
        congr 3
        cases h : splitL 47 (s.data.toList.drop (i + 1)) with
        | nil => exact absurd h (splitL_ne _ _)
        | cons p r => simp only [List.map_cons]; rw [List.drop_of_length_le (by simp; omega), List.nil_append]
      · have hn : ¬ ((s.data.getD i 0).toNat : Int) = 47 := fun h => hb (by
          apply UInt8.toNat_inj.1; show _ = 47; omega)
        rw [if_neg hb, decide_eq_false hn, cond_false, ref1_split_L1 s k out f (i + 1) (by omega) (by omega) (by omega)]
        congr 2
        cases h : splitL 47 (s.data.toList.drop (i + 1)) with
        | nil => exact absurd h (splitL_ne _ _)
        | cons p r =>
          simp only
          rw [ht, List.drop_append_of_le_length (by simp; omega), List.append_assoc]; rfl
theorem ref1_split_eq (s : ByteArray) : m_k s 47 = (splitL 47 s.data.toList).map toBA := by
  unfold m_k
  rw [ref1_split_L1 s _ [] 0 0 (Nat.le_refl _) (Nat.zero_le _) (by omega)]
  simp only [List.drop_zero, List.nil_append, List.take_zero]
  cases h : splitL 47 s.data.toList with
  | nil => exact absurd h (splitL_ne _ _)
  | cons p r => rfl
theorem ref1_Clean_L1 : ∀ (ps : List ByteArray) (i : Nat) (kept : List ByteArray), m_3 ps i kept = match foldB ps kept with
    | none => Lp.ret ((⟨#[]⟩ : ByteArray), (200 : Int))
    | some k => Lp.brk k
  | [], i, kept => rfl
  | p :: ps, i, kept => by
    rw [m_3, foldB, stepB]
    by_cases h1 : p = ⟨#[]⟩
    · rw [decide_eq_true h1, cond_true, if_pos (Or.inl h1), ref1_Clean_L1 ps]; rfl
    · rw [decide_eq_false h1, cond_false]
      by_cases h2 : p = ⟨#[46]⟩
      · rw [decide_eq_true h2, cond_true, if_pos (Or.inr h2), ref1_Clean_L1 ps]; rfl
      · rw [decide_eq_false h2, cond_false, if_neg (by rintro (h | h); exact h1 h; exact h2 h)]
        by_cases h3 : p = ⟨#[46, 46]⟩
        · rw [decide_eq_true h3, cond_true, if_neg (fun h => h h3)]
          by_cases h4 : kept = []
          · subst h4; rfl
          · rw [decide_eq_false (by cases kept with
              | nil => exact absurd rfl h4
              | cons a b => simp only [List.length_cons]; omega), cond_false, if_neg h4, ref1_Clean_L1 ps, List.dropLast_eq_take]; rfl
        · rw [decide_eq_false h3, cond_false, if_pos h3, ref1_Clean_L1 ps]; rfl
theorem ref1_Join_L1 : ∀ (xs : List ByteArray) (i : Nat) (acc : ByteArray), 0 < i → m_aw ⟨#[47]⟩ xs i acc = Lp.brk (toBA (acc.data.toList ++ Lib.joinTail [47] (xs.map (·.data.toList))))
  | [], i, acc, _ => by
    rw [m_aw]; simp only [Lib.joinTail, List.map_nil, List.flatten_nil, List.append_nil]; rfl
  | x :: xs, i, acc, h => by
    rw [m_aw, decide_eq_true (by omega), cond_true, ref1_Join_L1 xs (i + 1) _ (by omega)]
    congr 2
    simp [Lib.joinTail]
theorem ref1_Join_eq (k : ByteArray) (ks : List ByteArray) : m_a8 (k :: ks) ⟨#[47]⟩ = joinB (k :: ks) := by
  unfold m_a8 joinB
  rw [m_aw, decide_eq_false (by omega), cond_false, ref1_Join_L1 ks 1 _ (by omega)]
  simp only [List.map_cons, Lib.join_cons]
  show toBA _ = _
  unfold toBA
  congr 2
theorem ref1_CleanPath_eq (s : ByteArray) : m_e s = cleanS s := by
  unfold m_e cleanS
  rw [ref1_NameMay_eq]
  cases hm : mayS s
  · simp
  · have hz := mayS_sz hm
    have hl := data_len s
    have hh : s.data.toList.head? = some (s.data.getD 0 0) := by
      cases hs : s.data.toList with
      | nil => rw [hs] at hl; simp at hl; omega
      | cons a b =>
        have : 0 < s.data.size := by show 0 < s.size; omega
        simp only [Array.getD, this, dif_pos, List.head?_cons]
        have e : s.data.toList[0]? = some a := by rw [hs]; rfl
        rw [Array.getElem?_toList] at e
        rw [Array.getElem?_eq_getElem this] at e
        exact e.symm
    simp only [Bool.not_true, cond_false, Bool.true_eq_false, false_or, hh]
    by_cases hb : s.data.getD 0 0 = 47
    · rw [decide_eq_true (by rw [hb]; rfl), cond_true, if_pos (by rw [hb])]
    · have hn : ¬ ((s.data.getD 0 0).toNat : Int) = 47 := fun h => hb (by
        apply UInt8.toNat_inj.1; show _ = 47; omega)
      rw [decide_eq_false hn, cond_false, if_neg (by simpa using hb), ref1_split_eq, ref1_Clean_L1]
      cases foldB ((splitL 47 s.data.toList).map toBA) [] with
      | none => rfl
      | some k =>
        cases k with
        | nil => rfl
        | cons k ks =>
          simp only
          rw [decide_eq_false (by simp only [List.length_cons]; omega), cond_false, ref1_Join_eq]
theorem ref1_PathMay_eq (s : ByteArray) : m_ax s = isS s := by
  unfold m_ax isS; rw [ref1_CleanPath_eq]
theorem ref1_PathsMay_eq (xs : List ByteArray) : m_j xs = allS ⟨false, xs⟩ := by
  unfold m_j allS
  rw [lp_all (p := isS) (L := m_au) (fun _ => rfl) (fun x r i => by rw [m_au, ref1_PathMay_eq]) xs 0]
  cases xs.all isS <;> simp
theorem ref1_Plain_L1_eq (l : List UInt8) (i : Nat) : m_a2 l i = if l.all plainB then Lp.brk () else Lp.ret false :=
  lp_all (p := plainB) (L := m_a2) (fun _ => rfl) (fun x r i => by
    rw [m_a2]
    have e : plainB x = (!decide ((x.toNat : Int) < 32) && !decide ((126 : Int) < (x.toNat : Int))) := by
      unfold plainB
      congr 1
      · rw [← decide_not]; congr 1; apply propext; omega
      · rw [← decide_not]; congr 1; apply propext; omega
    rw [e]
    cases decide ((x.toNat : Int) < 32) <;> cases decide ((126 : Int) < (x.toNat : Int)) <;> rfl) l i
theorem ref1_command_eq (s : ByteArray) : m_an s 1 256 = commandS s := by
  unfold m_an commandS plainS
  rw [ref1_Plain_L1_eq]
  have e : decide ((1 : Int) ≤ ((s.size : Nat) : Int)) = !decide (s = ⟨#[]⟩) := by
    rw [← decide_not]; congr 1; apply propext
    constructor
    · rintro h rfl; exact absurd h (by decide)
    · intro h
      have : s.size ≠ 0 := fun h0 => h (by
        apply ba_ext
        have := data_len s
        rw [h0] at this
        rw [List.length_eq_zero_iff.1 this])
      omega
  cases s.data.toList.all plainB
  · simp
  · simp only [if_true, e, Bool.true_and]
theorem ref1_EdgeMay_eq (e : DEdge) : m_w e = edgeS (eOf e) := by
  unfold m_w edgeS eOf
  simp only [ref1_PathsMay_eq, ref1_command_eq, ref1_NameMay_eq, List.all_cons, List.all_nil, Bool.and_true]
  have h : decide ((0 : Int) < ((e.outs.length : Nat) : Int)) = decide (((e.outs.length : Nat) : Int) > 0) := rfl
  rw [h]
  generalize decide (((e.outs.length : Nat) : Int) > 0) = a
  generalize allS ⟨false, e.outs⟩ = b
  generalize allS ⟨false, e.ins⟩ = c
  generalize allS ⟨false, e.implicit⟩ = d
  generalize allS ⟨false, e.order⟩ = f
  cases a <;> cases b <;> cases c <;> cases d <;> cases f <;> simp
theorem lp_idx {α : Type} {p : α → Bool} {L : List α → Nat → Lp Int Unit} (h0 : ∀ i, L [] i = Lp.brk ()) (h1 : ∀ x r i, L (x :: r) i = bif p x then Lp.ret ((i : Nat) : Int) else L r (i + 1)) : ∀ (l : List α) (i : Nat), L l i = match l.findIdx? p with
    | some j => Lp.ret (((i + j : Nat)) : Int)
    | none => Lp.brk ()
  | [], i => by rw [h0]; rfl
  | x :: r, i => by
    rw [h1, lp_idx h0 h1 r (i + 1), List.findIdx?_cons]
    cases p x
    · simp only [cond_false, Bool.false_eq_true, if_false]
      cases r.findIdx? p with
      | none => rfl
      | some j => simp only [Option.map_some]; congr 2; omega
    · rfl
theorem idxS_map {α β : Type} (f : α → β) (p : β → Bool) (q : α → Bool) (h : ∀ x, p (f x) = q x) (xs : List α) : idxS p (xs.map f) = idxS q xs := by
  unfold idxS
  rw [List.findIdx?_map]
  have : p ∘ f = q := funext h
  rw [this]
theorem ref1_poolAt_eq (g : DGraph) (name : ByteArray) : m_ab g.pools name = poolAt (gOf g) name := by
  unfold m_ab poolAt
  rw [lp_idx (p := fun p : DPool => decide (p.name = name)) (L := m_a3 name) (fun _ => rfl) (fun x r i => by rw [m_a3]) g.pools 0]
  rw [show (gOf g).pools = g.pools.map pOf from rfl, idxS_map pOf _ (fun p => decide (p.name = name)) (fun x => rfl)]
  unfold idxS
  cases g.pools.findIdx? (fun p => decide (p.name = name)) with
  | none => rfl
  | some j => simp
theorem allIdx_map {α β : Type} (f : α → β) (p : Nat → β → Bool) (q : Nat → α → Bool) (h : ∀ i x, p i (f x) = q i x) : ∀ (i : Nat) (xs : List α), allIdx p i (xs.map f) = allIdx q i xs
  | _, [] => rfl
  | i, x :: xs => by simp only [List.map_cons, allIdx, h, allIdx_map f p q h (i + 1) xs]
theorem lp_allIdx {α : Type} {p : Nat → α → Bool} {L : List α → Nat → Lp Bool Unit} (h0 : ∀ i, L [] i = Lp.brk ()) (h1 : ∀ x r i, L (x :: r) i = bif !(p i x) then Lp.ret false else L r (i + 1)) : ∀ (l : List α) (i : Nat), L l i = if allIdx p i l then Lp.brk () else Lp.ret false
  | [], i => by rw [h0]; rfl
  | x :: r, i => by
    rw [h1, lp_allIdx h0 h1 r (i + 1), allIdx]
    cases p i x <;> simp
def poolOkD (g : DGraph) (k : Nat) (p : DPool) : Bool := poolOk (gOf g) k (pOf p)
theorem ref1_GraphMay_L1_eq (g : DGraph) (l : List DPool) (i : Nat) : m_am g l i = if allIdx (poolOkD g) i l then Lp.brk () else Lp.ret false :=
  lp_allIdx (p := poolOkD g) (L := m_am g) (fun _ => rfl) (fun x r i => by
    rw [m_am, ref1_NameMay_eq, ref1_poolAt_eq]
    have e : poolOkD g i x = (mayS x.name && !decide (x.depth < 1) && !decide ((8 : Int) < x.depth) && decide (poolAt (gOf g) x.name = ((i : Nat) : Int))) := rfl
    rw [e]
    cases mayS x.name <;> cases decide (x.depth < 1) <;> cases decide ((8 : Int) < x.depth) <;> cases decide (poolAt (gOf g) x.name = ((i : Nat) : Int)) <;> rfl) l i
theorem ref1_GraphMay_L2_eq (g : DGraph) (l : List DEdge) (i : Nat) : m_ae g l i = if l.all (fun e => edgeIn (gOf g) (eOf e)) then Lp.brk () else Lp.ret false :=
  lp_all (p := fun e => edgeIn (gOf g) (eOf e)) (L := m_ae g) (fun _ => rfl) (fun x r i => by
    rw [m_ae, ref1_EdgeMay_eq, ref1_poolAt_eq]
    have e : edgeIn (gOf g) (eOf x) = (edgeS (eOf x) && (decide (x.pool = (⟨#[]⟩ : ByteArray)) || !decide (poolAt (gOf g) x.pool < 0))) := rfl
    rw [e]
    cases edgeS (eOf x) <;> cases decide (x.pool = (⟨#[]⟩ : ByteArray)) <;> cases decide (poolAt (gOf g) x.pool < 0) <;> rfl) l i
theorem ref1_GraphMay_eq (g : DGraph) : m_p g = m_graph_May g := by
  unfold m_p m_graph_May mayG poolsS
  rw [ref1_GraphMay_L1_eq, ref1_GraphMay_L2_eq, ref1_PathsMay_eq]
  rw [show (gOf g).edges = g.edges.map eOf from rfl, show (gOf g).pools = g.pools.map pOf from rfl, List.all_map, List.length_map, List.length_map, allIdx_map pOf _ (poolOkD g) (fun _ _ => rfl)]
  rw [show (gOf g).defaults = ⟨false, g.defaults⟩ from rfl]
  rw [show (edgeIn (gOf g) ∘ eOf) = (fun e => edgeIn (gOf g) (eOf e)) from rfl]
  cases allIdx (poolOkD g) 0 g.pools <;> cases g.edges.all (fun e => edgeIn (gOf g) (eOf e)) <;> simp
  cases decide (((g.pools.length : Nat) : Int) ≤ 4) <;> cases decide (((g.edges.length : Nat) : Int) ≤ 16) <;> simp
theorem ref1_has_eq (xs : List ByteArray) (x : ByteArray) : (x ∈ xs → m_a5 xs x = true) ∧ (x ∉ xs → m_a5 xs x = false) := by
  have h : ∀ (l : List ByteArray) (i : Nat), (x ∈ l → m_ba x l i = Lp.ret true) ∧ (x ∉ l → m_ba x l i = Lp.brk ()) := by
    intro l; induction l with
    | nil => intro i; exact ⟨fun h => by simp at h, fun _ => rfl⟩
    | cons y l ih =>
      intro i
      rw [m_ba]
      by_cases hy : y = x
      · subst hy; rw [decide_eq_true rfl, cond_true]; exact ⟨fun _ => rfl, fun h => absurd (List.mem_cons_self) h⟩
      · rw [decide_eq_false hy, cond_false]
        refine ⟨fun h => (ih (i + 1)).1 ?_, fun h => (ih (i + 1)).2 fun h2 => h (List.mem_cons_of_mem _ h2)⟩
        rcases List.mem_cons.1 h with h | h
        · exact absurd h.symm hy
        · exact h
  unfold m_a5
  exact ⟨fun hx => by rw [(h xs 0).1 hx], fun hx => by rw [(h xs 0).2 hx]⟩
theorem ref1_Check_L2_eq : ∀ (l : List ByteArray) (k : Nat) (acc : List ByteArray), acc.Nodup → m_a7 l k acc = if (acc ++ l).Nodup then Lp.brk (acc ++ l) else Lp.ret 901
  | [], k, acc, h => by rw [List.append_nil, if_pos h]; rfl
  | x :: l, k, acc, h => by
    rw [m_a7]
    by_cases hx : x ∈ acc
    · rw [(ref1_has_eq acc x).1 hx, cond_true, if_neg]
      intro hn
      rw [List.nodup_append] at hn
      exact hn.2.2 x hx x (by simp) rfl
    · rw [(ref1_has_eq acc x).2 hx, cond_false, ref1_Check_L2_eq l (k + 1) (acc ++ [x]) (by
        rw [List.nodup_append]
        exact ⟨h, by simp, fun a ha b hb => by simp only [List.mem_singleton] at hb; subst hb; rintro rfl; exact hx ha⟩), List.append_assoc, List.singleton_append]
theorem ref1_Check_L1_eq : ∀ (es : List DEdge) (i : Nat) (acc : List ByteArray), acc.Nodup → m_a6 es i acc = if (acc ++ es.flatMap (·.outs)).Nodup then Lp.brk () else Lp.ret 901
  | [], i, acc, h => by rw [List.flatMap_nil, List.append_nil, if_pos h]; rfl
  | e :: es, i, acc, h => by
    rw [m_a6, ref1_Check_L2_eq _ _ _ h, List.flatMap_cons, ← List.append_assoc]
    by_cases hn : (acc ++ e.outs).Nodup
    · rw [if_pos hn]
      simp only
      rw [ref1_Check_L1_eq es (i + 1) _ hn]
    · rw [if_neg hn]
      simp only
      rw [if_neg]
      intro h2
      rw [List.nodup_append] at h2
      exact hn h2.1
theorem ref1_Check_eq (g : DGraph) : m_ay g = m_7 g := by
  unfold m_ay m_7 checkS
  rw [ref1_GraphMay_eq]
  show _ = if m_graph_May g = false then _ else _
  cases m_graph_May g
  · rfl
  · rw [ref1_Check_L1_eq _ _ _ List.nodup_nil, List.nil_append]
    have e : outsOf (gOf g).edges = g.edges.flatMap (·.outs) := by
      unfold outsOf
      rw [show (gOf g).edges = g.edges.map eOf from rfl, List.flatMap_map]; rfl
    rw [e]
    have hd := hasDup_iff ((g.edges.flatMap (·.outs)).map fun x => x.data.toList)
    have hn : ((g.edges.flatMap (·.outs)).map fun x => x.data.toList).Nodup ↔ (g.edges.flatMap (·.outs)).Nodup := by
      constructor
      · intro h; exact List.Pairwise.of_map (fun x : ByteArray => x.data.toList) (fun a b hh hab => hh (by rw [hab])) h
      · intro h; exact List.Pairwise.map _ (fun a b hab hh => hab (ba_ext hh)) h
    by_cases h : (g.edges.flatMap (·.outs)).Nodup
    · rw [if_pos h]
      have : hasDup ((g.edges.flatMap (·.outs)).map fun x => x.data.toList) = false := by
        cases hh : hasDup ((g.edges.flatMap (·.outs)).map fun x => x.data.toList)
        · rfl
        · exact absurd (hn.2 h) (hd.1 hh)
      rw [this]; rfl
    · rw [if_neg h]
      have : hasDup ((g.edges.flatMap (·.outs)).map fun x => x.data.toList) = true := hd.2 (fun hh => h (hn.1 hh))
      rw [this]; rfl
end
end Go.Lift
namespace Go.Lift
noncomputable section
open Go Go.RowKit
set_option linter.unusedSimpArgs false
set_option linter.unusedVariables false
set_option linter.unusedSectionVars false
set_option maxRecDepth 20000
def mkD (g : DGraph) (n : ByteArray) : Int := idxS (fun e => Lib.containsS e.outs n) g.edges
theorem mkD_in (g : DGraph) (x : ByteArray) : mkD g x = -1 ∨ ∃ i e, mkD g x = ((i : Nat) : Int) ∧ g.edges[i]? = some e ∧ x ∈ e.outs := by
  unfold mkD idxS
  cases h : g.edges.findIdx? (fun e => Lib.containsS e.outs x) with
  | none => exact Or.inl rfl
  | some i =>
    obtain ⟨hi, h2, _⟩ := List.findIdx?_eq_some_iff_getElem.1 h
    exact Or.inr ⟨i, g.edges[i], rfl, List.getElem?_eq_getElem hi, (Lib.containsS_iff _ _).1 h2⟩
end
end Go.Lift
namespace Go.Lift
noncomputable section
open Go Go.RowKit
set_option linter.unusedSimpArgs false
set_option linter.unusedVariables false
set_option linter.unusedSectionVars false
set_option maxRecDepth 20000
end
end Go.Lift
namespace Go.Lift
noncomputable section
open Go Go.RowKit
set_option linter.unusedSimpArgs false
set_option linter.unusedVariables false
set_option linter.unusedSectionVars false
set_option maxRecDepth 20000
theorem idx_val {α : Type} {p : α → Bool} {L : List α → Nat → Lp Int Unit} (h0 : ∀ i, L [] i = Lp.brk ()) (h1 : ∀ x r i, L (x :: r) i = bif p x then Lp.ret ((i : Nat) : Int) else L r (i + 1)) (l : List α) :
    (match L l 0 with | Lp.ret r => r | Lp.brk () => (-1 : Int)) = idxS p l := by
  rw [lp_idx h0 h1 l 0]; unfold idxS
  cases l.findIdx? p with
  | none => rfl
  | some j => simp
theorem idxS_nonneg {α : Type} (p : α → Bool) (l : List α) : decide ((0 : Int) ≤ idxS p l) = l.any p := by
  unfold idxS
  cases h : l.findIdx? p with
  | none =>
    have := List.findIdx?_eq_none_iff.1 h
    rw [show l.any p = false from by simpa using this]; rfl
  | some j =>
    obtain ⟨hj, h2, _⟩ := List.findIdx?_eq_some_iff_getElem.1 h
    rw [List.any_eq_true.2 ⟨l[j], List.getElem_mem hj, h2⟩]
    simp
theorem contains_str (xs : List ByteArray) (v : ByteArray) : m_r xs v = Lib.containsS xs v := by
  unfold m_r m_o
  refine (congrArg (fun z => decide ((0 : Int) ≤ z)) (idx_val (p := fun y => decide (v = y)) (fun _ => rfl) (fun _ _ _ => rfl) xs)).trans ?_
  rw [idxS_nonneg]
  cases hc : Lib.containsS xs v
  · rw [List.any_eq_false]
    intro y hy e
    have : v = y := by simpa using e
    subst this
    rw [(Lib.containsS_iff _ _).2 hy] at hc; cases hc
  · exact List.any_eq_true.2 ⟨v, (Lib.containsS_iff _ _).1 hc, by simp⟩
theorem contains_int (xs : List Int) (v : Int) : m_m xs v = xs.contains v := by
  unfold m_m m_2
  refine (congrArg (fun z => decide ((0 : Int) ≤ z)) (idx_val (p := fun y => decide (v = y)) (fun _ => rfl) (fun _ _ _ => rfl) xs)).trans ?_
  rw [idxS_nonneg]
  rw [Bool.eq_iff_iff]; simp
theorem containsFunc_int (xs : List Int) (f : Int → Bool) : m_f xs f = xs.any f := by
  unfold m_f m_t
  exact (congrArg (fun z => decide ((0 : Int) ≤ z)) (idx_val (p := f) (fun _ => rfl) (fun _ _ _ => rfl) xs)).trans (idxS_nonneg _ _)
theorem makes_mkD (g : DGraph) (x : ByteArray) : m_n g x = mkD g x := by
  unfold m_n m_l mkD
  refine (idx_val (p := fun e => m_az e x) (fun _ => rfl) (fun _ _ _ => rfl) g.edges).trans ?_
  congr 1; funext e; exact contains_str e.outs x
theorem has_str (xs : List ByteArray) (x : ByteArray) : m_a5 xs x = Lib.containsS xs x := by
  cases hc : Lib.containsS xs x
  · exact (ref1_has_eq xs x).2 fun h => by rw [(Lib.containsS_iff _ _).2 h] at hc; cases hc
  · exact (ref1_has_eq xs x).1 ((Lib.containsS_iff _ _).1 hc)
theorem makerOf_mkD (g : DGraph) (x : ByteArray) : m_x g x = mkD g x := by
  unfold m_x mkD
  refine (idx_val (p := fun e => m_a5 e.outs x) (fun _ => rfl) (fun _ _ _ => rfl) g.edges).trans ?_
  congr 1; funext e; exact has_str e.outs x
def inputs (g : DGraph) (e : Int) : List ByteArray := (g.edges.getD e.toNat default).ins ++ ((g.edges.getD e.toNat default).implicit ++ (g.edges.getD e.toNat default).order)
theorem needs_L1_iff (g : DGraph) : ∀ (xs : List ByteArray) (i : Nat) (out : List Int), ∃ out', m_ar g xs i out = Lp.brk out' ∧ ∀ k, k ∈ out' ↔ k ∈ out ∨ (0 ≤ k ∧ ∃ x ∈ xs, mkD g x = k)
  | [], i, out => ⟨out, rfl, fun k => by simp⟩
  | x :: xs, i, out => by
    rw [m_ar, makes_mkD, contains_int]
    by_cases h1 : 0 ≤ mkD g x
    · by_cases h2 : mkD g x ∈ out
      · obtain ⟨o, e1, e2⟩ := needs_L1_iff g xs (i + 1) out
        refine ⟨o, by simp [h1, h2, e1], fun k => ?_⟩
        rw [e2]
        constructor
        · rintro (h | ⟨h, y, hy, e⟩)
          · exact Or.inl h
          · exact Or.inr ⟨h, y, by simp [hy], e⟩
        · rintro (h | ⟨h, y, hy, e⟩)
          · exact Or.inl h
          · rcases List.mem_cons.1 hy with rfl | hy
            · subst e; exact Or.inl h2
            · exact Or.inr ⟨h, y, hy, e⟩
      · obtain ⟨o, e1, e2⟩ := needs_L1_iff g xs (i + 1) (out ++ [mkD g x])
        refine ⟨o, by simp [h1, h2, e1], fun k => ?_⟩
        rw [e2, List.mem_append, List.mem_singleton]
        constructor
        · rintro ((h | h) | ⟨h, y, hy, e⟩)
          · exact Or.inl h
          · subst h; exact Or.inr ⟨h1, x, by simp, rfl⟩
          · exact Or.inr ⟨h, y, by simp [hy], e⟩
        · rintro (h | ⟨h, y, hy, e⟩)
          · exact Or.inl (Or.inl h)
          · rcases List.mem_cons.1 hy with rfl | hy
            · exact Or.inl (Or.inr e.symm)
            · exact Or.inr ⟨h, y, hy, e⟩
    · obtain ⟨o, e1, e2⟩ := needs_L1_iff g xs (i + 1) out
      refine ⟨o, by simp [h1, e1], fun k => ?_⟩
      rw [e2]
      constructor
      · rintro (h | ⟨h, y, hy, e⟩)
        · exact Or.inl h
        · exact Or.inr ⟨h, y, by simp [hy], e⟩
      · rintro (h | ⟨h, y, hy, e⟩)
        · exact Or.inl h
        · rcases List.mem_cons.1 hy with rfl | hy
          · omega
          · exact Or.inr ⟨h, y, hy, e⟩
theorem needs_iff (g : DGraph) (e k : Int) : k ∈ m_v g e ↔ 0 ≤ k ∧ ∃ x ∈ inputs g e, mkD g x = k := by
  unfold m_v
  rw [concat_eq]
  obtain ⟨o, e1, e2⟩ := needs_L1_iff g ([(g.edges.getD e.toNat default).ins, (g.edges.getD e.toNat default).implicit, (g.edges.getD e.toNat default).order].flatten) 0 []
  rw [e1]
  show k ∈ o ↔ _
  rw [e2]
  simp [inputs]
theorem rneeds_L1_iff (g : DGraph) : ∀ (xs : List ByteArray) (i : Nat) (out : List Int), ∃ out', m_a0 g xs i out = Lp.brk out' ∧ ∀ k, k ∈ out' ↔ k ∈ out ∨ (0 ≤ k ∧ ∃ x ∈ xs, mkD g x = k)
  | [], i, out => ⟨out, rfl, fun k => by simp⟩
  | x :: xs, i, out => by
    rw [m_a0, makerOf_mkD]
    by_cases h1 : 0 ≤ mkD g x
    · obtain ⟨o, e1, e2⟩ := rneeds_L1_iff g xs (i + 1) (out ++ [mkD g x])
      refine ⟨o, by simp [h1, e1], fun k => ?_⟩
      rw [e2, List.mem_append, List.mem_singleton]
      constructor
      · rintro ((h | h) | ⟨h, y, hy, e⟩)
        · exact Or.inl h
        · subst h; exact Or.inr ⟨h1, x, by simp, rfl⟩
        · exact Or.inr ⟨h, y, by simp [hy], e⟩
      · rintro (h | ⟨h, y, hy, e⟩)
        · exact Or.inl (Or.inl h)
        · rcases List.mem_cons.1 hy with rfl | hy
          · exact Or.inl (Or.inr e.symm)
          · exact Or.inr ⟨h, y, hy, e⟩
    · obtain ⟨o, e1, e2⟩ := rneeds_L1_iff g xs (i + 1) out
      refine ⟨o, by simp [h1, e1], fun k => ?_⟩
      rw [e2]
      constructor
      · rintro (h | ⟨h, y, hy, e⟩)
        · exact Or.inl h
        · exact Or.inr ⟨h, y, by simp [hy], e⟩
      · rintro (h | ⟨h, y, hy, e⟩)
        · exact Or.inl h
        · rcases List.mem_cons.1 hy with rfl | hy
          · omega
          · exact Or.inr ⟨h, y, hy, e⟩
theorem rneeds_iff (g : DGraph) (e k : Int) : k ∈ m_y g e ↔ 0 ≤ k ∧ ∃ x ∈ inputs g e, mkD g x = k := by
  unfold m_y
  obtain ⟨o, e1, e2⟩ := rneeds_L1_iff g (((g.edges.getD e.toNat default).ins ++ (g.edges.getD e.toNat default).implicit) ++ (g.edges.getD e.toNat default).order) 0 []
  rw [e1]
  show k ∈ o ↔ _
  rw [e2]
  simp [inputs]
theorem needs_same (g : DGraph) (e k : Int) : k ∈ m_v g e ↔ k ∈ m_y g e := by rw [needs_iff, rneeds_iff]
theorem mkD_lt (g : DGraph) (x : ByteArray) : mkD g x < (g.edges.length : Int) := by
  rcases mkD_in g x with h | ⟨i, e, h, he, _⟩
  · rw [h]; omega
  · rw [h]; have := (List.getElem?_eq_some_iff.1 he).1; omega
theorem rneeds_mem {g : DGraph} {e k : Int} (h : k ∈ m_y g e) : 0 ≤ k ∧ k.toNat < g.edges.length := by
  obtain ⟨h0, x, _, e1⟩ := (rneeds_iff g e k).1 h
  have := mkD_lt g x
  omega
def freeP (g : DGraph) (out : List Int) (i : Nat) : Bool := !(out.contains ((i : Nat) : Int)) && (m_v g ((i : Nat) : Int)).all fun k => out.contains k
def nextP (g : DGraph) (out : List Int) : Option Nat := (List.range g.edges.length).find? (freeP g out)
def ordF (g : DGraph) : Nat → List Int → Option (List Int)
  | 0, out => some out
  | f + 1, out => match nextP g out with
    | some i => ordF g f (out ++ [((i : Nat) : Int)])
    | none => none
theorem of_L3_eq (g : DGraph) (c : List Int) : ∀ (l i : Nat), m_al ((List.range' i l).map fun i => m_v g ((i : Nat) : Int)) i c = match (List.range' i l).find? (freeP g c) with
    | some j => Lp.brk (true, c ++ [((j : Nat) : Int)])
    | none => Lp.brk (false, c)
  | 0, i => rfl
  | l + 1, i => by
    rw [List.range'_succ, List.map_cons, m_al, of_L3_eq g c l (i + 1), List.find?_cons]
    have e : (!(m_s ((i : Nat) : Int) c) && !(m_f (m_v g ((i : Nat) : Int)) (fun z0 => m_ag z0 (fun z0 => m_s z0 c)))) = freeP g c i := by
      unfold freeP m_s m_ag
      rw [containsFunc_int]
      simp only [contains_int]
      congr 1
      rw [Bool.eq_iff_iff]; simp
    rw [← e]
    cases (!(m_s ((i : Nat) : Int) c)) <;> cases (!(m_f (m_v g ((i : Nat) : Int)) (fun z0 => m_ag z0 (fun z0 => m_s z0 c)))) <;> rfl
theorem of_L1_eq (g : DGraph) : ∀ (xs : List (List Int)) (i : Nat) (row : List (List Int)), i + xs.length ≤ row.length → ∃ row', m_ak g xs i row = Lp.brk row' ∧ row'.length = row.length ∧ ∀ j, row'[j]? = if i ≤ j ∧ j < i + xs.length then some (m_v g ((j : Nat) : Int)) else row[j]?
  | [], i, row, h => ⟨row, rfl, rfl, fun j => by rw [if_neg (by simp)]⟩
  | x :: xs, i, row, h => by
    simp only [List.length_cons] at h
    obtain ⟨r, e1, e2, e3⟩ := of_L1_eq g xs (i + 1) (row.set i (m_v g ((i : Nat) : Int))) (by simp; omega)
    refine ⟨r, by rw [m_ak]; exact e1, by simpa using e2, fun j => ?_⟩
    rw [e3, List.getElem?_set, List.length_cons]
    by_cases h1 : i = j
    · subst h1; rw [if_neg (by omega), if_pos rfl]
      have : i < row.length := by omega
      simp [this]
    · rw [if_neg h1]
      by_cases h2 : i + 1 ≤ j ∧ j < i + 1 + xs.length
      · rw [if_pos h2, if_pos (by omega)]
      · rw [if_neg h2, if_neg (by omega)]
theorem of_rows (g : DGraph) : m_ak g (List.replicate g.edges.length ([] : List Int)) 0 (List.replicate g.edges.length ([] : List Int)) = Lp.brk ((List.range' 0 g.edges.length).map fun i => m_v g ((i : Nat) : Int)) := by
  obtain ⟨r, e1, e2, e3⟩ := of_L1_eq g (List.replicate g.edges.length ([] : List Int)) 0 (List.replicate g.edges.length ([] : List Int)) (by simp)
  rw [e1]; congr 1
  apply List.ext_getElem?
  intro j
  rw [e3, List.getElem?_map]
  simp only [List.length_replicate] at e2 ⊢
  by_cases h : j < g.edges.length
  · rw [if_pos ⟨Nat.zero_le _, by omega⟩, List.getElem?_range' h]; simp
  · rw [if_neg (by omega), List.getElem?_eq_none (by simp; omega), List.getElem?_eq_none (by simp; omega)]; rfl
theorem of_L2_eq (g : DGraph) : ∀ (f : Nat) (c : List Int), c.length ≤ g.edges.length → g.edges.length - c.length < f → m_at g ((List.range' 0 g.edges.length).map fun i => m_v g ((i : Nat) : Int)) f c = match ordF g (g.edges.length - c.length) c with
    | some o => Lp.brk o
    | none => Lp.ret (([] : List Int), (1001 : Int))
  | 0, c, h1, h2 => by omega
  | f + 1, c, h1, h2 => by
    rw [m_at]
    by_cases h : c.length < g.edges.length
    · rw [decide_eq_true (by omega), cond_true, of_L3_eq, ← List.range_eq_range']
      rw [show g.edges.length - c.length = (g.edges.length - (c.length + 1)) + 1 by omega, ordF]
      show (match (match nextP g c with | some j => Lp.brk (true, c ++ [((j : Nat) : Int)]) | none => Lp.brk (false, c) : Lp (List Int × Int) (Bool × List Int)) with | Lp.ret r => Lp.ret r | Lp.brk (t', c') => _) = _
      cases hn : nextP g c with
      | none => rfl
      | some j =>
        simp only [cond_true]
        have := of_L2_eq g f (c ++ [((j : Nat) : Int)]) (by simp; omega) (by simp; omega)
        rw [List.length_append, List.length_singleton, ← List.range_eq_range'] at this
        exact this
    · rw [decide_eq_false (by omega), cond_false, show g.edges.length - c.length = 0 by omega]; rfl
theorem of_eq (g : DGraph) : m_c g = if m_7 g = 0 then (match ordF g g.edges.length [] with | some o => (o, (0 : Int)) | none => (([] : List Int), (1001 : Int))) else (([] : List Int), (1000 : Int)) := by
  unfold m_c
  by_cases h : m_7 g = 0
  · rw [if_pos h, decide_eq_true h]
    simp only [Bool.not_true, cond_false]
    rw [of_rows]
    simp only []
    rw [of_L2_eq g _ [] (Nat.zero_le _) (by simp)]
    simp only [List.length_nil, Nat.sub_zero]
    cases ordF g g.edges.length [] <;> rfl
  · rw [if_neg h, decide_eq_false h]; rfl
inductive Steps (g : DGraph) : List Int → Prop
  | nil : Steps g []
  | snoc {out : List Int} {i : Nat} (h : Steps g out) (hn : nextP g out = some i) : Steps g (out ++ [((i : Nat) : Int)])
theorem ordF_steps (g : DGraph) : ∀ (f : Nat) (out o : List Int), Steps g out → ordF g f out = some o → Steps g o ∧ o.length = out.length + f ∧ ∃ r, o = out ++ r
  | 0, out, o, h, e => by simp only [ordF, Option.some.injEq] at e; subst e; exact ⟨h, rfl, [], by simp⟩
  | f + 1, out, o, h, e => by
    simp only [ordF] at e
    split at e
    · rename_i i hi
      obtain ⟨h1, h2, r, h3⟩ := ordF_steps g f _ o (h.snoc hi) e
      exact ⟨h1, by rw [h2]; simp; omega, [((i : Nat) : Int)] ++ r, by rw [h3]; simp⟩
    · cases e
theorem of_steps {g : DGraph} (h : (m_c g).2 = 0) : Steps g (m_c g).1 ∧ (m_c g).1.length = g.edges.length ∧ m_7 g = 0 := by
  rw [of_eq] at h ⊢
  split at h <;> rename_i hc
  · rw [if_pos hc]
    cases ho : ordF g g.edges.length [] with
    | none => rw [ho] at h; simp at h
    | some o =>
      obtain ⟨h1, h2, _⟩ := ordF_steps g _ _ _ .nil ho
      exact ⟨h1, by simpa using h2, hc⟩
  · simp at h
theorem nextP_spec {g : DGraph} {out : List Int} {i : Nat} (h : nextP g out = some i) : i < g.edges.length ∧ freeP g out i = true ∧ ∀ k, k < i → freeP g out k = false := by
  unfold nextP at h
  have h1 := List.mem_of_find?_eq_some h
  refine ⟨by simpa using h1, List.find?_some h, fun k hk => ?_⟩
  have := List.find?_range_eq_some.1 h
  simpa using this.2.2 k hk
end
end Go.Lift
namespace Go.Lift
noncomputable section
open Go Go.RowKit
set_option linter.unusedSimpArgs false
set_option linter.unusedVariables false
set_option linter.unusedSectionVars false
set_option maxRecDepth 20000
theorem copyEdge_eq (a : DEdge) : m_9 a = a := rfl
theorem copyGraph_L1 : ∀ (xs : List DEdge) (i : Nat) (c : List DEdge), m_ai xs i c = Lp.brk (c ++ xs)
  | [], i, c => by simp [m_ai]
  | x :: r, i, c => by rw [m_ai, copyGraph_L1 r (i + 1), copyEdge_eq]; simp
theorem copyGraph_eq (g : DGraph) : m_a g = g := by
  unfold m_a; rw [copyGraph_L1]; rfl
theorem sameTexts_L1 : ∀ (xs pre : List ByteArray), m_aq (pre ++ xs) xs pre.length = Lp.brk ()
  | [], pre => rfl
  | x :: r, pre => by
    have h := sameTexts_L1 r (pre ++ [x])
    rw [m_aq]
    simp only [List.append_assoc, List.singleton_append, List.length_append, List.length_singleton] at h
    simp [List.getD_eq_getElem?_getD, h]
theorem sameTexts_refl (xs : List ByteArray) : m_h xs xs = true := by
  unfold m_h
  have := sameTexts_L1 xs []
  simp only [List.nil_append, List.length_nil] at this
  rw [this]; simp
theorem samePools_L1 : ∀ (xs pre : List DPool), m_ap (pre ++ xs) xs pre.length = Lp.brk ()
  | [], pre => rfl
  | x :: r, pre => by
    have h := samePools_L1 r (pre ++ [x])
    rw [m_ap]
    simp only [List.append_assoc, List.singleton_append, List.length_append, List.length_singleton] at h
    simp [List.getD_eq_getElem?_getD, h]
theorem samePools_refl (xs : List DPool) : m_ad xs xs = true := by
  unfold m_ad
  have := samePools_L1 xs []
  simp only [List.nil_append, List.length_nil] at this
  rw [this]; simp
theorem sameEdge_refl (e : DEdge) : m_0 e e = true := by
  simp [m_0, sameTexts_refl]
theorem sameGraph_L1 (g : DGraph) : ∀ (xs pre : List DEdge), g.edges = pre ++ xs → m_ao g xs pre.length = Lp.brk ()
  | [], pre, _ => rfl
  | x :: r, pre, e => by
    have h := sameGraph_L1 g r (pre ++ [x]) (by simp [e])
    rw [m_ao]
    simp only [List.length_append, List.length_singleton] at h
    have : g.edges.getD pre.length default = x := by rw [e]; simp [List.getD_eq_getElem?_getD]
    rw [this, sameEdge_refl, h]; rfl
theorem sameGraph_refl (g : DGraph) : m_1 g g = true := by
  unfold m_1
  have := sameGraph_L1 g g.edges [] rfl
  simp only [List.length_nil] at this
  rw [this]; simp [samePools_refl, sameTexts_refl]
end
end Go.Lift
namespace Go.Lift
noncomputable section
open Go Go.RowKit
set_option linter.unusedSimpArgs false
set_option linter.unusedVariables false
set_option linter.unusedSectionVars false
set_option maxRecDepth 20000
def flR (n : Nat) (out : List Int) : List Bool := (List.range n).map fun k => out.contains ((k : Nat) : Int)
theorem flR_get {n k : Nat} (out : List Int) (h : k < n) : (flR n out).getD k default = out.contains ((k : Nat) : Int) := by
  unfold flR
  rw [List.getD_eq_getElem?_getD, List.getElem?_map, List.getElem?_range h]; rfl
theorem flR_nil (n : Nat) : flR n [] = List.replicate n false := by
  apply List.ext_getElem?
  intro i
  unfold flR
  rw [List.getElem?_map, List.getElem?_replicate]
  by_cases h : i < n
  · rw [List.getElem?_range h, if_pos h]; rfl
  · rw [List.getElem?_eq_none (by simp; omega), if_neg h]; rfl
theorem flR_set {n i : Nat} (out : List Int) (h : i < n) : (flR n out).set i true = flR n (out ++ [((i : Nat) : Int)]) := by
  apply List.ext_getElem?
  intro k
  unfold flR
  rw [List.getElem?_set, List.getElem?_map, List.getElem?_map]
  by_cases hk : k < n
  · rw [List.getElem?_range hk]
    simp only [List.length_map, List.length_range, Option.map_some]
    by_cases e : i = k
    · subst e; rw [if_pos rfl, if_pos h]; simp
    · rw [if_neg e]; congr 1; rw [Bool.eq_iff_iff]; simp; omega
  · rw [List.getElem?_eq_none (by simp; omega)]
    rw [if_neg (by omega)]; rfl
theorem ro_key (g : DGraph) (out : List Int) (e : Int) : (m_y g e).all (fun k : Int => (flR g.edges.length out).getD k.toNat default) = (m_v g e).all fun k => out.contains k := by
  rw [Bool.eq_iff_iff, List.all_eq_true, List.all_eq_true]
  constructor
  · intro h k hk
    have hk' := (needs_same g e k).1 hk
    have h1 := h k hk'
    obtain ⟨m1, m2⟩ := rneeds_mem hk'
    rw [flR_get out m2, show ((k.toNat : Nat) : Int) = k by omega] at h1
    exact h1
  · intro h k hk
    have h1 := h k ((needs_same g e k).2 hk)
    obtain ⟨m1, m2⟩ := rneeds_mem hk
    rw [flR_get out m2, show ((k.toNat : Nat) : Int) = k by omega]
    exact h1
theorem ro_L3 (row : List Bool) : ∀ (xs : List Int) (k : Nat) (b : Bool), m_av row xs k b = Lp.brk (b && xs.all fun k => row.getD k.toNat default)
  | [], k, b => by simp [m_av]
  | x :: r, k, b => by
    rw [m_av]
    cases b
    · rw [cond_false, ro_L3 row r]; rfl
    · rw [cond_true, ro_L3 row r, List.all_cons]; rfl
theorem ro_L2 (g : DGraph) (out : List Int) : ∀ (j f : Nat) (next i : Int), i + 1 = ((j : Nat) : Int) → j ≤ g.edges.length → j < f →
    m_a1 (flR g.edges.length out) g f next i = Lp.brk (match (List.range j).find? (freeP g out) with | some k => ((k : Nat) : Int) | none => next)
  | 0, 0, _, _, _, _, hf => by omega
  | 0, f + 1, next, i, hi, hl, hf => by
    rw [m_a1, decide_eq_false (by omega), cond_false]; rfl
  | j + 1, 0, _, _, _, _, hf => by omega
  | j + 1, f + 1, next, i, hi, hl, hf => by
    obtain rfl : i = ((j : Nat) : Int) := by omega
    rw [m_a1, decide_eq_true (by omega), cond_true, ro_L3]
    have hfr : (!(flR g.edges.length out).getD ((j : Nat) : Int).toNat default && (m_y g ((j : Nat) : Int)).all fun k => (flR g.edges.length out).getD k.toNat default) = freeP g out j := by
      rw [ro_key, Int.toNat_natCast, flR_get out (by omega)]; rfl
    rw [hfr]
    have ih := fun nx => ro_L2 g out j f nx (((j : Nat) : Int) - 1) (by omega) (by omega) (by omega)
    rw [List.range_succ, List.find?_append]
    cases hp : freeP g out j
    · simp only [cond_false]
      rw [ih]
      cases (List.range j).find? (freeP g out) <;> simp [hp]
    · simp only [cond_true]
      rw [ih]
      cases (List.range j).find? (freeP g out) <;> simp [hp]
theorem ro_L1 (g : DGraph) : ∀ (f : Nat) (c : List Int), c.length ≤ g.edges.length → g.edges.length - c.length < f → m_bb g f c (flR g.edges.length c) = match ordF g (g.edges.length - c.length) c with
    | some o => Lp.brk (o, flR g.edges.length o)
    | none => Lp.ret (([] : List Int), (1001 : Int))
  | 0, c, h1, h2 => by omega
  | f + 1, c, h1, h2 => by
    rw [m_bb]
    by_cases h : c.length < g.edges.length
    · rw [decide_eq_true (by omega), cond_true, ro_L2 g c g.edges.length _ _ _ (by omega) (Nat.le_refl _) (by omega)]
      rw [show g.edges.length - c.length = (g.edges.length - (c.length + 1)) + 1 by omega, ordF]
      have hnp : (List.range g.edges.length).find? (freeP g c) = nextP g c := rfl
      simp only [hnp]
      cases hn : nextP g c with
      | none => rfl
      | some j =>
        have hj := (nextP_spec hn).1
        simp only []
        rw [decide_eq_false (by omega), cond_false, Int.toNat_natCast, flR_set c hj]
        have := ro_L1 g f (c ++ [((j : Nat) : Int)]) (by simp; omega) (by simp; omega)
        rw [List.length_append, List.length_singleton] at this
        exact this
    · rw [decide_eq_false (by omega), cond_false, show g.edges.length - c.length = 0 by omega]; rfl
theorem ref1_Order_eq (g : DGraph) : m_g g = m_c g := by
  rw [of_eq]
  unfold m_g
  rw [ref1_Check_eq]
  by_cases h : m_7 g = 0
  · rw [if_pos h, decide_eq_true h]
    simp only [Bool.not_true, cond_false]
    rw [← flR_nil, ro_L1 g _ [] (Nat.zero_le _) (by simp)]
    simp only [List.length_nil, Nat.sub_zero]
    cases ordF g g.edges.length [] <;> rfl
  · rw [if_neg h, decide_eq_false h]; rfl
end
end Go.Lift
namespace Go.Lift
noncomputable section
open Go Go.RowKit
set_option linter.unusedSimpArgs false
set_option linter.unusedVariables false
set_option linter.unusedSectionVars false
set_option maxRecDepth 20000
end
end Go.Lift
namespace Go.Lift
noncomputable section
open Go Go.RowKit
set_option linter.unusedSimpArgs false
set_option linter.unusedVariables false
set_option linter.unusedSectionVars false
set_option maxRecDepth 20000
end
end Go.Lift
namespace Go.Lift
noncomputable section
open Go Go.RowKit
set_option linter.unusedSimpArgs false
set_option linter.unusedVariables false
set_option linter.unusedSectionVars false
set_option maxRecDepth 20000
end
end Go.Lift
namespace Go.Lift
noncomputable section
open Go Go.RowKit
set_option linter.unusedSimpArgs false
set_option linter.unusedVariables false
set_option linter.unusedSectionVars false
set_option maxRecDepth 20000
theorem sameInts_L1 (b : List Int) : ∀ (l : List Int) (i : Nat), l = b.drop i → m_as b l i = Lp.brk ()
  | [], i, _ => rfl
  | x :: l, i, h => by
    have hx : b[i]? = some x := by
      have := congrArg (·[0]?) h
      simpa using this.symm
    have hl : l = b.drop (i + 1) := by
      have := congrArg (List.drop 1) h
      simpa [List.drop_drop, Nat.add_comm] using this
    rw [m_as, sameInts_L1 b l (i + 1) hl, List.getD_eq_getElem?_getD, hx]
    simp
theorem sameInts_refl (b : List Int) : m_u b b = true := by
  unfold m_u
  rw [sameInts_L1 b b 0 (by simp)]
  simp
end
end Go.Lift
namespace Go.Lift
noncomputable section
open Go Go.RowKit
set_option linter.unusedSimpArgs false
set_option linter.unusedVariables false
set_option linter.unusedSectionVars false
set_option maxRecDepth 20000
end
end Go.Lift
namespace Go.Lift
noncomputable section
open Go Go.RowKit
set_option linter.unusedSimpArgs false
set_option linter.unusedVariables false
set_option linter.unusedSectionVars false
set_option maxRecDepth 20000
end
end Go.Lift
namespace Go.Lift
noncomputable section
open Go Go.RowKit
set_option linter.unusedSimpArgs false
set_option linter.unusedVariables false
set_option linter.unusedSectionVars false
set_option maxRecDepth 20000
end
end Go.Lift
namespace Go.Lift
noncomputable section
open Go Go.RowKit
set_option linter.unusedSimpArgs false
set_option linter.unusedVariables false
set_option linter.unusedSectionVars false
set_option maxRecDepth 20000
end
end Go.Lift
namespace Go.Lift
noncomputable section
open Go Go.RowKit
set_option linter.unusedSimpArgs false
set_option linter.unusedVariables false
set_option linter.unusedSectionVars false
set_option maxRecDepth 20000
end
end Go.Lift
namespace Go.Lift
noncomputable section
open Go Go.RowKit
set_option linter.unusedSimpArgs false
set_option linter.unusedVariables false
set_option linter.unusedSectionVars false
set_option maxRecDepth 20000
theorem ol_len (g : DGraph) : (m_c g).1.length ≤ g.edges.length := by
  by_cases h : (m_c g).2 = 0
  · exact (of_ok (by simp [h])).2
  · rw [of_eq] at h ⊢
    by_cases hc : m_7 g = 0
    · rw [if_pos hc] at h ⊢
      cases ho : ordF g g.edges.length [] with
      | none => simp
      | some o => rw [ho] at h; exact absurd rfl h
    · rw [if_neg hc]; simp
theorem law10_Orders_true (g : DGraph) : m_4 g = true := by
  unfold m_4
  have e : (⟨(m_a g).edges, (m_a g).pools, (m_a g).defaults⟩ : DGraph) = g := copyGraph_eq g
  rw [e, ref1_Order_eq, sameInts_refl, sameGraph_refl]
  have ha : m_8 = true := by kernel_rfl
  rw [ha]
  simp [m_5]
end
end Go.Lift
namespace Go.Lift
noncomputable section
open Go Go.RowKit
set_option linter.unusedSimpArgs false
set_option linter.unusedVariables false
set_option linter.unusedSectionVars false
set_option maxRecDepth 20000
theorem rdg_9 {H : Type} {enc : TypeId × Value → H} {w : World} {spare : Nat → Bool} {held : Bool} {bk : DataW H → Nat} {μ : Mu} (hb : BulkOk bk) (hμ : ∀ g, ¬ μ.mut g) : Rdg enc Go.Proofs.Tryz.prog w spare held bk μ 9 AV.s (fun s : ByteArray => s.size + 1) := Rdg.str hb (by kernel_rfl)
theorem rdg_24 {H : Type} {enc : TypeId × Value → H} {w : World} {spare : Nat → Bool} {held : Bool} {bk : DataW H → Nat} {μ : Mu} (hb : BulkOk bk) (hμ : ∀ g, ¬ μ.mut g) : Rdg enc Go.Proofs.Tryz.prog w spare held bk μ 24 (slA 1 AV.s) (szL (fun s : ByteArray => s.size + 1)) := Rdg.slice hb hμ (e := 9) (by kernel_rfl) (by kernel_rfl) (fun a => Or.inr ⟨(by intro fs h; cases h), rfl, rfl⟩) (rdg_9 hb hμ)
theorem rdg_4 {H : Type} {enc : TypeId × Value → H} {w : World} {spare : Nat → Bool} {held : Bool} {bk : DataW H → Nat} {μ : Mu} (hb : BulkOk bk) (hμ : ∀ g, ¬ μ.mut g) : Rdg enc Go.Proofs.Tryz.prog w spare held bk μ 4 AV.b (fun _ => 1) := Rdg.bool hb (by kernel_rfl)
theorem rdg_76 {H : Type} {enc : TypeId × Value → H} {w : World} {spare : Nat → Bool} {held : Bool} {bk : DataW H → Nat} {μ : Mu} (hb : BulkOk bk) (hμ : ∀ g, ¬ μ.mut g) : Rdg enc Go.Proofs.Tryz.prog w spare held bk μ 76 DEdge.av DEdge.sz where
  rd fuel cs x h hbd := by
    obtain ⟨xs, n, e, hl, hlen, hf⟩ := struct_rd (t := 76) (by kernel_rfl) h
    have hn : (fsOf Go.Proofs.Tryz.prog 76).size = 7 := by kernel_rfl
    have hc : Go.Proofs.Tryz.prog.cellsOf 76 = 7 := by kernel_rfl
    rw [hn] at hlen; rw [hc] at hl
    match xs, hlen, e, hf with
    | [x0, x1, x2, x3, x4, x5, x6], _, e, hf =>
      have hag := hb.agg [x0.1, x1.1, x2.1, x3.1, x4.1, x5.1, x6.1]
      simp only [List.map_cons, List.map_nil, List.sum_cons, List.sum_nil] at hag e
      rw [e] at hbd ⊢
      obtain ⟨y0, e0, r0⟩ := hf 0 0 24 1 (by kernel_rfl)
      cases e0
      obtain ⟨a0, c0, o0, s0⟩ := (rdg_24 hb hμ).rd _ _ _ r0 (by omega)
      obtain ⟨y1, e1, r1⟩ := hf 1 1 24 1 (by kernel_rfl)
      cases e1
      obtain ⟨a1, c1, o1, s1⟩ := (rdg_24 hb hμ).rd _ _ _ r1 (by omega)
      obtain ⟨y2, e2, r2⟩ := hf 2 2 24 1 (by kernel_rfl)
      cases e2
      obtain ⟨a2, c2, o2, s2⟩ := (rdg_24 hb hμ).rd _ _ _ r2 (by omega)
      obtain ⟨y3, e3, r3⟩ := hf 3 3 24 1 (by kernel_rfl)
      cases e3
      obtain ⟨a3, c3, o3, s3⟩ := (rdg_24 hb hμ).rd _ _ _ r3 (by omega)
      obtain ⟨y4, e4, r4⟩ := hf 4 4 9 1 (by kernel_rfl)
      cases e4
      obtain ⟨a4, c4, o4, s4⟩ := (rdg_9 hb hμ).rd _ _ _ r4 (by omega)
      obtain ⟨y5, e5, r5⟩ := hf 5 5 4 1 (by kernel_rfl)
      cases e5
      obtain ⟨a5, c5, o5, s5⟩ := (rdg_4 hb hμ).rd _ _ _ r5 (by omega)
      obtain ⟨y6, e6, r6⟩ := hf 6 6 9 1 (by kernel_rfl)
      cases e6
      obtain ⟨a6, c6, o6, s6⟩ := (rdg_9 hb hμ).rd _ _ _ r6 (by omega)
      refine ⟨⟨a0, a1, a2, a3, a4, a5, a6⟩, ?_, ?_, ?_⟩
      · have q := (CRs_step (CRs_step (CRs_step (CRs_step (CRs_step (CRs_step (CRs_step (show CRs w μ [] (cs.take 0) by simp [CRs]) c0) c1) c2) c3) c4) c5) c6)
        rw [show cs.take (0 + 1 + 1 + 1 + 1 + 1 + 1 + 1) = cs from List.take_of_length_le (by omega)] at q
        exact q
      · have q := (one_step (one_step (one_step (one_step (one_step (one_step (one_step (show ∀ u ∈ cs.take 0, u.oneCell' = true by simp) o0) o1) o2) o3) o4) o5) o6)
        rw [show cs.take (0 + 1 + 1 + 1 + 1 + 1 + 1 + 1) = cs from List.take_of_length_le (by omega)] at q
        exact q
      · unfold DEdge.sz; simp only at *; omega
theorem rdg_22 {H : Type} {enc : TypeId × Value → H} {w : World} {spare : Nat → Bool} {held : Bool} {bk : DataW H → Nat} {μ : Mu} (hb : BulkOk bk) (hμ : ∀ g, ¬ μ.mut g) : Rdg enc Go.Proofs.Tryz.prog w spare held bk μ 22 (slA 7 DEdge.av) (szL DEdge.sz) := Rdg.slice hb hμ (e := 76) (by kernel_rfl) (by kernel_rfl) (fun a => Or.inl ⟨_, rfl, rfl⟩) (rdg_76 hb hμ)
theorem rdg_3 {H : Type} {enc : TypeId × Value → H} {w : World} {spare : Nat → Bool} {held : Bool} {bk : DataW H → Nat} {μ : Mu} (hb : BulkOk bk) (hμ : ∀ g, ¬ μ.mut g) : Rdg enc Go.Proofs.Tryz.prog w spare held bk μ 3 (AV.i .i64) (fun _ => 1) := Rdg.int hb (by kernel_rfl)
theorem rdg_81 {H : Type} {enc : TypeId × Value → H} {w : World} {spare : Nat → Bool} {held : Bool} {bk : DataW H → Nat} {μ : Mu} (hb : BulkOk bk) (hμ : ∀ g, ¬ μ.mut g) : Rdg enc Go.Proofs.Tryz.prog w spare held bk μ 81 DPool.av DPool.sz where
  rd fuel cs x h hbd := by
    obtain ⟨xs, n, e, hl, hlen, hf⟩ := struct_rd (t := 81) (by kernel_rfl) h
    have hn : (fsOf Go.Proofs.Tryz.prog 81).size = 2 := by kernel_rfl
    have hc : Go.Proofs.Tryz.prog.cellsOf 81 = 2 := by kernel_rfl
    rw [hn] at hlen; rw [hc] at hl
    match xs, hlen, e, hf with
    | [x0, x1], _, e, hf =>
      have hag := hb.agg [x0.1, x1.1]
      simp only [List.map_cons, List.map_nil, List.sum_cons, List.sum_nil] at hag e
      rw [e] at hbd ⊢
      obtain ⟨y0, e0, r0⟩ := hf 0 0 9 1 (by kernel_rfl)
      cases e0
      obtain ⟨a0, c0, o0, s0⟩ := (rdg_9 hb hμ).rd _ _ _ r0 (by omega)
      obtain ⟨y1, e1, r1⟩ := hf 1 1 3 1 (by kernel_rfl)
      cases e1
      obtain ⟨a1, c1, o1, s1⟩ := (rdg_3 hb hμ).rd _ _ _ r1 (by omega)
      refine ⟨⟨a0, a1⟩, ?_, ?_, ?_⟩
      · have q := (CRs_step (CRs_step (show CRs w μ [] (cs.take 0) by simp [CRs]) c0) c1)
        rw [show cs.take (0 + 1 + 1) = cs from List.take_of_length_le (by omega)] at q
        exact q
      · have q := (one_step (one_step (show ∀ u ∈ cs.take 0, u.oneCell' = true by simp) o0) o1)
        rw [show cs.take (0 + 1 + 1) = cs from List.take_of_length_le (by omega)] at q
        exact q
      · unfold DPool.sz; simp only at *; omega
theorem rdg_23 {H : Type} {enc : TypeId × Value → H} {w : World} {spare : Nat → Bool} {held : Bool} {bk : DataW H → Nat} {μ : Mu} (hb : BulkOk bk) (hμ : ∀ g, ¬ μ.mut g) : Rdg enc Go.Proofs.Tryz.prog w spare held bk μ 23 (slA 2 DPool.av) (szL DPool.sz) := Rdg.slice hb hμ (e := 81) (by kernel_rfl) (by kernel_rfl) (fun a => Or.inl ⟨_, rfl, rfl⟩) (rdg_81 hb hμ)
theorem rdg_26 {H : Type} {enc : TypeId × Value → H} {w : World} {spare : Nat → Bool} {held : Bool} {bk : DataW H → Nat} {μ : Mu} (hb : BulkOk bk) (hμ : ∀ g, ¬ μ.mut g) : Rdg enc Go.Proofs.Tryz.prog w spare held bk μ 26 DGraph.av DGraph.sz where
  rd fuel cs x h hbd := by
    obtain ⟨xs, n, e, hl, hlen, hf⟩ := struct_rd (t := 26) (by kernel_rfl) h
    have hn : (fsOf Go.Proofs.Tryz.prog 26).size = 3 := by kernel_rfl
    have hc : Go.Proofs.Tryz.prog.cellsOf 26 = 3 := by kernel_rfl
    rw [hn] at hlen; rw [hc] at hl
    match xs, hlen, e, hf with
    | [x0, x1, x2], _, e, hf =>
      have hag := hb.agg [x0.1, x1.1, x2.1]
      simp only [List.map_cons, List.map_nil, List.sum_cons, List.sum_nil] at hag e
      rw [e] at hbd ⊢
      obtain ⟨y0, e0, r0⟩ := hf 0 0 22 1 (by kernel_rfl)
      cases e0
      obtain ⟨a0, c0, o0, s0⟩ := (rdg_22 hb hμ).rd _ _ _ r0 (by omega)
      obtain ⟨y1, e1, r1⟩ := hf 1 1 23 1 (by kernel_rfl)
      cases e1
      obtain ⟨a1, c1, o1, s1⟩ := (rdg_23 hb hμ).rd _ _ _ r1 (by omega)
      obtain ⟨y2, e2, r2⟩ := hf 2 2 24 1 (by kernel_rfl)
      cases e2
      obtain ⟨a2, c2, o2, s2⟩ := (rdg_24 hb hμ).rd _ _ _ r2 (by omega)
      refine ⟨⟨a0, a1, a2⟩, ?_, ?_, ?_⟩
      · have q := (CRs_step (CRs_step (CRs_step (show CRs w μ [] (cs.take 0) by simp [CRs]) c0) c1) c2)
        rw [show cs.take (0 + 1 + 1 + 1) = cs from List.take_of_length_le (by omega)] at q
        exact q
      · have q := (one_step (one_step (one_step (show ∀ u ∈ cs.take 0, u.oneCell' = true by simp) o0) o1) o2)
        rw [show cs.take (0 + 1 + 1 + 1) = cs from List.take_of_length_le (by omega)] at q
        exact q
      · unfold DGraph.sz; simp only at *; omega
end
end Go.Lift
