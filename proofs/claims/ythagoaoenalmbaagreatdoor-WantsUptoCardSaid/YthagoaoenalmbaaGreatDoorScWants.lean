/-
  Lemmas of this claim: a layer over the kit's calls, contracts of the functions that the law reaches, and the law's row. No condition of its own.
-/
import Derived.Test.YthagoaoenalmbaaGreatDoorLbWants
import Derived.Test.YthagoaoenalmbaaGreatDoorSaWants
namespace Go.Lift
noncomputable section
open Go Go.RowKit
set_option linter.unusedSimpArgs false
set_option linter.unusedVariables false
set_option linter.unusedSectionVars false
set_option maxRecDepth 20000
structure DEdge where
  outs : List ByteArray
  ins : List ByteArray
  implicit : List ByteArray
  order : List ByteArray
  command : ByteArray
  deps : Bool
  pool : ByteArray
def DEdge.av (d : DEdge) : AV := .st [(slA 1 AV.s) d.outs, (slA 1 AV.s) d.ins, (slA 1 AV.s) d.implicit, (slA 1 AV.s) d.order, AV.s d.command, AV.b d.deps, AV.s d.pool]
def DEdge.zero : DEdge := ⟨[], [], [], [], (⟨#[]⟩ : ByteArray), false, (⟨#[]⟩ : ByteArray)⟩
instance : Inhabited DEdge := ⟨DEdge.zero⟩
def DEdge.sz (d : DEdge) : Nat := (szL (fun s : ByteArray => s.size + 1)) d.outs + (szL (fun s : ByteArray => s.size + 1)) d.ins + (szL (fun s : ByteArray => s.size + 1)) d.implicit + (szL (fun s : ByteArray => s.size + 1)) d.order + (fun s : ByteArray => s.size + 1) d.command + (fun _ => 1) d.deps + (fun s : ByteArray => s.size + 1) d.pool + 1
theorem DEdge.sz_outs (d : DEdge) : (szL (fun s : ByteArray => s.size + 1)) d.outs ≤ d.sz := by unfold DEdge.sz; omega
theorem DEdge.sz_ins (d : DEdge) : (szL (fun s : ByteArray => s.size + 1)) d.ins ≤ d.sz := by unfold DEdge.sz; omega
theorem DEdge.sz_implicit (d : DEdge) : (szL (fun s : ByteArray => s.size + 1)) d.implicit ≤ d.sz := by unfold DEdge.sz; omega
theorem DEdge.sz_order (d : DEdge) : (szL (fun s : ByteArray => s.size + 1)) d.order ≤ d.sz := by unfold DEdge.sz; omega
theorem DEdge.lim_outs {d : DEdge} (h : lim d.av) : lim ((slA 1 AV.s) d.outs) := by simp only [DEdge.av, lim, limL] at h; exact h.1
structure DPool where
  name : ByteArray
  depth : Int
def DPool.av (d : DPool) : AV := .st [AV.s d.name, (AV.i .i64) d.depth]
def DPool.zero : DPool := ⟨(⟨#[]⟩ : ByteArray), (0 : Int)⟩
instance : Inhabited DPool := ⟨DPool.zero⟩
def DPool.sz (d : DPool) : Nat := (fun s : ByteArray => s.size + 1) d.name + (fun _ => 1) d.depth + 1
structure DGraph where
  edges : List DEdge
  pools : List DPool
  defaults : List ByteArray
def DGraph.av (d : DGraph) : AV := .st [(slA 7 DEdge.av) d.edges, (slA 2 DPool.av) d.pools, (slA 1 AV.s) d.defaults]
def DGraph.zero : DGraph := ⟨[], [], []⟩
instance : Inhabited DGraph := ⟨DGraph.zero⟩
def DGraph.sz (d : DGraph) : Nat := (szL DEdge.sz) d.edges + (szL DPool.sz) d.pools + (szL (fun s : ByteArray => s.size + 1)) d.defaults + 1
theorem DGraph.sz_edges (d : DGraph) : (szL DEdge.sz) d.edges ≤ d.sz := by unfold DGraph.sz; omega
theorem DGraph.sz_pools (d : DGraph) : (szL DPool.sz) d.pools ≤ d.sz := by unfold DGraph.sz; omega
theorem DGraph.sz_defaults (d : DGraph) : (szL (fun s : ByteArray => s.size + 1)) d.defaults ≤ d.sz := by unfold DGraph.sz; omega
theorem DGraph.lim_pt {d : DGraph} (h : lim (.pt d.av.cells)) : lim d.av := by simp only [DGraph.av, AV.cells, lim] at h ⊢; exact h
theorem DGraph.lim_edges {d : DGraph} (h : lim d.av) : lim ((slA 7 DEdge.av) d.edges) := by simp only [DGraph.av, lim, limL] at h; exact h.1
theorem DGraph.lim_pools {d : DGraph} (h : lim d.av) : lim ((slA 2 DPool.av) d.pools) := by simp only [DGraph.av, lim, limL] at h; exact h.2.1
structure DAction where
  command : ByteArray
  reads : List ByteArray
  fails : Bool
def DAction.zero : DAction := ⟨(⟨#[]⟩ : ByteArray), [], false⟩
instance : Inhabited DAction := ⟨DAction.zero⟩
structure DRecord where
  out : ByteArray
  time : Int
  sign : ByteArray
def DRecord.zero : DRecord := ⟨(⟨#[]⟩ : ByteArray), (0 : Int), (⟨#[]⟩ : ByteArray)⟩
instance : Inhabited DRecord := ⟨DRecord.zero⟩
structure DFound where
  out : ByteArray
  time : Int
  ins : List ByteArray
def DFound.zero : DFound := ⟨(⟨#[]⟩ : ByteArray), (0 : Int), []⟩
instance : Inhabited DFound := ⟨DFound.zero⟩
structure DFile where
  name : ByteArray
  content : Int
  time : Int
def DFile.zero : DFile := ⟨(⟨#[]⟩ : ByteArray), (0 : Int), (0 : Int)⟩
instance : Inhabited DFile := ⟨DFile.zero⟩
structure DDisk where
  clock : Int
  files : List DFile
def DDisk.zero : DDisk := ⟨(0 : Int), []⟩
instance : Inhabited DDisk := ⟨DDisk.zero⟩
structure DState where
  graph : DGraph
  actions : List DAction
  disk : DDisk
  log : List DRecord
  deps : List DFound
  jobs : Int
  going : Bool
  status : List Int
def DState.zero : DState := ⟨DGraph.zero, [], DDisk.zero, [], [], (0 : Int), false, []⟩
instance : Inhabited DState := ⟨DState.zero⟩
def lit28f67 : DEdge := (⟨[(⟨#[108, 105, 98]⟩ : ByteArray)], [(⟨#[97, 46, 111]⟩ : ByteArray), (⟨#[98, 46, 111]⟩ : ByteArray)], [], [], (⟨#[97, 114]⟩ : ByteArray), false, (⟨#[]⟩ : ByteArray)⟩ : DEdge)
def lit345b9 : DEdge := (⟨[(⟨#[98, 46, 111]⟩ : ByteArray)], [(⟨#[98, 46, 99]⟩ : ByteArray)], [], [(⟨#[97, 46, 111]⟩ : ByteArray)], (⟨#[99, 99, 32, 98]⟩ : ByteArray), false, (⟨#[116, 119, 111]⟩ : ByteArray)⟩ : DEdge)
def lit17817 : DEdge := (⟨[(⟨#[97, 46, 111]⟩ : ByteArray), (⟨#[97, 46, 100]⟩ : ByteArray)], [(⟨#[97, 46, 99]⟩ : ByteArray)], [(⟨#[97, 46, 104]⟩ : ByteArray)], [], (⟨#[99, 99, 32, 97]⟩ : ByteArray), true, (⟨#[116, 119, 111]⟩ : ByteArray)⟩ : DEdge)
def lit7e8b3 : DGraph := (⟨[lit28f67, lit17817, lit345b9], [(⟨(⟨#[116, 119, 111]⟩ : ByteArray), (2 : Int)⟩ : DPool)], [(⟨#[108, 105, 98]⟩ : ByteArray)]⟩ : DGraph)
def outsN : List DEdge → Nat
  | [] => 0
  | e :: r => e.outs.length + outsN r
def eOf (e : DEdge) : EdgeD := ⟨⟨false, e.outs⟩, ⟨false, e.ins⟩, ⟨false, e.implicit⟩, ⟨false, e.order⟩, e.command, e.deps, e.pool⟩
def pOf (p : DPool) : PoolD := ⟨p.name, p.depth⟩
def gOf (g : DGraph) : GraphD := ⟨false, g.edges.map eOf, false, g.pools.map pOf, ⟨false, g.defaults⟩⟩
def m_bs (g : DGraph) : Bool := mayG (gOf g)
def m_6 (g : DGraph) : Int := checkS (gOf g)
def needsN (g : DGraph) (edge : Int) : Nat := (g.edges.getD edge.toNat default).ins.length + (g.edges.getD edge.toNat default).implicit.length + (g.edges.getD edge.toNat default).order.length
def m_a4 : List Bool → Nat → (List Bool) → Lp (List Bool) ((List Bool))
  | [], i, row => Lp.brk row
  | x1 :: rest, i, row => m_a4 rest (i + 1) (row.set i (!(row.getD i default)))
def m_bl (a : List Bool) : List Bool :=
  (match m_a4 a 0 a with
  | Lp.ret r => r
  | Lp.brk row' => row')
def m_law0_SpoilInts_L1 : List Int → Nat → (List Int) → Lp (List Int) ((List Int))
  | [], i, row => Lp.brk row
  | x1 :: rest, i, row => m_law0_SpoilInts_L1 rest (i + 1) (row.set i (IntKind.wrap .i64 ((-9 : Int) - (row.getD i default))))
def m_law0_SpoilInts (a : List Int) : List Int :=
  (match m_law0_SpoilInts_L1 a 0 a with
  | Lp.ret r => r
  | Lp.brk row' => row')
def m_bq (s' : ByteArray) : Bool :=
  (decide ((cleanS s').2 = (0 : Int)) && decide ((cleanS s').1 = s'))
def m_br : List ByteArray → Nat → Lp (Bool) (Unit)
  | [], v9 => Lp.brk ()
  | x1 :: rest, v9 => (bif (!(m_bq x1)) then Lp.ret false else m_br rest (v9 + 1))
def m_ax (ss : List ByteArray) (most' : Int) : Bool :=
  (match m_br ss 0 with
  | Lp.ret r => r
  | Lp.brk () => decide (((ss.length : Nat) : Int) ≤ most'))
def m_name_Plain_L1 : List UInt8 → Nat → Lp (Bool) (Unit)
  | [], v8 => Lp.brk ()
  | x1 :: rest, v8 => (bif decide ((x1.toNat : Int) < (32 : Int)) then Lp.ret false else (bif decide ((126 : Int) < (x1.toNat : Int)) then Lp.ret false else m_name_Plain_L1 rest (v8 + 1)))
def m_au : List DEdge → Nat → (List ByteArray) → Lp (List ByteArray) ((List ByteArray))
  | [], v11, out => Lp.brk out
  | x1 :: rest, v11, out => m_au rest (v11 + 1) (out ++ x1.outs)
def m_j (g : DGraph) : List ByteArray :=
  (match m_au g.edges 0 [] with
  | Lp.ret r => r
  | Lp.brk out' => out')
def m_bo (x' : ByteArray) : List ByteArray → Nat → Lp (Bool) (Unit)
  | [], i => Lp.brk ()
  | x1 :: rest, i => (bif decide (x1 = x') then Lp.ret true else m_bo x' rest (i + 1))
def m_bh (xs : List ByteArray) (x' : ByteArray) : Bool :=
  (match m_bo x' xs 0 with
  | Lp.ret r => r
  | Lp.brk () => false)
def m_al (c : Int) : Bool :=
  (bif decide ((97 : Int) ≤ c) then (decide (c ≤ (122 : Int)) || (decide ((48 : Int) ≤ c) && decide (c ≤ (57 : Int)))) else (decide ((48 : Int) ≤ c) && decide (c ≤ (57 : Int))))
def m_ba : List UInt8 → Nat → Lp (Bool) (Unit)
  | [], i => Lp.brk ()
  | x1 :: rest, i => (bif decide ((x1.toNat : Int) < (32 : Int)) then Lp.ret false else (bif decide ((126 : Int) < (x1.toNat : Int)) then Lp.ret false else m_ba rest (i + 1)))
def m_ap (s' : ByteArray) (least : Int) (most' : Int) : Bool :=
  (match m_ba s'.data.toList 0 with
  | Lp.ret r => r
  | Lp.brk () => (decide (least ≤ ((s'.size : Nat) : Int)) && decide (((s'.size : Nat) : Int) ≤ most')))
def m_ag : List UInt8 → Nat → Lp (Bool) (Unit)
  | [], i => Lp.brk ()
  | x1 :: rest, i => (bif (!(m_al (x1.toNat : Int))) then (bif (!decide ((x1.toNat : Int) = (46 : Int))) then (bif (!decide ((x1.toNat : Int) = (95 : Int))) then (bif (!decide ((x1.toNat : Int) = (45 : Int))) then (bif (!decide ((x1.toNat : Int) = (47 : Int))) then Lp.ret false else m_ag rest (i + 1)) else m_ag rest (i + 1)) else m_ag rest (i + 1)) else m_ag rest (i + 1)) else m_ag rest (i + 1))
def m_y (s' : ByteArray) : Bool :=
  (match m_ag s'.data.toList 0 with
  | Lp.ret r => r
  | Lp.brk () => (decide ((1 : Int) ≤ ((s'.size : Nat) : Int)) && decide (((s'.size : Nat) : Int) ≤ (16 : Int))))
def m_a2 (sign : ByteArray) : List ByteArray → Nat → ByteArray → Lp (ByteArray) (ByteArray)
  | [], i, s' => Lp.brk s'
  | x1 :: rest, i, s' => (bif decide ((0 : Int) < ((i : Nat) : Int)) then m_a2 sign rest (i + 1) ((s' ++ sign) ++ x1) else m_a2 sign rest (i + 1) (s' ++ x1))
def m_bm (xs : List ByteArray) (sign : ByteArray) : ByteArray :=
  (match m_a2 sign xs 0 (⟨#[]⟩ : ByteArray) with
  | Lp.ret r => r
  | Lp.brk sv' => sv')
def m_ak (s' : ByteArray) (sign : Int) : Nat → (List ByteArray) → Nat → Nat → Lp (List ByteArray) ((List ByteArray))
  | 0, out, from', i => Lp.brk out
  | kf + 1, out, from', i => (bif decide (((i : Nat) : Int) ≤ ((s'.size : Nat) : Int)) then (bif (decide (((i : Nat) : Int) = ((s'.size : Nat) : Int)) || decide (((s'.data.getD i 0).toNat : Int) = sign)) then m_ak s' sign kf (out ++ [(s'.extract from' i)]) (i + 1) (i + 1) else m_ak s' sign kf out from' (i + 1)) else Lp.brk out)
def m_r (s' : ByteArray) (sign : Int) : List ByteArray :=
  (match m_ak s' sign (s'.size + 1 - 0 + 1) [] 0 0 with
  | Lp.ret r => r
  | Lp.brk out' => out')
def m_aa : List ByteArray → Nat → (List ByteArray) → Lp (ByteArray × Int) ((List ByteArray))
  | [], i, kept => Lp.brk kept
  | x1 :: rest, i, kept => (bif decide (x1 = (⟨#[]⟩ : ByteArray)) then m_aa rest (i + 1) kept else (bif decide (x1 = (⟨#[46]⟩ : ByteArray)) then m_aa rest (i + 1) kept else (bif decide (x1 = (⟨#[46, 46]⟩ : ByteArray)) then (bif decide (((kept.length : Nat) : Int) = (0 : Int)) then Lp.ret ((⟨#[]⟩ : ByteArray), (200 : Int)) else m_aa rest (i + 1) (kept.take (kept.length - 1))) else m_aa rest (i + 1) (kept ++ [x1]))))
def m_k (s' : ByteArray) : ByteArray × Int :=
  (bif (!(m_y s')) then ((⟨#[]⟩ : ByteArray), (200 : Int)) else (bif decide (((s'.data.getD 0 0).toNat : Int) = (47 : Int)) then ((⟨#[]⟩ : ByteArray), (200 : Int)) else (match m_aa (m_r s' (47 : Int)) 0 [] with
  | Lp.ret r => r
  | Lp.brk kept' => (bif decide (((kept'.length : Nat) : Int) = (0 : Int)) then ((⟨#[]⟩ : ByteArray), (200 : Int)) else ((m_bm kept' (⟨#[47]⟩ : ByteArray)), (0 : Int))))))
def m_a3 (s' : ByteArray) : Bool :=
  (decide ((m_k s').2 = (0 : Int)) && decide ((m_k s').1 = s'))
def m_ay : List ByteArray → Nat → Lp (Bool) (Unit)
  | [], i => Lp.brk ()
  | x1 :: rest, i => (bif (!(m_a3 x1)) then Lp.ret false else m_ay rest (i + 1))
def m_n (xs : List ByteArray) : Bool :=
  (match m_ay xs 0 with
  | Lp.ret r => r
  | Lp.brk () => decide (((xs.length : Nat) : Int) ≤ (8 : Int)))
def m_bd (name : ByteArray) : List DPool → Nat → Lp (Int) (Unit)
  | [], i => Lp.brk ()
  | x1 :: rest, i => (bif decide (x1.name = name) then Lp.ret ((i : Nat) : Int) else m_bd name rest (i + 1))
def m_af (ps : List DPool) (name : ByteArray) : Int :=
  (match m_bd name ps 0 with
  | Lp.ret r => r
  | Lp.brk () => (-1 : Int))
def m_1 (e : DEdge) : Bool :=
  (decide ((0 : Int) < ((e.outs.length : Nat) : Int)) && ((m_n e.outs) && ((m_n e.ins) && ((m_n e.implicit) && ((m_n e.order) && ((m_ap e.command (1 : Int) (256 : Int)) && (decide (e.pool = (⟨#[]⟩ : ByteArray)) || (m_y e.pool))))))))
def m_aj (g : DGraph) : List DEdge → Nat → Lp (Bool) (Unit)
  | [], i2 => Lp.brk ()
  | x2 :: rest, i2 => (bif (!(m_1 x2)) then Lp.ret false else (bif (!decide (x2.pool = (⟨#[]⟩ : ByteArray))) then (bif decide ((m_af g.pools x2.pool) < (0 : Int)) then Lp.ret false else m_aj g rest (i2 + 1)) else m_aj g rest (i2 + 1)))
def m_ao (g : DGraph) : List DPool → Nat → Lp (Bool) (Unit)
  | [], i => Lp.brk ()
  | x1 :: rest, i => (bif (!(m_y x1.name)) then Lp.ret false else (bif decide (x1.depth < (1 : Int)) then Lp.ret false else (bif decide ((8 : Int) < x1.depth) then Lp.ret false else (bif (!decide ((m_af g.pools x1.name) = ((i : Nat) : Int))) then Lp.ret false else m_ao g rest (i + 1)))))
def m_w (g : DGraph) : Bool :=
  (match m_ao g g.pools 0 with
  | Lp.ret r => r
  | Lp.brk () => (match m_aj g g.edges 0 with
  | Lp.ret r => r
  | Lp.brk () => (decide (((g.pools.length : Nat) : Int) ≤ (4 : Int)) && (decide (((g.edges.length : Nat) : Int) ≤ (16 : Int)) && (m_n g.defaults)))))
def m_bk : List ByteArray → Nat → (List ByteArray) → Lp (Int) ((List ByteArray))
  | [], k, all2 => Lp.brk all2
  | x2 :: rest, k, all2 => (bif (m_bh all2 x2) then Lp.ret (901 : Int) else m_bk rest (k + 1) (all2 ++ [x2]))
def m_bj : List DEdge → Nat → (List ByteArray) → Lp (Int) (Unit)
  | [], i, all => Lp.brk ()
  | x1 :: rest, i, all => (match m_bk x1.outs 0 all with
  | Lp.ret r => Lp.ret r
  | Lp.brk all2' => m_bj rest (i + 1) all2')
def m_aw (g : DGraph) : Int :=
  (bif (!(m_w g)) then (900 : Int) else (match m_bj g.edges 0 [] with
  | Lp.ret r => r
  | Lp.brk () => (0 : Int)))
def m_bn (name : ByteArray) : List DEdge → Nat → Lp (Int) (Unit)
  | [], i => Lp.brk ()
  | x1 :: rest, i => (bif (m_bh x1.outs name) then Lp.ret ((i : Nat) : Int) else m_bn name rest (i + 1))
def m_o (g : DGraph) (name : ByteArray) : Int :=
  (match m_bn name g.edges 0 with
  | Lp.ret r => r
  | Lp.brk () => (-1 : Int))
def m_a8 (g : DGraph) : List ByteArray → Nat → (List Int) → Lp (List Int) ((List Int))
  | [], i, out => Lp.brk out
  | x1 :: rest, i, out => (bif decide ((0 : Int) ≤ (m_o g x1)) then m_a8 g rest (i + 1) (out ++ [(m_o g x1)]) else m_a8 g rest (i + 1) out)
def m_l (g : DGraph) (edge : Int) : List Int :=
  (match m_a8 g (((g.edges.getD edge.toNat default).ins ++ (g.edges.getD edge.toNat default).implicit) ++ (g.edges.getD edge.toNat default).order) 0 [] with
  | Lp.ret r => r
  | Lp.brk out' => out')
def m_a1 (row : List Bool) : List Int → Nat → Bool → Lp (List Int × Int) (Bool)
  | [], k, free => Lp.brk free
  | x3 :: rest, k, free => (bif free then m_a1 row rest (k + 1) (row.getD x3.toNat default) else m_a1 row rest (k + 1) false)
def m_a9 (row : List Bool) (g : DGraph) : Nat → Int → Int → Lp (List Int × Int) (Int)
  | 0, next, i => Lp.brk next
  | kf + 1, next, i => (bif decide ((0 : Int) ≤ i) then (match m_a1 row (m_l g i) 0 (!(row.getD i.toNat default)) with
  | Lp.ret r => Lp.ret r
  | Lp.brk free' => (bif free' then m_a9 row g kf i (i - (1 : Int)) else m_a9 row g kf next (i - (1 : Int)))) else Lp.brk next)
def m_bp (g : DGraph) : Nat → (List Int) → (List Bool) → Lp (List Int × Int) ((List Int) × (List Bool))
  | 0, out, row => Lp.brk (out, row)
  | kf + 1, out, row => (bif decide (((out.length : Nat) : Int) < ((g.edges.length : Nat) : Int)) then (match m_a9 row g (((((g.edges.length : Nat) : Int) - (1 : Int)) + 1).toNat + 1) (-1 : Int) (((g.edges.length : Nat) : Int) - (1 : Int)) with
  | Lp.ret r => Lp.ret r
  | Lp.brk next' => (bif decide (next' < (0 : Int)) then Lp.ret (([] : List Int), (1001 : Int)) else m_bp g kf (out ++ [next']) (row.set next'.toNat true))) else Lp.brk (out, row))
def m_f (g : DGraph) : List Int × Int :=
  (bif (!decide ((m_aw g) = (0 : Int))) then (([] : List Int), (1000 : Int)) else (match m_bp g (g.edges.length - 0 + 1) [] (List.replicate g.edges.length false) with
  | Lp.ret r => r
  | Lp.brk (out', row') => (out', (0 : Int))))
def m_law0_SameInts_L1 (b : List Int) : List Int → Nat → Lp (Bool) (Unit)
  | [], i => Lp.brk ()
  | x1 :: rest, i => (bif (!decide (x1 = (b.getD i default))) then Lp.ret false else m_law0_SameInts_L1 b rest (i + 1))
def m_aq (b : List Bool) : List Bool → Nat → Lp (Bool) (Unit)
  | [], i => Lp.brk ()
  | x1 :: rest, i => (bif (!(x1 == (b.getD i default))) then Lp.ret false else m_aq b rest (i + 1))
def m_u (a : List Bool) (b : List Bool) : Bool :=
  (!(!decide (((a.length : Nat) : Int) = ((b.length : Nat) : Int))) && (match m_aq b a 0 with
  | Lp.ret r => r
  | Lp.brk () => true))
def m_an (v : Int) : List Int → Nat → Lp (Int) (Unit)
  | [], v8 => Lp.brk ()
  | x1 :: rest, v8 => (bif decide (v = x1) then Lp.ret ((v8 : Nat) : Int) else m_an v rest (v8 + 1))
def m_9 (s' : List Int) (v : Int) : Int :=
  (match m_an v s' 0 with
  | Lp.ret r => r
  | Lp.brk () => (-1 : Int))
def m_v (s' : List Int) (v : Int) : Bool :=
  decide ((0 : Int) ≤ (m_9 s' v))
def m_ab (v : ByteArray) : List ByteArray → Nat → Lp (Int) (Unit)
  | [], v8 => Lp.brk ()
  | x1 :: rest, v8 => (bif decide (v = x1) then Lp.ret ((v8 : Nat) : Int) else m_ab v rest (v8 + 1))
def m_x (s' : List ByteArray) (v : ByteArray) : Int :=
  (match m_ab v s' 0 with
  | Lp.ret r => r
  | Lp.brk () => (-1 : Int))
def m_z (s' : List ByteArray) (v : ByteArray) : Bool :=
  decide ((0 : Int) ≤ (m_x s' v))
def m_t (f : DEdge → Bool) : List DEdge → Nat → Lp (Int) (Unit)
  | [], v8 => Lp.brk ()
  | x1 :: rest, v8 => (bif (f x1) then Lp.ret ((v8 : Nat) : Int) else m_t f rest (v8 + 1))
def m_q (s' : List DEdge) (f : DEdge → Bool) : Int :=
  (match m_t f s' 0 with
  | Lp.ret r => r
  | Lp.brk () => (-1 : Int))
def m_az (e : DEdge) (name : ByteArray) : Bool :=
  (m_z e.outs name)
def m_g (g : DGraph) (s' : ByteArray) : Int :=
  (m_q g.edges (fun z0 => m_az z0 s'))
def m_ae (f : Int → Bool) : List Int → Nat → Lp (Int) (Unit)
  | [], v8 => Lp.brk ()
  | x1 :: rest, v8 => (bif (f x1) then Lp.ret ((v8 : Nat) : Int) else m_ae f rest (v8 + 1))
def m_0 (s' : List Int) (f : Int → Bool) : Int :=
  (match m_ae f s' 0 with
  | Lp.ret r => r
  | Lp.brk () => (-1 : Int))
def m_s (s' : List Int) (f : Int → Bool) : Bool :=
  decide ((0 : Int) ≤ (m_0 s' f))
def m_grow_string (n' : Nat) : List ByteArray :=
  (bif decide ((0 : Int) < ((n' : Nat) : Int)) then ((List.replicate n' (⟨#[]⟩ : ByteArray)).take 0) else [])
def m_e : List (List ByteArray) → Nat → (List ByteArray) → Lp (List ByteArray) ((List ByteArray))
  | [], v27, newslice => Lp.brk newslice
  | x2 :: rest, v27, newslice => m_e rest (v27 + 1) (newslice ++ x2)
def m_p : List (List ByteArray) → Nat → Nat → Lp (List ByteArray) (Nat)
  | [], v11, size => Lp.brk size
  | x1 :: rest, v11, size => m_p rest (v11 + 1) (size + x1.length)
def m_b (slices : List (List ByteArray)) : List ByteArray :=
  (match m_p slices 0 0 with
  | Lp.ret r => r
  | Lp.brk size' => (match m_e slices 0 ((List.replicate size' (⟨#[]⟩ : ByteArray)).take 0) with
  | Lp.ret r => r
  | Lp.brk newslice4' => newslice4'))
def m_ai (g : DGraph) : List ByteArray → Nat → (List Int) → Lp (List Int) ((List Int))
  | [], v31, out => Lp.brk out
  | x1 :: rest, v31, out => (bif decide ((0 : Int) ≤ (m_g g x1)) then (bif (!(m_v out (m_g g x1))) then m_ai g rest (v31 + 1) (out ++ [(m_g g x1)]) else m_ai g rest (v31 + 1) out) else m_ai g rest (v31 + 1) out)
def m_h (g : DGraph) (edge : Int) : List Int :=
  (match m_ai g (m_b [(g.edges.getD edge.toNat default).ins, (g.edges.getD edge.toNat default).implicit, (g.edges.getD edge.toNat default).order]) 0 [] with
  | Lp.ret r => r
  | Lp.brk out' => out')
def m_ac (edge : Int) (out : List Int) : Bool :=
  (m_v out edge)
def m_a5 (edge : Int) (told : Int → Bool) : Bool :=
  (!(told edge))
def m_bc : List (List Int) → Nat → (List Int) → Lp (List Int × Int) (Bool × (List Int))
  | [], v38, cell2 => Lp.brk (false, cell2)
  | x3 :: rest, v38, cell2 => (bif (!(m_ac ((v38 : Nat) : Int) cell2)) then (bif (!(m_s x3 (fun z0 => m_a5 z0 (fun z0 => m_ac z0 cell2)))) then Lp.brk (true, (cell2 ++ [((v38 : Nat) : Int)])) else m_bc rest (v38 + 1) cell2) else m_bc rest (v38 + 1) cell2)
def m_bi (g : DGraph) (row : List (List Int)) : Nat → (List Int) → Lp (List Int × Int) ((List Int))
  | 0, cell => Lp.brk cell
  | kf + 1, cell => (bif decide (((cell.length : Nat) : Int) < ((g.edges.length : Nat) : Int)) then (match m_bc row 0 cell with
  | Lp.ret r => Lp.ret r
  | Lp.brk (t', cell2') => (bif t' then m_bi g row kf cell2' else Lp.ret (([] : List Int), (1001 : Int)))) else Lp.brk cell)
def m_bb (g : DGraph) : List (List Int) → Nat → (List (List Int)) → Lp (List Int × Int) ((List (List Int)))
  | [], v20, row => Lp.brk row
  | x1 :: rest, v20, row => m_bb g rest (v20 + 1) (row.set v20 (m_h g ((v20 : Nat) : Int)))
def m_c (g : DGraph) : List Int × Int :=
  (bif (!decide ((m_6 g) = (0 : Int))) then (([] : List Int), (1000 : Int)) else (match m_bb g (List.replicate g.edges.length ([] : List Int)) 0 (List.replicate g.edges.length ([] : List Int)) with
  | Lp.ret r => r
  | Lp.brk row' => (match m_bi g row' (g.edges.length - 0 + 1) [] with
  | Lp.ret r => r
  | Lp.brk cell3' => (cell3', (0 : Int)))))
def m_av (g : DGraph) (i3 : Int) : List Int → Nat → (List Bool) → Lp (List Bool × Int) ((List Bool))
  | [], k, row4 => Lp.brk row4
  | x4 :: rest, k, row4 => (bif (row4.getD x4.toNat default) then m_av g i3 rest (k + 1) (row4.set x4.toNat true) else m_av g i3 rest (k + 1) (row4.set x4.toNat (row4.getD ((((m_f g).1).getD i3.toNat default).toNat) default)))
def m_a7 (g : DGraph) : Nat → Int → (List Bool) → Lp (List Bool × Int) ((List Bool))
  | 0, i3, row3 => Lp.brk row3
  | kf + 1, i3, row3 => (bif decide ((0 : Int) ≤ i3) then (match m_av g i3 (m_l (⟨g.edges, g.pools, g.defaults⟩ : DGraph) (((m_f g).1).getD i3.toNat default)) 0 row3 with
  | Lp.ret r => Lp.ret r
  | Lp.brk row4' => m_a7 g kf (i3 - (1 : Int)) row4') else Lp.brk row3)
def m_a6 (g : DGraph) : List ByteArray → Nat → (List Bool) → Lp (List Bool × Int) ((List Bool))
  | [], i2, row2 => Lp.brk row2
  | x2 :: rest, i2, row2 => (bif decide ((m_o (⟨g.edges, g.pools, g.defaults⟩ : DGraph) x2) < (0 : Int)) then Lp.ret (([] : List Bool), (2001 : Int)) else m_a6 g rest (i2 + 1) (row2.set (m_o (⟨g.edges, g.pools, g.defaults⟩ : DGraph) x2).toNat true))
def m_a0 (names : List ByteArray) (g : DGraph) : List DEdge → Nat → (List Bool) → Lp (List Bool × Int) ((List Bool))
  | [], i, row => Lp.brk row
  | x1 :: rest, i, row => m_a0 names g rest (i + 1) (row.set i (decide ((((bif decide (((names.length : Nat) : Int) = (0 : Int)) then g.defaults else names).length : Nat) : Int) = (0 : Int))))
def m_m (g : DGraph) (names : List ByteArray) : List Bool × Int :=
  (bif (!decide ((m_f g).2 = (0 : Int))) then (([] : List Bool), (2000 : Int)) else (bif (!(m_n names)) then (([] : List Bool), (2000 : Int)) else (match m_a0 names g g.edges 0 (List.replicate g.edges.length false) with
  | Lp.ret r => r
  | Lp.brk row' => (match m_a6 g (bif decide (((names.length : Nat) : Int) = (0 : Int)) then g.defaults else names) 0 row' with
  | Lp.ret r => r
  | Lp.brk row5' => (match m_a7 g (((((((m_f g).1).length : Nat) : Int) - (1 : Int)) + 1).toNat + 1) (((((m_f g).1).length : Nat) : Int) - (1 : Int)) row5' with
  | Lp.ret r => r
  | Lp.brk row6' => (row6', (0 : Int)))))))
def m_bg : List Int → Nat → (List Bool) → Lp (List Bool × Int) ((List Bool))
  | [], v75, row3 => Lp.brk row3
  | x3 :: rest, v75, row3 => m_bg rest (v75 + 1) (row3.set x3.toNat true)
def m_bf (g : DGraph) : Nat → Int → (List Bool) → Lp (List Bool × Int) ((List Bool))
  | 0, k, row2 => Lp.brk row2
  | kf + 1, k, row2 => (bif decide ((0 : Int) ≤ k) then (bif (!(row2.getD ((((m_c g).1).getD k.toNat default).toNat) default)) then m_bf g kf (k - (1 : Int)) row2 else (match m_bg (m_h g (((m_c g).1).getD k.toNat default)) 0 row2 with
  | Lp.ret r => Lp.ret r
  | Lp.brk row3' => m_bf g kf (k - (1 : Int)) row3')) else Lp.brk row2)
def m_be (g : DGraph) : List ByteArray → Nat → (List Bool) → Lp (List Bool × Int) ((List Bool))
  | [], v42, row => Lp.brk row
  | x1 :: rest, v42, row => (bif decide ((m_g g x1) < (0 : Int)) then Lp.ret (([] : List Bool), (2001 : Int)) else m_be g rest (v42 + 1) (row.set (m_g g x1).toNat true))
def m_d (g : DGraph) (names : List ByteArray) : List Bool × Int :=
  (bif (!decide ((m_c g).2 = (0 : Int))) then (([] : List Bool), (2000 : Int)) else (bif (!(m_ax names (8 : Int))) then (([] : List Bool), (2000 : Int)) else (match m_be g (bif decide ((((bif decide (((names.length : Nat) : Int) = (0 : Int)) then g.defaults else names).length : Nat) : Int) = (0 : Int)) then (m_j g) else (bif decide (((names.length : Nat) : Int) = (0 : Int)) then g.defaults else names)) 0 (List.replicate g.edges.length false) with
  | Lp.ret r => r
  | Lp.brk row' => (match m_bf g (((((((m_c g).1).length : Nat) : Int) - (1 : Int)) + 1).toNat + 1) (((((m_c g).1).length : Nat) : Int) - (1 : Int)) row' with
  | Lp.ret r => r
  | Lp.brk row4' => (row4', (0 : Int))))))
def m_law0_CopyTexts (a : List ByteArray) : List ByteArray :=
  a
def m_ad (a : DEdge) : DEdge :=
  (⟨a.outs, a.ins, a.implicit, a.order, a.command, a.deps, a.pool⟩ : DEdge)
def m_am : List DEdge → Nat → (List DEdge) → Lp (DGraph) ((List DEdge))
  | [], i, edges => Lp.brk edges
  | x1 :: rest, i, edges => m_am rest (i + 1) (edges ++ [(m_ad x1)])
def m_a (a : DGraph) : DGraph :=
  (match m_am a.edges 0 [] with
  | Lp.ret r => r
  | Lp.brk edges' => (⟨edges', a.pools, a.defaults⟩ : DGraph))
def m_at (b : List ByteArray) : List ByteArray → Nat → Lp (Bool) (Unit)
  | [], i => Lp.brk ()
  | x1 :: rest, i => (bif (!decide (x1 = (b.getD i default))) then Lp.ret false else m_at b rest (i + 1))
def m_i (a : List ByteArray) (b : List ByteArray) : Bool :=
  (!(!decide (((a.length : Nat) : Int) = ((b.length : Nat) : Int))) && (match m_at b a 0 with
  | Lp.ret r => r
  | Lp.brk () => true))
def m_2 (a : DEdge) (b : DEdge) : Bool :=
  ((m_i a.outs b.outs) && ((m_i a.ins b.ins) && ((m_i a.implicit b.implicit) && ((m_i a.order b.order) && (decide (a.command = b.command) && ((a.deps == b.deps) && decide (a.pool = b.pool)))))))
def m_as (b : List DPool) : List DPool → Nat → Lp (Bool) (Unit)
  | [], i => Lp.brk ()
  | x1 :: rest, i => (bif (!(decide (x1.name = (b.getD i default).name) && (decide (x1.depth = (b.getD i default).depth) && true))) then Lp.ret false else m_as b rest (i + 1))
def m_ah (a : List DPool) (b : List DPool) : Bool :=
  (!(!decide (((a.length : Nat) : Int) = ((b.length : Nat) : Int))) && (match m_as b a 0 with
  | Lp.ret r => r
  | Lp.brk () => true))
def m_3 (lent : List ByteArray) (a : List ByteArray) : Bool :=
  ((m_i ((lent ++ [(⟨#[126, 114, 111, 111, 109]⟩ : ByteArray), (⟨#[126, 98, 101, 104, 105, 110, 100]⟩ : ByteArray)]).take lent.length) a) && (decide (((lent ++ [(⟨#[126, 114, 111, 111, 109]⟩ : ByteArray), (⟨#[126, 98, 101, 104, 105, 110, 100]⟩ : ByteArray)]).getD a.length default) = (⟨#[126, 114, 111, 111, 109]⟩ : ByteArray)) && decide (((lent ++ [(⟨#[126, 114, 111, 111, 109]⟩ : ByteArray), (⟨#[126, 98, 101, 104, 105, 110, 100]⟩ : ByteArray)]).getD (a.length + 1) default) = (⟨#[126, 98, 101, 104, 105, 110, 100]⟩ : ByteArray))))
def m_law0_LendTexts (a : List ByteArray) : List ByteArray :=
  ((a ++ [(⟨#[126, 114, 111, 111, 109]⟩ : ByteArray), (⟨#[126, 98, 101, 104, 105, 110, 100]⟩ : ByteArray)]).take a.length)
def m_ar (b : DGraph) : List DEdge → Nat → Lp (Bool) (Unit)
  | [], i => Lp.brk ()
  | x1 :: rest, i => (bif (!(m_2 x1 (b.edges.getD i default))) then Lp.ret false else m_ar b rest (i + 1))
def m_5 (a : DGraph) (b : DGraph) : Bool :=
  (!(!decide (((a.edges.length : Nat) : Int) = ((b.edges.length : Nat) : Int))) && (match m_ar b a.edges 0 with
  | Lp.ret r => r
  | Lp.brk () => ((m_ah a.pools b.pools) && (m_i a.defaults b.defaults))))
def m_4 (e : Int) : Int :=
  e
def m_law20_given : DGraph :=
  lit7e8b3
def m_8 : Bool :=
  ((m_u ((m_d lit7e8b3 []).1) [true, true, true]) && (decide ((m_4 ((m_d lit7e8b3 []).2)) = (0 : Int)) && ((m_u ((m_d lit7e8b3 [(⟨#[97, 46, 100]⟩ : ByteArray)]).1) [false, true, false]) && (decide ((m_4 ((m_d lit7e8b3 [(⟨#[97, 46, 100]⟩ : ByteArray)]).2)) = (0 : Int)) && (decide ((m_4 ((m_d lit7e8b3 [(⟨#[97, 46, 99]⟩ : ByteArray)]).2)) = (2001 : Int)) && decide ((m_4 ((m_d lit7e8b3 [(⟨#[47, 97]⟩ : ByteArray)]).2)) = (2000 : Int)))))))
def m_7 (g : DGraph) (names : List ByteArray) : Bool :=
  (!(!(m_u ((m_d (⟨(m_a g).edges, (m_a g).pools, (m_a g).defaults⟩ : DGraph) ((names ++ [(⟨#[126, 114, 111, 111, 109]⟩ : ByteArray), (⟨#[126, 98, 101, 104, 105, 110, 100]⟩ : ByteArray)]).take names.length)).1) ((m_m g names).1))) && (!(!decide ((m_4 ((m_d (⟨(m_a g).edges, (m_a g).pools, (m_a g).defaults⟩ : DGraph) ((names ++ [(⟨#[126, 114, 111, 111, 109]⟩ : ByteArray), (⟨#[126, 98, 101, 104, 105, 110, 100]⟩ : ByteArray)]).take names.length)).2)) = (m_m g names).2)) && ((m_5 (⟨(m_a g).edges, (m_a g).pools, (m_a g).defaults⟩ : DGraph) g) && ((m_3 names names) && m_8))))
end
end Go.Lift
namespace Go.Lift
noncomputable section
open Go Go.RowKit
set_option linter.unusedSimpArgs false
set_option linter.unusedVariables false
set_option linter.unusedSectionVars false
set_option maxRecDepth 20000
theorem szL_len {α : Type} {sz : α → Nat} (h : ∀ x, 1 ≤ sz x) (xs : List α) : xs.length + 1 ≤ szL sz xs := by
  unfold szL
  induction xs with
  | nil => simp
  | cons x xs ih => have := h x; simp only [List.map_cons, List.sum_cons, List.length_cons]; omega
theorem szL_mem {α : Type} {sz : α → Nat} {x : α} : ∀ {xs : List α}, x ∈ xs → sz x + 1 ≤ szL sz xs
  | [], h => by simp at h
  | y :: ys, h => by
    unfold szL
    simp only [List.map_cons, List.sum_cons]
    rcases List.mem_cons.1 h with rfl | h
    · omega
    · have := szL_mem (sz := sz) h; unfold szL at this; omega
theorem szL_getD {α : Type} [Inhabited α] {sz : α → Nat} {xs : List α} {i : Nat} (h : i < xs.length) : sz (xs.getD i default) + 1 ≤ szL sz xs :=
  szL_mem (List.mem_of_getElem? (getD_some h))
theorem szL_str (xs : List ByteArray) : xs.length + 1 ≤ szL (fun s : ByteArray => s.size + 1) xs := szL_len (fun _ => Nat.le_add_left 1 _) xs
theorem DEdge.sz_one (e : DEdge) : 1 ≤ e.sz := by unfold DEdge.sz; omega
theorem DPool.sz_one (e : DPool) : 1 ≤ e.sz := by unfold DPool.sz; omega
theorem DEdge.sz_eq (d : DEdge) : d.sz = szL (fun s : ByteArray => s.size + 1) d.outs + szL (fun s : ByteArray => s.size + 1) d.ins + szL (fun s : ByteArray => s.size + 1) d.implicit + szL (fun s : ByteArray => s.size + 1) d.order + (d.command.size + 1) + 1 + (d.pool.size + 1) + 1 := rfl
theorem DGraph.sz_len (g : DGraph) : g.edges.length ≤ g.sz := Nat.le_trans (Nat.le_of_succ_le (szL_len DEdge.sz_one g.edges)) g.sz_edges
theorem needsN_sz (g : DGraph) (i : Int) : needsN g i ≤ g.sz := by
  unfold needsN
  by_cases h : i.toNat < g.edges.length
  · have h1 := szL_getD (sz := DEdge.sz) h
    have h2 := g.sz_edges
    generalize g.edges.getD i.toNat default = e at *
    have a := szL_str e.ins; have b := szL_str e.implicit; have c := szL_str e.order
    rw [DEdge.sz_eq] at h1
    omega
  · rw [List.getD_eq_getElem?_getD, List.getElem?_eq_none (by omega)]
    show (0 + 0 + 0 : Nat) ≤ _
    omega
theorem outsN_sz' : ∀ es : List DEdge, outsN es ≤ szL DEdge.sz es
  | [] => Nat.zero_le _
  | e :: es => by
    have := outsN_sz' es
    have a := szL_str e.outs; have b := e.sz_outs
    unfold szL at *
    simp only [outsN, List.map_cons, List.sum_cons] at *
    omega
theorem outsN_sz (g : DGraph) : outsN g.edges ≤ g.sz := Nat.le_trans (outsN_sz' _) g.sz_edges
end
end Go.Lift
namespace Go.Lift
noncomputable section
open Go Go.RowKit
set_option linter.unusedSimpArgs false
set_option linter.unusedVariables false
set_option linter.unusedSectionVars false
set_option maxRecDepth 20000
theorem lp_all {α : Type} {p : α → Bool} {L : List α → Nat → Lp Bool Unit} (h0 : ∀ i, L [] i = Lp.brk ()) (h1 : ∀ x r i, L (x :: r) i = bif !(p x) then Lp.ret false else L r (i + 1)) : ∀ (l : List α) (i : Nat), L l i = if l.all p then Lp.brk () else Lp.ret false
  | [], i => by rw [h0]; rfl
  | x :: r, i => by
    rw [h1, lp_all h0 h1 r (i + 1), List.all_cons]
    cases p x <;> simp
theorem szsum_append (xs ys : List ByteArray) (k : Nat) : szsum (xs ++ ys) k = szsum xs k + szsum ys k := by
  induction xs with
  | nil => simp [szsum]
  | cons x xs ih => simp only [List.cons_append, szsum, ih]; omega
theorem szsum_take (xs : List ByteArray) (n k : Nat) : szsum (xs.take n) k ≤ szsum xs k := by
  have := szsum_append (xs.take n) (xs.drop n) k
  rw [List.take_append_drop] at this
  omega
theorem ref1_NameMay_L1 (l : List UInt8) (i : Nat) : m_ag l i = if l.all byteOk then Lp.brk () else Lp.ret false :=
  lp_all (p := byteOk) (fun _ => rfl) (fun x r i => by
    rw [m_ag, byteOk_eq]
    have e : m_al (x.toNat : Int) = smallS x.toNat := by
      unfold m_al smallS
      cases decide ((97 : Int) ≤ (x.toNat : Int)) <;> cases decide ((x.toNat : Int) ≤ 122) <;> rfl
    rw [e]
    generalize smallS x.toNat = a
    generalize decide ((x.toNat : Int) = 46) = b
    generalize decide ((x.toNat : Int) = 95) = c
    generalize decide ((x.toNat : Int) = 45) = d
    generalize decide ((x.toNat : Int) = 47) = f
    cases a <;> cases b <;> cases c <;> cases d <;> cases f <;> rfl) l i
theorem ref1_NameMay_eq (s : ByteArray) : m_y s = mayS s := by
  unfold m_y
  rw [ref1_NameMay_L1, mayS_ref]
  cases s.data.toList.all byteOk <;> rfl
theorem mayS_sz {s : ByteArray} (h : mayS s = true) : 1 ≤ s.size ∧ s.size ≤ 16 := by
  rw [mayS_ref] at h
  simp only [Bool.and_eq_true, decide_eq_true_eq] at h
  omega
theorem ref1_NameMay_sz' {s : ByteArray} (h : m_y s = true) : 1 ≤ s.size ∧ s.size ≤ 16 := mayS_sz (by rw [← ref1_NameMay_eq]; exact h)
theorem ref1_NameMay_sz {s : ByteArray} (h : (!(m_y s)) = false) : 1 ≤ s.size ∧ s.size ≤ 16 := ref1_NameMay_sz' (by simpa using h)
def Lp.val {α : Type} : Lp α α → α
  | .ret a => a
  | .brk a => a
theorem split_sz_L1 (s : ByteArray) (c : Int) : ∀ (k : Nat) (out : List ByteArray) (f i : Nat), szsum out 1 ≤ f → f ≤ i → i ≤ s.size + 1 → szsum (m_ak s c k out f i).val 1 ≤ s.size + 1
  | 0, out, f, i, h1, h2, h3 => by simp only [m_ak, Lp.val]; omega
  | k + 1, out, f, i, h1, h2, h3 => by
    rw [m_ak]
    by_cases h : ((i : Nat) : Int) ≤ ((s.size : Nat) : Int)
    · rw [decide_eq_true h, cond_true]
      cases (decide (((i : Nat) : Int) = ((s.size : Nat) : Int)) || decide (((s.data.getD i 0).toNat : Int) = c))
      · exact split_sz_L1 s c k out f (i + 1) h1 (by omega) (by omega)
      · refine split_sz_L1 s c k _ (i + 1) (i + 1) ?_ (Nat.le_refl _) (by omega)
        rw [szsum_append]
        simp only [szsum, ByteArray.size_extract]
        omega
    · rw [decide_eq_false h, cond_false]
      simp only [Lp.val]; omega
theorem split_sz (s : ByteArray) (c : Int) : szsum (m_r s c) 1 ≤ s.size + 1 := by
  have := split_sz_L1 s c (s.size + 1 - 0 + 1) [] 0 0 (Nat.le_refl _) (Nat.le_refl _) (Nat.zero_le _)
  unfold m_r
  cases e : m_ak s c (s.size + 1 - 0 + 1) [] 0 0 <;> rw [e] at this <;> exact this
theorem split_join {s : ByteArray} {c : Int} {kept : List ByteArray} {n : Nat} (h : s.size ≤ 16) (hk : szsum kept 1 + n ≤ szsum (m_r s c) 1) : szsum kept (⟨#[47]⟩ : ByteArray).size ≤ 281474976710656 := by
  have := split_sz s c
  show szsum kept 1 ≤ _
  omega
theorem concat_L1 : ∀ (xs : List (List ByteArray)) (i n : Nat), m_p xs i n = Lp.brk (n + xs.flatten.length)
  | [], i, n => by simp [m_p]
  | x :: xs, i, n => by rw [m_p, concat_L1 xs]; simp [Nat.add_assoc]
theorem concat_L2 : ∀ (xs : List (List ByteArray)) (i : Nat) (out : List ByteArray), m_e xs i out = Lp.brk (out ++ xs.flatten)
  | [], i, n => by simp [m_e]
  | x :: xs, i, n => by rw [m_e, concat_L2 xs]; simp [List.append_assoc]
theorem concat_eq (xs : List (List ByteArray)) : m_b xs = xs.flatten := by
  simp only [m_b, concat_L1, concat_L2, List.take_zero, List.nil_append]
theorem check_len {g : DGraph} (h : (!decide ((m_6 g) = (0 : Int))) = false) : g.edges.length ≤ 16 := by
  have h1 : m_6 g = 0 := by simpa using h
  unfold m_6 checkS at h1
  split at h1
  · simp at h1
  · rename_i hm
    have hm' : mayG (gOf g) = true := by simpa using hm
    simp only [mayG, Bool.and_eq_true, decide_eq_true_eq, gOf, List.length_map] at hm'
    have := hm'.2.1; omega
theorem idxE_L1 (f : DEdge → Bool) : ∀ (xs : List DEdge) (i : Nat), m_t f xs i = Lp.brk () ∨ ∃ r : Nat, m_t f xs i = Lp.ret (r : Int) ∧ i ≤ r ∧ r < i + xs.length
  | [], i => Or.inl rfl
  | x :: xs, i => by
    rw [m_t]
    cases f x
    · simp only [cond_false]
      rcases idxE_L1 f xs (i + 1) with h | ⟨r, h, h1, h2⟩
      · exact Or.inl h
      · exact Or.inr ⟨r, h, by omega, by simp only [List.length_cons]; omega⟩
    · exact Or.inr ⟨i, rfl, Nat.le_refl _, by simp⟩
theorem makes_lt (g : DGraph) (s : ByteArray) : m_g g s < (g.edges.length : Int) ∧ -1 ≤ m_g g s := by
  unfold m_g m_q
  rcases idxE_L1 (fun z0 => m_az z0 s) g.edges 0 with h | ⟨r, h, h1, h2⟩
  · rw [h]; exact ⟨by show (-1 : Int) < _; omega, Int.le_refl _⟩
  · rw [h]; exact ⟨by show (r : Int) < _; omega, by show (-1 : Int) ≤ r; omega⟩
def inG (g : DGraph) (k : Int) : Prop := 0 ≤ k ∧ k.toNat < g.edges.length
theorem needs_L1 (g : DGraph) : ∀ (xs : List ByteArray) (i : Nat) (out : List Int), (∀ k ∈ out, inG g k) → ∃ out', m_ai g xs i out = Lp.brk out' ∧ (∀ k ∈ out', inG g k) ∧ out'.length ≤ out.length + xs.length
  | [], i, out, h => ⟨out, rfl, h, by simp⟩
  | x :: xs, i, out, h => by
    rw [m_ai]
    cases hc : decide ((0 : Int) ≤ m_g g x)
    · simp only [cond_false]
      obtain ⟨o, e, a, b⟩ := needs_L1 g xs (i + 1) out h
      exact ⟨o, e, a, by simp only [List.length_cons]; omega⟩
    · simp only [cond_true]
      have hm := of_decide_eq_true hc
      have hl := makes_lt g x
      cases (!(m_v out (m_g g x)))
      · simp only [cond_false]
        obtain ⟨o, e, a, b⟩ := needs_L1 g xs (i + 1) out h
        exact ⟨o, e, a, by simp only [List.length_cons]; omega⟩
      · simp only [cond_true]
        obtain ⟨o, e, a, b⟩ := needs_L1 g xs (i + 1) (out ++ [m_g g x]) (by
          intro k hk
          rcases List.mem_append.1 hk with hk | hk
          · exact h k hk
          · rw [List.mem_singleton.1 hk]; exact ⟨hm, by omega⟩)
        exact ⟨o, e, a, by simp only [List.length_cons, List.length_append, List.length_nil] at b ⊢; omega⟩
theorem needs_mem {g : DGraph} {e k : Int} (h : k ∈ m_h g e) : 0 ≤ k ∧ k.toNat < g.edges.length := by
  unfold m_h at h
  obtain ⟨o, e1, a, _⟩ := needs_L1 g (m_b [(g.edges.getD e.toNat default).ins, (g.edges.getD e.toNat default).implicit, (g.edges.getD e.toNat default).order]) 0 [] (by simp)
  rw [e1] at h
  exact a k h
theorem of_L3 (g : DGraph) : ∀ (xs : List (List Int)) (i : Nat) (c : List Int), i + xs.length ≤ g.edges.length → (∀ k ∈ c, inG g k) → ∃ t c', m_bc xs i c = Lp.brk (t, c') ∧ (∀ k ∈ c', inG g k) ∧ c'.length ≤ c.length + 1
  | [], i, c, _, h => ⟨_, _, rfl, h, by omega⟩
  | x :: xs, i, c, hl, h => by
    simp only [List.length_cons] at hl
    rw [m_bc]
    cases (!(m_ac ((i : Nat) : Int) c))
    · exact of_L3 g xs (i + 1) c (by omega) h
    · simp only [cond_true]
      cases (!(m_s x (fun z0 => m_a5 z0 (fun z0 => m_ac z0 c))))
      · exact of_L3 g xs (i + 1) c (by omega) h
      · refine ⟨_, _, rfl, ?_, by simp⟩
        intro k hk
        rcases List.mem_append.1 hk with hk | hk
        · exact h k hk
        · rw [List.mem_singleton.1 hk]; exact ⟨by omega, by omega⟩
theorem of_L2 (g : DGraph) (row : List (List Int)) (hr : row.length ≤ g.edges.length) : ∀ (f : Nat) (c : List Int), (∀ k ∈ c, inG g k) → (∃ c', m_bi g row f c = Lp.brk c' ∧ (∀ k ∈ c', inG g k) ∧ (c.length ≤ g.edges.length → c'.length ≤ g.edges.length)) ∨ m_bi g row f c = Lp.ret (([] : List Int), (1001 : Int))
  | 0, c, h => Or.inl ⟨c, rfl, h, id⟩
  | f + 1, c, h => by
    rw [m_bi]
    cases hd : decide (((c.length : Nat) : Int) < ((g.edges.length : Nat) : Int))
    · exact Or.inl ⟨c, rfl, h, id⟩
    · have hd' := of_decide_eq_true hd
      obtain ⟨t, c', e, a, l⟩ := of_L3 g row 0 c (by omega) h
      simp only [cond_true, e]
      cases t
      · exact Or.inr rfl
      · rcases of_L2 g row hr f c' a with ⟨c2, h1, h2, h3⟩ | h1
        · exact Or.inl ⟨c2, h1, h2, fun _ => h3 (by omega)⟩
        · exact Or.inr h1
theorem of_L1 (g : DGraph) : ∀ (xs : List (List Int)) (i : Nat) (row : List (List Int)), ∃ row', m_bb g xs i row = Lp.brk row' ∧ row'.length = row.length
  | [], i, row => ⟨_, rfl, rfl⟩
  | x :: xs, i, row => by
    rw [m_bb]
    obtain ⟨r, e, a⟩ := of_L1 g xs (i + 1) (row.set i (m_h g ((i : Nat) : Int)))
    exact ⟨r, e, by simpa using a⟩
theorem of_mem {g : DGraph} {k : Int} (h : k ∈ (m_c g).1) : 0 ≤ k ∧ k.toNat < g.edges.length := by
  unfold m_c at h
  cases hc : (!decide ((m_6 g) = (0 : Int)))
  · rw [hc] at h
    simp only [cond_false] at h
    obtain ⟨row, e, a⟩ := of_L1 g (List.replicate g.edges.length ([] : List Int)) 0 (List.replicate g.edges.length ([] : List Int))
    rw [e] at h
    simp only at h
    rcases of_L2 g row (by rw [a]; simp) (g.edges.length - 0 + 1) [] (by simp) with ⟨c, e2, b, _⟩ | e2
    · rw [e2] at h; exact b k h
    · rw [e2] at h; simp at h
  · rw [hc] at h; simp at h
theorem of_ok {g : DGraph} (h : (!decide ((m_c g).2 = (0 : Int))) = false) : g.edges.length ≤ 16 ∧ (m_c g).1.length ≤ g.edges.length := by
  have h1 : (m_c g).2 = 0 := by simpa using h
  clear h
  unfold m_c at h1 ⊢
  cases hc : (!decide ((m_6 g) = (0 : Int)))
  · rw [hc] at h1
    simp only [cond_false] at h1 ⊢
    refine ⟨check_len hc, ?_⟩
    obtain ⟨row, e, a⟩ := of_L1 g (List.replicate g.edges.length ([] : List Int)) 0 (List.replicate g.edges.length ([] : List Int))
    rw [e] at h1 ⊢
    simp only at h1 ⊢
    rcases of_L2 g row (by rw [a]; simp) (g.edges.length - 0 + 1) [] (by simp) with ⟨c, e2, b, l⟩ | e2
    · rw [e2]; exact l (by simp)
    · rw [e2] at h1; simp at h1
  · rw [hc] at h1; simp at h1
theorem order_get {g : DGraph} {k : Int} (h0 : 0 ≤ k) (h : k.toNat < (m_c g).1.length) : 0 ≤ ((m_c g).1).getD k.toNat default ∧ (((m_c g).1).getD k.toNat default).toNat < g.edges.length := by
  refine of_mem (k := ((m_c g).1).getD k.toNat default) ?_
  rw [List.getD_eq_getElem?_getD, List.getElem?_eq_getElem h]
  exact List.getElem_mem h
end
end Go.Lift
namespace Go.Lift
noncomputable section
open Go Go.RowKit
set_option linter.unusedSimpArgs false
set_option linter.unusedVariables false
set_option linter.unusedSectionVars false
set_option maxRecDepth 20000
theorem splitL_ne (c : UInt8) : ∀ l : List UInt8, splitL c l ≠ []
  | [] => by simp [splitL]
  | b :: l => by
    rw [splitL]
    split
    · simp
    · cases h : splitL c l <;> simp
theorem extract_list (s : ByteArray) (f i : Nat) : (s.extract f i).data.toList = (s.data.toList.take i).drop f := by
  rw [ByteArray.data_extract, Array.toList_extract, List.extract_eq_take_drop, List.take_drop]
  by_cases h : f ≤ i
  · rw [show f + (i - f) = i by omega]
  · rw [show f + (i - f) = f by omega, List.drop_of_length_le (by simp; omega), List.drop_of_length_le (by simp; omega)]
theorem ref1_split_L1 (s : ByteArray) : ∀ (k : Nat) (out : List ByteArray) (f i : Nat), f ≤ i → i ≤ s.size → s.size + 1 - i < k →
    m_ak s 47 k out f i = Lp.brk (out ++ (match splitL 47 (s.data.toList.drop i) with | [] => [] | p :: r => toBA ((s.data.toList.take i).drop f ++ p) :: r.map toBA))
  | 0, _, _, _, _, _, h => by omega
  | k + 1, out, f, i, h1, h2, h3 => by
    have hl := data_len s
    rw [m_ak, decide_eq_true (by omega), cond_true]
    by_cases hi : i = s.size
    · subst hi
      rw [decide_eq_true rfl, Bool.true_or, cond_true]
      obtain ⟨k', rfl⟩ : ∃ k', k = k' + 1 := ⟨k - 1, by omega⟩
      rw [m_ak, decide_eq_false (by omega), cond_false, List.drop_of_length_le (by omega)]
      simp only [splitL, List.append_nil, List.map_nil]
      rw [← extract_list, toBA_toList]
    · have hlt : i < s.data.toList.length := by omega
      have hd : s.data.toList.drop i = s.data.getD i 0 :: s.data.toList.drop (i + 1) := by
        rw [List.drop_eq_getElem_cons hlt]
        congr 1
        have : i < s.data.size := by rw [← Array.length_toList]; exact hlt
        simp only [Array.getD, this, dif_pos]; simp
      have ht : s.data.toList.take (i + 1) = s.data.toList.take i ++ [s.data.getD i 0] := by
        rw [List.take_add_one, List.getElem?_eq_getElem hlt]
        have : i < s.data.size := by rw [← Array.length_toList]; exact hlt
        simp only [Array.getD, this, dif_pos]; simp
      rw [decide_eq_false (by omega), Bool.false_or, hd, splitL]
      by_cases hb : s.data.getD i 0 = 47
      · rw [if_pos hb, decide_eq_true (by rw [hb]; rfl), cond_true, ref1_split_L1 s k _ (i + 1) (i + 1) (Nat.le_refl _) (by omega) (by omega)]
        simp only [List.append_assoc, List.append_nil, List.singleton_append]
        rw [show toBA ((s.data.toList.take i).drop f) = s.extract f i from by rw [← extract_list]; rfl]
        congr 3
        cases h : splitL 47 (s.data.toList.drop (i + 1)) with
        | nil => exact absurd h (splitL_ne _ _)
        | cons p r => simp only [List.map_cons]; rw [List.drop_of_length_le (by simp; omega), List.nil_append]
      · have hn : ¬ ((s.data.getD i 0).toNat : Int) = 47 := fun h => hb (by
          apply UInt8.toNat_inj.1; show _ = 47; omega)
        rw [if_neg hb, decide_eq_false hn, cond_false, ref1_split_L1 s k out f (i + 1) (by omega) (by omega) (by omega)]
        congr 2
        cases h : splitL 47 (s.data.toList.drop (i + 1)) with
        | nil => exact absurd h (splitL_ne _ _)
        | cons p r =>
          simp only
          rw [ht, List.drop_append_of_le_length (by simp; omega), List.append_assoc]; rfl
theorem ref1_split_eq (s : ByteArray) : m_r s 47 = (splitL 47 s.data.toList).map toBA := by
  unfold m_r
  rw [ref1_split_L1 s _ [] 0 0 (Nat.le_refl _) (Nat.zero_le _) (by omega)]
  simp only [List.drop_zero, List.nil_append, List.take_zero]
  cases h : splitL 47 s.data.toList with
  | nil => exact absurd h (splitL_ne _ _)
  | cons p r => rfl
theorem ref1_Clean_L1 : ∀ (ps : List ByteArray) (i : Nat) (kept : List ByteArray), m_aa ps i kept = match foldB ps kept with
    | none => Lp.ret ((⟨#[]⟩ : ByteArray), (200 : Int))
    | some k => Lp.brk k
  | [], i, kept => rfl
  | p :: ps, i, kept => by
    rw [m_aa, foldB, stepB]
    by_cases h1 : p = ⟨#[]⟩
    · rw [decide_eq_true h1, cond_true, if_pos (Or.inl h1), ref1_Clean_L1 ps]; rfl
    · rw [decide_eq_false h1, cond_false]
      by_cases h2 : p = ⟨#[46]⟩
      · rw [decide_eq_true h2, cond_true, if_pos (Or.inr h2), ref1_Clean_L1 ps]; rfl
      · rw [decide_eq_false h2, cond_false, if_neg (by rintro (h | h); exact h1 h; exact h2 h)]
        by_cases h3 : p = ⟨#[46, 46]⟩
        · rw [decide_eq_true h3, cond_true, if_neg (fun h => h h3)]
          by_cases h4 : kept = []
          · subst h4; rfl
          · rw [decide_eq_false (by cases kept with
              | nil => exact absurd rfl h4
              | cons a b => simp only [List.length_cons]; omega), cond_false, if_neg h4, ref1_Clean_L1 ps, List.dropLast_eq_take]; rfl
        · rw [decide_eq_false h3, cond_false, if_pos h3, ref1_Clean_L1 ps]; rfl
theorem ref1_Join_L1 : ∀ (xs : List ByteArray) (i : Nat) (acc : ByteArray), 0 < i → m_a2 ⟨#[47]⟩ xs i acc = Lp.brk (toBA (acc.data.toList ++ Lib.joinTail [47] (xs.map (·.data.toList))))
  | [], i, acc, _ => by
    rw [m_a2]; simp only [Lib.joinTail, List.map_nil, List.flatten_nil, List.append_nil]; rfl
  | x :: xs, i, acc, h => by
    rw [m_a2, decide_eq_true (by omega), cond_true, ref1_Join_L1 xs (i + 1) _ (by omega)]
    congr 2
    simp [Lib.joinTail]
theorem ref1_Join_eq (k : ByteArray) (ks : List ByteArray) : m_bm (k :: ks) ⟨#[47]⟩ = joinB (k :: ks) := by
  unfold m_bm joinB
  rw [m_a2, decide_eq_false (by omega), cond_false, ref1_Join_L1 ks 1 _ (by omega)]
  simp only [List.map_cons, Lib.join_cons]
  show toBA _ = _
  unfold toBA
  congr 2
theorem ref1_CleanPath_eq (s : ByteArray) : m_k s = cleanS s := by
  unfold m_k cleanS
  rw [ref1_NameMay_eq]
  cases hm : mayS s
  · simp
  · have hz := mayS_sz hm
    have hl := data_len s
    have hh : s.data.toList.head? = some (s.data.getD 0 0) := by
      cases hs : s.data.toList with
      | nil => rw [hs] at hl; simp at hl; omega
      | cons a b =>
        have : 0 < s.data.size := by show 0 < s.size; omega
        simp only [Array.getD, this, dif_pos, List.head?_cons]
        have e : s.data.toList[0]? = some a := by rw [hs]; rfl
        rw [Array.getElem?_toList] at e
        rw [Array.getElem?_eq_getElem this] at e
        exact e.symm
    simp only [Bool.not_true, cond_false, Bool.true_eq_false, false_or, hh]
    by_cases hb : s.data.getD 0 0 = 47
    · rw [decide_eq_true (by rw [hb]; rfl), cond_true, if_pos (by rw [hb])]
    · have hn : ¬ ((s.data.getD 0 0).toNat : Int) = 47 := fun h => hb (by
        apply UInt8.toNat_inj.1; show _ = 47; omega)
      rw [decide_eq_false hn, cond_false, if_neg (by simpa using hb), ref1_split_eq, ref1_Clean_L1]
      cases foldB ((splitL 47 s.data.toList).map toBA) [] with
      | none => rfl
      | some k =>
        cases k with
        | nil => rfl
        | cons k ks =>
          simp only
          rw [decide_eq_false (by simp only [List.length_cons]; omega), cond_false, ref1_Join_eq]
theorem ref1_PathMay_eq (s : ByteArray) : m_a3 s = isS s := by
  unfold m_a3 isS; rw [ref1_CleanPath_eq]
theorem ref1_PathsMay_eq (xs : List ByteArray) : m_n xs = allS ⟨false, xs⟩ := by
  unfold m_n allS
  rw [lp_all (p := isS) (L := m_ay) (fun _ => rfl) (fun x r i => by rw [m_ay, ref1_PathMay_eq]) xs 0]
  cases xs.all isS <;> simp
theorem ref1_Plain_L1_eq (l : List UInt8) (i : Nat) : m_ba l i = if l.all plainB then Lp.brk () else Lp.ret false :=
  lp_all (p := plainB) (L := m_ba) (fun _ => rfl) (fun x r i => by
    rw [m_ba]
    have e : plainB x = (!decide ((x.toNat : Int) < 32) && !decide ((126 : Int) < (x.toNat : Int))) := by
      unfold plainB
      congr 1
      · rw [← decide_not]; congr 1; apply propext; omega
      · rw [← decide_not]; congr 1; apply propext; omega
    rw [e]
    cases decide ((x.toNat : Int) < 32) <;> cases decide ((126 : Int) < (x.toNat : Int)) <;> rfl) l i
theorem ref1_command_eq (s : ByteArray) : m_ap s 1 256 = commandS s := by
  unfold m_ap commandS plainS
  rw [ref1_Plain_L1_eq]
  have e : decide ((1 : Int) ≤ ((s.size : Nat) : Int)) = !decide (s = ⟨#[]⟩) := by
    rw [← decide_not]; congr 1; apply propext
    constructor
    · rintro h rfl; exact absurd h (by decide)
    · intro h
      have : s.size ≠ 0 := fun h0 => h (by
        apply ba_ext
        have := data_len s
        rw [h0] at this
        rw [List.length_eq_zero_iff.1 this])
      omega
  cases s.data.toList.all plainB
  · simp
  · simp only [if_true, e, Bool.true_and]
theorem ref1_EdgeMay_eq (e : DEdge) : m_1 e = edgeS (eOf e) := by
  unfold m_1 edgeS eOf
  simp only [ref1_PathsMay_eq, ref1_command_eq, ref1_NameMay_eq, List.all_cons, List.all_nil, Bool.and_true]
  have h : decide ((0 : Int) < ((e.outs.length : Nat) : Int)) = decide (((e.outs.length : Nat) : Int) > 0) := rfl
  rw [h]
  generalize decide (((e.outs.length : Nat) : Int) > 0) = a
  generalize allS ⟨false, e.outs⟩ = b
  generalize allS ⟨false, e.ins⟩ = c
  generalize allS ⟨false, e.implicit⟩ = d
  generalize allS ⟨false, e.order⟩ = f
  cases a <;> cases b <;> cases c <;> cases d <;> cases f <;> simp
theorem lp_idx {α : Type} {p : α → Bool} {L : List α → Nat → Lp Int Unit} (h0 : ∀ i, L [] i = Lp.brk ()) (h1 : ∀ x r i, L (x :: r) i = bif p x then Lp.ret ((i : Nat) : Int) else L r (i + 1)) : ∀ (l : List α) (i : Nat), L l i = match l.findIdx? p with
    | some j => Lp.ret (((i + j : Nat)) : Int)
    | none => Lp.brk ()
  | [], i => by rw [h0]; rfl
  | x :: r, i => by
    rw [h1, lp_idx h0 h1 r (i + 1), List.findIdx?_cons]
    cases p x
    · simp only [cond_false, Bool.false_eq_true, if_false]
      cases r.findIdx? p with
      | none => rfl
      | some j => simp only [Option.map_some]; congr 2; omega
    · rfl
theorem idxS_map {α β : Type} (f : α → β) (p : β → Bool) (q : α → Bool) (h : ∀ x, p (f x) = q x) (xs : List α) : idxS p (xs.map f) = idxS q xs := by
  unfold idxS
  rw [List.findIdx?_map]
  have : p ∘ f = q := funext h
  rw [this]
theorem ref1_poolAt_eq (g : DGraph) (name : ByteArray) : m_af g.pools name = poolAt (gOf g) name := by
  unfold m_af poolAt
  rw [lp_idx (p := fun p : DPool => decide (p.name = name)) (L := m_bd name) (fun _ => rfl) (fun x r i => by rw [m_bd]) g.pools 0]
  rw [show (gOf g).pools = g.pools.map pOf from rfl, idxS_map pOf _ (fun p => decide (p.name = name)) (fun x => rfl)]
  unfold idxS
  cases g.pools.findIdx? (fun p => decide (p.name = name)) with
  | none => rfl
  | some j => simp
theorem allIdx_map {α β : Type} (f : α → β) (p : Nat → β → Bool) (q : Nat → α → Bool) (h : ∀ i x, p i (f x) = q i x) : ∀ (i : Nat) (xs : List α), allIdx p i (xs.map f) = allIdx q i xs
  | _, [] => rfl
  | i, x :: xs => by simp only [List.map_cons, allIdx, h, allIdx_map f p q h (i + 1) xs]
theorem lp_allIdx {α : Type} {p : Nat → α → Bool} {L : List α → Nat → Lp Bool Unit} (h0 : ∀ i, L [] i = Lp.brk ()) (h1 : ∀ x r i, L (x :: r) i = bif !(p i x) then Lp.ret false else L r (i + 1)) : ∀ (l : List α) (i : Nat), L l i = if allIdx p i l then Lp.brk () else Lp.ret false
  | [], i => by rw [h0]; rfl
  | x :: r, i => by
    rw [h1, lp_allIdx h0 h1 r (i + 1), allIdx]
    cases p i x <;> simp
def poolOkD (g : DGraph) (k : Nat) (p : DPool) : Bool := poolOk (gOf g) k (pOf p)
theorem ref1_GraphMay_L1_eq (g : DGraph) (l : List DPool) (i : Nat) : m_ao g l i = if allIdx (poolOkD g) i l then Lp.brk () else Lp.ret false :=
  lp_allIdx (p := poolOkD g) (L := m_ao g) (fun _ => rfl) (fun x r i => by
    rw [m_ao, ref1_NameMay_eq, ref1_poolAt_eq]
    have e : poolOkD g i x = (mayS x.name && !decide (x.depth < 1) && !decide ((8 : Int) < x.depth) && decide (poolAt (gOf g) x.name = ((i : Nat) : Int))) := rfl
    rw [e]
    cases mayS x.name <;> cases decide (x.depth < 1) <;> cases decide ((8 : Int) < x.depth) <;> cases decide (poolAt (gOf g) x.name = ((i : Nat) : Int)) <;> rfl) l i
theorem ref1_GraphMay_L2_eq (g : DGraph) (l : List DEdge) (i : Nat) : m_aj g l i = if l.all (fun e => edgeIn (gOf g) (eOf e)) then Lp.brk () else Lp.ret false :=
  lp_all (p := fun e => edgeIn (gOf g) (eOf e)) (L := m_aj g) (fun _ => rfl) (fun x r i => by
    rw [m_aj, ref1_EdgeMay_eq, ref1_poolAt_eq]
    have e : edgeIn (gOf g) (eOf x) = (edgeS (eOf x) && (decide (x.pool = (⟨#[]⟩ : ByteArray)) || !decide (poolAt (gOf g) x.pool < 0))) := rfl
    rw [e]
    cases edgeS (eOf x) <;> cases decide (x.pool = (⟨#[]⟩ : ByteArray)) <;> cases decide (poolAt (gOf g) x.pool < 0) <;> rfl) l i
theorem ref1_GraphMay_eq (g : DGraph) : m_w g = m_bs g := by
  unfold m_w m_bs mayG poolsS
  rw [ref1_GraphMay_L1_eq, ref1_GraphMay_L2_eq, ref1_PathsMay_eq]
  rw [show (gOf g).edges = g.edges.map eOf from rfl, show (gOf g).pools = g.pools.map pOf from rfl, List.all_map, List.length_map, List.length_map, allIdx_map pOf _ (poolOkD g) (fun _ _ => rfl)]
  rw [show (gOf g).defaults = ⟨false, g.defaults⟩ from rfl]
  rw [show (edgeIn (gOf g) ∘ eOf) = (fun e => edgeIn (gOf g) (eOf e)) from rfl]
  cases allIdx (poolOkD g) 0 g.pools <;> cases g.edges.all (fun e => edgeIn (gOf g) (eOf e)) <;> simp
  cases decide (((g.pools.length : Nat) : Int) ≤ 4) <;> cases decide (((g.edges.length : Nat) : Int) ≤ 16) <;> simp
theorem ref1_has_eq (xs : List ByteArray) (x : ByteArray) : (x ∈ xs → m_bh xs x = true) ∧ (x ∉ xs → m_bh xs x = false) := by
  have h : ∀ (l : List ByteArray) (i : Nat), (x ∈ l → m_bo x l i = Lp.ret true) ∧ (x ∉ l → m_bo x l i = Lp.brk ()) := by
    intro l; induction l with
    | nil => intro i; exact ⟨fun h => by simp at h, fun _ => rfl⟩
    | cons y l ih =>
      intro i
      rw [m_bo]
      by_cases hy : y = x
      · subst hy; rw [decide_eq_true rfl, cond_true]; exact ⟨fun _ => rfl, fun h => absurd (List.mem_cons_self) h⟩
      · rw [decide_eq_false hy, cond_false]
        refine ⟨fun h => (ih (i + 1)).1 ?_, fun h => (ih (i + 1)).2 fun h2 => h (List.mem_cons_of_mem _ h2)⟩
        rcases List.mem_cons.1 h with h | h
        · exact absurd h.symm hy
        · exact h
  unfold m_bh
  exact ⟨fun hx => by rw [(h xs 0).1 hx], fun hx => by rw [(h xs 0).2 hx]⟩
theorem ref1_Check_L2_eq : ∀ (l : List ByteArray) (k : Nat) (acc : List ByteArray), acc.Nodup → m_bk l k acc = if (acc ++ l).Nodup then Lp.brk (acc ++ l) else Lp.ret 901
  | [], k, acc, h => by rw [List.append_nil, if_pos h]; rfl
  | x :: l, k, acc, h => by
    rw [m_bk]
    by_cases hx : x ∈ acc
    · rw [(ref1_has_eq acc x).1 hx, cond_true, if_neg]
      intro hn
      rw [List.nodup_append] at hn
      exact hn.2.2 x hx x (by simp) rfl
    · rw [(ref1_has_eq acc x).2 hx, cond_false, ref1_Check_L2_eq l (k + 1) (acc ++ [x]) (by
        rw [List.nodup_append]
        exact ⟨h, by simp, fun a ha b hb => by simp only [List.mem_singleton] at hb; subst hb; rintro rfl; exact hx ha⟩), List.append_assoc, List.singleton_append]
theorem ref1_Check_L1_eq : ∀ (es : List DEdge) (i : Nat) (acc : List ByteArray), acc.Nodup → m_bj es i acc = if (acc ++ es.flatMap (·.outs)).Nodup then Lp.brk () else Lp.ret 901
  | [], i, acc, h => by rw [List.flatMap_nil, List.append_nil, if_pos h]; rfl
  | e :: es, i, acc, h => by
    rw [m_bj, ref1_Check_L2_eq _ _ _ h, List.flatMap_cons, ← List.append_assoc]
    by_cases hn : (acc ++ e.outs).Nodup
    · rw [if_pos hn]
      simp only
      rw [ref1_Check_L1_eq es (i + 1) _ hn]
    · rw [if_neg hn]
      simp only
      rw [if_neg]
      intro h2
      rw [List.nodup_append] at h2
      exact hn h2.1
theorem ref1_Check_eq (g : DGraph) : m_aw g = m_6 g := by
  unfold m_aw m_6 checkS
  rw [ref1_GraphMay_eq]
  show _ = if m_bs g = false then _ else _
  cases m_bs g
  · rfl
  · rw [ref1_Check_L1_eq _ _ _ List.nodup_nil, List.nil_append]
    have e : outsOf (gOf g).edges = g.edges.flatMap (·.outs) := by
      unfold outsOf
      rw [show (gOf g).edges = g.edges.map eOf from rfl, List.flatMap_map]; rfl
    rw [e]
    have hd := hasDup_iff ((g.edges.flatMap (·.outs)).map fun x => x.data.toList)
    have hn : ((g.edges.flatMap (·.outs)).map fun x => x.data.toList).Nodup ↔ (g.edges.flatMap (·.outs)).Nodup := by
      constructor
      · intro h; exact List.Pairwise.of_map (fun x : ByteArray => x.data.toList) (fun a b hh hab => hh (by rw [hab])) h
      · intro h; exact List.Pairwise.map _ (fun a b hab hh => hab (ba_ext hh)) h
    by_cases h : (g.edges.flatMap (·.outs)).Nodup
    · rw [if_pos h]
      have : hasDup ((g.edges.flatMap (·.outs)).map fun x => x.data.toList) = false := by
        cases hh : hasDup ((g.edges.flatMap (·.outs)).map fun x => x.data.toList)
        · rfl
        · exact absurd (hn.2 h) (hd.1 hh)
      rw [this]; rfl
    · rw [if_neg h]
      have : hasDup ((g.edges.flatMap (·.outs)).map fun x => x.data.toList) = true := hd.2 (fun hh => h (hn.1 hh))
      rw [this]; rfl
end
end Go.Lift
namespace Go.Lift
noncomputable section
open Go Go.RowKit
set_option linter.unusedSimpArgs false
set_option linter.unusedVariables false
set_option linter.unusedSectionVars false
set_option maxRecDepth 20000
def mkD (g : DGraph) (n : ByteArray) : Int := idxS (fun e => Lib.containsS e.outs n) g.edges
theorem check_nodup {g : DGraph} (h : m_6 g = 0) : (g.edges.flatMap (·.outs)).Nodup := by
  rw [← ref1_Check_eq] at h
  unfold m_aw at h
  cases hm : m_w g
  · rw [hm] at h; simp at h
  · rw [hm, ref1_Check_L1_eq _ _ _ List.nodup_nil, List.nil_append] at h
    by_cases hn : (g.edges.flatMap (·.outs)).Nodup
    · exact hn
    · rw [if_neg hn] at h; simp at h
theorem idx_unique (x : ByteArray) : ∀ (es : List DEdge) (i : Nat) (e : DEdge), (es.flatMap (·.outs)).Nodup → es[i]? = some e → x ∈ e.outs → es.findIdx? (fun e => Lib.containsS e.outs x) = some i
  | [], i, e, _, he, _ => by simp at he
  | e0 :: r, 0, e, _, he, hx => by
    simp only [List.getElem?_cons_zero, Option.some.injEq] at he
    subst he
    rw [List.findIdx?_cons, (Lib.containsS_iff _ _).2 hx]; rfl
  | e0 :: r, i + 1, e, hn, he, hx => by
    simp only [List.getElem?_cons_succ] at he
    rw [List.flatMap_cons, List.nodup_append] at hn
    have h0 : Lib.containsS e0.outs x = false := by
      cases hc : Lib.containsS e0.outs x
      · rfl
      · exact absurd rfl (hn.2.2 x ((Lib.containsS_iff _ _).1 hc) x (List.mem_flatMap.2 ⟨e, List.mem_of_getElem? he, hx⟩))
    rw [List.findIdx?_cons, h0, idx_unique x r i e hn.2.1 he hx]; rfl
theorem mkD_at {g : DGraph} (hn : (g.edges.flatMap (·.outs)).Nodup) {i : Nat} {e : DEdge} (he : g.edges[i]? = some e) {x : ByteArray} (hx : x ∈ e.outs) : mkD g x = i := by
  unfold mkD idxS
  rw [idx_unique x g.edges i e hn he hx]
theorem mkD_in (g : DGraph) (x : ByteArray) : mkD g x = -1 ∨ ∃ i e, mkD g x = ((i : Nat) : Int) ∧ g.edges[i]? = some e ∧ x ∈ e.outs := by
  unfold mkD idxS
  cases h : g.edges.findIdx? (fun e => Lib.containsS e.outs x) with
  | none => exact Or.inl rfl
  | some i =>
    obtain ⟨hi, h2, _⟩ := List.findIdx?_eq_some_iff_getElem.1 h
    exact Or.inr ⟨i, g.edges[i], rfl, List.getElem?_eq_getElem hi, (Lib.containsS_iff _ _).1 h2⟩
end
end Go.Lift
namespace Go.Lift
noncomputable section
open Go Go.RowKit
set_option linter.unusedSimpArgs false
set_option linter.unusedVariables false
set_option linter.unusedSectionVars false
set_option maxRecDepth 20000
theorem check_form (g : DGraph) : m_6 g = if m_bs g = false then 900 else if (g.edges.flatMap (·.outs)).Nodup then 0 else 901 := by
  rw [← ref1_Check_eq]
  unfold m_aw
  rw [ref1_GraphMay_eq]
  cases m_bs g
  · rfl
  · rw [ref1_Check_L1_eq _ _ _ List.nodup_nil, List.nil_append]
    by_cases h : (g.edges.flatMap (·.outs)).Nodup
    · rw [if_pos h, if_pos h]; rfl
    · rw [if_neg h, if_neg h]; rfl
end
end Go.Lift
namespace Go.Lift
noncomputable section
open Go Go.RowKit
set_option linter.unusedSimpArgs false
set_option linter.unusedVariables false
set_option linter.unusedSectionVars false
set_option maxRecDepth 20000
theorem idx_val {α : Type} {p : α → Bool} {L : List α → Nat → Lp Int Unit} (h0 : ∀ i, L [] i = Lp.brk ()) (h1 : ∀ x r i, L (x :: r) i = bif p x then Lp.ret ((i : Nat) : Int) else L r (i + 1)) (l : List α) :
    (match L l 0 with | Lp.ret r => r | Lp.brk () => (-1 : Int)) = idxS p l := by
  rw [lp_idx h0 h1 l 0]; unfold idxS
  cases l.findIdx? p with
  | none => rfl
  | some j => simp
theorem idxS_nonneg {α : Type} (p : α → Bool) (l : List α) : decide ((0 : Int) ≤ idxS p l) = l.any p := by
  unfold idxS
  cases h : l.findIdx? p with
  | none =>
    have := List.findIdx?_eq_none_iff.1 h
    rw [show l.any p = false from by simpa using this]; rfl
  | some j =>
    obtain ⟨hj, h2, _⟩ := List.findIdx?_eq_some_iff_getElem.1 h
    rw [List.any_eq_true.2 ⟨l[j], List.getElem_mem hj, h2⟩]
    simp
theorem contains_str (xs : List ByteArray) (v : ByteArray) : m_z xs v = Lib.containsS xs v := by
  unfold m_z m_x
  refine (congrArg (fun z => decide ((0 : Int) ≤ z)) (idx_val (p := fun y => decide (v = y)) (fun _ => rfl) (fun _ _ _ => rfl) xs)).trans ?_
  rw [idxS_nonneg]
  cases hc : Lib.containsS xs v
  · rw [List.any_eq_false]
    intro y hy e
    have : v = y := by simpa using e
    subst this
    rw [(Lib.containsS_iff _ _).2 hy] at hc; cases hc
  · exact List.any_eq_true.2 ⟨v, (Lib.containsS_iff _ _).1 hc, by simp⟩
theorem contains_int (xs : List Int) (v : Int) : m_v xs v = xs.contains v := by
  unfold m_v m_9
  refine (congrArg (fun z => decide ((0 : Int) ≤ z)) (idx_val (p := fun y => decide (v = y)) (fun _ => rfl) (fun _ _ _ => rfl) xs)).trans ?_
  rw [idxS_nonneg]
  rw [Bool.eq_iff_iff]; simp
theorem containsFunc_int (xs : List Int) (f : Int → Bool) : m_s xs f = xs.any f := by
  unfold m_s m_0
  exact (congrArg (fun z => decide ((0 : Int) ≤ z)) (idx_val (p := f) (fun _ => rfl) (fun _ _ _ => rfl) xs)).trans (idxS_nonneg _ _)
theorem makes_mkD (g : DGraph) (x : ByteArray) : m_g g x = mkD g x := by
  unfold m_g m_q mkD
  refine (idx_val (p := fun e => m_az e x) (fun _ => rfl) (fun _ _ _ => rfl) g.edges).trans ?_
  congr 1; funext e; exact contains_str e.outs x
theorem has_str (xs : List ByteArray) (x : ByteArray) : m_bh xs x = Lib.containsS xs x := by
  cases hc : Lib.containsS xs x
  · exact (ref1_has_eq xs x).2 fun h => by rw [(Lib.containsS_iff _ _).2 h] at hc; cases hc
  · exact (ref1_has_eq xs x).1 ((Lib.containsS_iff _ _).1 hc)
theorem makerOf_mkD (g : DGraph) (x : ByteArray) : m_o g x = mkD g x := by
  unfold m_o mkD
  refine (idx_val (p := fun e => m_bh e.outs x) (fun _ => rfl) (fun _ _ _ => rfl) g.edges).trans ?_
  congr 1; funext e; exact has_str e.outs x
def inputs (g : DGraph) (e : Int) : List ByteArray := (g.edges.getD e.toNat default).ins ++ ((g.edges.getD e.toNat default).implicit ++ (g.edges.getD e.toNat default).order)
theorem needs_L1_iff (g : DGraph) : ∀ (xs : List ByteArray) (i : Nat) (out : List Int), ∃ out', m_ai g xs i out = Lp.brk out' ∧ ∀ k, k ∈ out' ↔ k ∈ out ∨ (0 ≤ k ∧ ∃ x ∈ xs, mkD g x = k)
  | [], i, out => ⟨out, rfl, fun k => by simp⟩
  | x :: xs, i, out => by
    rw [m_ai, makes_mkD, contains_int]
    by_cases h1 : 0 ≤ mkD g x
    · by_cases h2 : mkD g x ∈ out
      · obtain ⟨o, e1, e2⟩ := needs_L1_iff g xs (i + 1) out
        refine ⟨o, by simp [h1, h2, e1], fun k => ?_⟩
        rw [e2]
        constructor
        · rintro (h | ⟨h, y, hy, e⟩)
          · exact Or.inl h
          · exact Or.inr ⟨h, y, by simp [hy], e⟩
        · rintro (h | ⟨h, y, hy, e⟩)
          · exact Or.inl h
          · rcases List.mem_cons.1 hy with rfl | hy
            · subst e; exact Or.inl h2
            · exact Or.inr ⟨h, y, hy, e⟩
      · obtain ⟨o, e1, e2⟩ := needs_L1_iff g xs (i + 1) (out ++ [mkD g x])
        refine ⟨o, by simp [h1, h2, e1], fun k => ?_⟩
        rw [e2, List.mem_append, List.mem_singleton]
        constructor
        · rintro ((h | h) | ⟨h, y, hy, e⟩)
          · exact Or.inl h
          · subst h; exact Or.inr ⟨h1, x, by simp, rfl⟩
          · exact Or.inr ⟨h, y, by simp [hy], e⟩
        · rintro (h | ⟨h, y, hy, e⟩)
          · exact Or.inl (Or.inl h)
          · rcases List.mem_cons.1 hy with rfl | hy
            · exact Or.inl (Or.inr e.symm)
            · exact Or.inr ⟨h, y, hy, e⟩
    · obtain ⟨o, e1, e2⟩ := needs_L1_iff g xs (i + 1) out
      refine ⟨o, by simp [h1, e1], fun k => ?_⟩
      rw [e2]
      constructor
      · rintro (h | ⟨h, y, hy, e⟩)
        · exact Or.inl h
        · exact Or.inr ⟨h, y, by simp [hy], e⟩
      · rintro (h | ⟨h, y, hy, e⟩)
        · exact Or.inl h
        · rcases List.mem_cons.1 hy with rfl | hy
          · omega
          · exact Or.inr ⟨h, y, hy, e⟩
theorem needs_iff (g : DGraph) (e k : Int) : k ∈ m_h g e ↔ 0 ≤ k ∧ ∃ x ∈ inputs g e, mkD g x = k := by
  unfold m_h
  rw [concat_eq]
  obtain ⟨o, e1, e2⟩ := needs_L1_iff g ([(g.edges.getD e.toNat default).ins, (g.edges.getD e.toNat default).implicit, (g.edges.getD e.toNat default).order].flatten) 0 []
  rw [e1]
  show k ∈ o ↔ _
  rw [e2]
  simp [inputs]
theorem rneeds_L1_iff (g : DGraph) : ∀ (xs : List ByteArray) (i : Nat) (out : List Int), ∃ out', m_a8 g xs i out = Lp.brk out' ∧ ∀ k, k ∈ out' ↔ k ∈ out ∨ (0 ≤ k ∧ ∃ x ∈ xs, mkD g x = k)
  | [], i, out => ⟨out, rfl, fun k => by simp⟩
  | x :: xs, i, out => by
    rw [m_a8, makerOf_mkD]
    by_cases h1 : 0 ≤ mkD g x
    · obtain ⟨o, e1, e2⟩ := rneeds_L1_iff g xs (i + 1) (out ++ [mkD g x])
      refine ⟨o, by simp [h1, e1], fun k => ?_⟩
      rw [e2, List.mem_append, List.mem_singleton]
      constructor
      · rintro ((h | h) | ⟨h, y, hy, e⟩)
        · exact Or.inl h
        · subst h; exact Or.inr ⟨h1, x, by simp, rfl⟩
        · exact Or.inr ⟨h, y, by simp [hy], e⟩
      · rintro (h | ⟨h, y, hy, e⟩)
        · exact Or.inl (Or.inl h)
        · rcases List.mem_cons.1 hy with rfl | hy
          · exact Or.inl (Or.inr e.symm)
          · exact Or.inr ⟨h, y, hy, e⟩
    · obtain ⟨o, e1, e2⟩ := rneeds_L1_iff g xs (i + 1) out
      refine ⟨o, by simp [h1, e1], fun k => ?_⟩
      rw [e2]
      constructor
      · rintro (h | ⟨h, y, hy, e⟩)
        · exact Or.inl h
        · exact Or.inr ⟨h, y, by simp [hy], e⟩
      · rintro (h | ⟨h, y, hy, e⟩)
        · exact Or.inl h
        · rcases List.mem_cons.1 hy with rfl | hy
          · omega
          · exact Or.inr ⟨h, y, hy, e⟩
theorem rneeds_iff (g : DGraph) (e k : Int) : k ∈ m_l g e ↔ 0 ≤ k ∧ ∃ x ∈ inputs g e, mkD g x = k := by
  unfold m_l
  obtain ⟨o, e1, e2⟩ := rneeds_L1_iff g (((g.edges.getD e.toNat default).ins ++ (g.edges.getD e.toNat default).implicit) ++ (g.edges.getD e.toNat default).order) 0 []
  rw [e1]
  show k ∈ o ↔ _
  rw [e2]
  simp [inputs]
theorem needs_same (g : DGraph) (e k : Int) : k ∈ m_h g e ↔ k ∈ m_l g e := by rw [needs_iff, rneeds_iff]
theorem mkD_lt (g : DGraph) (x : ByteArray) : mkD g x < (g.edges.length : Int) := by
  rcases mkD_in g x with h | ⟨i, e, h, he, _⟩
  · rw [h]; omega
  · rw [h]; have := (List.getElem?_eq_some_iff.1 he).1; omega
theorem rneeds_mem {g : DGraph} {e k : Int} (h : k ∈ m_l g e) : 0 ≤ k ∧ k.toNat < g.edges.length := by
  obtain ⟨h0, x, _, e1⟩ := (rneeds_iff g e k).1 h
  have := mkD_lt g x
  omega
def freeP (g : DGraph) (out : List Int) (i : Nat) : Bool := !(out.contains ((i : Nat) : Int)) && (m_h g ((i : Nat) : Int)).all fun k => out.contains k
def nextP (g : DGraph) (out : List Int) : Option Nat := (List.range g.edges.length).find? (freeP g out)
def ordF (g : DGraph) : Nat → List Int → Option (List Int)
  | 0, out => some out
  | f + 1, out => match nextP g out with
    | some i => ordF g f (out ++ [((i : Nat) : Int)])
    | none => none
theorem of_L3_eq (g : DGraph) (c : List Int) : ∀ (l i : Nat), m_bc ((List.range' i l).map fun i => m_h g ((i : Nat) : Int)) i c = match (List.range' i l).find? (freeP g c) with
    | some j => Lp.brk (true, c ++ [((j : Nat) : Int)])
    | none => Lp.brk (false, c)
  | 0, i => rfl
  | l + 1, i => by
    rw [List.range'_succ, List.map_cons, m_bc, of_L3_eq g c l (i + 1), List.find?_cons]
    have e : (!(m_ac ((i : Nat) : Int) c) && !(m_s (m_h g ((i : Nat) : Int)) (fun z0 => m_a5 z0 (fun z0 => m_ac z0 c)))) = freeP g c i := by
      unfold freeP m_ac m_a5
      rw [containsFunc_int]
      simp only [contains_int]
      congr 1
      rw [Bool.eq_iff_iff]; simp
    rw [← e]
    cases (!(m_ac ((i : Nat) : Int) c)) <;> cases (!(m_s (m_h g ((i : Nat) : Int)) (fun z0 => m_a5 z0 (fun z0 => m_ac z0 c)))) <;> rfl
theorem of_L1_eq (g : DGraph) : ∀ (xs : List (List Int)) (i : Nat) (row : List (List Int)), i + xs.length ≤ row.length → ∃ row', m_bb g xs i row = Lp.brk row' ∧ row'.length = row.length ∧ ∀ j, row'[j]? = if i ≤ j ∧ j < i + xs.length then some (m_h g ((j : Nat) : Int)) else row[j]?
  | [], i, row, h => ⟨row, rfl, rfl, fun j => by rw [if_neg (by simp)]⟩
  | x :: xs, i, row, h => by
    simp only [List.length_cons] at h
    obtain ⟨r, e1, e2, e3⟩ := of_L1_eq g xs (i + 1) (row.set i (m_h g ((i : Nat) : Int))) (by simp; omega)
    refine ⟨r, by rw [m_bb]; exact e1, by simpa using e2, fun j => ?_⟩
    rw [e3, List.getElem?_set, List.length_cons]
    by_cases h1 : i = j
    · subst h1; rw [if_neg (by omega), if_pos rfl]
      have : i < row.length := by omega
      simp [this]
    · rw [if_neg h1]
      by_cases h2 : i + 1 ≤ j ∧ j < i + 1 + xs.length
      · rw [if_pos h2, if_pos (by omega)]
      · rw [if_neg h2, if_neg (by omega)]
theorem of_rows (g : DGraph) : m_bb g (List.replicate g.edges.length ([] : List Int)) 0 (List.replicate g.edges.length ([] : List Int)) = Lp.brk ((List.range' 0 g.edges.length).map fun i => m_h g ((i : Nat) : Int)) := by
  obtain ⟨r, e1, e2, e3⟩ := of_L1_eq g (List.replicate g.edges.length ([] : List Int)) 0 (List.replicate g.edges.length ([] : List Int)) (by simp)
  rw [e1]; congr 1
  apply List.ext_getElem?
  intro j
  rw [e3, List.getElem?_map]
  simp only [List.length_replicate] at e2 ⊢
  by_cases h : j < g.edges.length
  · rw [if_pos ⟨Nat.zero_le _, by omega⟩, List.getElem?_range' h]; simp
  · rw [if_neg (by omega), List.getElem?_eq_none (by simp; omega), List.getElem?_eq_none (by simp; omega)]; rfl
theorem of_L2_eq (g : DGraph) : ∀ (f : Nat) (c : List Int), c.length ≤ g.edges.length → g.edges.length - c.length < f → m_bi g ((List.range' 0 g.edges.length).map fun i => m_h g ((i : Nat) : Int)) f c = match ordF g (g.edges.length - c.length) c with
    | some o => Lp.brk o
    | none => Lp.ret (([] : List Int), (1001 : Int))
  | 0, c, h1, h2 => by omega
  | f + 1, c, h1, h2 => by
    rw [m_bi]
    by_cases h : c.length < g.edges.length
    · rw [decide_eq_true (by omega), cond_true, of_L3_eq, ← List.range_eq_range']
      rw [show g.edges.length - c.length = (g.edges.length - (c.length + 1)) + 1 by omega, ordF]
      show (match (match nextP g c with | some j => Lp.brk (true, c ++ [((j : Nat) : Int)]) | none => Lp.brk (false, c) : Lp (List Int × Int) (Bool × List Int)) with | Lp.ret r => Lp.ret r | Lp.brk (t', c') => _) = _
      cases hn : nextP g c with
      | none => rfl
      | some j =>
        simp only [cond_true]
        have := of_L2_eq g f (c ++ [((j : Nat) : Int)]) (by simp; omega) (by simp; omega)
        rw [List.length_append, List.length_singleton, ← List.range_eq_range'] at this
        exact this
    · rw [decide_eq_false (by omega), cond_false, show g.edges.length - c.length = 0 by omega]; rfl
theorem of_eq (g : DGraph) : m_c g = if m_6 g = 0 then (match ordF g g.edges.length [] with | some o => (o, (0 : Int)) | none => (([] : List Int), (1001 : Int))) else (([] : List Int), (1000 : Int)) := by
  unfold m_c
  by_cases h : m_6 g = 0
  · rw [if_pos h, decide_eq_true h]
    simp only [Bool.not_true, cond_false]
    rw [of_rows]
    simp only []
    rw [of_L2_eq g _ [] (Nat.zero_le _) (by simp)]
    simp only [List.length_nil, Nat.sub_zero]
    cases ordF g g.edges.length [] <;> rfl
  · rw [if_neg h, decide_eq_false h]; rfl
inductive Steps (g : DGraph) : List Int → Prop
  | nil : Steps g []
  | snoc {out : List Int} {i : Nat} (h : Steps g out) (hn : nextP g out = some i) : Steps g (out ++ [((i : Nat) : Int)])
theorem ordF_steps (g : DGraph) : ∀ (f : Nat) (out o : List Int), Steps g out → ordF g f out = some o → Steps g o ∧ o.length = out.length + f ∧ ∃ r, o = out ++ r
  | 0, out, o, h, e => by simp only [ordF, Option.some.injEq] at e; subst e; exact ⟨h, rfl, [], by simp⟩
  | f + 1, out, o, h, e => by
    simp only [ordF] at e
    split at e
    · rename_i i hi
      obtain ⟨h1, h2, r, h3⟩ := ordF_steps g f _ o (h.snoc hi) e
      exact ⟨h1, by rw [h2]; simp; omega, [((i : Nat) : Int)] ++ r, by rw [h3]; simp⟩
    · cases e
theorem of_steps {g : DGraph} (h : (m_c g).2 = 0) : Steps g (m_c g).1 ∧ (m_c g).1.length = g.edges.length ∧ m_6 g = 0 := by
  rw [of_eq] at h ⊢
  split at h <;> rename_i hc
  · rw [if_pos hc]
    cases ho : ordF g g.edges.length [] with
    | none => rw [ho] at h; simp at h
    | some o =>
      obtain ⟨h1, h2, _⟩ := ordF_steps g _ _ _ .nil ho
      exact ⟨h1, by simpa using h2, hc⟩
  · simp at h
theorem of_none {g : DGraph} (h : (m_c g).2 ≠ 0) : (m_c g).1 = [] := by
  rw [of_eq] at h ⊢
  split at h <;> rename_i hc
  · rw [if_pos hc]
    cases ho : ordF g g.edges.length [] with
    | none => rfl
    | some o => rw [ho] at h; simp at h
  · rw [if_neg hc]
theorem nextP_spec {g : DGraph} {out : List Int} {i : Nat} (h : nextP g out = some i) : i < g.edges.length ∧ freeP g out i = true ∧ ∀ k, k < i → freeP g out k = false := by
  unfold nextP at h
  have h1 := List.mem_of_find?_eq_some h
  refine ⟨by simpa using h1, List.find?_some h, fun k hk => ?_⟩
  have := List.find?_range_eq_some.1 h
  simpa using this.2.2 k hk
end
end Go.Lift
namespace Go.Lift
noncomputable section
open Go Go.RowKit
set_option linter.unusedSimpArgs false
set_option linter.unusedVariables false
set_option linter.unusedSectionVars false
set_option maxRecDepth 20000
theorem copyEdge_eq (a : DEdge) : m_ad a = a := rfl
theorem copyGraph_L1 : ∀ (xs : List DEdge) (i : Nat) (c : List DEdge), m_am xs i c = Lp.brk (c ++ xs)
  | [], i, c => by simp [m_am]
  | x :: r, i, c => by rw [m_am, copyGraph_L1 r (i + 1), copyEdge_eq]; simp
theorem copyGraph_eq (g : DGraph) : m_a g = g := by
  unfold m_a; rw [copyGraph_L1]; rfl
theorem sameTexts_L1 : ∀ (xs pre : List ByteArray), m_at (pre ++ xs) xs pre.length = Lp.brk ()
  | [], pre => rfl
  | x :: r, pre => by
    have h := sameTexts_L1 r (pre ++ [x])
    rw [m_at]
    simp only [List.append_assoc, List.singleton_append, List.length_append, List.length_singleton] at h
    simp [List.getD_eq_getElem?_getD, h]
theorem sameTexts_refl (xs : List ByteArray) : m_i xs xs = true := by
  unfold m_i
  have := sameTexts_L1 xs []
  simp only [List.nil_append, List.length_nil] at this
  rw [this]; simp
theorem samePools_L1 : ∀ (xs pre : List DPool), m_as (pre ++ xs) xs pre.length = Lp.brk ()
  | [], pre => rfl
  | x :: r, pre => by
    have h := samePools_L1 r (pre ++ [x])
    rw [m_as]
    simp only [List.append_assoc, List.singleton_append, List.length_append, List.length_singleton] at h
    simp [List.getD_eq_getElem?_getD, h]
theorem samePools_refl (xs : List DPool) : m_ah xs xs = true := by
  unfold m_ah
  have := samePools_L1 xs []
  simp only [List.nil_append, List.length_nil] at this
  rw [this]; simp
theorem sameEdge_refl (e : DEdge) : m_2 e e = true := by
  simp [m_2, sameTexts_refl]
theorem sameGraph_L1 (g : DGraph) : ∀ (xs pre : List DEdge), g.edges = pre ++ xs → m_ar g xs pre.length = Lp.brk ()
  | [], pre, _ => rfl
  | x :: r, pre, e => by
    have h := sameGraph_L1 g r (pre ++ [x]) (by simp [e])
    rw [m_ar]
    simp only [List.length_append, List.length_singleton] at h
    have : g.edges.getD pre.length default = x := by rw [e]; simp [List.getD_eq_getElem?_getD]
    rw [this, sameEdge_refl, h]; rfl
theorem sameGraph_refl (g : DGraph) : m_5 g g = true := by
  unfold m_5
  have := sameGraph_L1 g g.edges [] rfl
  simp only [List.length_nil] at this
  rw [this]; simp [samePools_refl, sameTexts_refl]
end
end Go.Lift
namespace Go.Lift
noncomputable section
open Go Go.RowKit
set_option linter.unusedSimpArgs false
set_option linter.unusedVariables false
set_option linter.unusedSectionVars false
set_option maxRecDepth 20000
def flR (n : Nat) (out : List Int) : List Bool := (List.range n).map fun k => out.contains ((k : Nat) : Int)
theorem flR_get {n k : Nat} (out : List Int) (h : k < n) : (flR n out).getD k default = out.contains ((k : Nat) : Int) := by
  unfold flR
  rw [List.getD_eq_getElem?_getD, List.getElem?_map, List.getElem?_range h]; rfl
theorem flR_nil (n : Nat) : flR n [] = List.replicate n false := by
  apply List.ext_getElem?
  intro i
  unfold flR
  rw [List.getElem?_map, List.getElem?_replicate]
  by_cases h : i < n
  · rw [List.getElem?_range h, if_pos h]; rfl
  · rw [List.getElem?_eq_none (by simp; omega), if_neg h]; rfl
theorem flR_set {n i : Nat} (out : List Int) (h : i < n) : (flR n out).set i true = flR n (out ++ [((i : Nat) : Int)]) := by
  apply List.ext_getElem?
  intro k
  unfold flR
  rw [List.getElem?_set, List.getElem?_map, List.getElem?_map]
  by_cases hk : k < n
  · rw [List.getElem?_range hk]
    simp only [List.length_map, List.length_range, Option.map_some]
    by_cases e : i = k
    · subst e; rw [if_pos rfl, if_pos h]; simp
    · rw [if_neg e]; congr 1; rw [Bool.eq_iff_iff]; simp; omega
  · rw [List.getElem?_eq_none (by simp; omega)]
    rw [if_neg (by omega)]; rfl
theorem ro_key (g : DGraph) (out : List Int) (e : Int) : (m_l g e).all (fun k : Int => (flR g.edges.length out).getD k.toNat default) = (m_h g e).all fun k => out.contains k := by
  rw [Bool.eq_iff_iff, List.all_eq_true, List.all_eq_true]
  constructor
  · intro h k hk
    have hk' := (needs_same g e k).1 hk
    have h1 := h k hk'
    obtain ⟨m1, m2⟩ := rneeds_mem hk'
    rw [flR_get out m2, show ((k.toNat : Nat) : Int) = k by omega] at h1
    exact h1
  · intro h k hk
    have h1 := h k ((needs_same g e k).2 hk)
    obtain ⟨m1, m2⟩ := rneeds_mem hk
    rw [flR_get out m2, show ((k.toNat : Nat) : Int) = k by omega]
    exact h1
theorem ro_L3 (row : List Bool) : ∀ (xs : List Int) (k : Nat) (b : Bool), m_a1 row xs k b = Lp.brk (b && xs.all fun k => row.getD k.toNat default)
  | [], k, b => by simp [m_a1]
  | x :: r, k, b => by
    rw [m_a1]
    cases b
    · rw [cond_false, ro_L3 row r]; rfl
    · rw [cond_true, ro_L3 row r, List.all_cons]; rfl
theorem ro_L2 (g : DGraph) (out : List Int) : ∀ (j f : Nat) (next i : Int), i + 1 = ((j : Nat) : Int) → j ≤ g.edges.length → j < f →
    m_a9 (flR g.edges.length out) g f next i = Lp.brk (match (List.range j).find? (freeP g out) with | some k => ((k : Nat) : Int) | none => next)
  | 0, 0, _, _, _, _, hf => by omega
  | 0, f + 1, next, i, hi, hl, hf => by
    rw [m_a9, decide_eq_false (by omega), cond_false]; rfl
  | j + 1, 0, _, _, _, _, hf => by omega
  | j + 1, f + 1, next, i, hi, hl, hf => by
    obtain rfl : i = ((j : Nat) : Int) := by omega
    rw [m_a9, decide_eq_true (by omega), cond_true, ro_L3]
    have hfr : (!(flR g.edges.length out).getD ((j : Nat) : Int).toNat default && (m_l g ((j : Nat) : Int)).all fun k => (flR g.edges.length out).getD k.toNat default) = freeP g out j := by
      rw [ro_key, Int.toNat_natCast, flR_get out (by omega)]; rfl
    rw [hfr]
    have ih := fun nx => ro_L2 g out j f nx (((j : Nat) : Int) - 1) (by omega) (by omega) (by omega)
    rw [List.range_succ, List.find?_append]
    cases hp : freeP g out j
    · simp only [cond_false]
      rw [ih]
      cases (List.range j).find? (freeP g out) <;> simp [hp]
    · simp only [cond_true]
      rw [ih]
      cases (List.range j).find? (freeP g out) <;> simp [hp]
theorem ro_L1 (g : DGraph) : ∀ (f : Nat) (c : List Int), c.length ≤ g.edges.length → g.edges.length - c.length < f → m_bp g f c (flR g.edges.length c) = match ordF g (g.edges.length - c.length) c with
    | some o => Lp.brk (o, flR g.edges.length o)
    | none => Lp.ret (([] : List Int), (1001 : Int))
  | 0, c, h1, h2 => by omega
  | f + 1, c, h1, h2 => by
    rw [m_bp]
    by_cases h : c.length < g.edges.length
    · rw [decide_eq_true (by omega), cond_true, ro_L2 g c g.edges.length _ _ _ (by omega) (Nat.le_refl _) (by omega)]
      rw [show g.edges.length - c.length = (g.edges.length - (c.length + 1)) + 1 by omega, ordF]
      have hnp : (List.range g.edges.length).find? (freeP g c) = nextP g c := rfl
      simp only [hnp]
      cases hn : nextP g c with
      | none => rfl
      | some j =>
        have hj := (nextP_spec hn).1
        simp only []
        rw [decide_eq_false (by omega), cond_false, Int.toNat_natCast, flR_set c hj]
        have := ro_L1 g f (c ++ [((j : Nat) : Int)]) (by simp; omega) (by simp; omega)
        rw [List.length_append, List.length_singleton] at this
        exact this
    · rw [decide_eq_false (by omega), cond_false, show g.edges.length - c.length = 0 by omega]; rfl
theorem ref1_Order_eq (g : DGraph) : m_f g = m_c g := by
  rw [of_eq]
  unfold m_f
  rw [ref1_Check_eq]
  by_cases h : m_6 g = 0
  · rw [if_pos h, decide_eq_true h]
    simp only [Bool.not_true, cond_false]
    rw [← flR_nil, ro_L1 g _ [] (Nat.zero_le _) (by simp)]
    simp only [List.length_nil, Nat.sub_zero]
    cases ordF g g.edges.length [] <;> rfl
  · rw [if_neg h, decide_eq_false h]; rfl
theorem rorder_get {g : DGraph} {k : Int} (h0 : 0 ≤ k) (h : k.toNat < (m_f g).1.length) : 0 ≤ ((m_f g).1).getD k.toNat default ∧ (((m_f g).1).getD k.toNat default).toNat < g.edges.length := by
  rw [ref1_Order_eq] at *
  exact order_get h0 h
theorem makerOf_lt (g : DGraph) (x : ByteArray) : m_o g x < (g.edges.length : Int) := by rw [makerOf_mkD]; exact mkD_lt g x
theorem rorder_len (g : DGraph) : (m_f g).1.length ≤ g.edges.length := by
  rw [ref1_Order_eq]
  by_cases h : (m_c g).2 = 0
  · exact (of_ok (by rw [decide_eq_true h]; rfl)).2
  · rw [of_none h]; exact Nat.zero_le _
end
end Go.Lift
namespace Go.Lift
noncomputable section
open Go Go.RowKit
set_option linter.unusedSimpArgs false
set_option linter.unusedVariables false
set_option linter.unusedSectionVars false
set_option maxRecDepth 20000
def mark (v : List Bool) (xs : List Int) : List Bool := xs.foldl (fun v x => v.set x.toNat true) v
theorem mark_nil (v : List Bool) : mark v [] = v := rfl
theorem mark_cons (v : List Bool) (x : Int) (xs : List Int) : mark v (x :: xs) = mark (v.set x.toNat true) xs := rfl
theorem mark_len : ∀ (xs : List Int) (v : List Bool), (mark v xs).length = v.length
  | [], v => rfl
  | x :: xs, v => by rw [mark_cons, mark_len xs]; simp
theorem mark_get : ∀ (xs : List Int) (v : List Bool) (i : Nat), i < v.length → (∀ x ∈ xs, 0 ≤ x) → (mark v xs).getD i default = (v.getD i default || xs.contains ((i : Nat) : Int))
  | [], v, i, h, _ => by simp [mark_nil]
  | x :: xs, v, i, h, hn => by
    rw [mark_cons, mark_get xs _ i (by simpa using h) fun y hy => hn y (by simp [hy]), List.getD_eq_getElem?_getD, List.getElem?_set, List.contains_cons]
    have hx := hn x (by simp)
    by_cases e : x.toNat = i
    · rw [if_pos e, if_pos (by omega)]
      have : (((i : Nat) : Int) == x) = true := by simp; omega
      rw [this]; simp
    · rw [if_neg e]
      have : (((i : Nat) : Int) == x) = false := by simp; omega
      rw [this, List.getD_eq_getElem?_getD]; simp
theorem want_L3 : ∀ (l : List Int) (i : Nat) (v : List Bool), m_bg l i v = Lp.brk (mark v l)
  | [], i, v => rfl
  | x :: l, i, v => by rw [m_bg, want_L3 l, mark_cons]
theorem want_L1 (g : DGraph) : ∀ (l : List ByteArray) (i : Nat) (v : List Bool), m_be g l i v = if (l.all fun x => decide (0 ≤ mkD g x)) = true then Lp.brk (mark v (l.map (mkD g))) else Lp.ret (([] : List Bool), (2001 : Int))
  | [], i, v => rfl
  | x :: l, i, v => by
    rw [m_be, want_L1 g l, makes_mkD, List.all_cons, List.map_cons, mark_cons]
    by_cases h : mkD g x < 0
    · rw [decide_eq_true h, decide_eq_false (by omega)]; rfl
    · rw [decide_eq_false h, decide_eq_true (show 0 ≤ mkD g x by omega)]; simp
def stepW (g : DGraph) (v : List Bool) (e : Int) : List Bool := if v.getD e.toNat default = true then mark v (m_h g e) else v
def clo (g : DGraph) (o : List Int) (v : List Bool) : List Bool := o.foldl (stepW g) v
theorem stepW_len (g : DGraph) (v : List Bool) (e : Int) : (stepW g v e).length = v.length := by
  unfold stepW; split
  · exact mark_len _ _
  · rfl
theorem clo_len (g : DGraph) : ∀ (o : List Int) (v : List Bool), (clo g o v).length = v.length
  | [], v => rfl
  | e :: o, v => by
    show (clo g o (stepW g v e)).length = _
    rw [clo_len g o, stepW_len]
theorem want_L2 (g : DGraph) : ∀ (f p : Nat) (v : List Bool), p ≤ (m_c g).1.length → p < f → m_bf g f (((p : Nat) : Int) - 1) v = Lp.brk (clo g (((m_c g).1.take p).reverse) v)
  | 0, p, v, _, h => by omega
  | f + 1, 0, v, h1, h2 => by rw [m_bf, decide_eq_false (by omega)]; rfl
  | f + 1, p + 1, v, h1, h2 => by
    rw [m_bf, decide_eq_true (by omega), cond_true]
    have e1 : (((p + 1 : Nat) : Int) - 1).toNat = p := by omega
    have e2 : ((p + 1 : Nat) : Int) - 1 - 1 = ((p : Nat) : Int) - 1 := by omega
    have hget : (m_c g).1[p]? = some ((m_c g).1.getD p default) := getD_some (by omega)
    have ht : ((m_c g).1.take (p + 1)).reverse = (m_c g).1.getD p default :: ((m_c g).1.take p).reverse := by
      rw [List.take_add_one, hget]; simp
    rw [e1, e2, ht]
    show _ = Lp.brk (clo g (((m_c g).1.take p).reverse) (stepW g v ((m_c g).1.getD p default)))
    rw [want_L3]
    simp only []
    rw [want_L2 g f p _ (by omega) (by omega), want_L2 g f p _ (by omega) (by omega)]
    unfold stepW
    cases v.getD ((m_c g).1.getD p default).toNat default <;> rfl
def askN (g : DGraph) (names : List ByteArray) : List ByteArray := if names.length = 0 then g.defaults else names
def askD (g : DGraph) (names : List ByteArray) : List ByteArray := if (askN g names).length = 0 then m_j g else askN g names
def wantS (g : DGraph) (ns : List ByteArray) : List Bool := clo g ((m_c g).1.reverse) (mark (List.replicate g.edges.length false) (ns.map (mkD g)))
theorem want_eq (g : DGraph) (names : List ByteArray) : m_d g names = if (m_c g).2 = 0 ∧ m_ax names 8 = true then (if ((askD g names).all fun x => decide (0 ≤ mkD g x)) = true then (wantS g (askD g names), (0 : Int)) else (([] : List Bool), (2001 : Int))) else (([] : List Bool), (2000 : Int)) := by
  unfold m_d
  by_cases h : (m_c g).2 = 0
  · rw [decide_eq_true h]
    cases hp : m_ax names 8
    · rw [if_neg (by simp)]; rfl
    · rw [if_pos ⟨h, rfl⟩]
      simp only [Bool.not_true, cond_false]
      have e1 : (bif decide (((names.length : Nat) : Int) = (0 : Int)) then g.defaults else names) = askN g names := by
        unfold askN
        by_cases hn : names.length = 0
        · rw [decide_eq_true (by omega), if_pos hn]; rfl
        · rw [decide_eq_false (by omega), if_neg hn]; rfl
      have e2 : (bif decide ((((askN g names).length : Nat) : Int) = (0 : Int)) then (m_j g) else askN g names) = askD g names := by
        unfold askD
        by_cases hn : (askN g names).length = 0
        · rw [decide_eq_true (by omega), if_pos hn]; rfl
        · rw [decide_eq_false (by omega), if_neg hn]; rfl
      rw [e1, e2, want_L1]
      by_cases ha : ((askD g names).all fun x => decide (0 ≤ mkD g x)) = true
      · rw [if_pos ha, if_pos ha]
        simp only []
        rw [want_L2 g _ (m_c g).1.length _ (Nat.le_refl _) (by omega), List.take_length]
        rfl
      · rw [if_neg ha, if_neg ha]
  · rw [decide_eq_false h, if_neg (fun q => h q.1)]; rfl
theorem needs_pos {g : DGraph} {e x : Int} (h : x ∈ m_h g e) : 0 ≤ x := (needs_mem h).1
theorem wantS_len (g : DGraph) (ns : List ByteArray) : (wantS g ns).length = g.edges.length := by
  unfold wantS; rw [clo_len, mark_len]; simp
theorem getD_rep (n i : Nat) : (List.replicate n false).getD i default = false := by
  rw [List.getD_eq_getElem?_getD, List.getElem?_replicate]; split <;> rfl
theorem all_path (xs : List ByteArray) : m_ax xs 8 = (xs.all (fun s => m_bq s) && decide (((xs.length : Nat) : Int) ≤ 8)) := by
  unfold m_ax
  rw [lp_all (L := m_br) (p := fun s => m_bq s) (fun _ => rfl) (fun _ _ _ => rfl)]
  cases xs.all (fun s => m_bq s) <;> rfl
end
end Go.Lift
namespace Go.Lift
noncomputable section
open Go Go.RowKit
set_option linter.unusedSimpArgs false
set_option linter.unusedVariables false
set_option linter.unusedSectionVars false
set_option maxRecDepth 20000
theorem w12_L4 (g : DGraph) (i3 : Int) : ∀ (xs : List Int) (k : Nat) (v : List Bool), (∀ x ∈ xs, 0 ≤ x ∧ x.toNat < v.length) → (((m_f g).1).getD i3.toNat default).toNat < v.length →
    m_av g i3 xs k v = Lp.brk (if v.getD (((m_f g).1).getD i3.toNat default).toNat default = true then mark v xs else v)
  | [], k, v, _, _ => by rw [m_av]; simp [mark_nil]
  | x :: r, k, v, hx, he => by
    rw [m_av]
    have hx0 := hx x (by simp)
    generalize hE : (((m_f g).1).getD i3.toNat default).toNat = e at *
    have hset : ∀ b : Bool, (v.set x.toNat b).getD e default = if x.toNat = e then b else v.getD e default := by
      intro b
      rw [List.getD_eq_getElem?_getD, List.getD_eq_getElem?_getD, List.getElem?_set]
      by_cases q : x.toNat = e
      · rw [if_pos q, if_pos q, if_pos hx0.2]; rfl
      · rw [if_neg q, if_neg q]
    have hr : ∀ b : Bool, ∀ y ∈ r, 0 ≤ y ∧ y.toNat < (v.set x.toNat b).length := fun b y hy => by rw [List.length_set]; exact hx y (by simp [hy])
    have ih := fun b => w12_L4 g i3 r (k + 1) (v.set x.toNat b) (hr b) (by rw [hE, List.length_set]; exact he)
    rw [hE] at ih
    have hself : ∀ b, v.getD x.toNat default = b → v.set x.toNat b = v := by
      intro b hb
      apply List.ext_getElem?
      intro j
      rw [List.getElem?_set]
      by_cases q : x.toNat = j
      · subst q
        rw [if_pos rfl, if_pos hx0.2, List.getElem?_eq_getElem hx0.2]
        rw [List.getD_eq_getElem?_getD, List.getElem?_eq_getElem hx0.2] at hb
        exact congrArg some hb.symm
      · rw [if_neg q]
    cases hv : v.getD e default
    · cases hw : v.getD x.toNat default
      · simp only [cond_false, hv]
        rw [ih false, hset, hv, hself false hw]; simp
      · simp only [cond_true]
        rw [ih true, hset, hself true hw]
        by_cases q : x.toNat = e
        · rw [q] at hw; rw [hw] at hv; cases hv
        · rw [if_neg q, hv]; simp
    · cases hw : v.getD x.toNat default
      · simp only [cond_false, hv]
        rw [ih true, hset, hv]; simp [mark_cons]
      · simp only [cond_true]
        rw [ih true, hset, hv]; simp [mark_cons]
theorem mark_same {v : List Bool} {xs ys : List Int} (hx : ∀ x ∈ xs, 0 ≤ x) (hy : ∀ y ∈ ys, 0 ≤ y) (h : ∀ k, k ∈ xs ↔ k ∈ ys) : mark v xs = mark v ys := by
  apply List.ext_getElem?
  intro j
  by_cases q : j < v.length
  · have a := mark_get xs v j q hx
    have b := mark_get ys v j q hy
    have c : xs.contains ((j : Nat) : Int) = ys.contains ((j : Nat) : Int) := by
      rw [Bool.eq_iff_iff, List.contains_iff_mem, List.contains_iff_mem]; exact h _
    have l1 : j < (mark v xs).length := by rw [mark_len]; exact q
    have l2 : j < (mark v ys).length := by rw [mark_len]; exact q
    rw [List.getElem?_eq_getElem l1, List.getElem?_eq_getElem l2]
    rw [List.getD_eq_getElem?_getD, List.getElem?_eq_getElem l1] at a
    rw [List.getD_eq_getElem?_getD, List.getElem?_eq_getElem l2] at b
    simp only [Option.getD_some] at a b
    rw [a, b, c]
  · rw [List.getElem?_eq_none (by rw [mark_len]; omega), List.getElem?_eq_none (by rw [mark_len]; omega)]
theorem w12_L3 (g : DGraph) : ∀ (p f : Nat) (v : List Bool), v.length = g.edges.length → p ≤ (m_c g).1.length → p < f →
    m_a7 g f (((p : Nat) : Int) - 1) v = Lp.brk (clo g (((m_c g).1.take p).reverse) v)
  | 0, 0, v, _, _, hf => by omega
  | 0, f + 1, v, hv, hp, hf => by
    rw [m_a7, decide_eq_false (by omega), cond_false]; rfl
  | p + 1, 0, v, _, _, hf => by omega
  | p + 1, f + 1, v, hv, hp, hf => by
    have e0 : ((((p + 1 : Nat)) : Int) - 1) = ((p : Nat) : Int) := by omega
    rw [m_a7, decide_eq_true (by omega), cond_true, e0]
    have hlt : p < (m_c g).1.length := by omega
    have hg : ((m_f g).1).getD ((p : Nat) : Int).toNat default = (m_c g).1[p] := by
      rw [ref1_Order_eq, Int.toNat_natCast, List.getD_eq_getElem?_getD, List.getElem?_eq_getElem hlt]; rfl
    have hm := of_mem (List.getElem_mem hlt)
    have hnd : ∀ x ∈ m_l g ((m_c g).1[p]), 0 ≤ x ∧ x.toNat < v.length := fun x hx => by rw [hv]; exact rneeds_mem hx
    have h4 := w12_L4 g ((p : Nat) : Int) (m_l g ((m_c g).1[p])) 0 v hnd (by rw [hg, hv]; exact hm.2)
    rw [hg] at h4 ⊢
    have h4' : m_av g ((p : Nat) : Int) (m_l (⟨g.edges, g.pools, g.defaults⟩ : DGraph) ((m_c g).1[p])) 0 v = Lp.brk (stepW g v ((m_c g).1[p])) := by
      refine h4.trans ?_
      unfold stepW
      congr 1
      by_cases q : v.getD ((m_c g).1[p]).toNat default = true
      · rw [if_pos q, if_pos q]
        exact mark_same (fun x hx => (rneeds_mem hx).1) (fun x hx => needs_pos hx) (fun k => (needs_same g _ k).symm)
      · rw [if_neg q, if_neg q]
    rw [h4']
    have ih := w12_L3 g p f (stepW g v ((m_c g).1[p])) (by rw [stepW_len]; exact hv) (by omega) (by omega)
    refine ih.trans ?_
    rw [List.take_succ_eq_append_getElem hlt, List.reverse_append]
    rfl
end
end Go.Lift
namespace Go.Lift
noncomputable section
open Go Go.RowKit
set_option linter.unusedSimpArgs false
set_option linter.unusedVariables false
set_option linter.unusedSectionVars false
set_option maxRecDepth 20000
theorem may_of {g : DGraph} (h : m_6 g = 0) : m_bs g = true := by
  rw [check_form] at h
  cases hm : m_bs g
  · rw [hm] at h; simp at h
  · rfl
theorem edge_ok {g : DGraph} (h : m_6 g = 0) {e : DEdge} (he : e ∈ g.edges) : edgeS (eOf e) = true := by
  have h0 : ((g.edges.map eOf).all (edgeIn (gOf g)) && (decide (((g.edges.map eOf).length : Int) ≤ 16) && poolsS (gOf g) && allS (gOf g).defaults)) = true := may_of h
  rw [Bool.and_eq_true, List.all_eq_true] at h0
  have := h0.1 (eOf e) (List.mem_map_of_mem he)
  unfold edgeIn at this
  rw [Bool.and_eq_true] at this
  exact this.1
theorem outs_pos {g : DGraph} (h : m_6 g = 0) {e : DEdge} (he : e ∈ g.edges) : 0 < e.outs.length := by
  have := edge_ok h he
  unfold edgeS at this
  simp only [Bool.and_eq_true, decide_eq_true_eq] at this
  have h2 := this.2.1
  have : (eOf e).outs.xs = e.outs := rfl
  rw [this] at h2; omega
theorem outs_L1 : ∀ (l : List DEdge) (i : Nat) (out : List ByteArray), m_au l i out = Lp.brk (out ++ l.flatMap (·.outs))
  | [], i, out => by rw [m_au]; simp
  | e :: l, i, out => by rw [m_au, outs_L1 l]; simp
theorem outs_eq (g : DGraph) : m_j g = g.edges.flatMap (·.outs) := by
  unfold m_j; rw [outs_L1]; simp
theorem mark0_get {g : DGraph} {ns : List ByteArray} (hn : ∀ x ∈ ns, 0 ≤ mkD g x) {i : Nat} (hi : i < g.edges.length) : (mark (List.replicate g.edges.length false) (ns.map (mkD g))).getD i default = (ns.map (mkD g)).contains ((i : Nat) : Int) := by
  rw [mark_get _ _ _ (by simpa using hi) (fun k hk => by obtain ⟨x, hx, rfl⟩ := List.mem_map.1 hk; exact hn x hx), getD_rep]; rfl
theorem makes_all {g : DGraph} (h : m_6 g = 0) {i : Nat} (hi : i < g.edges.length) : ((m_j g).map (mkD g)).contains ((i : Nat) : Int) = true := by
  rw [List.contains_iff_mem, outs_eq]
  have he := List.getElem?_eq_getElem hi
  have hp := outs_pos h (List.mem_of_getElem? he)
  refine List.mem_map.2 ⟨(g.edges[i]).outs[0], List.mem_flatMap.2 ⟨_, List.mem_of_getElem? he, List.getElem_mem _⟩, mkD_at (check_nodup h) he (List.getElem_mem _)⟩
theorem pathIs_eq (s : ByteArray) : m_bq s = isS s := by
  unfold m_bq isS; rfl
theorem paths_eq (xs : List ByteArray) : m_n xs = m_ax xs 8 := by
  rw [ref1_PathsMay_eq, all_path]
  unfold allS
  have : (fun s => m_bq s) = isS := funext pathIs_eq
  rw [this]
theorem w12_L2 (g : DGraph) : ∀ (l : List ByteArray) (i : Nat) (v : List Bool), m_a6 g l i v = if (l.all fun x => decide (0 ≤ mkD g x)) = true then Lp.brk (mark v (l.map (mkD g))) else Lp.ret (([] : List Bool), (2001 : Int))
  | [], i, v => by rw [m_a6]; simp [mark_nil]
  | x :: l, i, v => by
    have hm : m_o (⟨g.edges, g.pools, g.defaults⟩ : DGraph) x = mkD g x := makerOf_mkD g x
    rw [m_a6, hm, w12_L2 g l]
    by_cases h : 0 ≤ mkD g x
    · rw [decide_eq_false (by omega), cond_false, List.all_cons, decide_eq_true h, Bool.true_and, List.map_cons, mark_cons]
    · rw [decide_eq_true (by omega), cond_true, List.all_cons, decide_eq_false h, Bool.false_and]; simp
theorem w12_L1 (names : List ByteArray) (g : DGraph) : ∀ (es : List DEdge) (i : Nat) (v : List Bool), ∃ v', m_a0 names g es i v = Lp.brk v' ∧ v'.length = v.length ∧
    ∀ j, v'[j]? = if i ≤ j ∧ j < i + es.length ∧ j < v.length then some (decide (((askN g names).length : Int) = 0)) else v[j]?
  | [], i, v => ⟨v, by rw [m_a0], rfl, fun j => by rw [if_neg (by simp; omega)]⟩
  | e :: es, i, v => by
    have hb : (bif decide (((names.length : Nat) : Int) = (0 : Int)) then g.defaults else names) = askN g names := by
      unfold askN
      by_cases hn : names.length = 0
      · rw [decide_eq_true (by omega), if_pos hn]; rfl
      · rw [decide_eq_false (by omega), if_neg hn]; rfl
    rw [m_a0, hb]
    obtain ⟨v', h1, h2, h3⟩ := w12_L1 names g es (i + 1) (v.set i (decide ((((askN g names).length : Nat) : Int) = (0 : Int))))
    refine ⟨v', h1, by rw [h2, List.length_set], fun j => ?_⟩
    rw [h3, List.length_set, List.getElem?_set, List.length_cons]
    by_cases q : i = j
    · subst q
      by_cases hl : i < v.length
      · rw [if_neg (by omega), if_pos rfl, if_pos hl, if_pos ⟨by omega, by omega, hl⟩]
      · rw [if_neg (by omega), if_pos rfl, if_neg hl, if_neg (by omega), List.getElem?_eq_none (by omega)]
    · rw [if_neg q]
      by_cases hc : i + 1 ≤ j ∧ j < i + 1 + es.length ∧ j < v.length
      · rw [if_pos hc, if_pos (by omega)]
      · rw [if_neg hc, if_neg (by omega)]
theorem w12_start (names : List ByteArray) (g : DGraph) : m_a0 names g g.edges 0 (List.replicate g.edges.length false) = Lp.brk (List.replicate g.edges.length (decide (((askN g names).length : Int) = 0))) := by
  obtain ⟨v', h1, h2, h3⟩ := w12_L1 names g g.edges 0 (List.replicate g.edges.length false)
  rw [h1]; congr 1
  apply List.ext_getElem?
  intro j
  rw [h3, List.length_replicate, List.getElem?_replicate, List.getElem?_replicate]
  by_cases q : j < g.edges.length
  · rw [if_pos (by omega), if_pos q]
  · rw [if_neg (by omega), if_neg q, if_neg q]
theorem mark_all {g : DGraph} (h : m_6 g = 0) (hn : ∀ x ∈ m_j g, 0 ≤ mkD g x) : mark (List.replicate g.edges.length false) ((m_j g).map (mkD g)) = List.replicate g.edges.length true := by
  apply List.ext_getElem?
  intro j
  have hl : (mark (List.replicate g.edges.length false) ((m_j g).map (mkD g))).length = g.edges.length := by rw [mark_len, List.length_replicate]
  by_cases q : j < g.edges.length
  · have a := mark0_get hn q
    rw [makes_all h q, List.getD_eq_getElem?_getD, List.getElem?_eq_getElem (by rw [hl]; exact q)] at a
    rw [List.getElem?_eq_getElem (by rw [hl]; exact q), List.getElem?_replicate, if_pos q]
    exact congrArg some a
  · rw [List.getElem?_eq_none (by omega), List.getElem?_eq_none (by rw [List.length_replicate]; omega)]
theorem outs_all {g : DGraph} (h : m_6 g = 0) : ∀ x ∈ m_j g, 0 ≤ mkD g x := by
  intro x hx
  rw [outs_eq] at hx
  obtain ⟨e, he, hxe⟩ := List.mem_flatMap.1 hx
  obtain ⟨i, hi⟩ := List.mem_iff_getElem?.1 he
  rw [mkD_at (check_nodup h) hi hxe]; omega
theorem ref12_Want_eq (g : DGraph) (names : List ByteArray) : m_m g names = m_d g names := by
  rw [want_eq]
  unfold m_m
  rw [paths_eq]
  have hO2 : (m_f g).2 = (m_c g).2 := by rw [ref1_Order_eq]
  rw [hO2]
  by_cases h : (m_c g).2 = 0
  · rw [decide_eq_true h]
    have hc := (of_steps h).2.2
    cases hp : m_ax names 8
    · rw [if_neg (by simp)]; rfl
    · rw [if_pos ⟨h, rfl⟩]
      simp only [Bool.not_true, cond_false]
      have e1 : (bif decide (((names.length : Nat) : Int) = (0 : Int)) then g.defaults else names) = askN g names := by
        unfold askN
        by_cases hn : names.length = 0
        · rw [decide_eq_true (by omega), if_pos hn]; rfl
        · rw [decide_eq_false (by omega), if_neg hn]; rfl
      rw [e1, w12_start]
      simp only []
      rw [w12_L2]
      have hL3 : ∀ v : List Bool, v.length = g.edges.length → m_a7 g ((((((m_f g).1).length : Nat) : Int) - (1 : Int)) + 1).toNat.succ (((((m_f g).1).length : Nat) : Int) - (1 : Int)) v = Lp.brk (clo g ((m_c g).1.reverse) v) := by
        intro v hv
        rw [ref1_Order_eq]
        have := w12_L3 g (m_c g).1.length ((((((m_c g).1).length : Nat) : Int) - (1 : Int)) + 1).toNat.succ v hv (Nat.le_refl _) (by omega)
        rw [List.take_length] at this
        exact this
      by_cases hn : (askN g names).length = 0
      · have ha : askN g names = [] := List.length_eq_zero_iff.1 hn
        have hD : askD g names = m_j g := by unfold askD; rw [if_pos hn]
        rw [ha, hD]
        rw [if_pos (List.all_eq_true.2 fun x hx => decide_eq_true (outs_all hc x hx))]
        simp only [List.all_nil, if_true, List.map_nil, mark_nil, List.length_nil]
        have := hL3 (List.replicate g.edges.length true) (by simp)
        simp only [Nat.succ_eq_add_one] at this
        rw [show decide (((0 : Nat) : Int) = 0) = true from rfl, this]
        simp only []
        unfold wantS
        rw [mark_all hc (outs_all hc)]
      · have hD : askD g names = askN g names := by unfold askD; rw [if_neg hn]
        rw [hD, decide_eq_false (by omega)]
        by_cases ha : ((askN g names).all fun x => decide (0 ≤ mkD g x)) = true
        · rw [if_pos ha, if_pos ha]
          have := hL3 (mark (List.replicate g.edges.length false) ((askN g names).map (mkD g))) (by rw [mark_len]; simp)
          simp only [Nat.succ_eq_add_one] at this
          simp only []
          rw [this]
          rfl
        · rw [if_neg ha, if_neg ha]
  · rw [decide_eq_false h, if_neg (fun q => h q.1)]; rfl
end
end Go.Lift
namespace Go.Lift
noncomputable section
open Go Go.RowKit
set_option linter.unusedSimpArgs false
set_option linter.unusedVariables false
set_option linter.unusedSectionVars false
set_option maxRecDepth 20000
theorem sameBools_L1 (b : List Bool) : ∀ (l : List Bool) (i : Nat), l = b.drop i → m_aq b l i = Lp.brk ()
  | [], i, _ => rfl
  | x :: l, i, h => by
    have hx : b[i]? = some x := by
      have := congrArg (·[0]?) h
      simpa using this.symm
    have hl : l = b.drop (i + 1) := by
      have := congrArg (List.drop 1) h
      simpa [List.drop_drop, Nat.add_comm] using this
    rw [m_aq, sameBools_L1 b l (i + 1) hl, List.getD_eq_getElem?_getD, hx]
    simp
theorem sameBools_refl (b : List Bool) : m_u b b = true := by
  unfold m_u
  rw [sameBools_L1 b b 0 (by simp)]
  simp
end
end Go.Lift
namespace Go.Lift
noncomputable section
open Go Go.RowKit
set_option linter.unusedSimpArgs false
set_option linter.unusedVariables false
set_option linter.unusedSectionVars false
set_option maxRecDepth 20000
end
end Go.Lift
namespace Go.Lift
noncomputable section
open Go Go.RowKit
set_option linter.unusedSimpArgs false
set_option linter.unusedVariables false
set_option linter.unusedSectionVars false
set_option maxRecDepth 20000
end
end Go.Lift
namespace Go.Lift
noncomputable section
open Go Go.RowKit
set_option linter.unusedSimpArgs false
set_option linter.unusedVariables false
set_option linter.unusedSectionVars false
set_option maxRecDepth 20000
end
end Go.Lift
namespace Go.Lift
noncomputable section
open Go Go.RowKit
set_option linter.unusedSimpArgs false
set_option linter.unusedVariables false
set_option linter.unusedSectionVars false
set_option maxRecDepth 20000
end
end Go.Lift
namespace Go.Lift
noncomputable section
open Go Go.RowKit
set_option linter.unusedSimpArgs false
set_option linter.unusedVariables false
set_option linter.unusedSectionVars false
set_option maxRecDepth 20000
end
end Go.Lift
namespace Go.Lift
noncomputable section
open Go Go.RowKit
set_option linter.unusedSimpArgs false
set_option linter.unusedVariables false
set_option linter.unusedSectionVars false
set_option maxRecDepth 20000
end
end Go.Lift
namespace Go.Lift
noncomputable section
open Go Go.RowKit
set_option linter.unusedSimpArgs false
set_option linter.unusedVariables false
set_option linter.unusedSectionVars false
set_option maxRecDepth 20000
theorem wl_len (g : DGraph) (names : List ByteArray) : (m_d g names).1.length ≤ g.edges.length := by
  rw [want_eq]
  split
  · split
    · exact Nat.le_of_eq (wantS_len _ _)
    · simp
  · simp
theorem kept_len {l r a : List ByteArray} (h : m_i ((l ++ r).take l.length) a = true) : a.length = l.length := by
  unfold m_i at h
  simp only [Bool.and_eq_true, Bool.not_not, decide_eq_true_eq] at h
  have := h.1
  simp at this; omega
theorem kept_refl (l : List ByteArray) : m_3 l l = true := by
  unfold m_3
  rw [show ∀ r : List ByteArray, (l ++ r).take l.length = l from fun r => by simp, sameTexts_refl]
  simp [List.getD]
theorem law20_Wants_true (g : DGraph) (names : List ByteArray) : m_7 g names = true := by
  unfold m_7
  have e : (⟨(m_a g).edges, (m_a g).pools, (m_a g).defaults⟩ : DGraph) = g := copyGraph_eq g
  rw [e, show ∀ r : List ByteArray, (names ++ r).take names.length = names from fun r => by simp, ref12_Want_eq, sameBools_refl, sameGraph_refl, kept_refl]
  have ha : m_8 = true := by kernel_rfl
  rw [ha]
  simp [m_4]
end
end Go.Lift
namespace Go.Lift
noncomputable section
open Go Go.RowKit
set_option linter.unusedSimpArgs false
set_option linter.unusedVariables false
set_option linter.unusedSectionVars false
set_option maxRecDepth 20000
theorem rdg_9 {H : Type} {enc : TypeId × Value → H} {w : World} {spare : Nat → Bool} {held : Bool} {bk : DataW H → Nat} {μ : Mu} (hb : BulkOk bk) (hμ : ∀ g, ¬ μ.mut g) : Rdg enc Go.Proofs.Tryz.prog w spare held bk μ 9 AV.s (fun s : ByteArray => s.size + 1) := Rdg.str hb (by kernel_rfl)
theorem rdg_24 {H : Type} {enc : TypeId × Value → H} {w : World} {spare : Nat → Bool} {held : Bool} {bk : DataW H → Nat} {μ : Mu} (hb : BulkOk bk) (hμ : ∀ g, ¬ μ.mut g) : Rdg enc Go.Proofs.Tryz.prog w spare held bk μ 24 (slA 1 AV.s) (szL (fun s : ByteArray => s.size + 1)) := Rdg.slice hb hμ (e := 9) (by kernel_rfl) (by kernel_rfl) (fun a => Or.inr ⟨(by intro fs h; cases h), rfl, rfl⟩) (rdg_9 hb hμ)
theorem rdg_4 {H : Type} {enc : TypeId × Value → H} {w : World} {spare : Nat → Bool} {held : Bool} {bk : DataW H → Nat} {μ : Mu} (hb : BulkOk bk) (hμ : ∀ g, ¬ μ.mut g) : Rdg enc Go.Proofs.Tryz.prog w spare held bk μ 4 AV.b (fun _ => 1) := Rdg.bool hb (by kernel_rfl)
theorem rdg_76 {H : Type} {enc : TypeId × Value → H} {w : World} {spare : Nat → Bool} {held : Bool} {bk : DataW H → Nat} {μ : Mu} (hb : BulkOk bk) (hμ : ∀ g, ¬ μ.mut g) : Rdg enc Go.Proofs.Tryz.prog w spare held bk μ 76 DEdge.av DEdge.sz where
  rd fuel cs x h hbd := by
    obtain ⟨xs, n, e, hl, hlen, hf⟩ := struct_rd (t := 76) (by kernel_rfl) h
    have hn : (fsOf Go.Proofs.Tryz.prog 76).size = 7 := by kernel_rfl
    have hc : Go.Proofs.Tryz.prog.cellsOf 76 = 7 := by kernel_rfl
    rw [hn] at hlen; rw [hc] at hl
    match xs, hlen, e, hf with
    | [x0, x1, x2, x3, x4, x5, x6], _, e, hf =>
      have hag := hb.agg [x0.1, x1.1, x2.1, x3.1, x4.1, x5.1, x6.1]
      simp only [List.map_cons, List.map_nil, List.sum_cons, List.sum_nil] at hag e
      rw [e] at hbd ⊢
      obtain ⟨y0, e0, r0⟩ := hf 0 0 24 1 (by kernel_rfl)
      cases e0
      obtain ⟨a0, c0, o0, s0⟩ := (rdg_24 hb hμ).rd _ _ _ r0 (by omega)
      obtain ⟨y1, e1, r1⟩ := hf 1 1 24 1 (by kernel_rfl)
      cases e1
      obtain ⟨a1, c1, o1, s1⟩ := (rdg_24 hb hμ).rd _ _ _ r1 (by omega)
      obtain ⟨y2, e2, r2⟩ := hf 2 2 24 1 (by kernel_rfl)
      cases e2
      obtain ⟨a2, c2, o2, s2⟩ := (rdg_24 hb hμ).rd _ _ _ r2 (by omega)
      obtain ⟨y3, e3, r3⟩ := hf 3 3 24 1 (by kernel_rfl)
      cases e3
      obtain ⟨a3, c3, o3, s3⟩ := (rdg_24 hb hμ).rd _ _ _ r3 (by omega)
      obtain ⟨y4, e4, r4⟩ := hf 4 4 9 1 (by kernel_rfl)
      cases e4
      obtain ⟨a4, c4, o4, s4⟩ := (rdg_9 hb hμ).rd _ _ _ r4 (by omega)
      obtain ⟨y5, e5, r5⟩ := hf 5 5 4 1 (by kernel_rfl)
      cases e5
      obtain ⟨a5, c5, o5, s5⟩ := (rdg_4 hb hμ).rd _ _ _ r5 (by omega)
      obtain ⟨y6, e6, r6⟩ := hf 6 6 9 1 (by kernel_rfl)
      cases e6
      obtain ⟨a6, c6, o6, s6⟩ := (rdg_9 hb hμ).rd _ _ _ r6 (by omega)
      refine ⟨⟨a0, a1, a2, a3, a4, a5, a6⟩, ?_, ?_, ?_⟩
      · have q := (CRs_step (CRs_step (CRs_step (CRs_step (CRs_step (CRs_step (CRs_step (show CRs w μ [] (cs.take 0) by simp [CRs]) c0) c1) c2) c3) c4) c5) c6)
        rw [show cs.take (0 + 1 + 1 + 1 + 1 + 1 + 1 + 1) = cs from List.take_of_length_le (by omega)] at q
        exact q
      · have q := (one_step (one_step (one_step (one_step (one_step (one_step (one_step (show ∀ u ∈ cs.take 0, u.oneCell' = true by simp) o0) o1) o2) o3) o4) o5) o6)
        rw [show cs.take (0 + 1 + 1 + 1 + 1 + 1 + 1 + 1) = cs from List.take_of_length_le (by omega)] at q
        exact q
      · unfold DEdge.sz; simp only at *; omega
theorem rdg_22 {H : Type} {enc : TypeId × Value → H} {w : World} {spare : Nat → Bool} {held : Bool} {bk : DataW H → Nat} {μ : Mu} (hb : BulkOk bk) (hμ : ∀ g, ¬ μ.mut g) : Rdg enc Go.Proofs.Tryz.prog w spare held bk μ 22 (slA 7 DEdge.av) (szL DEdge.sz) := Rdg.slice hb hμ (e := 76) (by kernel_rfl) (by kernel_rfl) (fun a => Or.inl ⟨_, rfl, rfl⟩) (rdg_76 hb hμ)
theorem rdg_3 {H : Type} {enc : TypeId × Value → H} {w : World} {spare : Nat → Bool} {held : Bool} {bk : DataW H → Nat} {μ : Mu} (hb : BulkOk bk) (hμ : ∀ g, ¬ μ.mut g) : Rdg enc Go.Proofs.Tryz.prog w spare held bk μ 3 (AV.i .i64) (fun _ => 1) := Rdg.int hb (by kernel_rfl)
theorem rdg_81 {H : Type} {enc : TypeId × Value → H} {w : World} {spare : Nat → Bool} {held : Bool} {bk : DataW H → Nat} {μ : Mu} (hb : BulkOk bk) (hμ : ∀ g, ¬ μ.mut g) : Rdg enc Go.Proofs.Tryz.prog w spare held bk μ 81 DPool.av DPool.sz where
  rd fuel cs x h hbd := by
    obtain ⟨xs, n, e, hl, hlen, hf⟩ := struct_rd (t := 81) (by kernel_rfl) h
    have hn : (fsOf Go.Proofs.Tryz.prog 81).size = 2 := by kernel_rfl
    have hc : Go.Proofs.Tryz.prog.cellsOf 81 = 2 := by kernel_rfl
    rw [hn] at hlen; rw [hc] at hl
    match xs, hlen, e, hf with
    | [x0, x1], _, e, hf =>
      have hag := hb.agg [x0.1, x1.1]
      simp only [List.map_cons, List.map_nil, List.sum_cons, List.sum_nil] at hag e
      rw [e] at hbd ⊢
      obtain ⟨y0, e0, r0⟩ := hf 0 0 9 1 (by kernel_rfl)
      cases e0
      obtain ⟨a0, c0, o0, s0⟩ := (rdg_9 hb hμ).rd _ _ _ r0 (by omega)
      obtain ⟨y1, e1, r1⟩ := hf 1 1 3 1 (by kernel_rfl)
      cases e1
      obtain ⟨a1, c1, o1, s1⟩ := (rdg_3 hb hμ).rd _ _ _ r1 (by omega)
      refine ⟨⟨a0, a1⟩, ?_, ?_, ?_⟩
      · have q := (CRs_step (CRs_step (show CRs w μ [] (cs.take 0) by simp [CRs]) c0) c1)
        rw [show cs.take (0 + 1 + 1) = cs from List.take_of_length_le (by omega)] at q
        exact q
      · have q := (one_step (one_step (show ∀ u ∈ cs.take 0, u.oneCell' = true by simp) o0) o1)
        rw [show cs.take (0 + 1 + 1) = cs from List.take_of_length_le (by omega)] at q
        exact q
      · unfold DPool.sz; simp only at *; omega
theorem rdg_23 {H : Type} {enc : TypeId × Value → H} {w : World} {spare : Nat → Bool} {held : Bool} {bk : DataW H → Nat} {μ : Mu} (hb : BulkOk bk) (hμ : ∀ g, ¬ μ.mut g) : Rdg enc Go.Proofs.Tryz.prog w spare held bk μ 23 (slA 2 DPool.av) (szL DPool.sz) := Rdg.slice hb hμ (e := 81) (by kernel_rfl) (by kernel_rfl) (fun a => Or.inl ⟨_, rfl, rfl⟩) (rdg_81 hb hμ)
theorem rdg_26 {H : Type} {enc : TypeId × Value → H} {w : World} {spare : Nat → Bool} {held : Bool} {bk : DataW H → Nat} {μ : Mu} (hb : BulkOk bk) (hμ : ∀ g, ¬ μ.mut g) : Rdg enc Go.Proofs.Tryz.prog w spare held bk μ 26 DGraph.av DGraph.sz where
  rd fuel cs x h hbd := by
    obtain ⟨xs, n, e, hl, hlen, hf⟩ := struct_rd (t := 26) (by kernel_rfl) h
    have hn : (fsOf Go.Proofs.Tryz.prog 26).size = 3 := by kernel_rfl
    have hc : Go.Proofs.Tryz.prog.cellsOf 26 = 3 := by kernel_rfl
    rw [hn] at hlen; rw [hc] at hl
    match xs, hlen, e, hf with
    | [x0, x1, x2], _, e, hf =>
      have hag := hb.agg [x0.1, x1.1, x2.1]
      simp only [List.map_cons, List.map_nil, List.sum_cons, List.sum_nil] at hag e
      rw [e] at hbd ⊢
      obtain ⟨y0, e0, r0⟩ := hf 0 0 22 1 (by kernel_rfl)
      cases e0
      obtain ⟨a0, c0, o0, s0⟩ := (rdg_22 hb hμ).rd _ _ _ r0 (by omega)
      obtain ⟨y1, e1, r1⟩ := hf 1 1 23 1 (by kernel_rfl)
      cases e1
      obtain ⟨a1, c1, o1, s1⟩ := (rdg_23 hb hμ).rd _ _ _ r1 (by omega)
      obtain ⟨y2, e2, r2⟩ := hf 2 2 24 1 (by kernel_rfl)
      cases e2
      obtain ⟨a2, c2, o2, s2⟩ := (rdg_24 hb hμ).rd _ _ _ r2 (by omega)
      refine ⟨⟨a0, a1, a2⟩, ?_, ?_, ?_⟩
      · have q := (CRs_step (CRs_step (CRs_step (show CRs w μ [] (cs.take 0) by simp [CRs]) c0) c1) c2)
        rw [show cs.take (0 + 1 + 1 + 1) = cs from List.take_of_length_le (by omega)] at q
        exact q
      · have q := (one_step (one_step (one_step (show ∀ u ∈ cs.take 0, u.oneCell' = true by simp) o0) o1) o2)
        rw [show cs.take (0 + 1 + 1 + 1) = cs from List.take_of_length_le (by omega)] at q
        exact q
      · unfold DGraph.sz; simp only at *; omega
end
end Go.Lift
