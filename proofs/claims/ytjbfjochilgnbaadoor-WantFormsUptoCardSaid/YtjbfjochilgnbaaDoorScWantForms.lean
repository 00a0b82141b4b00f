/-
  Lemmas of this claim: a layer over the kit's calls, contracts of the functions that the law reaches, and the law's row. No condition of its own.
-/
import Derived.Test.YtjbfjochilgnbaaDoorLbWantForms
import Derived.Test.YtjbfjochilgnbaaDoorSaWantForms
namespace Go.Lift
noncomputable section
open Go Go.RowKit
set_option linter.unusedSimpArgs false
set_option linter.unusedVariables false
set_option linter.unusedSectionVars false
set_option maxRecDepth 20000
structure DEdge where
  outs : List ByteArray
  ins : List ByteArray
  implicit : List ByteArray
  order : List ByteArray
  command : ByteArray
  deps : Bool
  pool : ByteArray

def DEdge.av (d : DEdge) : AV := .st [(slA 1 AV.s) d.outs, (slA 1 AV.s) d.ins, (slA 1 AV.s) d.implicit, (slA 1 AV.s) d.order, AV.s d.command, AV.b d.deps, AV.s d.pool]
def DEdge.zero : DEdge := ⟨[], [], [], [], (⟨#[]⟩ : ByteArray), false, (⟨#[]⟩ : ByteArray)⟩
instance : Inhabited DEdge := ⟨DEdge.zero⟩
def DEdge.sz (d : DEdge) : Nat := (szL (fun s : ByteArray => s.size + 1)) d.outs + (szL (fun s : ByteArray => s.size + 1)) d.ins + (szL (fun s : ByteArray => s.size + 1)) d.implicit + (szL (fun s : ByteArray => s.size + 1)) d.order + (fun s : ByteArray => s.size + 1) d.command + (fun _ => 1) d.deps + (fun s : ByteArray => s.size + 1) d.pool + 1
theorem DEdge.sz_outs (d : DEdge) : (szL (fun s : ByteArray => s.size + 1)) d.outs ≤ d.sz := by unfold DEdge.sz; omega
theorem DEdge.cl (d : DEdge) : closed d.av = true := rfl
structure DPool where
  name : ByteArray
  depth : Int

def DPool.av (d : DPool) : AV := .st [AV.s d.name, (AV.i .i64) d.depth]
def DPool.zero : DPool := ⟨(⟨#[]⟩ : ByteArray), (0 : Int)⟩
instance : Inhabited DPool := ⟨DPool.zero⟩
def DPool.sz (d : DPool) : Nat := (fun s : ByteArray => s.size + 1) d.name + (fun _ => 1) d.depth + 1
theorem DPool.cl (d : DPool) : closed d.av = true := rfl
structure DGraph where
  edges : List DEdge
  pools : List DPool
  defaults : List ByteArray

def DGraph.av (d : DGraph) : AV := .st [(slA 7 DEdge.av) d.edges, (slA 2 DPool.av) d.pools, (slA 1 AV.s) d.defaults]
def DGraph.zero : DGraph := ⟨[], [], []⟩
instance : Inhabited DGraph := ⟨DGraph.zero⟩
def DGraph.sz (d : DGraph) : Nat := (szL DEdge.sz) d.edges + (szL DPool.sz) d.pools + (szL (fun s : ByteArray => s.size + 1)) d.defaults + 1
theorem DGraph.sz_edges (d : DGraph) : (szL DEdge.sz) d.edges ≤ d.sz := by unfold DGraph.sz; omega
theorem DGraph.cl (d : DGraph) : closed d.av = true := rfl
def outsN : List DEdge → Nat
  | [] => 0
  | e :: r => e.outs.length + outsN r
def eOf (e : DEdge) : EdgeD := ⟨⟨false, e.outs⟩, ⟨false, e.ins⟩, ⟨false, e.implicit⟩, ⟨false, e.order⟩, e.command, e.deps, e.pool⟩
def pOf (p : DPool) : PoolD := ⟨p.name, p.depth⟩
def gOf (g : DGraph) : GraphD := ⟨false, g.edges.map eOf, false, g.pools.map pOf, ⟨false, g.defaults⟩⟩
def m_graph_May (g : DGraph) : Bool := mayG (gOf g)
def m_graph_Check (g : DGraph) : Int := checkS (gOf g)
def m_graph_Maker (g : DGraph) (name : ByteArray) : Int × Bool × Int := makerS (gOf g) name
def needsN (g : DGraph) (edge : Int) : Nat := (g.edges.getD edge.toNat default).ins.length + (g.edges.getD edge.toNat default).implicit.length + (g.edges.getD edge.toNat default).order.length

def m_path_Is (s' : ByteArray) : Bool :=
  (decide ((cleanS s').2 = (0 : Int)) && decide ((cleanS s').1 = s'))

def m_path_All_L1 : List ByteArray → Nat → Lp (Bool) (Unit)
  | [], v9 => Lp.brk ()
  | x1 :: rest, v9 => (bif (!(m_path_Is x1)) then Lp.ret false else m_path_All_L1 rest (v9 + 1))

def m_path_All (ss : List ByteArray) (most' : Int) : Bool :=
  (match m_path_All_L1 ss 0 with
  | Lp.ret r => r
  | Lp.brk () => decide (((ss.length : Nat) : Int) ≤ most'))

def m_graph_Outs_L1 : List DEdge → Nat → (List ByteArray) → Lp (List ByteArray) ((List ByteArray))
  | [], v11, out => Lp.brk out
  | x1 :: rest, v11, out => m_graph_Outs_L1 rest (v11 + 1) (out ++ x1.outs)

def m_graph_Outs (g : DGraph) : List ByteArray :=
  (match m_graph_Outs_L1 g.edges 0 [] with
  | Lp.ret r => r
  | Lp.brk out' => out')

def m_law0_SameBools_L1 (b : List Bool) : List Bool → Nat → Lp (Bool) (Unit)
  | [], i => Lp.brk ()
  | x1 :: rest, i => (bif (!(x1 == (b.getD i default))) then Lp.ret false else m_law0_SameBools_L1 b rest (i + 1))

def m_law0_SameBools (a : List Bool) (b : List Bool) : Bool :=
  (!(!decide (((a.length : Nat) : Int) = ((b.length : Nat) : Int))) && (match m_law0_SameBools_L1 b a 0 with
  | Lp.ret r => r
  | Lp.brk () => true))

def m_slices_Index_int_int_L1 (v : Int) : List Int → Nat → Lp (Int) (Unit)
  | [], v8 => Lp.brk ()
  | x1 :: rest, v8 => (bif decide (v = x1) then Lp.ret ((v8 : Nat) : Int) else m_slices_Index_int_int_L1 v rest (v8 + 1))

def m_slices_Index_int_int (s' : List Int) (v : Int) : Int :=
  (match m_slices_Index_int_int_L1 v s' 0 with
  | Lp.ret r => r
  | Lp.brk () => (-1 : Int))

def m_slices_Contains_int_int (s' : List Int) (v : Int) : Bool :=
  decide ((0 : Int) ≤ (m_slices_Index_int_int s' v))

def m_slices_Index_string_string_L1 (v : ByteArray) : List ByteArray → Nat → Lp (Int) (Unit)
  | [], v8 => Lp.brk ()
  | x1 :: rest, v8 => (bif decide (v = x1) then Lp.ret ((v8 : Nat) : Int) else m_slices_Index_string_string_L1 v rest (v8 + 1))

def m_slices_Index_string_string (s' : List ByteArray) (v : ByteArray) : Int :=
  (match m_slices_Index_string_string_L1 v s' 0 with
  | Lp.ret r => r
  | Lp.brk () => (-1 : Int))

def m_slices_Contains_string_string (s' : List ByteArray) (v : ByteArray) : Bool :=
  decide ((0 : Int) ≤ (m_slices_Index_string_string s' v))

def m_slices_IndexFunc_api_Edge_api_Edge_L1 (f : DEdge → Bool) : List DEdge → Nat → Lp (Int) (Unit)
  | [], v8 => Lp.brk ()
  | x1 :: rest, v8 => (bif (f x1) then Lp.ret ((v8 : Nat) : Int) else m_slices_IndexFunc_api_Edge_api_Edge_L1 f rest (v8 + 1))

def m_slices_IndexFunc_api_Edge_api_Edge (s' : List DEdge) (f : DEdge → Bool) : Int :=
  (match m_slices_IndexFunc_api_Edge_api_Edge_L1 f s' 0 with
  | Lp.ret r => r
  | Lp.brk () => (-1 : Int))

def m_graph_Makes_1 (e : DEdge) (name : ByteArray) : Bool :=
  (m_slices_Contains_string_string e.outs name)

def m_graph_Makes (g : DGraph) (s' : ByteArray) : Int :=
  (m_slices_IndexFunc_api_Edge_api_Edge g.edges (fun z0 => m_graph_Makes_1 z0 s'))

def m_slices_IndexFunc_int_int_L1 (f : Int → Bool) : List Int → Nat → Lp (Int) (Unit)
  | [], v8 => Lp.brk ()
  | x1 :: rest, v8 => (bif (f x1) then Lp.ret ((v8 : Nat) : Int) else m_slices_IndexFunc_int_int_L1 f rest (v8 + 1))

def m_slices_IndexFunc_int_int (s' : List Int) (f : Int → Bool) : Int :=
  (match m_slices_IndexFunc_int_int_L1 f s' 0 with
  | Lp.ret r => r
  | Lp.brk () => (-1 : Int))

def m_slices_ContainsFunc_int_int (s' : List Int) (f : Int → Bool) : Bool :=
  decide ((0 : Int) ≤ (m_slices_IndexFunc_int_int s' f))

def m_grow_string (n' : Nat) : List ByteArray :=
  (bif decide ((0 : Int) < ((n' : Nat) : Int)) then ((List.replicate n' (⟨#[]⟩ : ByteArray)).take 0) else [])

def m_slices_Concat_string_string_L2 : List (List ByteArray) → Nat → (List ByteArray) → Lp (List ByteArray) ((List ByteArray))
  | [], v27, newslice => Lp.brk newslice
  | x2 :: rest, v27, newslice => m_slices_Concat_string_string_L2 rest (v27 + 1) (newslice ++ x2)

def m_slices_Concat_string_string_L1 : List (List ByteArray) → Nat → Nat → Lp (List ByteArray) (Nat)
  | [], v11, size => Lp.brk size
  | x1 :: rest, v11, size => m_slices_Concat_string_string_L1 rest (v11 + 1) (size + x1.length)

def m_slices_Concat_string_string (slices : List (List ByteArray)) : List ByteArray :=
  (match m_slices_Concat_string_string_L1 slices 0 0 with
  | Lp.ret r => r
  | Lp.brk size' => (match m_slices_Concat_string_string_L2 slices 0 ((List.replicate size' (⟨#[]⟩ : ByteArray)).take 0) with
  | Lp.ret r => r
  | Lp.brk newslice4' => newslice4'))

def m_order_Needs_L1 (g : DGraph) : List ByteArray → Nat → (List Int) → Lp (List Int) ((List Int))
  | [], v31, out => Lp.brk out
  | x1 :: rest, v31, out => (bif decide ((0 : Int) ≤ (m_graph_Makes g x1)) then (bif (!(m_slices_Contains_int_int out (m_graph_Makes g x1))) then m_order_Needs_L1 g rest (v31 + 1) (out ++ [(m_graph_Makes g x1)]) else m_order_Needs_L1 g rest (v31 + 1) out) else m_order_Needs_L1 g rest (v31 + 1) out)

def m_order_Needs (g : DGraph) (edge : Int) : List Int :=
  (match m_order_Needs_L1 g (m_slices_Concat_string_string [(g.edges.getD edge.toNat default).ins, (g.edges.getD edge.toNat default).implicit, (g.edges.getD edge.toNat default).order]) 0 [] with
  | Lp.ret r => r
  | Lp.brk out' => out')

def m_order_Of_1 (edge : Int) (out : List Int) : Bool :=
  (m_slices_Contains_int_int out edge)

def m_order_Of_2 (edge : Int) (told : Int → Bool) : Bool :=
  (!(told edge))

def m_order_Of_L3 : List (List Int) → Nat → (List Int) → Lp (List Int × Int) (Bool × (List Int))
  | [], v38, cell2 => Lp.brk (false, cell2)
  | x3 :: rest, v38, cell2 => (bif (!(m_order_Of_1 ((v38 : Nat) : Int) cell2)) then (bif (!(m_slices_ContainsFunc_int_int x3 (fun z0 => m_order_Of_2 z0 (fun z0 => m_order_Of_1 z0 cell2)))) then Lp.brk (true, (cell2 ++ [((v38 : Nat) : Int)])) else m_order_Of_L3 rest (v38 + 1) cell2) else m_order_Of_L3 rest (v38 + 1) cell2)

def m_order_Of_L2 (g : DGraph) (row : List (List Int)) : Nat → (List Int) → Lp (List Int × Int) ((List Int))
  | 0, cell => Lp.brk cell
  | kf + 1, cell => (bif decide (((cell.length : Nat) : Int) < ((g.edges.length : Nat) : Int)) then (match m_order_Of_L3 row 0 cell with
  | Lp.ret r => Lp.ret r
  | Lp.brk (t', cell2') => (bif t' then m_order_Of_L2 g row kf cell2' else Lp.ret (([] : List Int), (1001 : Int)))) else Lp.brk cell)

def m_order_Of_L1 (g : DGraph) : List (List Int) → Nat → (List (List Int)) → Lp (List Int × Int) ((List (List Int)))
  | [], v20, row => Lp.brk row
  | x1 :: rest, v20, row => m_order_Of_L1 g rest (v20 + 1) (row.set v20 (m_order_Needs g ((v20 : Nat) : Int)))

def m_order_Of (g : DGraph) : List Int × Int :=
  (bif (!decide ((m_graph_Check g) = (0 : Int))) then (([] : List Int), (1000 : Int)) else (match m_order_Of_L1 g (List.replicate g.edges.length ([] : List Int)) 0 (List.replicate g.edges.length ([] : List Int)) with
  | Lp.ret r => r
  | Lp.brk row' => (match m_order_Of_L2 g row' (g.edges.length - 0 + 1) [] with
  | Lp.ret r => r
  | Lp.brk cell3' => (cell3', (0 : Int)))))

def m_want_Of_L3 : List Int → Nat → (List Bool) → Lp (List Bool × Int) ((List Bool))
  | [], v75, row3 => Lp.brk row3
  | x3 :: rest, v75, row3 => m_want_Of_L3 rest (v75 + 1) (row3.set x3.toNat true)

def m_want_Of_L2 (g : DGraph) : Nat → Int → (List Bool) → Lp (List Bool × Int) ((List Bool))
  | 0, k, row2 => Lp.brk row2
  | kf + 1, k, row2 => (bif decide ((0 : Int) ≤ k) then (bif (!(row2.getD (((m_order_Of g).1).getD k.toNat default).toNat default)) then m_want_Of_L2 g kf (k - (1 : Int)) row2 else (match m_want_Of_L3 (m_order_Needs g (((m_order_Of g).1).getD k.toNat default)) 0 row2 with
  | Lp.ret r => Lp.ret r
  | Lp.brk row3' => m_want_Of_L2 g kf (k - (1 : Int)) row3')) else Lp.brk row2)

def m_want_Of_L1 (g : DGraph) : List ByteArray → Nat → (List Bool) → Lp (List Bool × Int) ((List Bool))
  | [], v42, row => Lp.brk row
  | x1 :: rest, v42, row => (bif decide ((m_graph_Makes g x1) < (0 : Int)) then Lp.ret (([] : List Bool), (2001 : Int)) else m_want_Of_L1 g rest (v42 + 1) (row.set (m_graph_Makes g x1).toNat true))

def m_want_Of (g : DGraph) (names : List ByteArray) : List Bool × Int :=
  (bif (!decide ((m_order_Of g).2 = (0 : Int))) then (([] : List Bool), (2000 : Int)) else (bif (!(m_path_All names (8 : Int))) then (([] : List Bool), (2000 : Int)) else (match m_want_Of_L1 g (bif decide ((((bif decide (((names.length : Nat) : Int) = (0 : Int)) then g.defaults else names).length : Nat) : Int) = (0 : Int)) then (m_graph_Outs g) else (bif decide (((names.length : Nat) : Int) = (0 : Int)) then g.defaults else names)) 0 (List.replicate g.edges.length false) with
  | Lp.ret r => r
  | Lp.brk row' => (match m_want_Of_L2 g (((((((m_order_Of g).1).length : Nat) : Int) - (1 : Int)) + 1).toNat + 1) (((((m_order_Of g).1).length : Nat) : Int) - (1 : Int)) row' with
  | Lp.ret r => r
  | Lp.brk row4' => (row4', (0 : Int))))))

def m_law0_Num (e : Int) : Int :=
  e

def m_law20_given : DGraph :=
  (⟨[(⟨[(⟨#[108, 105, 98]⟩ : ByteArray)], [(⟨#[97, 46, 111]⟩ : ByteArray), (⟨#[98, 46, 111]⟩ : ByteArray)], [], [], (⟨#[97, 114]⟩ : ByteArray), false, (⟨#[]⟩ : ByteArray)⟩ : DEdge), (⟨[(⟨#[97, 46, 111]⟩ : ByteArray), (⟨#[97, 46, 100]⟩ : ByteArray)], [(⟨#[97, 46, 99]⟩ : ByteArray)], [(⟨#[97, 46, 104]⟩ : ByteArray)], [], (⟨#[99, 99, 32, 97]⟩ : ByteArray), true, (⟨#[116, 119, 111]⟩ : ByteArray)⟩ : DEdge), (⟨[(⟨#[98, 46, 111]⟩ : ByteArray)], [(⟨#[98, 46, 99]⟩ : ByteArray)], [], [(⟨#[97, 46, 111]⟩ : ByteArray)], (⟨#[99, 99, 32, 98]⟩ : ByteArray), false, (⟨#[116, 119, 111]⟩ : ByteArray)⟩ : DEdge)], [(⟨(⟨#[116, 119, 111]⟩ : ByteArray), (2 : Int)⟩ : DPool)], [(⟨#[108, 105, 98]⟩ : ByteArray)]⟩ : DGraph)

def m_law20_awake : Bool :=
  ((m_law0_SameBools ((m_want_Of (⟨[(⟨[(⟨#[108, 105, 98]⟩ : ByteArray)], [(⟨#[97, 46, 111]⟩ : ByteArray), (⟨#[98, 46, 111]⟩ : ByteArray)], [], [], (⟨#[97, 114]⟩ : ByteArray), false, (⟨#[]⟩ : ByteArray)⟩ : DEdge), (⟨[(⟨#[97, 46, 111]⟩ : ByteArray), (⟨#[97, 46, 100]⟩ : ByteArray)], [(⟨#[97, 46, 99]⟩ : ByteArray)], [(⟨#[97, 46, 104]⟩ : ByteArray)], [], (⟨#[99, 99, 32, 97]⟩ : ByteArray), true, (⟨#[116, 119, 111]⟩ : ByteArray)⟩ : DEdge), (⟨[(⟨#[98, 46, 111]⟩ : ByteArray)], [(⟨#[98, 46, 99]⟩ : ByteArray)], [], [(⟨#[97, 46, 111]⟩ : ByteArray)], (⟨#[99, 99, 32, 98]⟩ : ByteArray), false, (⟨#[116, 119, 111]⟩ : ByteArray)⟩ : DEdge)], [(⟨(⟨#[116, 119, 111]⟩ : ByteArray), (2 : Int)⟩ : DPool)], [(⟨#[108, 105, 98]⟩ : ByteArray)]⟩ : DGraph) []).1) [true, true, true]) && (decide ((m_law0_Num ((m_want_Of (⟨[(⟨[(⟨#[108, 105, 98]⟩ : ByteArray)], [(⟨#[97, 46, 111]⟩ : ByteArray), (⟨#[98, 46, 111]⟩ : ByteArray)], [], [], (⟨#[97, 114]⟩ : ByteArray), false, (⟨#[]⟩ : ByteArray)⟩ : DEdge), (⟨[(⟨#[97, 46, 111]⟩ : ByteArray), (⟨#[97, 46, 100]⟩ : ByteArray)], [(⟨#[97, 46, 99]⟩ : ByteArray)], [(⟨#[97, 46, 104]⟩ : ByteArray)], [], (⟨#[99, 99, 32, 97]⟩ : ByteArray), true, (⟨#[116, 119, 111]⟩ : ByteArray)⟩ : DEdge), (⟨[(⟨#[98, 46, 111]⟩ : ByteArray)], [(⟨#[98, 46, 99]⟩ : ByteArray)], [], [(⟨#[97, 46, 111]⟩ : ByteArray)], (⟨#[99, 99, 32, 98]⟩ : ByteArray), false, (⟨#[116, 119, 111]⟩ : ByteArray)⟩ : DEdge)], [(⟨(⟨#[116, 119, 111]⟩ : ByteArray), (2 : Int)⟩ : DPool)], [(⟨#[108, 105, 98]⟩ : ByteArray)]⟩ : DGraph) []).2)) = (0 : Int)) && ((m_law0_SameBools ((m_want_Of (⟨[(⟨[(⟨#[108, 105, 98]⟩ : ByteArray)], [(⟨#[97, 46, 111]⟩ : ByteArray), (⟨#[98, 46, 111]⟩ : ByteArray)], [], [], (⟨#[97, 114]⟩ : ByteArray), false, (⟨#[]⟩ : ByteArray)⟩ : DEdge), (⟨[(⟨#[97, 46, 111]⟩ : ByteArray), (⟨#[97, 46, 100]⟩ : ByteArray)], [(⟨#[97, 46, 99]⟩ : ByteArray)], [(⟨#[97, 46, 104]⟩ : ByteArray)], [], (⟨#[99, 99, 32, 97]⟩ : ByteArray), true, (⟨#[116, 119, 111]⟩ : ByteArray)⟩ : DEdge), (⟨[(⟨#[98, 46, 111]⟩ : ByteArray)], [(⟨#[98, 46, 99]⟩ : ByteArray)], [], [(⟨#[97, 46, 111]⟩ : ByteArray)], (⟨#[99, 99, 32, 98]⟩ : ByteArray), false, (⟨#[116, 119, 111]⟩ : ByteArray)⟩ : DEdge)], [(⟨(⟨#[116, 119, 111]⟩ : ByteArray), (2 : Int)⟩ : DPool)], [(⟨#[108, 105, 98]⟩ : ByteArray)]⟩ : DGraph) [(⟨#[97, 46, 100]⟩ : ByteArray)]).1) [false, true, false]) && (decide ((m_law0_Num ((m_want_Of (⟨[(⟨[(⟨#[108, 105, 98]⟩ : ByteArray)], [(⟨#[97, 46, 111]⟩ : ByteArray), (⟨#[98, 46, 111]⟩ : ByteArray)], [], [], (⟨#[97, 114]⟩ : ByteArray), false, (⟨#[]⟩ : ByteArray)⟩ : DEdge), (⟨[(⟨#[97, 46, 111]⟩ : ByteArray), (⟨#[97, 46, 100]⟩ : ByteArray)], [(⟨#[97, 46, 99]⟩ : ByteArray)], [(⟨#[97, 46, 104]⟩ : ByteArray)], [], (⟨#[99, 99, 32, 97]⟩ : ByteArray), true, (⟨#[116, 119, 111]⟩ : ByteArray)⟩ : DEdge), (⟨[(⟨#[98, 46, 111]⟩ : ByteArray)], [(⟨#[98, 46, 99]⟩ : ByteArray)], [], [(⟨#[97, 46, 111]⟩ : ByteArray)], (⟨#[99, 99, 32, 98]⟩ : ByteArray), false, (⟨#[116, 119, 111]⟩ : ByteArray)⟩ : DEdge)], [(⟨(⟨#[116, 119, 111]⟩ : ByteArray), (2 : Int)⟩ : DPool)], [(⟨#[108, 105, 98]⟩ : ByteArray)]⟩ : DGraph) [(⟨#[97, 46, 100]⟩ : ByteArray)]).2)) = (0 : Int)) && (decide ((m_law0_Num ((m_want_Of (⟨[(⟨[(⟨#[108, 105, 98]⟩ : ByteArray)], [(⟨#[97, 46, 111]⟩ : ByteArray), (⟨#[98, 46, 111]⟩ : ByteArray)], [], [], (⟨#[97, 114]⟩ : ByteArray), false, (⟨#[]⟩ : ByteArray)⟩ : DEdge), (⟨[(⟨#[97, 46, 111]⟩ : ByteArray), (⟨#[97, 46, 100]⟩ : ByteArray)], [(⟨#[97, 46, 99]⟩ : ByteArray)], [(⟨#[97, 46, 104]⟩ : ByteArray)], [], (⟨#[99, 99, 32, 97]⟩ : ByteArray), true, (⟨#[116, 119, 111]⟩ : ByteArray)⟩ : DEdge), (⟨[(⟨#[98, 46, 111]⟩ : ByteArray)], [(⟨#[98, 46, 99]⟩ : ByteArray)], [], [(⟨#[97, 46, 111]⟩ : ByteArray)], (⟨#[99, 99, 32, 98]⟩ : ByteArray), false, (⟨#[116, 119, 111]⟩ : ByteArray)⟩ : DEdge)], [(⟨(⟨#[116, 119, 111]⟩ : ByteArray), (2 : Int)⟩ : DPool)], [(⟨#[108, 105, 98]⟩ : ByteArray)]⟩ : DGraph) [(⟨#[97, 46, 99]⟩ : ByteArray)]).2)) = (2001 : Int)) && decide ((m_law0_Num ((m_want_Of (⟨[(⟨[(⟨#[108, 105, 98]⟩ : ByteArray)], [(⟨#[97, 46, 111]⟩ : ByteArray), (⟨#[98, 46, 111]⟩ : ByteArray)], [], [], (⟨#[97, 114]⟩ : ByteArray), false, (⟨#[]⟩ : ByteArray)⟩ : DEdge), (⟨[(⟨#[97, 46, 111]⟩ : ByteArray), (⟨#[97, 46, 100]⟩ : ByteArray)], [(⟨#[97, 46, 99]⟩ : ByteArray)], [(⟨#[97, 46, 104]⟩ : ByteArray)], [], (⟨#[99, 99, 32, 97]⟩ : ByteArray), true, (⟨#[116, 119, 111]⟩ : ByteArray)⟩ : DEdge), (⟨[(⟨#[98, 46, 111]⟩ : ByteArray)], [(⟨#[98, 46, 99]⟩ : ByteArray)], [], [(⟨#[97, 46, 111]⟩ : ByteArray)], (⟨#[99, 99, 32, 98]⟩ : ByteArray), false, (⟨#[116, 119, 111]⟩ : ByteArray)⟩ : DEdge)], [(⟨(⟨#[116, 119, 111]⟩ : ByteArray), (2 : Int)⟩ : DPool)], [(⟨#[108, 105, 98]⟩ : ByteArray)]⟩ : DGraph) [(⟨#[47, 97]⟩ : ByteArray)]).2)) = (2000 : Int)))))))

def m_law20_WantForms (which : Int) : Bool :=
  (!(!m_law20_awake) && (decide ((m_law0_Num ((m_want_Of (⟨[(⟨[(⟨#[108, 105, 98]⟩ : ByteArray)], [(⟨#[97, 46, 111]⟩ : ByteArray), (⟨#[98, 46, 111]⟩ : ByteArray)], [], [], (⟨#[97, 114]⟩ : ByteArray), false, (⟨#[]⟩ : ByteArray)⟩ : DEdge), (⟨[(⟨#[97, 46, 111]⟩ : ByteArray), (⟨#[97, 46, 100]⟩ : ByteArray)], [(⟨#[97, 46, 99]⟩ : ByteArray)], [(⟨#[97, 46, 104]⟩ : ByteArray)], [(⟨#[108, 105, 98]⟩ : ByteArray)], (⟨#[99, 99, 32, 97]⟩ : ByteArray), true, (⟨#[116, 119, 111]⟩ : ByteArray)⟩ : DEdge), (⟨[(⟨#[98, 46, 111]⟩ : ByteArray)], [(⟨#[98, 46, 99]⟩ : ByteArray)], [], [(⟨#[97, 46, 111]⟩ : ByteArray)], (⟨#[99, 99, 32, 98]⟩ : ByteArray), false, (⟨#[116, 119, 111]⟩ : ByteArray)⟩ : DEdge)], [(⟨(⟨#[116, 119, 111]⟩ : ByteArray), (2 : Int)⟩ : DPool)], [(⟨#[108, 105, 98]⟩ : ByteArray)]⟩ : DGraph) []).2)) = (2000 : Int)) && (decide ((m_law0_Num ((m_want_Of (⟨[(⟨[(⟨#[108, 105, 98]⟩ : ByteArray)], [(⟨#[97, 46, 111]⟩ : ByteArray), (⟨#[98, 46, 111]⟩ : ByteArray)], [], [], (⟨#[97, 114]⟩ : ByteArray), false, (⟨#[]⟩ : ByteArray)⟩ : DEdge), (⟨[(⟨#[97, 46, 111]⟩ : ByteArray), (⟨#[97, 46, 100]⟩ : ByteArray)], [(⟨#[97, 46, 99]⟩ : ByteArray)], [(⟨#[97, 46, 104]⟩ : ByteArray)], [], (⟨#[99, 99, 32, 97]⟩ : ByteArray), true, (⟨#[116, 119, 111]⟩ : ByteArray)⟩ : DEdge), (⟨[(⟨#[108, 105, 98]⟩ : ByteArray)], [(⟨#[98, 46, 99]⟩ : ByteArray)], [], [(⟨#[97, 46, 111]⟩ : ByteArray)], (⟨#[99, 99, 32, 98]⟩ : ByteArray), false, (⟨#[116, 119, 111]⟩ : ByteArray)⟩ : DEdge)], [(⟨(⟨#[116, 119, 111]⟩ : ByteArray), (2 : Int)⟩ : DPool)], [(⟨#[108, 105, 98]⟩ : ByteArray)]⟩ : DGraph) []).2)) = (2000 : Int)) && (decide ((m_law0_Num ((m_want_Of (⟨[(⟨[(⟨#[108, 105, 98]⟩ : ByteArray)], [(⟨#[97, 46, 111]⟩ : ByteArray), (⟨#[98, 46, 111]⟩ : ByteArray)], [], [], (⟨#[97, 114]⟩ : ByteArray), false, (⟨#[]⟩ : ByteArray)⟩ : DEdge), (⟨[(⟨#[97, 46, 111]⟩ : ByteArray), (⟨#[97, 46, 100]⟩ : ByteArray)], [(⟨#[97, 46, 99]⟩ : ByteArray)], [(⟨#[97, 46, 104]⟩ : ByteArray)], [], (⟨#[99, 99, 32, 97]⟩ : ByteArray), true, (⟨#[116, 119, 111]⟩ : ByteArray)⟩ : DEdge), (⟨[(⟨#[98, 46, 111]⟩ : ByteArray)], [(⟨#[98, 46, 99]⟩ : ByteArray)], [], [(⟨#[97, 46, 111]⟩ : ByteArray)], (⟨#[99, 99, 32, 98]⟩ : ByteArray), false, (⟨#[116, 119, 111]⟩ : ByteArray)⟩ : DEdge)], [(⟨(⟨#[116, 119, 111]⟩ : ByteArray), (2 : Int)⟩ : DPool)], [(⟨#[108, 105, 98]⟩ : ByteArray)]⟩ : DGraph) [(⟨#[108, 105, 98]⟩ : ByteArray), ([(⟨#[]⟩ : ByteArray), (⟨#[46, 47, 108, 105, 98]⟩ : ByteArray), (⟨#[65]⟩ : ByteArray), (⟨#[47, 108, 105, 98]⟩ : ByteArray)].getD (bitAV .and .i64 which (3 : Int)).toNat default)]).2)) = (2000 : Int)) && (decide ((m_law0_Num ((m_want_Of (⟨[(⟨[(⟨#[108, 105, 98]⟩ : ByteArray)], [(⟨#[97, 46, 111]⟩ : ByteArray), (⟨#[98, 46, 111]⟩ : ByteArray)], [], [], (⟨#[97, 114]⟩ : ByteArray), false, (⟨#[]⟩ : ByteArray)⟩ : DEdge), (⟨[(⟨#[97, 46, 111]⟩ : ByteArray), (⟨#[97, 46, 100]⟩ : ByteArray)], [(⟨#[97, 46, 99]⟩ : ByteArray)], [(⟨#[97, 46, 104]⟩ : ByteArray)], [], (⟨#[99, 99, 32, 97]⟩ : ByteArray), true, (⟨#[116, 119, 111]⟩ : ByteArray)⟩ : DEdge), (⟨[(⟨#[98, 46, 111]⟩ : ByteArray)], [(⟨#[98, 46, 99]⟩ : ByteArray)], [], [(⟨#[97, 46, 111]⟩ : ByteArray)], (⟨#[99, 99, 32, 98]⟩ : ByteArray), false, (⟨#[116, 119, 111]⟩ : ByteArray)⟩ : DEdge)], [(⟨(⟨#[116, 119, 111]⟩ : ByteArray), (2 : Int)⟩ : DPool)], [(⟨#[108, 105, 98]⟩ : ByteArray)]⟩ : DGraph) [(⟨#[108, 105, 98]⟩ : ByteArray), (⟨#[108, 105, 98]⟩ : ByteArray), (⟨#[108, 105, 98]⟩ : ByteArray), (⟨#[108, 105, 98]⟩ : ByteArray), (⟨#[108, 105, 98]⟩ : ByteArray), (⟨#[108, 105, 98]⟩ : ByteArray), (⟨#[108, 105, 98]⟩ : ByteArray), (⟨#[108, 105, 98]⟩ : ByteArray), (⟨#[108, 105, 98]⟩ : ByteArray)]).2)) = (2000 : Int)) && (decide ((m_law0_Num ((m_want_Of (⟨[(⟨[(⟨#[108, 105, 98]⟩ : ByteArray)], [(⟨#[97, 46, 111]⟩ : ByteArray), (⟨#[98, 46, 111]⟩ : ByteArray)], [], [], (⟨#[97, 114]⟩ : ByteArray), false, (⟨#[]⟩ : ByteArray)⟩ : DEdge), (⟨[(⟨#[97, 46, 111]⟩ : ByteArray), (⟨#[97, 46, 100]⟩ : ByteArray)], [(⟨#[97, 46, 99]⟩ : ByteArray)], [(⟨#[97, 46, 104]⟩ : ByteArray)], [], (⟨#[99, 99, 32, 97]⟩ : ByteArray), true, (⟨#[116, 119, 111]⟩ : ByteArray)⟩ : DEdge), (⟨[(⟨#[98, 46, 111]⟩ : ByteArray)], [(⟨#[98, 46, 99]⟩ : ByteArray)], [], [(⟨#[97, 46, 111]⟩ : ByteArray)], (⟨#[99, 99, 32, 98]⟩ : ByteArray), false, (⟨#[116, 119, 111]⟩ : ByteArray)⟩ : DEdge)], [(⟨(⟨#[116, 119, 111]⟩ : ByteArray), (2 : Int)⟩ : DPool)], [(⟨#[108, 105, 98]⟩ : ByteArray)]⟩ : DGraph) [(⟨#[108, 105, 98]⟩ : ByteArray), (⟨#[110, 111, 110, 101]⟩ : ByteArray)]).2)) = (2001 : Int)) && (decide ((m_law0_Num ((m_want_Of (⟨[(⟨[(⟨#[108, 105, 98]⟩ : ByteArray)], [(⟨#[97, 46, 111]⟩ : ByteArray), (⟨#[98, 46, 111]⟩ : ByteArray)], [], [], (⟨#[97, 114]⟩ : ByteArray), false, (⟨#[]⟩ : ByteArray)⟩ : DEdge), (⟨[(⟨#[97, 46, 111]⟩ : ByteArray), (⟨#[97, 46, 100]⟩ : ByteArray)], [(⟨#[97, 46, 99]⟩ : ByteArray)], [(⟨#[97, 46, 104]⟩ : ByteArray)], [], (⟨#[99, 99, 32, 97]⟩ : ByteArray), true, (⟨#[116, 119, 111]⟩ : ByteArray)⟩ : DEdge), (⟨[(⟨#[98, 46, 111]⟩ : ByteArray)], [(⟨#[98, 46, 99]⟩ : ByteArray)], [], [(⟨#[97, 46, 111]⟩ : ByteArray)], (⟨#[99, 99, 32, 98]⟩ : ByteArray), false, (⟨#[116, 119, 111]⟩ : ByteArray)⟩ : DEdge)], [(⟨(⟨#[116, 119, 111]⟩ : ByteArray), (2 : Int)⟩ : DPool)], [(⟨#[97, 46, 99]⟩ : ByteArray)]⟩ : DGraph) []).2)) = (2001 : Int)) && ((m_law0_SameBools ((m_want_Of (⟨[(⟨[(⟨#[108, 105, 98]⟩ : ByteArray)], [(⟨#[97, 46, 111]⟩ : ByteArray), (⟨#[98, 46, 111]⟩ : ByteArray)], [], [], (⟨#[97, 114]⟩ : ByteArray), false, (⟨#[]⟩ : ByteArray)⟩ : DEdge), (⟨[(⟨#[97, 46, 111]⟩ : ByteArray), (⟨#[97, 46, 100]⟩ : ByteArray)], [(⟨#[97, 46, 99]⟩ : ByteArray)], [(⟨#[97, 46, 104]⟩ : ByteArray)], [], (⟨#[99, 99, 32, 97]⟩ : ByteArray), true, (⟨#[116, 119, 111]⟩ : ByteArray)⟩ : DEdge), (⟨[(⟨#[98, 46, 111]⟩ : ByteArray)], [(⟨#[98, 46, 99]⟩ : ByteArray)], [], [(⟨#[97, 46, 111]⟩ : ByteArray)], (⟨#[99, 99, 32, 98]⟩ : ByteArray), false, (⟨#[116, 119, 111]⟩ : ByteArray)⟩ : DEdge)], [(⟨(⟨#[116, 119, 111]⟩ : ByteArray), (2 : Int)⟩ : DPool)], [(⟨#[97, 46, 99]⟩ : ByteArray)]⟩ : DGraph) [(⟨#[98, 46, 111]⟩ : ByteArray)]).1) [false, true, true]) && decide ((m_law0_Num ((m_want_Of (⟨[(⟨[(⟨#[108, 105, 98]⟩ : ByteArray)], [(⟨#[97, 46, 111]⟩ : ByteArray), (⟨#[98, 46, 111]⟩ : ByteArray)], [], [], (⟨#[97, 114]⟩ : ByteArray), false, (⟨#[]⟩ : ByteArray)⟩ : DEdge), (⟨[(⟨#[97, 46, 111]⟩ : ByteArray), (⟨#[97, 46, 100]⟩ : ByteArray)], [(⟨#[97, 46, 99]⟩ : ByteArray)], [(⟨#[97, 46, 104]⟩ : ByteArray)], [], (⟨#[99, 99, 32, 97]⟩ : ByteArray), true, (⟨#[116, 119, 111]⟩ : ByteArray)⟩ : DEdge), (⟨[(⟨#[98, 46, 111]⟩ : ByteArray)], [(⟨#[98, 46, 99]⟩ : ByteArray)], [], [(⟨#[97, 46, 111]⟩ : ByteArray)], (⟨#[99, 99, 32, 98]⟩ : ByteArray), false, (⟨#[116, 119, 111]⟩ : ByteArray)⟩ : DEdge)], [(⟨(⟨#[116, 119, 111]⟩ : ByteArray), (2 : Int)⟩ : DPool)], [(⟨#[97, 46, 99]⟩ : ByteArray)]⟩ : DGraph) [(⟨#[98, 46, 111]⟩ : ByteArray)]).2)) = (0 : Int))))))))))

end
end Go.Lift
namespace Go.Lift
noncomputable section
open Go Go.RowKit
set_option linter.unusedSimpArgs false
set_option linter.unusedVariables false
set_option linter.unusedSectionVars false
set_option maxRecDepth 20000
theorem szL_len {α : Type} {sz : α → Nat} (h : ∀ x, 1 ≤ sz x) (xs : List α) : xs.length + 1 ≤ szL sz xs := by
  unfold szL
  induction xs with
  | nil => simp
  | cons x xs ih => have := h x; simp only [List.map_cons, List.sum_cons, List.length_cons]; omega
theorem szL_mem {α : Type} {sz : α → Nat} {x : α} : ∀ {xs : List α}, x ∈ xs → sz x + 1 ≤ szL sz xs
  | [], h => by simp at h
  | y :: ys, h => by
    unfold szL
    simp only [List.map_cons, List.sum_cons]
    rcases List.mem_cons.1 h with rfl | h
    · omega
    · have := szL_mem (sz := sz) h; unfold szL at this; omega
theorem szL_getD {α : Type} [Inhabited α] {sz : α → Nat} {xs : List α} {i : Nat} (h : i < xs.length) : sz (xs.getD i default) + 1 ≤ szL sz xs :=
  szL_mem (List.mem_of_getElem? (getD_some h))
theorem szL_str (xs : List ByteArray) : xs.length + 1 ≤ szL (fun s : ByteArray => s.size + 1) xs := szL_len (fun _ => Nat.le_add_left 1 _) xs
theorem DEdge.sz_eq (d : DEdge) : d.sz = szL (fun s : ByteArray => s.size + 1) d.outs + szL (fun s : ByteArray => s.size + 1) d.ins + szL (fun s : ByteArray => s.size + 1) d.implicit + szL (fun s : ByteArray => s.size + 1) d.order + (d.command.size + 1) + 1 + (d.pool.size + 1) + 1 := rfl
theorem needsN_sz (g : DGraph) (i : Int) : needsN g i ≤ g.sz := by
  unfold needsN
  by_cases h : i.toNat < g.edges.length
  · have h1 := szL_getD (sz := DEdge.sz) h
    have h2 := g.sz_edges
    generalize g.edges.getD i.toNat default = e at *
    have a := szL_str e.ins; have b := szL_str e.implicit; have c := szL_str e.order
    rw [DEdge.sz_eq] at h1
    omega
  · rw [List.getD_eq_getElem?_getD, List.getElem?_eq_none (by omega)]
    show (0 + 0 + 0 : Nat) ≤ _
    omega
theorem outsN_sz' : ∀ es : List DEdge, outsN es ≤ szL DEdge.sz es
  | [] => Nat.zero_le _
  | e :: es => by
    have := outsN_sz' es
    have a := szL_str e.outs; have b := e.sz_outs
    unfold szL at *
    simp only [outsN, List.map_cons, List.sum_cons] at *
    omega
theorem outsN_sz (g : DGraph) : outsN g.edges ≤ g.sz := Nat.le_trans (outsN_sz' _) g.sz_edges
theorem and_le (x m : Int) (h0 : 0 ≤ m) (hm : m < 4611686018427387904) : 0 ≤ bitAV .and .i64 x m ∧ bitAV .and .i64 x m ≤ m := by
  obtain ⟨n, rfl⟩ : ∃ n : Nat, m = ((n : Nat) : Int) := ⟨m.toNat, by omega⟩
  have h : (BitVec.ofInt IntKind.i64.bits x &&& BitVec.ofInt IntKind.i64.bits ((n : Nat) : Int)).toNat ≤ n := by
    rw [BitVec.toNat_and]
    refine Nat.le_trans Nat.and_le_right ?_
    rw [BitVec.ofInt_natCast, BitVec.toNat_ofNat]
    exact Nat.mod_le _ _
  unfold bitAV
  simp only
  rw [wrap_i64 (by omega) (by omega)]
  omega
end
end Go.Lift
namespace Go.Lift
noncomputable section
open Go Go.RowKit
set_option linter.unusedSimpArgs false
set_option linter.unusedVariables false
set_option linter.unusedSectionVars false
set_option maxRecDepth 20000
def Lp.val {α : Type} : Lp α α → α
  | .ret a => a
  | .brk a => a
theorem concat_L1 : ∀ (xs : List (List ByteArray)) (i n : Nat), m_slices_Concat_string_string_L1 xs i n = Lp.brk (n + xs.flatten.length)
  | [], i, n => by simp [m_slices_Concat_string_string_L1]
  | x :: xs, i, n => by rw [m_slices_Concat_string_string_L1, concat_L1 xs]; simp [Nat.add_assoc]
theorem concat_L2 : ∀ (xs : List (List ByteArray)) (i : Nat) (out : List ByteArray), m_slices_Concat_string_string_L2 xs i out = Lp.brk (out ++ xs.flatten)
  | [], i, n => by simp [m_slices_Concat_string_string_L2]
  | x :: xs, i, n => by rw [m_slices_Concat_string_string_L2, concat_L2 xs]; simp [List.append_assoc]
theorem concat_eq (xs : List (List ByteArray)) : m_slices_Concat_string_string xs = xs.flatten := by
  simp only [m_slices_Concat_string_string, concat_L1, concat_L2, List.take_zero, List.nil_append]
theorem check_len {g : DGraph} (h : (!decide ((m_graph_Check g) = (0 : Int))) = false) : g.edges.length ≤ 16 := by
  have h1 : m_graph_Check g = 0 := by simpa using h
  unfold m_graph_Check checkS at h1
  split at h1
  · simp at h1
  · rename_i hm
    have hm' : mayG (gOf g) = true := by simpa using hm
    simp only [mayG, Bool.and_eq_true, decide_eq_true_eq, gOf, List.length_map] at hm'
    have := hm'.2.1; omega

theorem idxE_L1 (f : DEdge → Bool) : ∀ (xs : List DEdge) (i : Nat), m_slices_IndexFunc_api_Edge_api_Edge_L1 f xs i = Lp.brk () ∨ ∃ r : Nat, m_slices_IndexFunc_api_Edge_api_Edge_L1 f xs i = Lp.ret (r : Int) ∧ i ≤ r ∧ r < i + xs.length
  | [], i => Or.inl rfl
  | x :: xs, i => by
    rw [m_slices_IndexFunc_api_Edge_api_Edge_L1]
    cases f x
    · simp only [cond_false]
      rcases idxE_L1 f xs (i + 1) with h | ⟨r, h, h1, h2⟩
      · exact Or.inl h
      · exact Or.inr ⟨r, h, by omega, by simp only [List.length_cons]; omega⟩
    · exact Or.inr ⟨i, rfl, Nat.le_refl _, by simp⟩
theorem makes_lt (g : DGraph) (s : ByteArray) : m_graph_Makes g s < (g.edges.length : Int) ∧ -1 ≤ m_graph_Makes g s := by
  unfold m_graph_Makes m_slices_IndexFunc_api_Edge_api_Edge
  rcases idxE_L1 (fun z0 => m_graph_Makes_1 z0 s) g.edges 0 with h | ⟨r, h, h1, h2⟩
  · rw [h]; exact ⟨by show (-1 : Int) < _; omega, Int.le_refl _⟩
  · rw [h]; exact ⟨by show (r : Int) < _; omega, by show (-1 : Int) ≤ r; omega⟩
def inG (g : DGraph) (k : Int) : Prop := 0 ≤ k ∧ k.toNat < g.edges.length
theorem needs_L1 (g : DGraph) : ∀ (xs : List ByteArray) (i : Nat) (out : List Int), (∀ k ∈ out, inG g k) → ∃ out', m_order_Needs_L1 g xs i out = Lp.brk out' ∧ (∀ k ∈ out', inG g k) ∧ out'.length ≤ out.length + xs.length
  | [], i, out, h => ⟨out, rfl, h, by simp⟩
  | x :: xs, i, out, h => by
    rw [m_order_Needs_L1]
    cases hc : decide ((0 : Int) ≤ m_graph_Makes g x)
    · simp only [cond_false]
      obtain ⟨o, e, a, b⟩ := needs_L1 g xs (i + 1) out h
      exact ⟨o, e, a, by simp only [List.length_cons]; omega⟩
    · simp only [cond_true]
      have hm := of_decide_eq_true hc
      have hl := makes_lt g x
      cases (!(m_slices_Contains_int_int out (m_graph_Makes g x)))
      · simp only [cond_false]
        obtain ⟨o, e, a, b⟩ := needs_L1 g xs (i + 1) out h
        exact ⟨o, e, a, by simp only [List.length_cons]; omega⟩
      · simp only [cond_true]
        obtain ⟨o, e, a, b⟩ := needs_L1 g xs (i + 1) (out ++ [m_graph_Makes g x]) (by
          intro k hk
          rcases List.mem_append.1 hk with hk | hk
          · exact h k hk
          · rw [List.mem_singleton.1 hk]; exact ⟨hm, by omega⟩)
        exact ⟨o, e, a, by simp only [List.length_cons, List.length_append, List.length_nil] at b ⊢; omega⟩
theorem needs_mem {g : DGraph} {e k : Int} (h : k ∈ m_order_Needs g e) : 0 ≤ k ∧ k.toNat < g.edges.length := by
  unfold m_order_Needs at h
  obtain ⟨o, e1, a, _⟩ := needs_L1 g (m_slices_Concat_string_string [(g.edges.getD e.toNat default).ins, (g.edges.getD e.toNat default).implicit, (g.edges.getD e.toNat default).order]) 0 [] (by simp)
  rw [e1] at h
  exact a k h
theorem of_L3 (g : DGraph) : ∀ (xs : List (List Int)) (i : Nat) (c : List Int), i + xs.length ≤ g.edges.length → (∀ k ∈ c, inG g k) → ∃ t c', m_order_Of_L3 xs i c = Lp.brk (t, c') ∧ (∀ k ∈ c', inG g k) ∧ c'.length ≤ c.length + 1
  | [], i, c, _, h => ⟨_, _, rfl, h, by omega⟩
  | x :: xs, i, c, hl, h => by
    simp only [List.length_cons] at hl
    rw [m_order_Of_L3]
    cases (!(m_order_Of_1 ((i : Nat) : Int) c))
    · exact of_L3 g xs (i + 1) c (by omega) h
    · simp only [cond_true]
      cases (!(m_slices_ContainsFunc_int_int x (fun z0 => m_order_Of_2 z0 (fun z0 => m_order_Of_1 z0 c))))
      · exact of_L3 g xs (i + 1) c (by omega) h
      · refine ⟨_, _, rfl, ?_, by simp⟩
        intro k hk
        rcases List.mem_append.1 hk with hk | hk
        · exact h k hk
        · rw [List.mem_singleton.1 hk]; exact ⟨by omega, by omega⟩
theorem of_L2 (g : DGraph) (row : List (List Int)) (hr : row.length ≤ g.edges.length) : ∀ (f : Nat) (c : List Int), (∀ k ∈ c, inG g k) → (∃ c', m_order_Of_L2 g row f c = Lp.brk c' ∧ (∀ k ∈ c', inG g k) ∧ (c.length ≤ g.edges.length → c'.length ≤ g.edges.length)) ∨ m_order_Of_L2 g row f c = Lp.ret (([] : List Int), (1001 : Int))
  | 0, c, h => Or.inl ⟨c, rfl, h, id⟩
  | f + 1, c, h => by
    rw [m_order_Of_L2]
    cases hd : decide (((c.length : Nat) : Int) < ((g.edges.length : Nat) : Int))
    · exact Or.inl ⟨c, rfl, h, id⟩
    · have hd' := of_decide_eq_true hd
      obtain ⟨t, c', e, a, l⟩ := of_L3 g row 0 c (by omega) h
      simp only [cond_true, e]
      cases t
      · exact Or.inr rfl
      · rcases of_L2 g row hr f c' a with ⟨c2, h1, h2, h3⟩ | h1
        · exact Or.inl ⟨c2, h1, h2, fun _ => h3 (by omega)⟩
        · exact Or.inr h1
theorem of_L1 (g : DGraph) : ∀ (xs : List (List Int)) (i : Nat) (row : List (List Int)), ∃ row', m_order_Of_L1 g xs i row = Lp.brk row' ∧ row'.length = row.length
  | [], i, row => ⟨_, rfl, rfl⟩
  | x :: xs, i, row => by
    rw [m_order_Of_L1]
    obtain ⟨r, e, a⟩ := of_L1 g xs (i + 1) (row.set i (m_order_Needs g ((i : Nat) : Int)))
    exact ⟨r, e, by simpa using a⟩
theorem of_mem {g : DGraph} {k : Int} (h : k ∈ (m_order_Of g).1) : 0 ≤ k ∧ k.toNat < g.edges.length := by
  unfold m_order_Of at h
  cases hc : (!decide ((m_graph_Check g) = (0 : Int)))
  · rw [hc] at h
    simp only [cond_false] at h
    obtain ⟨row, e, a⟩ := of_L1 g (List.replicate g.edges.length ([] : List Int)) 0 (List.replicate g.edges.length ([] : List Int))
    rw [e] at h
    simp only at h
    rcases of_L2 g row (by rw [a]; simp) (g.edges.length - 0 + 1) [] (by simp) with ⟨c, e2, b, _⟩ | e2
    · rw [e2] at h; exact b k h
    · rw [e2] at h; simp at h
  · rw [hc] at h; simp at h
theorem of_ok {g : DGraph} (h : (!decide ((m_order_Of g).2 = (0 : Int))) = false) : g.edges.length ≤ 16 ∧ (m_order_Of g).1.length ≤ g.edges.length := by
  have h1 : (m_order_Of g).2 = 0 := by simpa using h
  clear h
  unfold m_order_Of at h1 ⊢
  cases hc : (!decide ((m_graph_Check g) = (0 : Int)))
  · rw [hc] at h1
    simp only [cond_false] at h1 ⊢
    refine ⟨check_len hc, ?_⟩
    obtain ⟨row, e, a⟩ := of_L1 g (List.replicate g.edges.length ([] : List Int)) 0 (List.replicate g.edges.length ([] : List Int))
    rw [e] at h1 ⊢
    simp only at h1 ⊢
    rcases of_L2 g row (by rw [a]; simp) (g.edges.length - 0 + 1) [] (by simp) with ⟨c, e2, b, l⟩ | e2
    · rw [e2]; exact l (by simp)
    · rw [e2] at h1; simp at h1
  · rw [hc] at h1; simp at h1
theorem order_get {g : DGraph} {k : Int} (h0 : 0 ≤ k) (h : k.toNat < (m_order_Of g).1.length) : 0 ≤ ((m_order_Of g).1).getD k.toNat default ∧ (((m_order_Of g).1).getD k.toNat default).toNat < g.edges.length := by
  refine of_mem (k := ((m_order_Of g).1).getD k.toNat default) ?_
  rw [List.getD_eq_getElem?_getD, List.getElem?_eq_getElem h]
  exact List.getElem_mem h
end
end Go.Lift
namespace Go.Lift
noncomputable section
open Go Go.RowKit
set_option linter.unusedSimpArgs false
set_option linter.unusedVariables false
set_option linter.unusedSectionVars false
set_option maxRecDepth 20000
theorem lp_idx {α : Type} {p : α → Bool} {L : List α → Nat → Lp Int Unit} (h0 : ∀ i, L [] i = Lp.brk ()) (h1 : ∀ x r i, L (x :: r) i = bif p x then Lp.ret ((i : Nat) : Int) else L r (i + 1)) : ∀ (l : List α) (i : Nat), L l i = match l.findIdx? p with
    | some j => Lp.ret (((i + j : Nat)) : Int)
    | none => Lp.brk ()
  | [], i => by rw [h0]; rfl
  | x :: r, i => by
    rw [h1, lp_idx h0 h1 r (i + 1), List.findIdx?_cons]
    cases p x
    · simp only [cond_false, Bool.false_eq_true, if_false]
      cases r.findIdx? p with
      | none => rfl
      | some j => simp only [Option.map_some]; congr 2; omega
    · rfl
end
end Go.Lift
namespace Go.Lift
noncomputable section
open Go Go.RowKit
set_option linter.unusedSimpArgs false
set_option linter.unusedVariables false
set_option linter.unusedSectionVars false
set_option maxRecDepth 20000
end
end Go.Lift
namespace Go.Lift
noncomputable section
open Go Go.RowKit
set_option linter.unusedSimpArgs false
set_option linter.unusedVariables false
set_option linter.unusedSectionVars false
set_option maxRecDepth 20000
end
end Go.Lift
namespace Go.Lift
noncomputable section
open Go Go.RowKit
set_option linter.unusedSimpArgs false
set_option linter.unusedVariables false
set_option linter.unusedSectionVars false
set_option maxRecDepth 20000
theorem idx_val {α : Type} {p : α → Bool} {L : List α → Nat → Lp Int Unit} (h0 : ∀ i, L [] i = Lp.brk ()) (h1 : ∀ x r i, L (x :: r) i = bif p x then Lp.ret ((i : Nat) : Int) else L r (i + 1)) (l : List α) :
    (match L l 0 with | Lp.ret r => r | Lp.brk () => (-1 : Int)) = idxS p l := by
  rw [lp_idx h0 h1 l 0]; unfold idxS
  cases l.findIdx? p with
  | none => rfl
  | some j => simp
theorem idxS_nonneg {α : Type} (p : α → Bool) (l : List α) : decide ((0 : Int) ≤ idxS p l) = l.any p := by
  unfold idxS
  cases h : l.findIdx? p with
  | none =>
    have := List.findIdx?_eq_none_iff.1 h
    rw [show l.any p = false from by simpa using this]; rfl
  | some j =>
    obtain ⟨hj, h2, _⟩ := List.findIdx?_eq_some_iff_getElem.1 h
    rw [List.any_eq_true.2 ⟨l[j], List.getElem_mem hj, h2⟩]
    simp
theorem contains_int (xs : List Int) (v : Int) : m_slices_Contains_int_int xs v = xs.contains v := by
  unfold m_slices_Contains_int_int m_slices_Index_int_int
  refine (congrArg (fun z => decide ((0 : Int) ≤ z)) (idx_val (p := fun y => decide (v = y)) (fun _ => rfl) (fun _ _ _ => rfl) xs)).trans ?_
  rw [idxS_nonneg]
  rw [Bool.eq_iff_iff]; simp
theorem containsFunc_int (xs : List Int) (f : Int → Bool) : m_slices_ContainsFunc_int_int xs f = xs.any f := by
  unfold m_slices_ContainsFunc_int_int m_slices_IndexFunc_int_int
  exact (congrArg (fun z => decide ((0 : Int) ≤ z)) (idx_val (p := f) (fun _ => rfl) (fun _ _ _ => rfl) xs)).trans (idxS_nonneg _ _)
/-! what comes first -/
def freeP (g : DGraph) (out : List Int) (i : Nat) : Bool := !(out.contains ((i : Nat) : Int)) && (m_order_Needs g ((i : Nat) : Int)).all fun k => out.contains k
def nextP (g : DGraph) (out : List Int) : Option Nat := (List.range g.edges.length).find? (freeP g out)
def ordF (g : DGraph) : Nat → List Int → Option (List Int)
  | 0, out => some out
  | f + 1, out => match nextP g out with
    | some i => ordF g f (out ++ [((i : Nat) : Int)])
    | none => none
theorem of_L3_eq (g : DGraph) (c : List Int) : ∀ (l i : Nat), m_order_Of_L3 ((List.range' i l).map fun i => m_order_Needs g ((i : Nat) : Int)) i c = match (List.range' i l).find? (freeP g c) with
    | some j => Lp.brk (true, c ++ [((j : Nat) : Int)])
    | none => Lp.brk (false, c)
  | 0, i => rfl
  | l + 1, i => by
    rw [List.range'_succ, List.map_cons, m_order_Of_L3, of_L3_eq g c l (i + 1), List.find?_cons]
    have e : (!(m_order_Of_1 ((i : Nat) : Int) c) && !(m_slices_ContainsFunc_int_int (m_order_Needs g ((i : Nat) : Int)) (fun z0 => m_order_Of_2 z0 (fun z0 => m_order_Of_1 z0 c)))) = freeP g c i := by
      unfold freeP m_order_Of_1 m_order_Of_2
      rw [containsFunc_int]
      simp only [contains_int]
      congr 1
      rw [Bool.eq_iff_iff]; simp
    rw [← e]
    cases (!(m_order_Of_1 ((i : Nat) : Int) c)) <;> cases (!(m_slices_ContainsFunc_int_int (m_order_Needs g ((i : Nat) : Int)) (fun z0 => m_order_Of_2 z0 (fun z0 => m_order_Of_1 z0 c)))) <;> rfl
theorem of_L1_eq (g : DGraph) : ∀ (xs : List (List Int)) (i : Nat) (row : List (List Int)), i + xs.length ≤ row.length → ∃ row', m_order_Of_L1 g xs i row = Lp.brk row' ∧ row'.length = row.length ∧ ∀ j, row'[j]? = if i ≤ j ∧ j < i + xs.length then some (m_order_Needs g ((j : Nat) : Int)) else row[j]?
  | [], i, row, h => ⟨row, rfl, rfl, fun j => by rw [if_neg (by simp)]⟩
  | x :: xs, i, row, h => by
    simp only [List.length_cons] at h
    obtain ⟨r, e1, e2, e3⟩ := of_L1_eq g xs (i + 1) (row.set i (m_order_Needs g ((i : Nat) : Int))) (by simp; omega)
    refine ⟨r, by rw [m_order_Of_L1]; exact e1, by simpa using e2, fun j => ?_⟩
    rw [e3, List.getElem?_set, List.length_cons]
    by_cases h1 : i = j
    · subst h1; rw [if_neg (by omega), if_pos rfl]
      have : i < row.length := by omega
      simp [this]
    · rw [if_neg h1]
      by_cases h2 : i + 1 ≤ j ∧ j < i + 1 + xs.length
      · rw [if_pos h2, if_pos (by omega)]
      · rw [if_neg h2, if_neg (by omega)]
theorem of_rows (g : DGraph) : m_order_Of_L1 g (List.replicate g.edges.length ([] : List Int)) 0 (List.replicate g.edges.length ([] : List Int)) = Lp.brk ((List.range' 0 g.edges.length).map fun i => m_order_Needs g ((i : Nat) : Int)) := by
  obtain ⟨r, e1, e2, e3⟩ := of_L1_eq g (List.replicate g.edges.length ([] : List Int)) 0 (List.replicate g.edges.length ([] : List Int)) (by simp)
  rw [e1]; congr 1
  apply List.ext_getElem?
  intro j
  rw [e3, List.getElem?_map]
  simp only [List.length_replicate] at e2 ⊢
  by_cases h : j < g.edges.length
  · rw [if_pos ⟨Nat.zero_le _, by omega⟩, List.getElem?_range' h]; simp
  · rw [if_neg (by omega), List.getElem?_eq_none (by simp; omega), List.getElem?_eq_none (by simp; omega)]; rfl
theorem of_L2_eq (g : DGraph) : ∀ (f : Nat) (c : List Int), c.length ≤ g.edges.length → g.edges.length - c.length < f → m_order_Of_L2 g ((List.range' 0 g.edges.length).map fun i => m_order_Needs g ((i : Nat) : Int)) f c = match ordF g (g.edges.length - c.length) c with
    | some o => Lp.brk o
    | none => Lp.ret (([] : List Int), (1001 : Int))
  | 0, c, h1, h2 => by omega
  | f + 1, c, h1, h2 => by
    rw [m_order_Of_L2]
    by_cases h : c.length < g.edges.length
    · rw [decide_eq_true (by omega), cond_true, of_L3_eq, ← List.range_eq_range']
      rw [show g.edges.length - c.length = (g.edges.length - (c.length + 1)) + 1 by omega, ordF]
      show (match (match nextP g c with | some j => Lp.brk (true, c ++ [((j : Nat) : Int)]) | none => Lp.brk (false, c) : Lp (List Int × Int) (Bool × List Int)) with | Lp.ret r => Lp.ret r | Lp.brk (t', c') => _) = _
      cases hn : nextP g c with
      | none => rfl
      | some j =>
        simp only [cond_true]
        have := of_L2_eq g f (c ++ [((j : Nat) : Int)]) (by simp; omega) (by simp; omega)
        rw [List.length_append, List.length_singleton, ← List.range_eq_range'] at this
        exact this
    · rw [decide_eq_false (by omega), cond_false, show g.edges.length - c.length = 0 by omega]; rfl
theorem of_eq (g : DGraph) : m_order_Of g = if m_graph_Check g = 0 then (match ordF g g.edges.length [] with | some o => (o, (0 : Int)) | none => (([] : List Int), (1001 : Int))) else (([] : List Int), (1000 : Int)) := by
  unfold m_order_Of
  by_cases h : m_graph_Check g = 0
  · rw [if_pos h, decide_eq_true h]
    simp only [Bool.not_true, cond_false]
    rw [of_rows]
    simp only []
    rw [of_L2_eq g _ [] (Nat.zero_le _) (by simp)]
    simp only [List.length_nil, Nat.sub_zero]
    cases ordF g g.edges.length [] <;> rfl
  · rw [if_neg h, decide_eq_false h]; rfl
inductive Steps (g : DGraph) : List Int → Prop
  | nil : Steps g []
  | snoc {out : List Int} {i : Nat} (h : Steps g out) (hn : nextP g out = some i) : Steps g (out ++ [((i : Nat) : Int)])
theorem ordF_steps (g : DGraph) : ∀ (f : Nat) (out o : List Int), Steps g out → ordF g f out = some o → Steps g o ∧ o.length = out.length + f ∧ ∃ r, o = out ++ r
  | 0, out, o, h, e => by simp only [ordF, Option.some.injEq] at e; subst e; exact ⟨h, rfl, [], by simp⟩
  | f + 1, out, o, h, e => by
    simp only [ordF] at e
    split at e
    · rename_i i hi
      obtain ⟨h1, h2, r, h3⟩ := ordF_steps g f _ o (h.snoc hi) e
      exact ⟨h1, by rw [h2]; simp; omega, [((i : Nat) : Int)] ++ r, by rw [h3]; simp⟩
    · cases e
theorem of_steps {g : DGraph} (h : (m_order_Of g).2 = 0) : Steps g (m_order_Of g).1 ∧ (m_order_Of g).1.length = g.edges.length ∧ m_graph_Check g = 0 := by
  rw [of_eq] at h ⊢
  split at h <;> rename_i hc
  · rw [if_pos hc]
    cases ho : ordF g g.edges.length [] with
    | none => rw [ho] at h; simp at h
    | some o =>
      obtain ⟨h1, h2, _⟩ := ordF_steps g _ _ _ .nil ho
      exact ⟨h1, by simpa using h2, hc⟩
  · simp at h
end
end Go.Lift
namespace Go.Lift
noncomputable section
open Go Go.RowKit
set_option linter.unusedSimpArgs false
set_option linter.unusedVariables false
set_option linter.unusedSectionVars false
set_option maxRecDepth 20000
theorem law20_awake_true : m_law20_awake = true := by kernel_rfl
end
end Go.Lift
namespace Go.Lift
noncomputable section
open Go Go.RowKit
set_option linter.unusedSimpArgs false
set_option linter.unusedVariables false
set_option linter.unusedSectionVars false
set_option maxRecDepth 20000
end
end Go.Lift
namespace Go.Lift
noncomputable section
open Go Go.RowKit
set_option linter.unusedSimpArgs false
set_option linter.unusedVariables false
set_option linter.unusedSectionVars false
set_option maxRecDepth 20000
theorem law20_WantForms_true (which : Int) : m_law20_WantForms which = true := by
  obtain ⟨h0, h1⟩ := and_le which 3 (by decide) (by decide)
  unfold m_law20_WantForms
  rw [law20_awake_true]
  generalize bitAV .and .i64 which 3 = d at *
  have h : d = 0 ∨ d = 1 ∨ d = 2 ∨ d = 3 := by omega
  rcases h with rfl | rfl | rfl | rfl <;> (show (_ : Bool) = _; kernel_rfl)
end
end Go.Lift
namespace Go.Lift
noncomputable section
open Go Go.RowKit
set_option linter.unusedSimpArgs false
set_option linter.unusedVariables false
set_option linter.unusedSectionVars false
set_option maxRecDepth 20000
theorem rdg_9 {H : Type} {enc : TypeId × Value → H} {w : World} {spare : Nat → Bool} {held : Bool} {bk : DataW H → Nat} {μ : Mu} (hb : BulkOk bk) (hμ : ∀ g, ¬ μ.mut g) : Rdg enc Go.Proofs.Tryd.prog w spare held bk μ 9 AV.s (fun s : ByteArray => s.size + 1) := Rdg.str hb (by kernel_rfl)
theorem rdg_25 {H : Type} {enc : TypeId × Value → H} {w : World} {spare : Nat → Bool} {held : Bool} {bk : DataW H → Nat} {μ : Mu} (hb : BulkOk bk) (hμ : ∀ g, ¬ μ.mut g) : Rdg enc Go.Proofs.Tryd.prog w spare held bk μ 25 (slA 1 AV.s) (szL (fun s : ByteArray => s.size + 1)) := Rdg.slice hb hμ (e := 9) (by kernel_rfl) (by kernel_rfl) (fun a => Or.inr ⟨(by intro fs h; cases h), rfl, rfl⟩) (rdg_9 hb hμ)
theorem rdg_4 {H : Type} {enc : TypeId × Value → H} {w : World} {spare : Nat → Bool} {held : Bool} {bk : DataW H → Nat} {μ : Mu} (hb : BulkOk bk) (hμ : ∀ g, ¬ μ.mut g) : Rdg enc Go.Proofs.Tryd.prog w spare held bk μ 4 AV.b (fun _ => 1) := Rdg.bool hb (by kernel_rfl)
theorem rdg_31 {H : Type} {enc : TypeId × Value → H} {w : World} {spare : Nat → Bool} {held : Bool} {bk : DataW H → Nat} {μ : Mu} (hb : BulkOk bk) (hμ : ∀ g, ¬ μ.mut g) : Rdg enc Go.Proofs.Tryd.prog w spare held bk μ 31 DEdge.av DEdge.sz where
  rd fuel cs x h hbd := by
    obtain ⟨xs, n, e, hl, hlen, hf⟩ := struct_rd (t := 31) (by kernel_rfl) h
    have hn : (fsOf Go.Proofs.Tryd.prog 31).size = 7 := by kernel_rfl
    have hc : Go.Proofs.Tryd.prog.cellsOf 31 = 7 := by kernel_rfl
    rw [hn] at hlen; rw [hc] at hl
    match xs, hlen, e, hf with
    | [x0, x1, x2, x3, x4, x5, x6], _, e, hf =>
      have hag := hb.agg [x0.1, x1.1, x2.1, x3.1, x4.1, x5.1, x6.1]
      simp only [List.map_cons, List.map_nil, List.sum_cons, List.sum_nil] at hag e
      rw [e] at hbd ⊢
      obtain ⟨y0, e0, r0⟩ := hf 0 0 25 1 (by kernel_rfl)
      cases e0
      obtain ⟨a0, c0, o0, s0⟩ := (rdg_25 hb hμ).rd _ _ _ r0 (by omega)
      obtain ⟨y1, e1, r1⟩ := hf 1 1 25 1 (by kernel_rfl)
      cases e1
      obtain ⟨a1, c1, o1, s1⟩ := (rdg_25 hb hμ).rd _ _ _ r1 (by omega)
      obtain ⟨y2, e2, r2⟩ := hf 2 2 25 1 (by kernel_rfl)
      cases e2
      obtain ⟨a2, c2, o2, s2⟩ := (rdg_25 hb hμ).rd _ _ _ r2 (by omega)
      obtain ⟨y3, e3, r3⟩ := hf 3 3 25 1 (by kernel_rfl)
      cases e3
      obtain ⟨a3, c3, o3, s3⟩ := (rdg_25 hb hμ).rd _ _ _ r3 (by omega)
      obtain ⟨y4, e4, r4⟩ := hf 4 4 9 1 (by kernel_rfl)
      cases e4
      obtain ⟨a4, c4, o4, s4⟩ := (rdg_9 hb hμ).rd _ _ _ r4 (by omega)
      obtain ⟨y5, e5, r5⟩ := hf 5 5 4 1 (by kernel_rfl)
      cases e5
      obtain ⟨a5, c5, o5, s5⟩ := (rdg_4 hb hμ).rd _ _ _ r5 (by omega)
      obtain ⟨y6, e6, r6⟩ := hf 6 6 9 1 (by kernel_rfl)
      cases e6
      obtain ⟨a6, c6, o6, s6⟩ := (rdg_9 hb hμ).rd _ _ _ r6 (by omega)
      refine ⟨⟨a0, a1, a2, a3, a4, a5, a6⟩, ?_, ?_, ?_⟩
      · have q := (CRs_step (CRs_step (CRs_step (CRs_step (CRs_step (CRs_step (CRs_step (show CRs w μ [] (cs.take 0) by simp [CRs]) c0) c1) c2) c3) c4) c5) c6)
        rw [show cs.take (0 + 1 + 1 + 1 + 1 + 1 + 1 + 1) = cs from List.take_of_length_le (by omega)] at q
        exact q
      · have q := (one_step (one_step (one_step (one_step (one_step (one_step (one_step (show ∀ u ∈ cs.take 0, u.oneCell' = true by simp) o0) o1) o2) o3) o4) o5) o6)
        rw [show cs.take (0 + 1 + 1 + 1 + 1 + 1 + 1 + 1) = cs from List.take_of_length_le (by omega)] at q
        exact q
      · unfold DEdge.sz; simp only at *; omega
theorem rdg_23 {H : Type} {enc : TypeId × Value → H} {w : World} {spare : Nat → Bool} {held : Bool} {bk : DataW H → Nat} {μ : Mu} (hb : BulkOk bk) (hμ : ∀ g, ¬ μ.mut g) : Rdg enc Go.Proofs.Tryd.prog w spare held bk μ 23 (slA 7 DEdge.av) (szL DEdge.sz) := Rdg.slice hb hμ (e := 31) (by kernel_rfl) (by kernel_rfl) (fun a => Or.inl ⟨_, rfl, rfl⟩) (rdg_31 hb hμ)
theorem rdg_3 {H : Type} {enc : TypeId × Value → H} {w : World} {spare : Nat → Bool} {held : Bool} {bk : DataW H → Nat} {μ : Mu} (hb : BulkOk bk) (hμ : ∀ g, ¬ μ.mut g) : Rdg enc Go.Proofs.Tryd.prog w spare held bk μ 3 (AV.i .i64) (fun _ => 1) := Rdg.int hb (by kernel_rfl)
theorem rdg_34 {H : Type} {enc : TypeId × Value → H} {w : World} {spare : Nat → Bool} {held : Bool} {bk : DataW H → Nat} {μ : Mu} (hb : BulkOk bk) (hμ : ∀ g, ¬ μ.mut g) : Rdg enc Go.Proofs.Tryd.prog w spare held bk μ 34 DPool.av DPool.sz where
  rd fuel cs x h hbd := by
    obtain ⟨xs, n, e, hl, hlen, hf⟩ := struct_rd (t := 34) (by kernel_rfl) h
    have hn : (fsOf Go.Proofs.Tryd.prog 34).size = 2 := by kernel_rfl
    have hc : Go.Proofs.Tryd.prog.cellsOf 34 = 2 := by kernel_rfl
    rw [hn] at hlen; rw [hc] at hl
    match xs, hlen, e, hf with
    | [x0, x1], _, e, hf =>
      have hag := hb.agg [x0.1, x1.1]
      simp only [List.map_cons, List.map_nil, List.sum_cons, List.sum_nil] at hag e
      rw [e] at hbd ⊢
      obtain ⟨y0, e0, r0⟩ := hf 0 0 9 1 (by kernel_rfl)
      cases e0
      obtain ⟨a0, c0, o0, s0⟩ := (rdg_9 hb hμ).rd _ _ _ r0 (by omega)
      obtain ⟨y1, e1, r1⟩ := hf 1 1 3 1 (by kernel_rfl)
      cases e1
      obtain ⟨a1, c1, o1, s1⟩ := (rdg_3 hb hμ).rd _ _ _ r1 (by omega)
      refine ⟨⟨a0, a1⟩, ?_, ?_, ?_⟩
      · have q := (CRs_step (CRs_step (show CRs w μ [] (cs.take 0) by simp [CRs]) c0) c1)
        rw [show cs.take (0 + 1 + 1) = cs from List.take_of_length_le (by omega)] at q
        exact q
      · have q := (one_step (one_step (show ∀ u ∈ cs.take 0, u.oneCell' = true by simp) o0) o1)
        rw [show cs.take (0 + 1 + 1) = cs from List.take_of_length_le (by omega)] at q
        exact q
      · unfold DPool.sz; simp only at *; omega
theorem rdg_24 {H : Type} {enc : TypeId × Value → H} {w : World} {spare : Nat → Bool} {held : Bool} {bk : DataW H → Nat} {μ : Mu} (hb : BulkOk bk) (hμ : ∀ g, ¬ μ.mut g) : Rdg enc Go.Proofs.Tryd.prog w spare held bk μ 24 (slA 2 DPool.av) (szL DPool.sz) := Rdg.slice hb hμ (e := 34) (by kernel_rfl) (by kernel_rfl) (fun a => Or.inl ⟨_, rfl, rfl⟩) (rdg_34 hb hμ)
theorem rdg_27 {H : Type} {enc : TypeId × Value → H} {w : World} {spare : Nat → Bool} {held : Bool} {bk : DataW H → Nat} {μ : Mu} (hb : BulkOk bk) (hμ : ∀ g, ¬ μ.mut g) : Rdg enc Go.Proofs.Tryd.prog w spare held bk μ 27 DGraph.av DGraph.sz where
  rd fuel cs x h hbd := by
    obtain ⟨xs, n, e, hl, hlen, hf⟩ := struct_rd (t := 27) (by kernel_rfl) h
    have hn : (fsOf Go.Proofs.Tryd.prog 27).size = 3 := by kernel_rfl
    have hc : Go.Proofs.Tryd.prog.cellsOf 27 = 3 := by kernel_rfl
    rw [hn] at hlen; rw [hc] at hl
    match xs, hlen, e, hf with
    | [x0, x1, x2], _, e, hf =>
      have hag := hb.agg [x0.1, x1.1, x2.1]
      simp only [List.map_cons, List.map_nil, List.sum_cons, List.sum_nil] at hag e
      rw [e] at hbd ⊢
      obtain ⟨y0, e0, r0⟩ := hf 0 0 23 1 (by kernel_rfl)
      cases e0
      obtain ⟨a0, c0, o0, s0⟩ := (rdg_23 hb hμ).rd _ _ _ r0 (by omega)
      obtain ⟨y1, e1, r1⟩ := hf 1 1 24 1 (by kernel_rfl)
      cases e1
      obtain ⟨a1, c1, o1, s1⟩ := (rdg_24 hb hμ).rd _ _ _ r1 (by omega)
      obtain ⟨y2, e2, r2⟩ := hf 2 2 25 1 (by kernel_rfl)
      cases e2
      obtain ⟨a2, c2, o2, s2⟩ := (rdg_25 hb hμ).rd _ _ _ r2 (by omega)
      refine ⟨⟨a0, a1, a2⟩, ?_, ?_, ?_⟩
      · have q := (CRs_step (CRs_step (CRs_step (show CRs w μ [] (cs.take 0) by simp [CRs]) c0) c1) c2)
        rw [show cs.take (0 + 1 + 1 + 1) = cs from List.take_of_length_le (by omega)] at q
        exact q
      · have q := (one_step (one_step (one_step (show ∀ u ∈ cs.take 0, u.oneCell' = true by simp) o0) o1) o2)
        rw [show cs.take (0 + 1 + 1 + 1) = cs from List.take_of_length_le (by omega)] at q
        exact q
      · unfold DGraph.sz; simp only at *; omega

end
end Go.Lift
