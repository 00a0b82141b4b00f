/-
  Lemmas of this claim: a layer over the kit's calls, contracts of the functions that the law reaches, and the law's row. No condition of its own.
-/
import Derived.Test.YtjfhbchfhpgefaaGreatDoorLbDirtyEdit
import Derived.Test.YtjfhbchfhpgefaaGreatDoorSaDirtyEdit
set_option linter.unusedSimpArgs false
set_option linter.unusedVariables false
set_option linter.unusedSectionVars false
set_option maxRecDepth 20000
namespace Go.Lift
noncomputable section
open Go Go.RowKit
structure A2 where
 name:ByteArray
 content:Int
 time:Int
def A2.av (d:A2):AV:= .st [AV.s d.name,(AV.i .i64) d.content,(AV.i .i64) d.time]
def A2.zero:A2:=⟨(⟨#[]⟩:ByteArray),(0:Int),(0:Int)⟩
instance:Inhabited A2:=⟨A2.zero⟩
def A2.sz (d:A2):Nat:=(fun s:ByteArray=>s.size+1) d.name+(fun _=>1) d.content+(fun _=>1) d.time+1
structure Ao where
 outs:List ByteArray
 ins:List ByteArray
 implicit:List ByteArray
 order:List ByteArray
 command:ByteArray
 deps:Bool
 pool:ByteArray
def Ao.av (d:Ao):AV:= .st [(Ar 1 AV.s) d.outs,(Ar 1 AV.s) d.ins,(Ar 1 AV.s) d.implicit,(Ar 1 AV.s) d.order,AV.s d.command,AV.b d.deps,AV.s d.pool]
def Ao.zero:Ao:=⟨[],[],[],[],(⟨#[]⟩:ByteArray),false,(⟨#[]⟩:ByteArray)⟩
instance:Inhabited Ao:=⟨Ao.zero⟩
def Ao.sz (d:Ao):Nat:=(Dj (fun s:ByteArray=>s.size+1)) d.outs+(Dj (fun s:ByteArray=>s.size+1)) d.ins+(Dj (fun s:ByteArray=>s.size+1)) d.implicit+(Dj (fun s:ByteArray=>s.size+1)) d.order+(fun s:ByteArray=>s.size+1) d.command+(fun _=>1) d.deps+(fun s:ByteArray=>s.size+1) d.pool+1
theorem Ao.sz_outs (d:Ao):(Dj (fun s:ByteArray=>s.size+1)) d.outs≤d.sz:=by unfold Ao.sz;omega
theorem Ao.sz_ins (d:Ao):(Dj (fun s:ByteArray=>s.size+1)) d.ins≤d.sz:=by unfold Ao.sz;omega
theorem Ao.sz_implicit (d:Ao):(Dj (fun s:ByteArray=>s.size+1)) d.implicit≤d.sz:=by unfold Ao.sz;omega
structure BD where
 name:ByteArray
 depth:Int
def BD.av (d:BD):AV:= .st [AV.s d.name,(AV.i .i64) d.depth]
def BD.zero:BD:=⟨(⟨#[]⟩:ByteArray),(0:Int)⟩
instance:Inhabited BD:=⟨BD.zero⟩
def BD.sz (d:BD):Nat:=(fun s:ByteArray=>s.size+1) d.name+(fun _=>1) d.depth+1
structure Af where
 edges:List Ao
 pools:List BD
 defaults:List ByteArray
def Af.av (d:Af):AV:= .st [(Ar 7 Ao.av) d.edges,(Ar 2 BD.av) d.pools,(Ar 1 AV.s) d.defaults]
def Af.zero:Af:=⟨[],[],[]⟩
instance:Inhabited Af:=⟨Af.zero⟩
def Af.sz (d:Af):Nat:=(Dj Ao.sz) d.edges+(Dj BD.sz) d.pools+(Dj (fun s:ByteArray=>s.size+1)) d.defaults+1
theorem Af.sz_edges (d:Af):(Dj Ao.sz) d.edges≤d.sz:=by unfold Af.sz;omega
theorem Lk {d:Af} (h:lim d.av):lim ((Ar 7 Ao.av) d.edges):=by simp only [Af.av,lim,Ds] at h;exact h.1
structure Az where
 command:ByteArray
 reads:List ByteArray
 fails:Bool
def Az.av (d:Az):AV:= .st [AV.s d.command,(Ar 1 AV.s) d.reads,AV.b d.fails]
def Az.zero:Az:=⟨(⟨#[]⟩:ByteArray),[],false⟩
instance:Inhabited Az:=⟨Az.zero⟩
def Az.sz (d:Az):Nat:=(fun s:ByteArray=>s.size+1) d.command+(Dj (fun s:ByteArray=>s.size+1)) d.reads+(fun _=>1) d.fails+1
structure Ab where
 out:ByteArray
 time:Int
 sign:ByteArray
def Ab.av (d:Ab):AV:= .st [AV.s d.out,(AV.i .i64) d.time,AV.s d.sign]
def Ab.zero:Ab:=⟨(⟨#[]⟩:ByteArray),(0:Int),(⟨#[]⟩:ByteArray)⟩
instance:Inhabited Ab:=⟨Ab.zero⟩
def Ab.sz (d:Ab):Nat:=(fun s:ByteArray=>s.size+1) d.out+(fun _=>1) d.time+(fun s:ByteArray=>s.size+1) d.sign+1
structure Aa where
 out:ByteArray
 time:Int
 ins:List ByteArray
def Aa.av (d:Aa):AV:= .st [AV.s d.out,(AV.i .i64) d.time,(Ar 1 AV.s) d.ins]
def Aa.zero:Aa:=⟨(⟨#[]⟩:ByteArray),(0:Int),[]⟩
instance:Inhabited Aa:=⟨Aa.zero⟩
def Aa.sz (d:Aa):Nat:=(fun s:ByteArray=>s.size+1) d.out+(fun _=>1) d.time+(Dj (fun s:ByteArray=>s.size+1)) d.ins+1
theorem Aa.sz_ins (d:Aa):(Dj (fun s:ByteArray=>s.size+1)) d.ins≤d.sz:=by unfold Aa.sz;omega
theorem MQ {d:Aa} (h:lim d.av):lim ((Ar 1 AV.s) d.ins):=by simp only [Aa.av,lim,Ds] at h;exact h.2.2.1
structure A9 where
 clock:Int
 files:List A2
def A9.av (d:A9):AV:= .st [(AV.i .i64) d.clock,(Ar 3 A2.av) d.files]
def A9.zero:A9:=⟨(0:Int),[]⟩
instance:Inhabited A9:=⟨A9.zero⟩
def A9.sz (d:A9):Nat:=(fun _=>1) d.clock+(Dj A2.sz) d.files+1
theorem A9.sz_files (d:A9):(Dj A2.sz) d.files≤d.sz:=by unfold A9.sz;omega
theorem IA {d:A9} (h:lim d.av):lim ((Ar 3 A2.av) d.files):=by simp only [A9.av,lim,Ds] at h;exact h.2.1
structure A7 where
 graph:Af
 actions:List Az
 disk:A9
 log:List Ab
 deps:List Aa
 jobs:Int
 going:Bool
 status:List Int
def A7.av (d:A7):AV:= .st [(Ar 7 Ao.av) d.graph.edges,(Ar 2 BD.av) d.graph.pools,(Ar 1 AV.s) d.graph.defaults,(Ar 3 Az.av) d.actions,(AV.i .i64) d.disk.clock,(Ar 3 A2.av) d.disk.files,(Ar 3 Ab.av) d.log,(Ar 3 Aa.av) d.deps,(AV.i .i64) d.jobs,AV.b d.going,(Ar 1 (AV.i .i64)) d.status]
def A7.zero:A7:=⟨Af.zero,[],A9.zero,[],[],(0:Int),false,[]⟩
instance:Inhabited A7:=⟨A7.zero⟩
def A7.sz (d:A7):Nat:=Af.sz d.graph+(Dj Az.sz) d.actions+A9.sz d.disk+(Dj Ab.sz) d.log+(Dj Aa.sz) d.deps+(fun _=>1) d.jobs+(fun _=>1) d.going+(Dj (fun _=>1)) d.status+1
theorem A7.sz_graph (d:A7):Af.sz d.graph≤d.sz:=by unfold A7.sz;omega
theorem A7.sz_disk (d:A7):A9.sz d.disk≤d.sz:=by unfold A7.sz;omega
theorem A7.sz_log (d:A7):(Dj Ab.sz) d.log≤d.sz:=by unfold A7.sz;omega
theorem A7.sz_deps (d:A7):(Dj Aa.sz) d.deps≤d.sz:=by unfold A7.sz;omega
theorem Of {d:A7} (h:lim (.pt d.av.cells)):lim d.av:=by simp only [A7.av,AV.cells,lim] at h ⊢;exact h
theorem Mf {d:A7} (h:lim d.av):lim ((Ar 3 Aa.av) d.deps):=by simp only [A7.av,lim,Ds] at h;exact h.2.2.2.2.2.2.2.1
theorem Ll {d:A7} (h:lim d.av):lim d.graph.av:=by simp only [A7.av,Af.av,lim,Ds] at h ⊢;exact ⟨h.1,h.2.1,h.2.2.1,trivial⟩
structure Ac where
 state:A7
 edge:Ao
def Ac.av (d:Ac):AV:= .st [(ptA A7.av) d.state,(ptA Ao.av) d.edge]
def AA:A2:=(⟨(⟨#[97,46,99]⟩:ByteArray),(1:Int),(1:Int)⟩:A2)
def AD:A2:=(⟨(⟨#[98,46,99]⟩:ByteArray),(3:Int),(3:Int)⟩:A2)
def AC:A2:=(⟨(⟨#[97,46,104]⟩:ByteArray),(2:Int),(2:Int)⟩:A2)
def GE:Ab:=(⟨(⟨#[]⟩:ByteArray),(0:Int),(⟨#[]⟩:ByteArray)⟩:Ab)
def AB:A2:=(⟨(⟨#[122,46,104]⟩:ByteArray),(4:Int),(4:Int)⟩:A2)
def BG:Az:=(⟨(⟨#[99,99,32,97]⟩:ByteArray),[(⟨#[122,46,104]⟩:ByteArray)],false⟩:Az)
def VC:Ao:=(⟨[(⟨#[108,105,98]⟩:ByteArray)],[(⟨#[97,46,111]⟩:ByteArray),(⟨#[98,46,111]⟩:ByteArray)],[],[],(⟨#[]⟩:ByteArray),false,(⟨#[]⟩:ByteArray)⟩:Ao)
def VD:Ao:=(⟨[(⟨#[108,105,98]⟩:ByteArray)],[(⟨#[97,46,111]⟩:ByteArray),(⟨#[98,46,111]⟩:ByteArray)],[],[],(⟨#[97,114]⟩:ByteArray),false,(⟨#[]⟩:ByteArray)⟩:Ao)
def Ro:Ao:=(⟨[(⟨#[98,46,111]⟩:ByteArray)],[(⟨#[98,46,99]⟩:ByteArray)],[],[(⟨#[97,46,111]⟩:ByteArray)],(⟨#[99,99,32,98]⟩:ByteArray),false,(⟨#[116,119,111]⟩:ByteArray)⟩:Ao)
def Rn:Ao:=(⟨[(⟨#[97,46,111]⟩:ByteArray),(⟨#[97,46,100]⟩:ByteArray)],[(⟨#[97,46,99]⟩:ByteArray)],[(⟨#[97,46,104]⟩:ByteArray)],[],(⟨#[99,99,32,97]⟩:ByteArray),true,(⟨#[116,119,111]⟩:ByteArray)⟩:Ao)
def VE:A9:=(⟨(4:Int),[AA,AC,AD,AB]⟩:A9)
def EM:Af:=(⟨[VC,Rn,Ro],[(⟨(⟨#[116,119,111]⟩:ByteArray),(2:Int)⟩:BD)],[(⟨#[108,105,98]⟩:ByteArray)]⟩:Af)
def CG:Af:=(⟨[VD,Rn,Ro],[(⟨(⟨#[116,119,111]⟩:ByteArray),(2:Int)⟩:BD)],[(⟨#[108,105,98]⟩:ByteArray)]⟩:Af)
def AK:A7:=(⟨CG,[BG],VE,[],[],(2:Int),false,[]⟩:A7)
def RR:List Ao→Nat
 | []=>0
 |e::r=>e.outs.length+RR r
def PM (e:Ao):Cw:=⟨⟨false,e.outs⟩,⟨false,e.ins⟩,⟨false,e.implicit⟩,⟨false,e.order⟩,e.command,e.deps,e.pool⟩
def pOf (p:BD):D3:=⟨p.name,p.depth⟩
def Lg (g:Af):AZ:=⟨false,g.edges.map PM,false,g.pools.map pOf,⟨false,g.defaults⟩⟩
def RG (g:Af):Bool:=LL (Lg g)
def GF (g:Af):Int:=IU (Lg g)
def ND (g:Af) (edge:Int):Nat:=(g.edges.getD edge.toNat default).ins.length+(g.edges.getD edge.toNat default).implicit.length+(g.edges.getD edge.toNat default).order.length
def E9 (pi:ByteArray→Bool) (c:Int):List A2→List Int→Option A2→Bool
 | [],_,_=>true
 |f::r,ts,p=>(pi f.name&&decide (0≤f.content)&&decide (f.content≤2147483647)&&decide (1≤f.time)&&decide (f.time≤c)&& !(ts.any (fun t=>decide (t=f.time)))&&(match p with|none=>true|some q=>Op.bytesLess q.name.toList f.name.toList))&&E9 pi c r (ts++[f.time]) (some f)
def C4 (pi:ByteArray→Bool) (d:A9):Bool:=E9 pi d.clock d.files [] none&&decide (0≤d.clock)&&decide (d.clock≤1048576)&&decide (d.files.length≤64)
def BV (xs:List ByteArray) (sep:ByteArray):ByteArray:=⟨(Lib.join (xs.map (·.data.toList)) sep.data.toList).toArray⟩
def Hr (xs:List ByteArray):List ByteArray:=xs
def DH {α:Type} (p:α→Bool):List α→Int
 | []=> -1
 |x::xs=>if 0≤DH p xs then DH p xs+1 else if p x then 0 else -1
def AO (rs:List Ab) (out:ByteArray):Int:=DH (fun r=>decide (r.out=out)) rs
def As (fs:List Aa) (out:ByteArray):Int:=DH (fun r=>decide (r.out=out)) fs
def FQ:List ByteArray→Nat→(List ByteArray)→Lp (List ByteArray) ((List ByteArray))
 | [],i,row=>Lp.brk row
 |x1::rest,i,row=>FQ rest (i+1) (row.set i ((⟨#[126]⟩:ByteArray)++(row.getD i default)))
def TA (a:List ByteArray):List ByteArray:=
 (match FQ a 0 a with
 |Lp.ret r=>r
 |Lp.brk row'=>row')
def J6:List Bool→Nat→(List Bool)→Lp (List Bool) ((List Bool))
 | [],i,row=>Lp.brk row
 |x1::rest,i,row=>J6 rest (i+1) (row.set i (!(row.getD i default)))
def D6 (s':ByteArray):Bool:=
 (decide ((Bz s').2=(0:Int))&&decide ((Bz s').1=s'))
def ST:List ByteArray→Nat→Lp (Bool) (Unit)
 | [],v9=>Lp.brk ()
 |x1::rest,v9=>(bif (!(D6 x1)) then Lp.ret false else ST rest (v9+1))
def Fh (ss:List ByteArray) (most':Int):Bool:=
 (match ST ss 0 with
 |Lp.ret r=>r
 |Lp.brk ()=>decide (((ss.length:Nat):Int)≤most'))
def Ry:List UInt8→Nat→Lp (Bool) (Unit)
 | [],v8=>Lp.brk ()
 |x1::rest,v8=>(bif decide ((x1.toNat:Int)<(32:Int)) then Lp.ret false else (bif decide ((126:Int)<(x1.toNat:Int)) then Lp.ret false else Ry rest (v8+1)))
def Kn (s':ByteArray) (most':Int):Bool:=
 (match Ry s'.data.toList 0 with
 |Lp.ret r=>r
 |Lp.brk ()=>decide (((s'.size:Nat):Int)≤most'))
def HS (s':ByteArray):Bool:=
 ((!decide (s'=(⟨#[]⟩:ByteArray)))&&(Kn s' (256:Int)))
def SS:List (List ByteArray)→Nat→Lp (Bool) (Unit)
 | [],v23=>Lp.brk ()
 |x1::rest,v23=>(bif (!(Fh x1 (8:Int))) then Lp.ret false else SS rest (v23+1))
def LH (e:Ao):Bool:=
 (match SS [e.outs,e.ins,e.implicit,e.order] 0 with
 |Lp.ret r=>r
 |Lp.brk ()=>(decide ((0:Int)<((e.outs.length:Nat):Int))&&((HS e.command)&&(decide (e.pool=(⟨#[]⟩:ByteArray))||(G8 e.pool)))))
def Mr:List Ao→Nat→(List ByteArray)→Lp (List ByteArray) ((List ByteArray))
 | [],v11,out=>Lp.brk out
 |x1::rest,v11,out=>Mr rest (v11+1) (out++x1.outs)
def Eb (x':ByteArray):List ByteArray→Nat→Lp (Bool) (Unit)
 | [],i=>Lp.brk ()
 |x1::rest,i=>(bif decide (x1=x') then Lp.ret true else Eb x' rest (i+1))
def Es (xs:List ByteArray) (x':ByteArray):Bool:=
 (match Eb x' xs 0 with
 |Lp.ret r=>r
 |Lp.brk ()=>false)
def LI (c:Int):Bool:=
 (bif decide ((97:Int)≤c) then (decide (c≤(122:Int))||(decide ((48:Int)≤c)&&decide (c≤(57:Int)))) else (decide ((48:Int)≤c)&&decide (c≤(57:Int))))
def Up:List UInt8→Nat→Lp (Bool) (Unit)
 | [],i=>Lp.brk ()
 |x1::rest,i=>(bif decide ((x1.toNat:Int)<(32:Int)) then Lp.ret false else (bif decide ((126:Int)<(x1.toNat:Int)) then Lp.ret false else Up rest (i+1)))
def SU (s':ByteArray) (least:Int) (most':Int):Bool:=
 (match Up s'.data.toList 0 with
 |Lp.ret r=>r
 |Lp.brk ()=>(decide (least≤((s'.size:Nat):Int))&&decide (((s'.size:Nat):Int)≤most')))
def Ml:List UInt8→Nat→Lp (Bool) (Unit)
 | [],i=>Lp.brk ()
 |x1::rest,i=>(bif (!(LI (x1.toNat:Int))) then (bif (!decide ((x1.toNat:Int)=(46:Int))) then (bif (!decide ((x1.toNat:Int)=(95:Int))) then (bif (!decide ((x1.toNat:Int)=(45:Int))) then (bif (!decide ((x1.toNat:Int)=(47:Int))) then Lp.ret false else Ml rest (i+1)) else Ml rest (i+1)) else Ml rest (i+1)) else Ml rest (i+1)) else Ml rest (i+1))
def Kk (s':ByteArray):Bool:=
 (match Ml s'.data.toList 0 with
 |Lp.ret r=>r
 |Lp.brk ()=>(decide ((1:Int)≤((s'.size:Nat):Int))&&decide (((s'.size:Nat):Int)≤(16:Int))))
def Kj (sign:ByteArray):List ByteArray→Nat→ByteArray→Lp (ByteArray) (ByteArray)
 | [],i,s'=>Lp.brk s'
 |x1::rest,i,s'=>(bif decide ((0:Int)<((i:Nat):Int)) then Kj sign rest (i+1) ((s'++sign)++x1) else Kj sign rest (i+1) (s'++x1))
def Mq (xs:List ByteArray) (sign:ByteArray):ByteArray:=
 (match Kj sign xs 0 (⟨#[]⟩:ByteArray) with
 |Lp.ret r=>r
 |Lp.brk sv'=>sv')
def LE (s':ByteArray) (sign:Int):Nat→(List ByteArray)→Nat→Nat→Lp (List ByteArray) ((List ByteArray))
 |0,out,from',i=>Lp.brk out
 |kf+1,out,from',i=>(bif decide (((i:Nat):Int)≤((s'.size:Nat):Int)) then (bif (decide (((i:Nat):Int)=((s'.size:Nat):Int))||decide (((s'.data.getD i 0).toNat:Int)=sign)) then LE s' sign kf (out++[(s'.extract from' i)]) (i+1) (i+1) else LE s' sign kf out from' (i+1)) else Lp.brk out)
def J3 (s':ByteArray) (sign:Int):List ByteArray:=
 (match LE s' sign (s'.size+1-0+1) [] 0 0 with
 |Lp.ret r=>r
 |Lp.brk out'=>out')
def LD:List ByteArray→Nat→(List ByteArray)→Lp (ByteArray×Int) ((List ByteArray))
 | [],i,kept=>Lp.brk kept
 |x1::rest,i,kept=>(bif decide (x1=(⟨#[]⟩:ByteArray)) then LD rest (i+1) kept else (bif decide (x1=(⟨#[46]⟩:ByteArray)) then LD rest (i+1) kept else (bif decide (x1=(⟨#[46,46]⟩:ByteArray)) then (bif decide (((kept.length:Nat):Int)=(0:Int)) then Lp.ret ((⟨#[]⟩:ByteArray),(200:Int)) else LD rest (i+1) (kept.take (kept.length-1))) else LD rest (i+1) (kept++[x1]))))
def KQ (s':ByteArray):ByteArray×Int:=
 (bif (!(Kk s')) then ((⟨#[]⟩:ByteArray),(200:Int)) else (bif decide (((s'.data.getD 0 0).toNat:Int)=(47:Int)) then ((⟨#[]⟩:ByteArray),(200:Int)) else (match LD (J3 s' (47:Int)) 0 [] with
 |Lp.ret r=>r
 |Lp.brk kept'=>(bif decide (((kept'.length:Nat):Int)=(0:Int)) then ((⟨#[]⟩:ByteArray),(200:Int)) else ((Mq kept' (⟨#[47]⟩:ByteArray)),(0:Int))))))
def HT (s':ByteArray):Bool:=
 (decide ((KQ s').2=(0:Int))&&decide ((KQ s').1=s'))
def m_cv:List ByteArray→Nat→Lp (Bool) (Unit)
 | [],i=>Lp.brk ()
 |x1::rest,i=>(bif (!(HT x1)) then Lp.ret false else m_cv rest (i+1))
def Ov (xs:List ByteArray):Bool:=
 (match m_cv xs 0 with
 |Lp.ret r=>r
 |Lp.brk ()=>decide (((xs.length:Nat):Int)≤(8:Int)))
def DV (name:ByteArray):List BD→Nat→Lp (Int) (Unit)
 | [],i=>Lp.brk ()
 |x1::rest,i=>(bif decide (x1.name=name) then Lp.ret ((i:Nat):Int) else DV name rest (i+1))
def FI (ps:List BD) (name:ByteArray):Int:=
 (match DV name ps 0 with
 |Lp.ret r=>r
 |Lp.brk ()=>(-1:Int))
def Ur (e:Ao):Bool:=
 (decide ((0:Int)<((e.outs.length:Nat):Int))&&((Ov e.outs)&&((Ov e.ins)&&((Ov e.implicit)&&((Ov e.order)&&((SU e.command (1:Int) (256:Int))&&(decide (e.pool=(⟨#[]⟩:ByteArray))||(Kk e.pool))))))))
def Uk (g:Af):List Ao→Nat→Lp (Bool) (Unit)
 | [],i2=>Lp.brk ()
 |x2::rest,i2=>(bif (!(Ur x2)) then Lp.ret false else (bif (!decide (x2.pool=(⟨#[]⟩:ByteArray))) then (bif decide ((FI g.pools x2.pool)<(0:Int)) then Lp.ret false else Uk g rest (i2+1)) else Uk g rest (i2+1)))
def VH (g:Af):List BD→Nat→Lp (Bool) (Unit)
 | [],i=>Lp.brk ()
 |x1::rest,i=>(bif (!(Kk x1.name)) then Lp.ret false else (bif decide (x1.depth<(1:Int)) then Lp.ret false else (bif decide ((8:Int)<x1.depth) then Lp.ret false else (bif (!decide ((FI g.pools x1.name)=((i:Nat):Int))) then Lp.ret false else VH g rest (i+1)))))
def G7 (g:Af):Bool:=
 (match VH g g.pools 0 with
 |Lp.ret r=>r
 |Lp.brk ()=>(match Uk g g.edges 0 with
 |Lp.ret r=>r
 |Lp.brk ()=>(decide (((g.pools.length:Nat):Int)≤(4:Int))&&(decide (((g.edges.length:Nat):Int)≤(16:Int))&&(Ov g.defaults)))))
def Ek:List ByteArray→Nat→(List ByteArray)→Lp (Int) ((List ByteArray))
 | [],k,all2=>Lp.brk all2
 |x2::rest,k,all2=>(bif (Es all2 x2) then Lp.ret (901:Int) else Ek rest (k+1) (all2++[x2]))
def Ej:List Ao→Nat→(List ByteArray)→Lp (Int) (Unit)
 | [],i,all=>Lp.brk ()
 |x1::rest,i,all=>(match Ek x1.outs 0 all with
 |Lp.ret r=>Lp.ret r
 |Lp.brk all2'=>Ej rest (i+1) all2')
def Gq (g:Af):Int:=
 (bif (!(G7 g)) then (900:Int) else (match Ej g.edges 0 [] with
 |Lp.ret r=>r
 |Lp.brk ()=>(0:Int)))
def H3 (name:ByteArray):List Ao→Nat→Lp (Int) (Unit)
 | [],i=>Lp.brk ()
 |x1::rest,i=>(bif (Es x1.outs name) then Lp.ret ((i:Nat):Int) else H3 name rest (i+1))
def Q2 (g:Af) (name:ByteArray):Int:=
 (match H3 name g.edges 0 with
 |Lp.ret r=>r
 |Lp.brk ()=>(-1:Int))
def VJ (g:Af):List ByteArray→Nat→(List Int)→Lp (List Int) ((List Int))
 | [],i,out=>Lp.brk out
 |x1::rest,i,out=>(bif decide ((0:Int)≤(Q2 g x1)) then VJ g rest (i+1) (out++[(Q2 g x1)]) else VJ g rest (i+1) out)
def RI (g:Af) (edge:Int):List Int:=
 (match VJ g (((g.edges.getD edge.toNat default).ins++(g.edges.getD edge.toNat default).implicit)++(g.edges.getD edge.toNat default).order) 0 [] with
 |Lp.ret r=>r
 |Lp.brk out'=>out')
def Uo (row:List Bool):List Int→Nat→Bool→Lp (List Int×Int) (Bool)
 | [],k,free=>Lp.brk free
 |x3::rest,k,free=>(bif free then Uo row rest (k+1) (row.getD x3.toNat default) else Uo row rest (k+1) false)
def Un (row:List Bool) (g:Af):Nat→Int→Int→Lp (List Int×Int) (Int)
 |0,next,i=>Lp.brk next
 |kf+1,next,i=>(bif decide ((0:Int)≤i) then (match Uo row (RI g i) 0 (!(row.getD i.toNat default)) with
 |Lp.ret r=>Lp.ret r
 |Lp.brk free'=>(bif free' then Un row g kf i (i-(1:Int)) else Un row g kf next (i-(1:Int)))) else Lp.brk next)
def El (g:Af):Nat→(List Int)→(List Bool)→Lp (List Int×Int) ((List Int)×(List Bool))
 |0,out,row=>Lp.brk (out,row)
 |kf+1,out,row=>(bif decide (((out.length:Nat):Int)<((g.edges.length:Nat):Int)) then (match Un row g (((((g.edges.length:Nat):Int)-(1:Int))+1).toNat+1) (-1:Int) (((g.edges.length:Nat):Int)-(1:Int)) with
 |Lp.ret r=>Lp.ret r
 |Lp.brk next'=>(bif decide (next'<(0:Int)) then Lp.ret (([]:List Int),(1001:Int)) else El g kf (out++[next']) (row.set next'.toNat true))) else Lp.brk (out,row))
def Q4 (g:Af):List Int×Int:=
 (bif (!decide ((Gq g)=(0:Int))) then (([]:List Int),(1000:Int)) else (match El g (g.edges.length-0+1) [] (List.replicate g.edges.length false) with
 |Lp.ret r=>r
 |Lp.brk (out',row')=>(out',(0:Int))))
def Ko (b:List Int):List Int→Nat→Lp (Bool) (Unit)
 | [],i=>Lp.brk ()
 |x1::rest,i=>(bif (!decide (x1=(b.getD i default))) then Lp.ret false else Ko b rest (i+1))
def RF (b:List Bool):List Bool→Nat→Lp (Bool) (Unit)
 | [],i=>Lp.brk ()
 |x1::rest,i=>(bif (!(x1==(b.getD i default))) then Lp.ret false else RF b rest (i+1))
def JN (a:List Bool) (b:List Bool):Bool:=
 (!(!decide (((a.length:Nat):Int)=((b.length:Nat):Int)))&&(match RF b a 0 with
 |Lp.ret r=>r
 |Lp.brk ()=>true))
def Uh (v:Int):List Int→Nat→Lp (Int) (Unit)
 | [],v8=>Lp.brk ()
 |x1::rest,v8=>(bif decide (v=x1) then Lp.ret ((v8:Nat):Int) else Uh v rest (v8+1))
def Rs (s':List Int) (v:Int):Int:=
 (match Uh v s' 0 with
 |Lp.ret r=>r
 |Lp.brk ()=>(-1:Int))
def UO (s':List Int) (v:Int):Bool:=
 decide ((0:Int)≤(Rs s' v))
def Ug (v:ByteArray):List ByteArray→Nat→Lp (Int) (Unit)
 | [],v8=>Lp.brk ()
 |x1::rest,v8=>(bif decide (v=x1) then Lp.ret ((v8:Nat):Int) else Ug v rest (v8+1))
def Rv (s':List ByteArray) (v:ByteArray):Int:=
 (match Ug v s' 0 with
 |Lp.ret r=>r
 |Lp.brk ()=>(-1:Int))
def SR (s':List ByteArray) (v:ByteArray):Bool:=
 decide ((0:Int)≤(Rv s' v))
def m_t (f:Ao→Bool):List Ao→Nat→Lp (Int) (Unit)
 | [],v8=>Lp.brk ()
 |x1::rest,v8=>(bif (f x1) then Lp.ret ((v8:Nat):Int) else m_t f rest (v8+1))
def m_7 (s':List Ao) (f:Ao→Bool):Int:=
 (match m_t f s' 0 with
 |Lp.ret r=>r
 |Lp.brk ()=>(-1:Int))
def Rx (e:Ao) (name:ByteArray):Bool:=
 (SR e.outs name)
def DP (g:Af) (s':ByteArray):Int:=
 (m_7 g.edges (fun z0=>Rx z0 s'))
def Uf (f:Int→Bool):List Int→Nat→Lp (Int) (Unit)
 | [],v8=>Lp.brk ()
 |x1::rest,v8=>(bif (f x1) then Lp.ret ((v8:Nat):Int) else Uf f rest (v8+1))
def Rw (s':List Int) (f:Int→Bool):Int:=
 (match Uf f s' 0 with
 |Lp.ret r=>r
 |Lp.brk ()=>(-1:Int))
def UP (s':List Int) (f:Int→Bool):Bool:=
 decide ((0:Int)≤(Rw s' f))
def FH (n':Nat):List ByteArray:=
 (bif decide ((0:Int)<((n':Nat):Int)) then ((List.replicate n' (⟨#[]⟩:ByteArray)).take 0) else [])
def KP:List (List ByteArray)→Nat→(List ByteArray)→Lp (List ByteArray) ((List ByteArray))
 | [],v27,newslice=>Lp.brk newslice
 |x2::rest,v27,newslice=>KP rest (v27+1) (newslice++x2)
def Us:List (List ByteArray)→Nat→Nat→Lp (List ByteArray) (Nat)
 | [],v11,size=>Lp.brk size
 |x1::rest,v11,size=>Us rest (v11+1) (size+x1.length)
def CN (slices:List (List ByteArray)):List ByteArray:=
 (match Us slices 0 0 with
 |Lp.ret r=>r
 |Lp.brk size'=>(match KP slices 0 ((List.replicate size' (⟨#[]⟩:ByteArray)).take 0) with
 |Lp.ret r=>r
 |Lp.brk newslice4'=>newslice4'))
def Ou (g:Af):List ByteArray→Nat→(List Int)→Lp (List Int) ((List Int))
 | [],v31,out=>Lp.brk out
 |x1::rest,v31,out=>(bif decide ((0:Int)≤(DP g x1)) then (bif (!(UO out (DP g x1))) then Ou g rest (v31+1) (out++[(DP g x1)]) else Ou g rest (v31+1) out) else Ou g rest (v31+1) out)
def Gp (g:Af) (edge:Int):List Int:=
 (match Ou g (CN [(g.edges.getD edge.toNat default).ins,(g.edges.getD edge.toNat default).implicit,(g.edges.getD edge.toNat default).order]) 0 [] with
 |Lp.ret r=>r
 |Lp.brk out'=>out')
def Hy (edge:Int) (out:List Int):Bool:=
 (UO out edge)
def Mo (edge:Int) (told:Int→Bool):Bool:=
 (!(told edge))
def Nz:List (List Int)→Nat→(List Int)→Lp (List Int×Int) (Bool×(List Int))
 | [],v38,cell2=>Lp.brk (false,cell2)
 |x3::rest,v38,cell2=>(bif (!(Hy ((v38:Nat):Int) cell2)) then (bif (!(UP x3 (fun z0=>Mo z0 (fun z0=>Hy z0 cell2)))) then Lp.brk (true,(cell2++[((v38:Nat):Int)])) else Nz rest (v38+1) cell2) else Nz rest (v38+1) cell2)
def Ot (g:Af) (row:List (List Int)):Nat→(List Int)→Lp (List Int×Int) ((List Int))
 |0,cell=>Lp.brk cell
 |kf+1,cell=>(bif decide (((cell.length:Nat):Int)<((g.edges.length:Nat):Int)) then (match Nz row 0 cell with
 |Lp.ret r=>Lp.ret r
 |Lp.brk (t',cell2')=>(bif t' then Ot g row kf cell2' else Lp.ret (([]:List Int),(1001:Int)))) else Lp.brk cell)
def Ny (g:Af):List (List Int)→Nat→(List (List Int))→Lp (List Int×Int) ((List (List Int)))
 | [],v20,row=>Lp.brk row
 |x1::rest,v20,row=>Ny g rest (v20+1) (row.set v20 (Gp g ((v20:Nat):Int)))
def Fl (g:Af):List Int×Int:=
 (bif (!decide ((GF g)=(0:Int))) then (([]:List Int),(1000:Int)) else (match Ny g (List.replicate g.edges.length ([]:List Int)) 0 (List.replicate g.edges.length ([]:List Int)) with
 |Lp.ret r=>r
 |Lp.brk row'=>(match Ot g row' (g.edges.length-0+1) [] with
 |Lp.ret r=>r
 |Lp.brk cell3'=>(cell3',(0:Int)))))
def G5 (g:Af) (i3:Int):List Int→Nat→(List Bool)→Lp (List Bool×Int) ((List Bool))
 | [],k,row4=>Lp.brk row4
 |x4::rest,k,row4=>(bif (row4.getD x4.toNat default) then G5 g i3 rest (k+1) (row4.set x4.toNat true) else G5 g i3 rest (k+1) (row4.set x4.toNat (row4.getD ((((Q4 g).1).getD i3.toNat default).toNat) default)))
def Mt (g:Af):Nat→Int→(List Bool)→Lp (List Bool×Int) ((List Bool))
 |0,i3,row3=>Lp.brk row3
 |kf+1,i3,row3=>(bif decide ((0:Int)≤i3) then (match G5 g i3 (RI (⟨g.edges,g.pools,g.defaults⟩:Af) (((Q4 g).1).getD i3.toNat default)) 0 row3 with
 |Lp.ret r=>Lp.ret r
 |Lp.brk row4'=>Mt g kf (i3-(1:Int)) row4') else Lp.brk row3)
def Ms (g:Af):List ByteArray→Nat→(List Bool)→Lp (List Bool×Int) ((List Bool))
 | [],i2,row2=>Lp.brk row2
 |x2::rest,i2,row2=>(bif decide ((Q2 (⟨g.edges,g.pools,g.defaults⟩:Af) x2)<(0:Int)) then Lp.ret (([]:List Bool),(2001:Int)) else Ms g rest (i2+1) (row2.set (Q2 (⟨g.edges,g.pools,g.defaults⟩:Af) x2).toNat true))
def CH (e:Int):Int:=
 e
def Nx (a:Az):Bool:=
 ((!(HS a.command))||(!(Fh a.reads (8:Int))))
def m_r (f:Az→Bool):List Az→Nat→Lp (Int) (Unit)
 | [],v8=>Lp.brk ()
 |x1::rest,v8=>(bif (f x1) then Lp.ret ((v8:Nat):Int) else m_r f rest (v8+1))
def m_z (s':List Az) (f:Az→Bool):Int:=
 (match m_r f s' 0 with
 |Lp.ret r=>r
 |Lp.brk ()=>(-1:Int))
def m_n (s':List Az) (f:Az→Bool):Bool:=
 decide ((0:Int)≤(m_z s' f))
def Oq (as':List Az):Bool:=
 (decide (((as'.length:Nat):Int)≤(16:Int))&&(!(m_n as' (fun z0=>Nx z0))))
def LF (x':Int):Bool:=
 (decide ((1:Int)≤x')&&decide (x'≤(1048576:Int)))
def KO (r:Ab):Bool:=
 ((D6 r.out)&&((LF r.time)&&((!decide (r.sign=(⟨#[]⟩:ByteArray)))&&(Kn r.sign (2048:Int)))))
def Q5 (r:Ab):Bool:=
 (!(KO r))
def m_s (f:Ab→Bool):List Ab→Nat→Lp (Int) (Unit)
 | [],v8=>Lp.brk ()
 |x1::rest,v8=>(bif (f x1) then Lp.ret ((v8:Nat):Int) else m_s f rest (v8+1))
def m_0 (s':List Ab) (f:Ab→Bool):Int:=
 (match m_s f s' 0 with
 |Lp.ret r=>r
 |Lp.brk ()=>(-1:Int))
def m_o (s':List Ab) (f:Ab→Bool):Bool:=
 decide ((0:Int)≤(m_0 s' f))
def JP (rs:List Ab):Bool:=
 (decide (((rs.length:Nat):Int)≤(256:Int))&&(!(m_o rs (fun z0=>Q5 z0))))
def LG (f:Aa):Bool:=
 ((D6 f.out)&&((LF f.time)&&(Fh f.ins (8:Int))))
def Q1 (f:Aa):Bool:=
 (!(LG f))
def m_w (f:Aa→Bool):List Aa→Nat→Lp (Int) (Unit)
 | [],v8=>Lp.brk ()
 |x1::rest,v8=>(bif (f x1) then Lp.ret ((v8:Nat):Int) else m_w f rest (v8+1))
def m_3 (s':List Aa) (f:Aa→Bool):Int:=
 (match m_w f s' 0 with
 |Lp.ret r=>r
 |Lp.brk ()=>(-1:Int))
def m_p (s':List Aa) (f:Aa→Bool):Bool:=
 decide ((0:Int)≤(m_3 s' f))
def JO (fs:List Aa):Bool:=
 (decide (((fs.length:Nat):Int)≤(256:Int))&&(!(m_p fs (fun z0=>Q1 z0))))
def Ow (x':Int):Bool:=
 (decide ((0:Int)≤x')&&decide (x'≤(2147483647:Int)))
def Hx (s':A7):Bool:=
 (decide ((Fl s'.graph).2=(0:Int))&&((Oq s'.actions)&&((C4 D6 s'.disk)&&((JP s'.log)&&(JO s'.deps)))))
def J2 (x':Int) (least:Int) (most':Int):Bool:=
 (decide (least≤x')&&decide (x'≤most'))
def m_ch:List Az→Nat→Lp (Bool) (Unit)
 | [],i=>Lp.brk ()
 |x1::rest,i=>(bif (!(SU x1.command (1:Int) (256:Int))) then Lp.ret false else (bif (!(Ov x1.reads)) then Lp.ret false else m_ch rest (i+1)))
def Er (as':List Az):Bool:=
 (match m_ch as' 0 with
 |Lp.ret r=>r
 |Lp.brk ()=>decide (((as'.length:Nat):Int)≤(16:Int)))
def Mn (i:Nat) (d:A9) (x1:A2):Nat→Nat→Lp (Bool) (Unit)
 |0,k=>Lp.brk ()
 |kf+1,k=>(bif decide (((k:Nat):Int)<((i:Nat):Int)) then (bif decide ((d.files.getD k default).time=x1.time) then Lp.ret false else Mn i d x1 kf (k+1)) else Lp.brk ())
def Oo (d:A9):List A2→Nat→Lp (Bool) (Unit)
 | [],i=>Lp.brk ()
 |x1::rest,i=>(bif (!(HT x1.name)) then Lp.ret false else (bif (!(J2 x1.content (0:Int) (2147483647:Int))) then Lp.ret false else (bif (!(J2 x1.time (1:Int) d.clock)) then Lp.ret false else (bif decide ((0:Int)<((i:Nat):Int)) then (bif (!Op.bytesLess ((d.files.getD (i-1) default).name).toList x1.name.toList) then Lp.ret false else (match Mn i d x1 (i-0+1) 0 with
 |Lp.ret r=>Lp.ret r
 |Lp.brk ()=>Oo d rest (i+1))) else (match Mn i d x1 (i-0+1) 0 with
 |Lp.ret r=>Lp.ret r
 |Lp.brk ()=>Oo d rest (i+1))))))
def Hz (d:A9):Bool:=
 (match Oo d d.files 0 with
 |Lp.ret r=>r
 |Lp.brk ()=>((J2 d.clock (0:Int) (1048576:Int))&&decide (((d.files.length:Nat):Int)≤(64:Int))))
def EN (r:Ab):Bool:=
 ((HT r.out)&&((J2 r.time (1:Int) (1048576:Int))&&(SU r.sign (1:Int) (2048:Int))))
def m_cy:List Ab→Nat→Lp (Bool) (Unit)
 | [],i=>Lp.brk ()
 |x1::rest,i=>(bif (!(EN x1)) then Lp.ret false else m_cy rest (i+1))
def Uq (rs:List Ab):Bool:=
 (match m_cy rs 0 with
 |Lp.ret r=>r
 |Lp.brk ()=>decide (((rs.length:Nat):Int)≤(256:Int)))
def Fz (f:Aa):Bool:=
 ((HT f.out)&&((J2 f.time (1:Int) (1048576:Int))&&(Ov f.ins)))
def m_cs:List Aa→Nat→Lp (Bool) (Unit)
 | [],i=>Lp.brk ()
 |x1::rest,i=>(bif (!(Fz x1)) then Lp.ret false else m_cs rest (i+1))
def Um (fs:List Aa):Bool:=
 (match m_cs fs 0 with
 |Lp.ret r=>r
 |Lp.brk ()=>decide (((fs.length:Nat):Int)≤(256:Int)))
def DU (s':A7):Bool:=
 (decide ((Q4 (⟨s'.graph.edges,s'.graph.pools,s'.graph.defaults⟩:Af)).2=(0:Int))&&((Er s'.actions)&&((Hz (⟨s'.disk.clock,s'.disk.files⟩:A9))&&((Uq s'.log)&&(Um s'.deps)))))
def G6 (s':A7) (edge:Int):List BD→Nat→Int→Lp (Bool) (Int)
 | [],i2,most'=>Lp.brk most'
 |x2::rest,i2,most'=>(bif decide (x2.name=(s'.graph.edges.getD edge.toNat default).pool) then G6 s' edge rest (i2+1) x2.depth else G6 s' edge rest (i2+1) most')
def Ei (s':A7) (edge:Int):List Int→Nat→Nat→Nat→Lp (Bool) (Nat×Nat)
 | [],i,all,own=>Lp.brk (all,own)
 |x1::rest,i,all,own=>(bif decide (x1=(2:Int)) then (bif decide ((s'.graph.edges.getD i default).pool=(s'.graph.edges.getD edge.toNat default).pool) then Ei s' edge rest (i+1) (all+1) (own+1) else Ei s' edge rest (i+1) (all+1) own) else Ei s' edge rest (i+1) all own)
def m_ref12_room (s':A7) (edge:Int):Bool:=
 (match Ei s' edge s'.status 0 0 0 with
 |Lp.ret r=>r
 |Lp.brk (all',own')=>(match G6 s' edge s'.graph.pools 0 (8:Int) with
 |Lp.ret r=>r
 |Lp.brk most'2'=>(decide (((all':Nat):Int)<s'.jobs)&&(decide ((s'.graph.edges.getD edge.toNat default).pool=(⟨#[]⟩:ByteArray))||decide (((own':Nat):Int)<most'2')))))
def J4 (x':ByteArray):Bool:=
 (!decide (x'=x'))
def Kl (x':ByteArray) (y:ByteArray):Int:=
 (bif (J4 x') then (bif (J4 y) then (0:Int) else (-1:Int)) else (bif (J4 y) then (1:Int) else (bif (Op.bytesLess x'.toList y.toList) then (-1:Int) else (bif (!(Op.bytesLess x'.toList y.toList||decide (x'=y))) then (1:Int) else (0:Int)))))
def GW (f:A2) (s':ByteArray):Int:=
 (Kl f.name s')
def VK (cmp:A2→ByteArray→Int) (x':List A2) (target:ByteArray):Nat→Int→Int→Lp (Int×Bool) (Int)
 |0,i,j=>Lp.brk i
 |kf+1,i,j=>(bif decide (i<j) then (bif decide ((cmp (x'.getD (IntKind.wrap .i64 (Int.fdiv (IntKind.wrap .u64 (IntKind.wrap .i64 (i+j))) (2^(min 1 IntKind.u64.bits)))).toNat default) target)<(0:Int)) then VK cmp x' target kf (IntKind.wrap .i64 ((IntKind.wrap .i64 (Int.fdiv (IntKind.wrap .u64 (IntKind.wrap .i64 (i+j))) (2^(min 1 IntKind.u64.bits))))+(1:Int))) j else VK cmp x' target kf i (IntKind.wrap .i64 (Int.fdiv (IntKind.wrap .u64 (IntKind.wrap .i64 (i+j))) (2^(min 1 IntKind.u64.bits))))) else Lp.brk i)
def MK (x':List A2) (target:ByteArray) (cmp:A2→ByteArray→Int):Int×Bool:=
 (match VK cmp x' target ((((x'.length:Nat):Int)-(0:Int)).toNat+1) (0:Int) ((x'.length:Nat):Int) with
 |Lp.ret r=>r
 |Lp.brk i'=>(bif decide (i'<((x'.length:Nat):Int)) then (i',decide ((cmp (x'.getD i'.toNat default) target)=(0:Int))) else (i',false)))
def Ir (d:A9) (s':ByteArray):Int×Bool:=
 ((MK d.files s' (fun z0 z1=>GW z0 z1)).1,(MK d.files s' (fun z0 z1=>GW z0 z1)).2)
def Cc (d:A9) (s':ByteArray):A2×Bool:=
 (bif (Ir d s').2 then (bif (C4 D6 d) then ((⟨(d.files.getD ((Ir d s').1).toNat default).name,(d.files.getD ((Ir d s').1).toNat default).content,(d.files.getD ((Ir d s').1).toNat default).time⟩:A2),true) else ((⟨(⟨#[]⟩:ByteArray),(0:Int),(0:Int)⟩:A2),false)) else ((⟨(⟨#[]⟩:ByteArray),(0:Int),(0:Int)⟩:A2),false))
def IH (e:Ao):ByteArray×Int:=
 (bif (!(LH e)) then ((⟨#[]⟩:ByteArray),(1100:Int)) else ((BV [(BV e.outs (⟨#[32]⟩:ByteArray)),(BV e.ins (⟨#[32]⟩:ByteArray)),(BV e.implicit (⟨#[32]⟩:ByteArray)),(bif e.deps then (⟨#[100]⟩:ByteArray) else (⟨#[110]⟩:ByteArray)),e.command] (⟨#[124]⟩:ByteArray)),(0:Int)))
def CO (rs:List Ab) (out:ByteArray):Ab×Bool:=
 (bif decide ((AO rs out)<(0:Int)) then (GE,false) else (bif (!(JP rs)) then (GE,false) else ((⟨(rs.getD (AO rs out).toNat default).out,(rs.getD (AO rs out).toNat default).time,(rs.getD (AO rs out).toNat default).sign⟩:Ab),true)))
def G4 (f:Aa):Aa:=
 (⟨f.out,f.time,(Hr f.ins)⟩:Aa)
def J8 (fs:List Aa) (out:ByteArray):Aa×Bool:=
 (bif decide ((As fs out)<(0:Int)) then ((⟨(⟨#[]⟩:ByteArray),(0:Int),[]⟩:Aa),false) else (bif (!(JO fs)) then ((⟨(⟨#[]⟩:ByteArray),(0:Int),[]⟩:Aa),false) else ((⟨(G4 (fs.getD (As fs out).toNat default)).out,(G4 (fs.getD (As fs out).toNat default)).time,(G4 (fs.getD (As fs out).toNat default)).ins⟩:Aa),true)))
def LC (l:Ac) (s':ByteArray):Bool:=
 ((!(Cc l.state.disk s').2)&&decide ((DP l.state.graph s')<(0:Int)))
def Sk (l:Ac):List ByteArray→Nat→Int→Lp (Int) (Int)
 | [],v32,out=>Lp.brk out
 |x1::rest,v32,out=>(bif (!(Cc l.state.disk x1).2) then Lp.ret (-1:Int) else (bif (!(CO l.state.log x1).2) then Lp.ret (-1:Int) else (bif (!decide (((CO l.state.log x1).1).sign=(IH l.edge).1)) then Lp.ret (-1:Int) else (bif (!decide (((CO l.state.log x1).1).time=((Cc l.state.disk x1).1).time)) then Lp.ret (-1:Int) else Sk l rest (v32+1) (if ((Cc l.state.disk x1).1).time<out then ((Cc l.state.disk x1).1).time else out)))))
def Lh (l:Ac):Int:=
 (match Sk l l.edge.outs 0 l.state.disk.clock with
 |Lp.ret r=>r
 |Lp.brk out'=>out')
def Rr (s':ByteArray) (l:Ac) (time:Int):Bool:=
 ((!(Cc l.state.disk s').2)||decide (time<((Cc l.state.disk s').1).time))
def SQ (f:ByteArray→Bool):List ByteArray→Nat→Lp (Int) (Unit)
 | [],v8=>Lp.brk ()
 |x1::rest,v8=>(bif (f x1) then Lp.ret ((v8:Nat):Int) else SQ f rest (v8+1))
def Ru (s':List ByteArray) (f:ByteArray→Bool):Int:=
 (match SQ f s' 0 with
 |Lp.ret r=>r
 |Lp.brk ()=>(-1:Int))
def Tz (s':List ByteArray) (f:ByteArray→Bool):Bool:=
 decide ((0:Int)≤(Ru s' f))
def Rq (l:Ac) (ss:List ByteArray) (time:Int):Bool:=
 (Tz ss (fun z0=>Rr z0 l time))
def Sj (l:Ac):Bool:=
 (decide ((Lh l)<(0:Int))||((Rq l l.edge.ins (Lh l))||((Rq l l.edge.implicit (Lh l))||(!(!l.edge.deps)&&((!(J8 l.state.deps (l.edge.outs.getD 0 default)).2)||((!decide (((J8 l.state.deps (l.edge.outs.getD 0 default)).1).time=((Cc l.state.disk (l.edge.outs.getD 0 default)).1).time))||(Rq l (((J8 l.state.deps (l.edge.outs.getD 0 default)).1).ins) (Lh l))))))))
def Db (s':A7) (edge:Int):Bool×Int:=
 (bif (!(Hx s')) then (false,(1900:Int)) else (bif decide (edge<(0:Int)) then (false,(1900:Int)) else (bif decide (((s'.graph.edges.length:Nat):Int)≤edge) then (false,(1900:Int)) else (bif (Tz (CN [(s'.graph.edges.getD edge.toNat default).ins,(s'.graph.edges.getD edge.toNat default).implicit,(s'.graph.edges.getD edge.toNat default).order]) (fun z0=>LC (⟨s',(s'.graph.edges.getD edge.toNat default)⟩:Ac) z0)) then (false,(1901:Int)) else ((Sj (⟨s',(s'.graph.edges.getD edge.toNat default)⟩:Ac)),(0:Int))))))
def IF (s':A7) (x2:Int):List ByteArray→Nat→(List Bool)→Lp (List Bool×Int) ((List Bool))
 | [],v70,row3=>Lp.brk row3
 |x3::rest,v70,row3=>(bif decide ((0:Int)≤(DP s'.graph x3)) then (bif (row3.getD ((DP s'.graph x3).toNat) default) then IF s' x2 rest (v70+1) (row3.set x2.toNat true) else IF s' x2 rest (v70+1) row3) else IF s' x2 rest (v70+1) row3)
def KM (s':A7):List Int→Nat→(List Bool)→Lp (List Bool×Int) ((List Bool))
 | [],v50,row2=>Lp.brk row2
 |x2::rest,v50,row2=>(match IF s' x2 (CN [(s'.graph.edges.getD x2.toNat default).ins,(s'.graph.edges.getD x2.toNat default).implicit]) 0 row2 with
 |Lp.ret r=>Lp.ret r
 |Lp.brk row4'=>KM s' rest (v50+1) row4')
def Mp (s':A7):List Bool→Nat→(List Bool)→Lp (List Bool×Int) ((List Bool))
 | [],v25,row=>Lp.brk row
 |x1::rest,v25,row=>(bif (!decide ((Db s' ((v25:Nat):Int)).2=(0:Int))) then Lp.ret (([]:List Bool),(Db s' ((v25:Nat):Int)).2) else Mp s' rest (v25+1) (row.set v25 ((Db s' ((v25:Nat):Int)).1)))
def DI (s':A7):List Bool×Int:=
 (bif (!(Hx s')) then (([]:List Bool),(1900:Int)) else (match Mp s' (List.replicate s'.graph.edges.length false) 0 (List.replicate s'.graph.edges.length false) with
 |Lp.ret r=>r
 |Lp.brk row'=>(match KM s' ((Fl (⟨s'.graph.edges,s'.graph.pools,s'.graph.defaults⟩:Af)).1) 0 row' with
 |Lp.ret r=>r
 |Lp.brk row5'=>(row5',(0:Int)))))
def J7 (e:Ao):ByteArray×Int:=
 (bif (!(Ur e)) then ((⟨#[]⟩:ByteArray),(1100:Int)) else ((((((((((Mq e.outs (⟨#[32]⟩:ByteArray))++(⟨#[124]⟩:ByteArray))++(Mq e.ins (⟨#[32]⟩:ByteArray)))++(⟨#[124]⟩:ByteArray))++(Mq e.implicit (⟨#[32]⟩:ByteArray)))++(⟨#[124]⟩:ByteArray))++(bif e.deps then (⟨#[100]⟩:ByteArray) else (⟨#[110]⟩:ByteArray)))++(⟨#[124]⟩:ByteArray))++e.command),(0:Int)))
def VI (d:A9) (name:ByteArray):Nat→Nat→ByteArray→Int→Int→Lp (A2×Bool) (ByteArray×Int×Int)
 |0,i,cell,cell2,cell3=>Lp.brk (cell,cell2,cell3)
 |kf+1,i,cell,cell2,cell3=>(bif decide (((i:Nat):Int)<((d.files.length:Nat):Int)) then (bif (Hz d) then (bif decide ((d.files.getD i default).name=name) then Lp.ret ((⟨(d.files.getD i default).name,(d.files.getD i default).content,(d.files.getD i default).time⟩:A2),true) else VI d name kf (i+1) cell cell2 cell3) else Lp.brk (cell,cell2,cell3)) else Lp.brk (cell,cell2,cell3))
def GX (d:A9) (name:ByteArray):A2×Bool:=
 (match VI d name (d.files.length-0+1) 0 (⟨#[]⟩:ByteArray) (0:Int) (0:Int) with
 |Lp.ret r=>r
 |Lp.brk (cell',cell2',cell3')=>((⟨(⟨#[]⟩:ByteArray),(0:Int),(0:Int)⟩:A2),false))
def Ui (rs:List Ab) (out:ByteArray):Nat→Int→ByteArray→Int→ByteArray→Lp (Ab×Bool) (ByteArray×Int×ByteArray)
 |0,i,cell,cell2,cell3=>Lp.brk (cell,cell2,cell3)
 |kf+1,i,cell,cell2,cell3=>(bif decide ((0:Int)≤i) then (bif (Uq rs) then (bif decide ((rs.getD i.toNat default).out=out) then Lp.ret ((⟨(rs.getD i.toNat default).out,(rs.getD i.toNat default).time,(rs.getD i.toNat default).sign⟩:Ab),true) else Ui rs out kf (i-(1:Int)) cell cell2 cell3) else Lp.brk (cell,cell2,cell3)) else Lp.brk (cell,cell2,cell3))
def VG (rs:List Ab) (out:ByteArray):Ab×Bool:=
 (match Ui rs out (((((rs.length:Nat):Int)-(1:Int))+1).toNat+1) (((rs.length:Nat):Int)-(1:Int)) (⟨#[]⟩:ByteArray) (0:Int) (⟨#[]⟩:ByteArray) with
 |Lp.ret r=>r
 |Lp.brk (cell',cell2',cell3')=>(GE,false))
def EO (f:Aa):Aa:=
 (⟨f.out,f.time,f.ins⟩:Aa)
def Uj (fs:List Aa) (out:ByteArray):Nat→Int→ByteArray→Int→(List ByteArray)→Lp (Aa×Bool) (ByteArray×Int×(List ByteArray))
 |0,i,cell,cell2,cell3=>Lp.brk (cell,cell2,cell3)
 |kf+1,i,cell,cell2,cell3=>(bif decide ((0:Int)≤i) then (bif (Um fs) then (bif decide ((fs.getD i.toNat default).out=out) then Lp.ret ((⟨(EO (fs.getD i.toNat default)).out,(EO (fs.getD i.toNat default)).time,(EO (fs.getD i.toNat default)).ins⟩:Aa),true) else Uj fs out kf (i-(1:Int)) cell cell2 cell3) else Lp.brk (cell,cell2,cell3)) else Lp.brk (cell,cell2,cell3))
def Ul (fs:List Aa) (out:ByteArray):Aa×Bool:=
 (match Uj fs out (((((fs.length:Nat):Int)-(1:Int))+1).toNat+1) (((fs.length:Nat):Int)-(1:Int)) (⟨#[]⟩:ByteArray) (0:Int) [] with
 |Lp.ret r=>r
 |Lp.brk (cell',cell2',cell3')=>((⟨(⟨#[]⟩:ByteArray),(0:Int),[]⟩:Aa),false))
def NA (s':A7):List ByteArray→Nat→Lp (Bool) (Unit)
 | [],i=>Lp.brk ()
 |x1::rest,i=>(bif (!(GX (⟨s'.disk.clock,s'.disk.files⟩:A9) x1).2) then (bif decide ((Q2 (⟨s'.graph.edges,s'.graph.pools,s'.graph.defaults⟩:Af) x1)<(0:Int)) then Lp.ret true else NA s' rest (i+1)) else NA s' rest (i+1))
def Km (s':A7) (x':Ao):Bool:=
 (match NA s' ((x'.ins++x'.implicit)++x'.order) 0 with
 |Lp.ret r=>r
 |Lp.brk ()=>false)
def Ox (d:A9) (time:Int):List ByteArray→Nat→Lp (Bool) (Unit)
 | [],i=>Lp.brk ()
 |x1::rest,i=>(bif (!(GX d x1).2) then Lp.ret true else (bif decide (time<((GX d x1).1).time) then Lp.ret true else Ox d time rest (i+1)))
def RH (d:A9) (names:List ByteArray) (time:Int):Bool:=
 (match Ox d time names 0 with
 |Lp.ret r=>r
 |Lp.brk ()=>false)
def IG (s':A7) (x':Ao):List ByteArray→Nat→Int→Lp (Bool) (Int)
 | [],i,time=>Lp.brk time
 |x1::rest,i,time=>(bif (!(GX (⟨s'.disk.clock,s'.disk.files⟩:A9) x1).2) then Lp.ret true else (bif (!(VG s'.log x1).2) then Lp.ret true else (bif (!decide (((VG s'.log x1).1).sign=(J7 x').1)) then Lp.ret true else (bif (!decide (((VG s'.log x1).1).time=((GX (⟨s'.disk.clock,s'.disk.files⟩:A9) x1).1).time)) then Lp.ret true else IG s' x' rest (i+1) (if ((GX (⟨s'.disk.clock,s'.disk.files⟩:A9) x1).1).time<time then ((GX (⟨s'.disk.clock,s'.disk.files⟩:A9) x1).1).time else time)))))
def LJ (s':A7) (x':Ao):Bool:=
 (match IG s' x' x'.outs 0 (1048576:Int) with
 |Lp.ret r=>r
 |Lp.brk time'=>((RH (⟨s'.disk.clock,s'.disk.files⟩:A9) x'.ins time')||((RH (⟨s'.disk.clock,s'.disk.files⟩:A9) x'.implicit time')||(!(!x'.deps)&&((!(Ul s'.deps (x'.outs.getD 0 default)).2)||((!decide (((Ul s'.deps (x'.outs.getD 0 default)).1).time=((GX (⟨s'.disk.clock,s'.disk.files⟩:A9) (x'.outs.getD 0 default)).1).time))||(RH (⟨s'.disk.clock,s'.disk.files⟩:A9) (((Ul s'.deps (x'.outs.getD 0 default)).1).ins) time')))))))
def On (s':A7) (row:List Bool):List ByteArray→Nat→Bool→Lp (List Bool×Int) (Bool)
 | [],k,is=>Lp.brk is
 |x2::rest,k,is=>(bif is then On s' row rest (k+1) true else (bif decide ((0:Int)≤(Q2 s'.graph x2)) then On s' row rest (k+1) (row.getD ((Q2 s'.graph x2).toNat) default) else On s' row rest (k+1) false))
def Mm (s':A7):List Int→Nat→(List Bool)→Lp (List Bool×Int) ((List Bool))
 | [],i,row=>Lp.brk row
 |x1::rest,i,row=>(bif (Km s' (s'.graph.edges.getD x1.toNat default)) then Lp.ret (([]:List Bool),(1901:Int)) else (match On s' row ((s'.graph.edges.getD x1.toNat default).ins++(s'.graph.edges.getD x1.toNat default).implicit) 0 (LJ s' (s'.graph.edges.getD x1.toNat default)) with
 |Lp.ret r=>Lp.ret r
 |Lp.brk is'=>Mm s' rest (i+1) (row.set x1.toNat is')))
def Fy (s':A7):List Bool×Int:=
 (bif (!(DU s')) then (([]:List Bool),(1900:Int)) else (match Mm s' ((Q4 s'.graph).1) 0 (List.replicate s'.graph.edges.length false) with
 |Lp.ret r=>r
 |Lp.brk row'=>(row',(0:Int))))
def J5 (name:ByteArray) (content:Int) (d:A9):List A2→Nat→Bool→(List A2)→Lp (A9×Int) (Bool×(List A2))
 | [],i,in',cell=>Lp.brk (in',cell)
 |x1::rest,i,in',cell=>(bif (!in') then (bif (!Op.bytesLess x1.name.toList name.toList) then (bif (!decide (x1.name=name)) then J5 name content d rest (i+1) true ((cell++[(⟨name,content,(IntKind.wrap .i64 (d.clock+(1:Int)))⟩:A2)])++[x1]) else J5 name content d rest (i+1) true (cell++[(⟨name,content,(IntKind.wrap .i64 (d.clock+(1:Int)))⟩:A2)])) else (bif (!decide (x1.name=name)) then J5 name content d rest (i+1) in' (cell++[x1]) else J5 name content d rest (i+1) in' cell)) else (bif (!decide (x1.name=name)) then J5 name content d rest (i+1) in' (cell++[x1]) else J5 name content d rest (i+1) in' cell))
def E5 (d:A9) (name:ByteArray) (content:Int):A9×Int:=
 (bif (!(Hz d)) then ((⟨(0:Int),[]⟩:A9),(1200:Int)) else (bif (!(HT name)) then ((⟨(0:Int),[]⟩:A9),(1200:Int)) else (bif (!(J2 content (0:Int) (2147483647:Int))) then ((⟨(0:Int),[]⟩:A9),(1200:Int)) else (match J5 name content d d.files 0 false [] with
 |Lp.ret r=>r
 |Lp.brk (inv',cell')=>(bif (!inv') then (bif decide ((1048576:Int)<(IntKind.wrap .i64 (d.clock+(1:Int)))) then ((⟨(0:Int),[]⟩:A9),(1201:Int)) else (bif decide ((64:Int)<(((cell'++[(⟨name,content,(IntKind.wrap .i64 (d.clock+(1:Int)))⟩:A2)]).length:Nat):Int)) then ((⟨(0:Int),[]⟩:A9),(1201:Int)) else ((⟨(IntKind.wrap .i64 (d.clock+(1:Int))),(cell'++[(⟨name,content,(IntKind.wrap .i64 (d.clock+(1:Int)))⟩:A2)])⟩:A9),(0:Int)))) else (bif decide ((1048576:Int)<(IntKind.wrap .i64 (d.clock+(1:Int)))) then ((⟨(0:Int),[]⟩:A9),(1201:Int)) else (bif decide ((64:Int)<((cell'.length:Nat):Int)) then ((⟨(0:Int),[]⟩:A9),(1201:Int)) else ((⟨(IntKind.wrap .i64 (d.clock+(1:Int))),cell'⟩:A9),(0:Int)))))))))
def JW:A7:=
 AK
def KN:Bool:=
 ((Db AK (1:Int)).1&&(decide ((CH ((Db AK (1:Int)).2))=(0:Int))&&((JN ((DI AK).1) [true,true,true])&&(decide ((CH ((DI AK).2))=(0:Int))&&(decide ((CH ((Db (⟨CG,[BG],(⟨(4:Int),(([AA,AC,AD,AB].take [AA,AC,AD,AB].length).drop 1)⟩:A9),[],[],(2:Int),false,[]⟩:A7) (1:Int)).2))=(1901:Int))&&(decide ((CH ((Db AK (3:Int)).2))=(1900:Int))&&decide ((CH ((DI (⟨EM,[BG],(⟨(4:Int),(([AA,AC,AD,AB].take [AA,AC,AD,AB].length).drop 1)⟩:A9),[],[],(2:Int),false,[]⟩:A7)).2))=(1900:Int))))))))
def RC:List ByteArray→Nat→Lp (Bool) (Unit)
 | [],k=>Lp.brk ()
 |x2::rest,k=>(bif decide (x2=(⟨#[113,47,117,110,117,115,101,100,46,102,105,108,101]⟩:ByteArray)) then Lp.ret true else RC rest (k+1))
def RE:List ByteArray→Nat→Lp (Bool) (Unit)
 | [],k2=>Lp.brk ()
 |x4::rest,k2=>(bif decide (x4=(⟨#[113,47,117,110,117,115,101,100,46,102,105,108,101]⟩:ByteArray)) then Lp.ret true else RE rest (k2+1))
def RD:List Ao→Nat→Lp (Bool) (Unit)
 | [],i2=>Lp.brk ()
 |x3::rest,i2=>(match RE (((x3.outs++x3.ins)++x3.implicit)++x3.order) 0 with
 |Lp.ret r=>Lp.ret r
 |Lp.brk ()=>RD rest (i2+1))
def Rz:List Aa→Nat→Lp (Bool) (Unit)
 | [],i=>Lp.brk ()
 |x1::rest,i=>(match RC x1.ins 0 with
 |Lp.ret r=>Lp.ret r
 |Lp.brk ()=>Rz rest (i+1))
def Q3 (s':A7) (content:Int):Bool:=
 (!(!KN)&&((!decide ((E5 (⟨s'.disk.clock,s'.disk.files⟩:A9) (⟨#[113,47,117,110,117,115,101,100,46,102,105,108,101]⟩:ByteArray) (Bv .and .i64 content (65535:Int))).2=(0:Int)))||(match Rz s'.deps 0 with
 |Lp.ret r=>r
 |Lp.brk ()=>(match RD s'.graph.edges 0 with
 |Lp.ret r=>r
 |Lp.brk ()=>(decide ((CH ((DI s').2))=(CH ((DI (⟨(⟨s'.graph.edges,s'.graph.pools,s'.graph.defaults⟩:Af),s'.actions,(⟨((E5 (⟨s'.disk.clock,s'.disk.files⟩:A9) (⟨#[113,47,117,110,117,115,101,100,46,102,105,108,101]⟩:ByteArray) (Bv .and .i64 content (65535:Int))).1).clock,((E5 (⟨s'.disk.clock,s'.disk.files⟩:A9) (⟨#[113,47,117,110,117,115,101,100,46,102,105,108,101]⟩:ByteArray) (Bv .and .i64 content (65535:Int))).1).files⟩:A9),s'.log,s'.deps,s'.jobs,s'.going,s'.status⟩:A7)).2)))&&(JN ((DI s').1) ((DI (⟨(⟨s'.graph.edges,s'.graph.pools,s'.graph.defaults⟩:Af),s'.actions,(⟨((E5 (⟨s'.disk.clock,s'.disk.files⟩:A9) (⟨#[113,47,117,110,117,115,101,100,46,102,105,108,101]⟩:ByteArray) (Bv .and .i64 content (65535:Int))).1).clock,((E5 (⟨s'.disk.clock,s'.disk.files⟩:A9) (⟨#[113,47,117,110,117,115,101,100,46,102,105,108,101]⟩:ByteArray) (Bv .and .i64 content (65535:Int))).1).files⟩:A9),s'.log,s'.deps,s'.jobs,s'.going,s'.status⟩:A7)).1)))))))
end
end Go.Lift
namespace Go.Lift
noncomputable section
open Go Go.RowKit
theorem Hh {α:Type} {sz:α→Nat} (h: ∀x,1≤sz x) (xs:List α):xs.length+1≤Dj sz xs:=by
 unfold Dj
 induction xs with
 |nil=>simp
 |cons x xs ih=>have:=h x;simp only [List.map_cons,List.sum_cons,List.length_cons];omega
theorem JK {α:Type} {sz:α→Nat} {x:α}: ∀ {xs:List α},x∈xs→sz x+1≤Dj sz xs
 | [],h=>by simp at h
 |y::ys,h=>by
  unfold Dj
  simp only [List.map_cons,List.sum_cons]
  rcases List.mem_cons.1 h with rfl|h
  ·omega
  ·have:=JK (sz:=sz) h;unfold Dj at this;omega
theorem Wm {α:Type} [Inhabited α] {sz:α→Nat} {xs:List α} {i:Nat} (h:i<xs.length):sz (xs.getD i default)+1≤Dj sz xs:=
 JK (List.mem_of_getElem? (getD_some h))
theorem CB (xs:List ByteArray):xs.length+1≤Dj (fun s:ByteArray=>s.size+1) xs:=Hh (fun _=>Nat.le_add_left 1 _) xs
theorem Ao.sz_one (e:Ao):1≤e.sz:=by unfold Ao.sz;omega
theorem QD (d:Ao):d.sz=Dj (fun s:ByteArray=>s.size+1) d.outs+Dj (fun s:ByteArray=>s.size+1) d.ins+Dj (fun s:ByteArray=>s.size+1) d.implicit+Dj (fun s:ByteArray=>s.size+1) d.order+(d.command.size+1)+1+(d.pool.size+1)+1:=rfl
theorem Af.sz_len (g:Af):g.edges.length≤g.sz:=Nat.le_trans (Nat.le_of_succ_le (Hh Ao.sz_one g.edges)) g.sz_edges
theorem Uw (g:Af) (i:Int):ND g i≤g.sz:=by
 unfold ND
 by_cases h:i.toNat<g.edges.length
 ·have h1:=Wm (sz:=Ao.sz) h
  have h2:=g.sz_edges
  generalize g.edges.getD i.toNat default=e at*
  have a:=CB e.ins;have b:=CB e.implicit;have c:=CB e.order
  rw [QD] at h1
  omega
 ·rw [List.getD_eq_getElem?_getD,List.getElem?_eq_none (by omega)]
  show (0+0+0:Nat)≤_
  omega
theorem P8: ∀es:List Ao,RR es≤Dj Ao.sz es
 | []=>Nat.zero_le _
 |e::es=>by
  have:=P8 es
  have a:=CB e.outs;have b:=e.sz_outs
  unfold Dj at*
  simp only [RR,List.map_cons,List.sum_cons] at*
  omega
theorem W1 (g:Af):RR g.edges≤g.sz:=Nat.le_trans (P8 _) g.sz_edges
theorem and_le (x m:Int) (h0:0≤m) (hm:m<4611686018427387904):0≤Bv .and .i64 x m∧Bv .and .i64 x m≤m:=by
 obtain ⟨n,rfl⟩: ∃n:Nat,m=((n:Nat):Int):=⟨m.toNat,by omega⟩
 have h:(BitVec.ofInt IntKind.i64.bits x&&&BitVec.ofInt IntKind.i64.bits ((n:Nat):Int)).toNat≤n:=by
  rw [BitVec.toNat_and]
  refine Nat.le_trans Nat.and_le_right ?_
  rw [BitVec.ofInt_natCast,BitVec.toNat_ofNat]
  exact Nat.mod_le _ _
 unfold Bv
 simp only
 rw [DO (by omega) (by omega)]
 omega
end
end Go.Lift
namespace Go.Lift
noncomputable section
open Go Go.RowKit
theorem Kg {α:Type} {p:α→Bool} {L:List α→Nat→Lp Bool Unit} (h0: ∀i,L [] i=Lp.brk ()) (h1: ∀x r i,L (x::r) i=bif !(p x) then Lp.ret false else L r (i+1)): ∀(l:List α) (i:Nat),L l i=if l.all p then Lp.brk () else Lp.ret false
 | [],i=>by rw [h0];rfl
 |x::r,i=>by
  rw [h1,Kg h0 h1 r (i+1),List.all_cons]
  cases p x<;>simp
theorem Cu (xs ys:List ByteArray) (k:Nat):Cl (xs++ys) k=Cl xs k+Cl ys k:=by
 induction xs with
 |nil=>simp [Cl]
 |cons x xs ih=>simp only [List.cons_append,Cl,ih];omega
theorem Ev (xs:List ByteArray) (n k:Nat):Cl (xs.take n) k≤Cl xs k:=by
 have:=Cu (xs.take n) (xs.drop n) k
 rw [List.take_append_drop] at this
 omega
theorem Mx (l:List UInt8) (i:Nat):Ml l i=if l.all Ft then Lp.brk () else Lp.ret false:=
 Kg (p:=Ft) (fun _=>rfl) (fun x r i=>by
  rw [Ml,TU]
  have e:LI (x.toNat:Int)=NY x.toNat:=by
   unfold LI NY
   cases decide ((97:Int)≤(x.toNat:Int))<;>cases decide ((x.toNat:Int)≤122)<;>rfl
  rw [e]
  generalize NY x.toNat=a
  generalize decide ((x.toNat:Int)=46)=b
  generalize decide ((x.toNat:Int)=95)=c
  generalize decide ((x.toNat:Int)=45)=d
  generalize decide ((x.toNat:Int)=47)=f
  cases a<;>cases b<;>cases c<;>cases d<;>cases f<;>rfl) l i
theorem Dh (s:ByteArray):Kk s=G8 s:=by
 unfold Kk
 rw [Mx,RL]
 cases s.data.toList.all Ft<;>rfl
theorem TB {s:ByteArray} (h:G8 s=true):1≤s.size∧s.size≤16:=by
 rw [RL] at h
 simp only [Bool.and_eq_true,decide_eq_true_eq] at h
 omega
theorem LU {s:ByteArray} (h:Kk s=true):1≤s.size∧s.size≤16:=TB (by rw [←Dh];exact h)
theorem My {s:ByteArray} (h:(!(Kk s))=false):1≤s.size∧s.size≤16:=LU (by simpa using h)
def Lp.val {α:Type}:Lp α α→α
 | .ret a=>a
 | .brk a=>a
theorem Jp (s:ByteArray) (c:Int): ∀(k:Nat) (out:List ByteArray) (f i:Nat),Cl out 1≤f→f≤i→i≤s.size+1→Cl (LE s c k out f i).val 1≤s.size+1
 |0,out,f,i,h1,h2,h3=>by simp only [LE,Lp.val];omega
 |k+1,out,f,i,h1,h2,h3=>by
  rw [LE]
  by_cases h:((i:Nat):Int)≤((s.size:Nat):Int)
  ·rw [decide_eq_true h,cond_true]
   cases (decide (((i:Nat):Int)=((s.size:Nat):Int))||decide (((s.data.getD i 0).toNat:Int)=c))
   ·exact Jp s c k out f (i+1) h1 (by omega) (by omega)
   ·refine Jp s c k _ (i+1) (i+1) ?_ (Nat.le_refl _) (by omega)
    rw [Cu]
    simp only [Cl,ByteArray.size_extract]
    omega
  ·rw [decide_eq_false h,cond_false]
   simp only [Lp.val];omega
theorem NZ (s:ByteArray) (c:Int):Cl (J3 s c) 1≤s.size+1:=by
 have:=Jp s c (s.size+1-0+1) [] 0 0 (Nat.le_refl _) (Nat.le_refl _) (Nat.zero_le _)
 unfold J3
 cases e:LE s c (s.size+1-0+1) [] 0 0<;>rw [e] at this<;>exact this
theorem T3 {s:ByteArray} {c:Int} {kept:List ByteArray} {n:Nat} (h:s.size≤16) (hk:Cl kept 1+n≤Cl (J3 s c) 1):Cl kept (⟨#[47]⟩:ByteArray).size≤281474976710656:=by
 have:=NZ s c
 show Cl kept 1≤_
 omega
theorem OU: ∀(xs:List (List ByteArray)) (i n:Nat),Us xs i n=Lp.brk (n+xs.flatten.length)
 | [],i,n=>by simp [Us]
 |x::xs,i,n=>by rw [Us,OU xs];simp [Nat.add_assoc]
theorem OV: ∀(xs:List (List ByteArray)) (i:Nat) (out:List ByteArray),KP xs i out=Lp.brk (out++xs.flatten)
 | [],i,n=>by simp [KP]
 |x::xs,i,n=>by rw [KP,OV xs];simp [List.append_assoc]
theorem GA (xs:List (List ByteArray)):CN xs=xs.flatten:=by
 simp only [CN,OU,OV,List.take_zero,List.nil_append]
theorem TY {g:Af} (h:(!decide ((GF g)=(0:Int)))=false):g.edges.length≤16:=by
 have h1:GF g=0:=by simpa using h
 unfold GF IU at h1
 split at h1
 ·simp at h1
 ·rename_i hm
  have hm':LL (Lg g)=true:=by simpa using hm
  simp only [LL,Bool.and_eq_true,decide_eq_true_eq,Lg,List.length_map] at hm'
  have:=hm'.2.1;omega
theorem Tv (f:Ao→Bool): ∀(xs:List Ao) (i:Nat),m_t f xs i=Lp.brk ()∨ ∃r:Nat,m_t f xs i=Lp.ret (r:Int)∧i≤r∧r<i+xs.length
 | [],i=>Or.inl rfl
 |x::xs,i=>by
  rw [m_t]
  cases f x
  ·simp only [cond_false]
   rcases Tv f xs (i+1) with h|⟨r,h,h1,h2⟩
   ·exact Or.inl h
   ·exact Or.inr ⟨r,h,by omega,by simp only [List.length_cons];omega⟩
  ·exact Or.inr ⟨i,rfl,Nat.le_refl _,by simp⟩
theorem RJ (g:Af) (s:ByteArray):DP g s<(g.edges.length:Int)∧ -1≤DP g s:=by
 unfold DP m_7
 rcases Tv (fun z0=>Rx z0 s) g.edges 0 with h|⟨r,h,h1,h2⟩
 ·rw [h];exact ⟨by show (-1:Int)<_;omega,Int.le_refl _⟩
 ·rw [h];exact ⟨by show (r:Int)<_;omega,by show (-1:Int)≤r;omega⟩
def inG (g:Af) (k:Int):Prop:=0≤k∧k.toNat<g.edges.length
theorem VV (g:Af): ∀(xs:List (List Int)) (i:Nat) (c:List Int),i+xs.length≤g.edges.length→(∀k∈c,inG g k)→ ∃t c',Nz xs i c=Lp.brk (t,c')∧(∀k∈c',inG g k)∧c'.length≤c.length+1
 | [],i,c,_,h=>⟨_,_,rfl,h,by omega⟩
 |x::xs,i,c,hl,h=>by
  simp only [List.length_cons] at hl
  rw [Nz]
  cases (!(Hy ((i:Nat):Int) c))
  ·exact VV g xs (i+1) c (by omega) h
  ·simp only [cond_true]
   cases (!(UP x (fun z0=>Mo z0 (fun z0=>Hy z0 c))))
   ·exact VV g xs (i+1) c (by omega) h
   ·refine ⟨_,_,rfl,?_,by simp⟩
    intro k hk
    rcases List.mem_append.1 hk with hk|hk
    ·exact h k hk
    ·rw [List.mem_singleton.1 hk];exact ⟨by omega,by omega⟩
theorem of_L2 (g:Af) (row:List (List Int)) (hr:row.length≤g.edges.length): ∀(f:Nat) (c:List Int),(∀k∈c,inG g k)→(∃c',Ot g row f c=Lp.brk c'∧(∀k∈c',inG g k)∧(c.length≤g.edges.length→c'.length≤g.edges.length))∨Ot g row f c=Lp.ret (([]:List Int),(1001:Int))
 |0,c,h=>Or.inl ⟨c,rfl,h,id⟩
 |f+1,c,h=>by
  rw [Ot]
  cases hd:decide (((c.length:Nat):Int)<((g.edges.length:Nat):Int))
  ·exact Or.inl ⟨c,rfl,h,id⟩
  ·have hd':=of_decide_eq_true hd
   obtain ⟨t,c',e,a,l⟩:=VV g row 0 c (by omega) h
   simp only [cond_true,e]
   cases t
   ·exact Or.inr rfl
   ·rcases of_L2 g row hr f c' a with ⟨c2,h1,h2,h3⟩|h1
    ·exact Or.inl ⟨c2,h1,h2,fun _=>h3 (by omega)⟩
    ·exact Or.inr h1
theorem of_L1 (g:Af): ∀(xs:List (List Int)) (i:Nat) (row:List (List Int)),∃row',Ny g xs i row=Lp.brk row'∧row'.length=row.length
 | [],i,row=>⟨_,rfl,rfl⟩
 |x::xs,i,row=>by
  rw [Ny]
  obtain ⟨r,e,a⟩:=of_L1 g xs (i+1) (row.set i (Gp g ((i:Nat):Int)))
  exact ⟨r,e,by simpa using a⟩
theorem Q9 {g:Af} {k:Int} (h:k∈(Fl g).1):0≤k∧k.toNat<g.edges.length:=by
 unfold Fl at h
 cases hc:(!decide ((GF g)=(0:Int)))
 ·rw [hc] at h
  simp only [cond_false] at h
  obtain ⟨row,e,a⟩:=of_L1 g (List.replicate g.edges.length ([]:List Int)) 0 (List.replicate g.edges.length ([]:List Int))
  rw [e] at h
  simp only at h
  rcases of_L2 g row (by rw [a];simp) (g.edges.length-0+1) [] (by simp) with ⟨c,e2,b,_⟩|e2
  ·rw [e2] at h;exact b k h
  ·rw [e2] at h;simp at h
 ·rw [hc] at h;simp at h
end
end Go.Lift
namespace Go.Lift
noncomputable section
open Go Go.RowKit
theorem LZ (c:UInt8): ∀l:List UInt8,BA c l≠ []
 | []=>by simp [BA]
 |b::l=>by
  rw [BA]
  split
  ·simp
  ·cases h:BA c l<;>simp
theorem KH (s:ByteArray) (f i:Nat):(s.extract f i).data.toList=(s.data.toList.take i).drop f:=by
 rw [ByteArray.data_extract,Array.toList_extract,List.extract_eq_take_drop,List.take_drop]
 by_cases h:f≤i
 ·rw [show f+(i-f)=i by omega]
 ·rw [show f+(i-f)=f by omega,List.drop_of_length_le (by simp;omega),List.drop_of_length_le (by simp;omega)]
theorem HE (s:ByteArray): ∀(k:Nat) (out:List ByteArray) (f i:Nat),f≤i→i≤s.size→s.size+1-i<k→
  LE s 47 k out f i=Lp.brk (out++(match BA 47 (s.data.toList.drop i) with| []=>[]|p::r=>EG ((s.data.toList.take i).drop f++p)::r.map EG))
 |0,_,_,_,_,_,h=>by omega
 |k+1,out,f,i,h1,h2,h3=>by
  have hl:=Dg s
  rw [LE,decide_eq_true (by omega),cond_true]
  by_cases hi:i=s.size
  ·subst hi
   rw [decide_eq_true rfl,Bool.true_or,cond_true]
   obtain ⟨k',rfl⟩: ∃k',k=k'+1:=⟨k-1,by omega⟩
   rw [LE,decide_eq_false (by omega),cond_false,List.drop_of_length_le (by omega)]
   simp only [BA,List.append_nil,List.map_nil]
   rw [←KH,Jr]
  ·have hlt:i<s.data.toList.length:=by omega
   have hd:s.data.toList.drop i=s.data.getD i 0::s.data.toList.drop (i+1):=by
    rw [List.drop_eq_getElem_cons hlt]
    congr 1
    have:i<s.data.size:=by rw [←Array.length_toList];exact hlt
    simp only [Array.getD,this,dif_pos];simp
   have ht:s.data.toList.take (i+1)=s.data.toList.take i++[s.data.getD i 0]:=by
    rw [List.take_add_one,List.getElem?_eq_getElem hlt]
    have:i<s.data.size:=by rw [←Array.length_toList];exact hlt
    simp only [Array.getD,this,dif_pos];simp
   rw [decide_eq_false (by omega),Bool.false_or,hd,BA]
   by_cases hb:s.data.getD i 0=47
   ·rw [if_pos hb,decide_eq_true (by rw [hb];rfl),cond_true,HE s k _ (i+1) (i+1) (Nat.le_refl _) (by omega) (by omega)]
    simp only [List.append_assoc,List.append_nil,List.singleton_append]
    rw [show EG ((s.data.toList.take i).drop f)=s.extract f i from by rw [←KH];rfl]
    congr 3
    cases h:BA 47 (s.data.toList.drop (i+1)) with
    |nil=>exact absurd h (LZ _ _)
    |cons p r=>simp only [List.map_cons];rw [List.drop_of_length_le (by simp;omega),List.nil_append]
   ·have hn: ¬((s.data.getD i 0).toNat:Int)=47:=fun h=>hb (by
      apply UInt8.toNat_inj.1;show _=47;omega)
    rw [if_neg hb,decide_eq_false hn,cond_false,HE s k out f (i+1) (by omega) (by omega) (by omega)]
    congr 2
    cases h:BA 47 (s.data.toList.drop (i+1)) with
    |nil=>exact absurd h (LZ _ _)
    |cons p r=>
     simp only
     rw [ht,List.drop_append_of_le_length (by simp;omega),List.append_assoc];rfl
theorem OC (s:ByteArray):J3 s 47=(BA 47 s.data.toList).map EG:=by
 unfold J3
 rw [HE s _ [] 0 0 (Nat.le_refl _) (Nat.zero_le _) (by omega)]
 simp only [List.drop_zero,List.nil_append,List.take_zero]
 cases h:BA 47 s.data.toList with
 |nil=>exact absurd h (LZ _ _)
 |cons p r=>rfl
theorem Eg: ∀(ps:List ByteArray) (i:Nat) (kept:List ByteArray),LD ps i kept=match IX ps kept with
  |none=>Lp.ret ((⟨#[]⟩:ByteArray),(200:Int))
  |some k=>Lp.brk k
 | [],i,kept=>rfl
 |p::ps,i,kept=>by
  rw [LD,IX,Jq]
  by_cases h1:p=⟨#[]⟩
  ·rw [decide_eq_true h1,cond_true,if_pos (Or.inl h1),Eg ps];rfl
  ·rw [decide_eq_false h1,cond_false]
   by_cases h2:p=⟨#[46]⟩
   ·rw [decide_eq_true h2,cond_true,if_pos (Or.inr h2),Eg ps];rfl
   ·rw [decide_eq_false h2,cond_false,if_neg (by rintro (h|h);exact h1 h;exact h2 h)]
    by_cases h3:p=⟨#[46,46]⟩
    ·rw [decide_eq_true h3,cond_true,if_neg (fun h=>h h3)]
     by_cases h4:kept=[]
     ·subst h4;rfl
     ·rw [decide_eq_false (by cases kept with
       |nil=>exact absurd rfl h4
       |cons a b=>simp only [List.length_cons];omega),cond_false,if_neg h4,Eg ps,List.dropLast_eq_take];rfl
    ·rw [decide_eq_false h3,cond_false,if_pos h3,Eg ps];rfl
theorem L4: ∀(xs:List ByteArray) (i:Nat) (acc:ByteArray),0<i→Kj ⟨#[47]⟩ xs i acc=Lp.brk (EG (acc.data.toList++Lib.joinTail [47] (xs.map (·.data.toList))))
 | [],i,acc,_=>by
   rw [Kj];simp only [Lib.joinTail,List.map_nil,List.flatten_nil,List.append_nil];rfl
 |x::xs,i,acc,h=>by
  rw [Kj,decide_eq_true (by omega),cond_true,L4 xs (i+1) _ (by omega)]
  congr 2
  simp [Lib.joinTail]
theorem Qh (k:ByteArray) (ks:List ByteArray):Mq (k::ks) ⟨#[47]⟩=Rf (k::ks):=by
 unfold Mq Rf
 rw [Kj,decide_eq_false (by omega),cond_false,L4 ks 1 _ (by omega)]
 simp only [List.map_cons,Lib.join_cons]
 show EG _=_
 unfold EG
 congr 2
theorem L3 (s:ByteArray):KQ s=Bz s:=by
 unfold KQ Bz
 rw [Dh]
 cases hm:G8 s
 ·simp
 ·have hz:=TB hm
  have hl:=Dg s
  have hh:s.data.toList.head? =some (s.data.getD 0 0):=by
   cases hs:s.data.toList with
   |nil=>rw [hs] at hl;simp at hl;omega
   |cons a b=>
    have:0<s.data.size:=by show 0<s.size;omega
    simp only [Array.getD,this,dif_pos,List.head?_cons]
    have e:s.data.toList[0]? =some a:=by rw [hs];rfl
    rw [Array.getElem?_toList] at e
    rw [Array.getElem?_eq_getElem this] at e
    exact e.symm
  simp only [Bool.not_true,cond_false,Bool.true_eq_false,false_or,hh]
  by_cases hb:s.data.getD 0 0=47
  ·rw [decide_eq_true (by rw [hb];rfl),cond_true,if_pos (by rw [hb])]
  ·have hn: ¬((s.data.getD 0 0).toNat:Int)=47:=fun h=>hb (by
     apply UInt8.toNat_inj.1;show _=47;omega)
   rw [decide_eq_false hn,cond_false,if_neg (by simpa using hb),OC,Eg]
   cases IX ((BA 47 s.data.toList).map EG) [] with
   |none=>rfl
   |some k=>
    cases k with
    |nil=>rfl
    |cons k ks=>
     simp only
     rw [decide_eq_false (by simp only [List.length_cons];omega),cond_false,Qh]
theorem IB (s:ByteArray):HT s=SM s:=by
 unfold HT SM;rw [L3]
theorem FC (xs:List ByteArray):Ov xs=K9 ⟨false,xs⟩:=by
 unfold Ov K9
 rw [Kg (p:=SM) (L:=m_cv) (fun _=>rfl) (fun x r i=>by rw [m_cv,IB]) xs 0]
 cases xs.all SM<;>simp
theorem FD (l:List UInt8) (i:Nat):Up l i=if l.all Et then Lp.brk () else Lp.ret false:=
 Kg (p:=Et) (L:=Up) (fun _=>rfl) (fun x r i=>by
  rw [Up]
  have e:Et x=(!decide ((x.toNat:Int)<32)&& !decide ((126:Int)<(x.toNat:Int))):=by
   unfold Et
   congr 1
   ·rw [←decide_not];congr 1;apply propext;omega
   ·rw [←decide_not];congr 1;apply propext;omega
  rw [e]
  cases decide ((x.toNat:Int)<32)<;>cases decide ((126:Int)<(x.toNat:Int))<;>rfl) l i
theorem Mz (s:ByteArray):SU s 1 256=EL s:=by
 unfold SU EL LS
 rw [FD]
 have e:decide ((1:Int)≤((s.size:Nat):Int))= !decide (s=⟨#[]⟩):=by
  rw [←decide_not];congr 1;apply propext
  constructor
  ·rintro h rfl;exact absurd h (by decide)
  ·intro h
   have:s.size≠0:=fun h0=>h (by
    apply Ig
    have:=Dg s
    rw [h0] at this
    rw [List.length_eq_zero_iff.1 this])
   omega
 cases s.data.toList.all Et
 ·simp
 ·simp only [if_true,e,Bool.true_and]
theorem Mw (e:Ao):Ur e=Fk (PM e):=by
 unfold Ur Fk PM
 simp only [FC,Mz,Dh,List.all_cons,List.all_nil,Bool.and_true]
 have h:decide ((0:Int)<((e.outs.length:Nat):Int))=decide (((e.outs.length:Nat):Int)>0):=rfl
 rw [h]
 generalize decide (((e.outs.length:Nat):Int)>0)=a
 generalize K9 ⟨false,e.outs⟩=b
 generalize K9 ⟨false,e.ins⟩=c
 generalize K9 ⟨false,e.implicit⟩=d
 generalize K9 ⟨false,e.order⟩=f
 cases a<;>cases b<;>cases c<;>cases d<;>cases f<;>simp
theorem SP {α:Type} {p:α→Bool} {L:List α→Nat→Lp Int Unit} (h0: ∀i,L [] i=Lp.brk ()) (h1: ∀x r i,L (x::r) i=bif p x then Lp.ret ((i:Nat):Int) else L r (i+1)): ∀(l:List α) (i:Nat),L l i=match l.findIdx? p with
  |some j=>Lp.ret (((i+j:Nat)):Int)
  |none=>Lp.brk ()
 | [],i=>by rw [h0];rfl
 |x::r,i=>by
  rw [h1,SP h0 h1 r (i+1),List.findIdx?_cons]
  cases p x
  ·simp only [cond_false,Bool.false_eq_true,if_false]
   cases r.findIdx? p with
   |none=>rfl
   |some j=>simp only [Option.map_some];congr 2;omega
  ·rfl
theorem Vw {α β:Type} (f:α→β) (p:β→Bool) (q:α→Bool) (h: ∀x,p (f x)=q x) (xs:List α):HR p (xs.map f)=HR q xs:=by
 unfold HR
 rw [List.findIdx?_map]
 have:p∘f=q:=funext h
 rw [this]
theorem Ji (g:Af) (name:ByteArray):FI g.pools name=G9 (Lg g) name:=by
 unfold FI G9
 rw [SP (p:=fun p:BD=>decide (p.name=name)) (L:=DV name) (fun _=>rfl) (fun x r i=>by rw [DV]) g.pools 0]
 rw [show (Lg g).pools=g.pools.map pOf from rfl,Vw pOf _ (fun p=>decide (p.name=name)) (fun x=>rfl)]
 unfold HR
 cases g.pools.findIdx? (fun p=>decide (p.name=name)) with
 |none=>rfl
 |some j=>simp
theorem MY {α β:Type} (f:α→β) (p:Nat→β→Bool) (q:Nat→α→Bool) (h: ∀i x,p i (f x)=q i x): ∀(i:Nat) (xs:List α),Fr p i (xs.map f)=Fr q i xs
 |_,[]=>rfl
 |i,x::xs=>by simp only [List.map_cons,Fr,h,MY f p q h (i+1) xs]
theorem P4 {α:Type} {p:Nat→α→Bool} {L:List α→Nat→Lp Bool Unit} (h0: ∀i,L [] i=Lp.brk ()) (h1: ∀x r i,L (x::r) i=bif !(p i x) then Lp.ret false else L r (i+1)): ∀(l:List α) (i:Nat),L l i=if Fr p i l then Lp.brk () else Lp.ret false
 | [],i=>by rw [h0];rfl
 |x::r,i=>by
  rw [h1,P4 h0 h1 r (i+1),Fr]
  cases p i x<;>simp
def L0 (g:Af) (k:Nat) (p:BD):Bool:=Kr (Lg g) k (pOf p)
theorem JQ (g:Af) (l:List BD) (i:Nat):VH g l i=if Fr (L0 g) i l then Lp.brk () else Lp.ret false:=
 P4 (p:=L0 g) (L:=VH g) (fun _=>rfl) (fun x r i=>by
  rw [VH,Dh,Ji]
  have e:L0 g i x=(G8 x.name&& !decide (x.depth<1)&& !decide ((8:Int)<x.depth)&&decide (G9 (Lg g) x.name=((i:Nat):Int))):=rfl
  rw [e]
  cases G8 x.name<;>cases decide (x.depth<1)<;>cases decide ((8:Int)<x.depth)<;>cases decide (G9 (Lg g) x.name=((i:Nat):Int))<;>rfl) l i
theorem JR (g:Af) (l:List Ao) (i:Nat):Uk g l i=if l.all (fun e=>Eo (Lg g) (PM e)) then Lp.brk () else Lp.ret false:=
 Kg (p:=fun e=>Eo (Lg g) (PM e)) (L:=Uk g) (fun _=>rfl) (fun x r i=>by
  rw [Uk,Mw,Ji]
  have e:Eo (Lg g) (PM x)=(Fk (PM x)&&(decide (x.pool=(⟨#[]⟩:ByteArray))|| !decide (G9 (Lg g) x.pool<0))):=rfl
  rw [e]
  cases Fk (PM x)<;>cases decide (x.pool=(⟨#[]⟩:ByteArray))<;>cases decide (G9 (Lg g) x.pool<0)<;>rfl) l i
theorem I4 (g:Af):G7 g=RG g:=by
 unfold G7 RG LL HB
 rw [JQ,JR,FC]
 rw [show (Lg g).edges=g.edges.map PM from rfl,show (Lg g).pools=g.pools.map pOf from rfl,List.all_map,List.length_map,List.length_map,MY pOf _ (L0 g) (fun _ _=>rfl)]
 rw [show (Lg g).defaults=⟨false,g.defaults⟩ from rfl]
 rw [show (Eo (Lg g)∘PM)=(fun e=>Eo (Lg g) (PM e)) from rfl]
 cases Fr (L0 g) 0 g.pools<;>cases g.edges.all (fun e=>Eo (Lg g) (PM e))<;>simp
 cases decide (((g.pools.length:Nat):Int)≤4)<;>cases decide (((g.edges.length:Nat):Int)≤16)<;>simp
theorem He (xs:List ByteArray) (x:ByteArray):(x∈xs→Es xs x=true)∧(x∉xs→Es xs x=false):=by
 have h: ∀(l:List ByteArray) (i:Nat),(x∈l→Eb x l i=Lp.ret true)∧(x∉l→Eb x l i=Lp.brk ()):=by
  intro l;induction l with
  |nil=>intro i;exact ⟨fun h=>by simp at h,fun _=>rfl⟩
  |cons y l ih=>
   intro i
   rw [Eb]
   by_cases hy:y=x
   ·subst hy;rw [decide_eq_true rfl,cond_true];exact ⟨fun _=>rfl,fun h=>absurd (List.mem_cons_self) h⟩
   ·rw [decide_eq_false hy,cond_false]
    refine ⟨fun h=>(ih (i+1)).1 ?_,fun h=>(ih (i+1)).2 fun h2=>h (List.mem_cons_of_mem _ h2)⟩
    rcases List.mem_cons.1 h with h|h
    ·exact absurd h.symm hy
    ·exact h
 unfold Es
 exact ⟨fun hx=>by rw [(h xs 0).1 hx],fun hx=>by rw [(h xs 0).2 hx]⟩
theorem I3: ∀(l:List ByteArray) (k:Nat) (acc:List ByteArray),acc.Nodup→Ek l k acc=if (acc++l).Nodup then Lp.brk (acc++l) else Lp.ret 901
 | [],k,acc,h=>by rw [List.append_nil,if_pos h];rfl
 |x::l,k,acc,h=>by
  rw [Ek]
  by_cases hx:x∈acc
  ·rw [(He acc x).1 hx,cond_true,if_neg]
   intro hn
   rw [List.nodup_append] at hn
   exact hn.2.2 x hx x (by simp) rfl
  ·rw [(He acc x).2 hx,cond_false,I3 l (k+1) (acc++[x]) (by
    rw [List.nodup_append]
    exact ⟨h,by simp,fun a ha b hb=>by simp only [List.mem_singleton] at hb;subst hb;rintro rfl;exact hx ha⟩),List.append_assoc,List.singleton_append]
theorem FB: ∀(es:List Ao) (i:Nat) (acc:List ByteArray),acc.Nodup→Ej es i acc=if (acc++es.flatMap (·.outs)).Nodup then Lp.brk () else Lp.ret 901
 | [],i,acc,h=>by rw [List.flatMap_nil,List.append_nil,if_pos h];rfl
 |e::es,i,acc,h=>by
  rw [Ej,I3 _ _ _ h,List.flatMap_cons,←List.append_assoc]
  by_cases hn:(acc++e.outs).Nodup
  ·rw [if_pos hn]
   simp only
   rw [FB es (i+1) _ hn]
  ·rw [if_neg hn]
   simp only
   rw [if_neg]
   intro h2
   rw [List.nodup_append] at h2
   exact hn h2.1
theorem JZ (g:Af):Gq g=GF g:=by
 unfold Gq GF IU
 rw [I4]
 show _=if RG g=false then _ else _
 cases RG g
 ·rfl
 ·rw [FB _ _ _ List.nodup_nil,List.nil_append]
  have e:CP (Lg g).edges=g.edges.flatMap (·.outs):=by
   unfold CP
   rw [show (Lg g).edges=g.edges.map PM from rfl,List.flatMap_map];rfl
  rw [e]
  have hd:=Ke ((g.edges.flatMap (·.outs)).map fun x=>x.data.toList)
  have hn:((g.edges.flatMap (·.outs)).map fun x=>x.data.toList).Nodup↔(g.edges.flatMap (·.outs)).Nodup:=by
   constructor
   ·intro h;exact List.Pairwise.of_map (fun x:ByteArray=>x.data.toList) (fun a b hh hab=>hh (by rw [hab])) h
   ·intro h;exact List.Pairwise.map _ (fun a b hab hh=>hab (Ig hh)) h
  by_cases h:(g.edges.flatMap (·.outs)).Nodup
  ·rw [if_pos h]
   have:Hv ((g.edges.flatMap (·.outs)).map fun x=>x.data.toList)=false:=by
    cases hh:Hv ((g.edges.flatMap (·.outs)).map fun x=>x.data.toList)
    ·rfl
    ·exact absurd (hn.2 h) (hd.1 hh)
   rw [this];rfl
  ·rw [if_neg h]
   have:Hv ((g.edges.flatMap (·.outs)).map fun x=>x.data.toList)=true:=hd.2 (fun hh=>h (hn.1 hh))
   rw [this];rfl
end
end Go.Lift
namespace Go.Lift
noncomputable section
open Go Go.RowKit
def Ge (g:Af) (n:ByteArray):Int:=HR (fun e=>Lib.containsS e.outs n) g.edges
theorem mkD_in (g:Af) (x:ByteArray):Ge g x= -1∨ ∃i e,Ge g x=((i:Nat):Int)∧g.edges[i]? =some e∧x∈e.outs:=by
 unfold Ge HR
 cases h:g.edges.findIdx? (fun e=>Lib.containsS e.outs x) with
 |none=>exact Or.inl rfl
 |some i=>
  obtain ⟨hi,h2,_⟩:=List.findIdx?_eq_some_iff_getElem.1 h
  exact Or.inr ⟨i,g.edges[i],rfl,List.getElem?_eq_getElem hi,(Lib.containsS_iff _ _).1 h2⟩
end
end Go.Lift
namespace Go.Lift
noncomputable section
open Go Go.RowKit
theorem Sy (g:Af):GF g=if RG g=false then 900 else if (g.edges.flatMap (·.outs)).Nodup then 0 else 901:=by
 rw [←JZ]
 unfold Gq
 rw [I4]
 cases RG g
 ·rfl
 ·rw [FB _ _ _ List.nodup_nil,List.nil_append]
  by_cases h:(g.edges.flatMap (·.outs)).Nodup
  ·rw [if_pos h,if_pos h];rfl
  ·rw [if_neg h,if_neg h];rfl
end
end Go.Lift
namespace Go.Lift
noncomputable section
open Go Go.RowKit
theorem Gm {α:Type} {p:α→Bool} {L:List α→Nat→Lp Int Unit} (h0: ∀i,L [] i=Lp.brk ()) (h1: ∀x r i,L (x::r) i=bif p x then Lp.ret ((i:Nat):Int) else L r (i+1)) (l:List α):
  (match L l 0 with|Lp.ret r=>r|Lp.brk ()=>(-1:Int))=HR p l:=by
 rw [SP h0 h1 l 0];unfold HR
 cases l.findIdx? p with
 |none=>rfl
 |some j=>simp
theorem DG {α:Type} (p:α→Bool) (l:List α):decide ((0:Int)≤HR p l)=l.any p:=by
 unfold HR
 cases h:l.findIdx? p with
 |none=>
  have:=List.findIdx?_eq_none_iff.1 h
  rw [show l.any p=false from by simpa using this];rfl
 |some j=>
  obtain ⟨hj,h2,_⟩:=List.findIdx?_eq_some_iff_getElem.1 h
  rw [List.any_eq_true.2 ⟨l[j],List.getElem_mem hj,h2⟩]
  simp
theorem PG (xs:List ByteArray) (v:ByteArray):SR xs v=Lib.containsS xs v:=by
 unfold SR Rv
 refine (congrArg (fun z=>decide ((0:Int)≤z)) (Gm (p:=fun y=>decide (v=y)) (fun _=>rfl) (fun _ _ _=>rfl) xs)).trans ?_
 rw [DG]
 cases hc:Lib.containsS xs v
 ·rw [List.any_eq_false]
  intro y hy e
  have:v=y:=by simpa using e
  subst this
  rw [(Lib.containsS_iff _ _).2 hy] at hc;cases hc
 ·exact List.any_eq_true.2 ⟨v,(Lib.containsS_iff _ _).1 hc,by simp⟩
theorem KC (xs:List Int) (v:Int):UO xs v=xs.contains v:=by
 unfold UO Rs
 refine (congrArg (fun z=>decide ((0:Int)≤z)) (Gm (p:=fun y=>decide (v=y)) (fun _=>rfl) (fun _ _ _=>rfl) xs)).trans ?_
 rw [DG]
 rw [Bool.eq_iff_iff];simp
theorem Lu (xs:List Int) (f:Int→Bool):UP xs f=xs.any f:=by
 unfold UP Rw
 exact (congrArg (fun z=>decide ((0:Int)≤z)) (Gm (p:=f) (fun _=>rfl) (fun _ _ _=>rfl) xs)).trans (DG _ _)
theorem LK (g:Af) (x:ByteArray):DP g x=Ge g x:=by
 unfold DP m_7 Ge
 refine (Gm (p:=fun e=>Rx e x) (fun _=>rfl) (fun _ _ _=>rfl) g.edges).trans ?_
 congr 1;funext e;exact PG e.outs x
theorem has_str (xs:List ByteArray) (x:ByteArray):Es xs x=Lib.containsS xs x:=by
 cases hc:Lib.containsS xs x
 ·exact (He xs x).2 fun h=>by rw [(Lib.containsS_iff _ _).2 h] at hc;cases hc
 ·exact (He xs x).1 ((Lib.containsS_iff _ _).1 hc)
theorem J9 (g:Af) (x:ByteArray):Q2 g x=Ge g x:=by
 unfold Q2 Ge
 refine (Gm (p:=fun e=>Es e.outs x) (fun _=>rfl) (fun _ _ _=>rfl) g.edges).trans ?_
 congr 1;funext e;exact has_str e.outs x
def Nq (g:Af) (e:Int):List ByteArray:=(g.edges.getD e.toNat default).ins++((g.edges.getD e.toNat default).implicit++(g.edges.getD e.toNat default).order)
theorem Gr (g:Af): ∀(xs:List ByteArray) (i:Nat) (out:List Int),∃out',Ou g xs i out=Lp.brk out'∧ ∀k,k∈out'↔k∈out∨(0≤k∧ ∃x∈xs,Ge g x=k)
 | [],i,out=>⟨out,rfl,fun k=>by simp⟩
 |x::xs,i,out=>by
  rw [Ou,LK,KC]
  by_cases h1:0≤Ge g x
  ·by_cases h2:Ge g x∈out
   ·obtain ⟨o,e1,e2⟩:=Gr g xs (i+1) out
    refine ⟨o,by simp [h1,h2,e1],fun k=> ?_⟩
    rw [e2]
    constructor
    ·rintro (h|⟨h,y,hy,e⟩)
     ·exact Or.inl h
     ·exact Or.inr ⟨h,y,by simp [hy],e⟩
    ·rintro (h|⟨h,y,hy,e⟩)
     ·exact Or.inl h
     ·rcases List.mem_cons.1 hy with rfl|hy
      ·subst e;exact Or.inl h2
      ·exact Or.inr ⟨h,y,hy,e⟩
   ·obtain ⟨o,e1,e2⟩:=Gr g xs (i+1) (out++[Ge g x])
    refine ⟨o,by simp [h1,h2,e1],fun k=> ?_⟩
    rw [e2,List.mem_append,List.mem_singleton]
    constructor
    ·rintro ((h|h)|⟨h,y,hy,e⟩)
     ·exact Or.inl h
     ·subst h;exact Or.inr ⟨h1,x,by simp,rfl⟩
     ·exact Or.inr ⟨h,y,by simp [hy],e⟩
    ·rintro (h|⟨h,y,hy,e⟩)
     ·exact Or.inl (Or.inl h)
     ·rcases List.mem_cons.1 hy with rfl|hy
      ·exact Or.inl (Or.inr e.symm)
      ·exact Or.inr ⟨h,y,hy,e⟩
  ·obtain ⟨o,e1,e2⟩:=Gr g xs (i+1) out
   refine ⟨o,by simp [h1,e1],fun k=> ?_⟩
   rw [e2]
   constructor
   ·rintro (h|⟨h,y,hy,e⟩)
    ·exact Or.inl h
    ·exact Or.inr ⟨h,y,by simp [hy],e⟩
   ·rintro (h|⟨h,y,hy,e⟩)
    ·exact Or.inl h
    ·rcases List.mem_cons.1 hy with rfl|hy
     ·omega
     ·exact Or.inr ⟨h,y,hy,e⟩
theorem P6 (g:Af) (e k:Int):k∈Gp g e↔0≤k∧ ∃x∈Nq g e,Ge g x=k:=by
 unfold Gp
 rw [GA]
 obtain ⟨o,e1,e2⟩:=Gr g ([(g.edges.getD e.toNat default).ins,(g.edges.getD e.toNat default).implicit,(g.edges.getD e.toNat default).order].flatten) 0 []
 rw [e1]
 show k∈o↔_
 rw [e2]
 simp [Nq]
theorem HF (g:Af): ∀(xs:List ByteArray) (i:Nat) (out:List Int),∃out',VJ g xs i out=Lp.brk out'∧ ∀k,k∈out'↔k∈out∨(0≤k∧ ∃x∈xs,Ge g x=k)
 | [],i,out=>⟨out,rfl,fun k=>by simp⟩
 |x::xs,i,out=>by
  rw [VJ,J9]
  by_cases h1:0≤Ge g x
  ·obtain ⟨o,e1,e2⟩:=HF g xs (i+1) (out++[Ge g x])
   refine ⟨o,by simp [h1,e1],fun k=> ?_⟩
   rw [e2,List.mem_append,List.mem_singleton]
   constructor
   ·rintro ((h|h)|⟨h,y,hy,e⟩)
    ·exact Or.inl h
    ·subst h;exact Or.inr ⟨h1,x,by simp,rfl⟩
    ·exact Or.inr ⟨h,y,by simp [hy],e⟩
   ·rintro (h|⟨h,y,hy,e⟩)
    ·exact Or.inl (Or.inl h)
    ·rcases List.mem_cons.1 hy with rfl|hy
     ·exact Or.inl (Or.inr e.symm)
     ·exact Or.inr ⟨h,y,hy,e⟩
  ·obtain ⟨o,e1,e2⟩:=HF g xs (i+1) out
   refine ⟨o,by simp [h1,e1],fun k=> ?_⟩
   rw [e2]
   constructor
   ·rintro (h|⟨h,y,hy,e⟩)
    ·exact Or.inl h
    ·exact Or.inr ⟨h,y,by simp [hy],e⟩
   ·rintro (h|⟨h,y,hy,e⟩)
    ·exact Or.inl h
    ·rcases List.mem_cons.1 hy with rfl|hy
     ·omega
     ·exact Or.inr ⟨h,y,hy,e⟩
theorem NS (g:Af) (e k:Int):k∈RI g e↔0≤k∧ ∃x∈Nq g e,Ge g x=k:=by
 unfold RI
 obtain ⟨o,e1,e2⟩:=HF g (((g.edges.getD e.toNat default).ins++(g.edges.getD e.toNat default).implicit)++(g.edges.getD e.toNat default).order) 0 []
 rw [e1]
 show k∈o↔_
 rw [e2]
 simp [Nq]
theorem NE (g:Af) (e k:Int):k∈Gp g e↔k∈RI g e:=by rw [P6,NS]
theorem mkD_lt (g:Af) (x:ByteArray):Ge g x<(g.edges.length:Int):=by
 rcases mkD_in g x with h|⟨i,e,h,he,_⟩
 ·rw [h];omega
 ·rw [h];have:=(List.getElem?_eq_some_iff.1 he).1;omega
theorem NT {g:Af} {e k:Int} (h:k∈RI g e):0≤k∧k.toNat<g.edges.length:=by
 obtain ⟨h0,x,_,e1⟩:=(NS g e k).1 h
 have:=mkD_lt g x
 omega
def H2 (g:Af) (out:List Int) (i:Nat):Bool:= !(out.contains ((i:Nat):Int))&&(Gp g ((i:Nat):Int)).all fun k=>out.contains k
def KV (g:Af) (out:List Int):Option Nat:=(List.range g.edges.length).find? (H2 g out)
def Mv (g:Af):Nat→List Int→Option (List Int)
 |0,out=>some out
 |f+1,out=>match KV g out with
  |some i=>Mv g f (out++[((i:Nat):Int)])
  |none=>none
theorem RP (g:Af) (c:List Int): ∀(l i:Nat),Nz ((List.range' i l).map fun i=>Gp g ((i:Nat):Int)) i c=match (List.range' i l).find? (H2 g c) with
  |some j=>Lp.brk (true,c++[((j:Nat):Int)])
  |none=>Lp.brk (false,c)
 |0,i=>rfl
 |l+1,i=>by
  rw [List.range'_succ,List.map_cons,Nz,RP g c l (i+1),List.find?_cons]
  have e:(!(Hy ((i:Nat):Int) c)&& !(UP (Gp g ((i:Nat):Int)) (fun z0=>Mo z0 (fun z0=>Hy z0 c))))=H2 g c i:=by
   unfold H2 Hy Mo
   rw [Lu]
   simp only [KC]
   congr 1
   rw [Bool.eq_iff_iff];simp
  rw [←e]
  cases (!(Hy ((i:Nat):Int) c))<;>cases (!(UP (Gp g ((i:Nat):Int)) (fun z0=>Mo z0 (fun z0=>Hy z0 c))))<;>rfl
theorem RN (g:Af): ∀(xs:List (List Int)) (i:Nat) (row:List (List Int)),i+xs.length≤row.length→ ∃row',Ny g xs i row=Lp.brk row'∧row'.length=row.length∧ ∀j,row'[j]? =if i≤j∧j<i+xs.length then some (Gp g ((j:Nat):Int)) else row[j]?
 | [],i,row,h=>⟨row,rfl,rfl,fun j=>by rw [if_neg (by simp)]⟩
 |x::xs,i,row,h=>by
  simp only [List.length_cons] at h
  obtain ⟨r,e1,e2,e3⟩:=RN g xs (i+1) (row.set i (Gp g ((i:Nat):Int))) (by simp;omega)
  refine ⟨r,by rw [Ny];exact e1,by simpa using e2,fun j=> ?_⟩
  rw [e3,List.getElem?_set,List.length_cons]
  by_cases h1:i=j
  ·subst h1;rw [if_neg (by omega),if_pos rfl]
   have:i<row.length:=by omega
   simp [this]
  ·rw [if_neg h1]
   by_cases h2:i+1≤j∧j<i+1+xs.length
   ·rw [if_pos h2,if_pos (by omega)]
   ·rw [if_neg h2,if_neg (by omega)]
theorem of_rows (g:Af):Ny g (List.replicate g.edges.length ([]:List Int)) 0 (List.replicate g.edges.length ([]:List Int))=Lp.brk ((List.range' 0 g.edges.length).map fun i=>Gp g ((i:Nat):Int)):=by
 obtain ⟨r,e1,e2,e3⟩:=RN g (List.replicate g.edges.length ([]:List Int)) 0 (List.replicate g.edges.length ([]:List Int)) (by simp)
 rw [e1];congr 1
 apply List.ext_getElem?
 intro j
 rw [e3,List.getElem?_map]
 simp only [List.length_replicate] at e2 ⊢
 by_cases h:j<g.edges.length
 ·rw [if_pos ⟨Nat.zero_le _,by omega⟩,List.getElem?_range' h];simp
 ·rw [if_neg (by omega),List.getElem?_eq_none (by simp;omega),List.getElem?_eq_none (by simp;omega)];rfl
theorem RO (g:Af): ∀(f:Nat) (c:List Int),c.length≤g.edges.length→g.edges.length-c.length<f→Ot g ((List.range' 0 g.edges.length).map fun i=>Gp g ((i:Nat):Int)) f c=match Mv g (g.edges.length-c.length) c with
  |some o=>Lp.brk o
  |none=>Lp.ret (([]:List Int),(1001:Int))
 |0,c,h1,h2=>by omega
 |f+1,c,h1,h2=>by
  rw [Ot]
  by_cases h:c.length<g.edges.length
  ·rw [decide_eq_true (by omega),cond_true,RP,←List.range_eq_range']
   rw [show g.edges.length-c.length=(g.edges.length-(c.length+1))+1 by omega,Mv]
   show (match (match KV g c with|some j=>Lp.brk (true,c++[((j:Nat):Int)])|none=>Lp.brk (false,c):Lp (List Int×Int) (Bool×List Int)) with|Lp.ret r=>Lp.ret r|Lp.brk (t',c')=>_)=_
   cases hn:KV g c with
   |none=>rfl
   |some j=>
    simp only [cond_true]
    have:=RO g f (c++[((j:Nat):Int)]) (by simp;omega) (by simp;omega)
    rw [List.length_append,List.length_singleton,←List.range_eq_range'] at this
    exact this
  ·rw [decide_eq_false (by omega),cond_false,show g.edges.length-c.length=0 by omega];rfl
theorem TF (g:Af):Fl g=if GF g=0 then (match Mv g g.edges.length [] with|some o=>(o,(0:Int))|none=>(([]:List Int),(1001:Int))) else (([]:List Int),(1000:Int)):=by
 unfold Fl
 by_cases h:GF g=0
 ·rw [if_pos h,decide_eq_true h]
  simp only [Bool.not_true,cond_false]
  rw [of_rows]
  simp only []
  rw [RO g _ [] (Nat.zero_le _) (by simp)]
  simp only [List.length_nil,Nat.sub_zero]
  cases Mv g g.edges.length []<;>rfl
 ·rw [if_neg h,decide_eq_false h];rfl
inductive Steps (g:Af):List Int→Prop
 |nil:Steps g []
 |snoc {out:List Int} {i:Nat} (h:Steps g out) (hn:KV g out=some i):Steps g (out++[((i:Nat):Int)])
theorem NG (g:Af): ∀(f:Nat) (out o:List Int),Steps g out→Mv g f out=some o→Steps g o∧o.length=out.length+f∧ ∃r,o=out++r
 |0,out,o,h,e=>by simp only [Mv,Option.some.injEq] at e;subst e;exact ⟨h,rfl,[],by simp⟩
 |f+1,out,o,h,e=>by
  simp only [Mv] at e
  split at e
  ·rename_i i hi
   obtain ⟨h1,h2,r,h3⟩:=NG g f _ o (h.snoc hi) e
   exact ⟨h1,by rw [h2];simp;omega,[((i:Nat):Int)]++r,by rw [h3];simp⟩
  ·cases e
theorem of_steps {g:Af} (h:(Fl g).2=0):Steps g (Fl g).1∧(Fl g).1.length=g.edges.length∧GF g=0:=by
 rw [TF] at h ⊢
 split at h<;>rename_i hc
 ·rw [if_pos hc]
  cases ho:Mv g g.edges.length [] with
  |none=>rw [ho] at h;simp at h
  |some o=>
   obtain ⟨h1,h2,_⟩:=NG g _ _ _ .nil ho
   exact ⟨h1,by simpa using h2,hc⟩
 ·simp at h
theorem Kp {g:Af} {out:List Int} {i:Nat} (h:KV g out=some i):i<g.edges.length∧H2 g out i=true∧ ∀k,k<i→H2 g out k=false:=by
 unfold KV at h
 have h1:=List.mem_of_find?_eq_some h
 refine ⟨by simpa using h1,List.find?_some h,fun k hk=> ?_⟩
 have:=List.find?_range_eq_some.1 h
 simpa using this.2.2 k hk
theorem T5 {g:Af} {o:List Int} (h:Steps g o): ∀(k:Nat) (x:Int),o[k]? =some x→ ∃i:Nat,x=((i:Nat):Int)∧Steps g (o.take k)∧KV g (o.take k)=some i:=by
 induction h with
 |nil=>intro k x hx;simp at hx
 | @snoc out i h hn ih=>
   intro k x hx
   rcases Nat.lt_trichotomy k out.length with q|q|q
   ·rw [List.getElem?_append_left q] at hx
    obtain ⟨j,h1,h2,h3⟩:=ih k x hx
    rw [List.take_append_of_le_length (Nat.le_of_lt q)]
    exact ⟨j,h1,h2,h3⟩
   ·subst q
    rw [List.getElem?_append_right (Nat.le_refl _),Nat.sub_self] at hx
    simp at hx;subst hx
    exact ⟨i,rfl,by simpa using h,by simpa using hn⟩
   ·rw [List.getElem?_eq_none (by simp;omega)] at hx;cases hx
end
end Go.Lift
namespace Go.Lift
noncomputable section
open Go Go.RowKit
end
end Go.Lift
namespace Go.Lift
noncomputable section
open Go Go.RowKit
def U6 (n:Nat) (out:List Int):List Bool:=(List.range n).map fun k=>out.contains ((k:Nat):Int)
theorem PQ {n k:Nat} (out:List Int) (h:k<n):(U6 n out).getD k default=out.contains ((k:Nat):Int):=by
 unfold U6
 rw [List.getD_eq_getElem?_getD,List.getElem?_map,List.getElem?_range h];rfl
theorem flR_nil (n:Nat):U6 n []=List.replicate n false:=by
 apply List.ext_getElem?
 intro i
 unfold U6
 rw [List.getElem?_map,List.getElem?_replicate]
 by_cases h:i<n
 ·rw [List.getElem?_range h,if_pos h];rfl
 ·rw [List.getElem?_eq_none (by simp;omega),if_neg h];rfl
theorem flR_set {n i:Nat} (out:List Int) (h:i<n):(U6 n out).set i true=U6 n (out++[((i:Nat):Int)]):=by
 apply List.ext_getElem?
 intro k
 unfold U6
 rw [List.getElem?_set,List.getElem?_map,List.getElem?_map]
 by_cases hk:k<n
 ·rw [List.getElem?_range hk]
  simp only [List.length_map,List.length_range,Option.map_some]
  by_cases e:i=k
  ·subst e;rw [if_pos rfl,if_pos h];simp
  ·rw [if_neg e];congr 1;rw [Bool.eq_iff_iff];simp;omega
 ·rw [List.getElem?_eq_none (by simp;omega)]
  rw [if_neg (by omega)];rfl
theorem ro_key (g:Af) (out:List Int) (e:Int):(RI g e).all (fun k:Int=>(U6 g.edges.length out).getD k.toNat default)=(Gp g e).all fun k=>out.contains k:=by
 rw [Bool.eq_iff_iff,List.all_eq_true,List.all_eq_true]
 constructor
 ·intro h k hk
  have hk':=(NE g e k).1 hk
  have h1:=h k hk'
  obtain ⟨m1,m2⟩:=NT hk'
  rw [PQ out m2,show ((k.toNat:Nat):Int)=k by omega] at h1
  exact h1
 ·intro h k hk
  have h1:=h k ((NE g e k).2 hk)
  obtain ⟨m1,m2⟩:=NT hk
  rw [PQ out m2,show ((k.toNat:Nat):Int)=k by omega]
  exact h1
theorem We (row:List Bool): ∀(xs:List Int) (k:Nat) (b:Bool),Uo row xs k b=Lp.brk (b&&xs.all fun k=>row.getD k.toNat default)
 | [],k,b=>by simp [Uo]
 |x::r,k,b=>by
  rw [Uo]
  cases b
  ·rw [cond_false,We row r];rfl
  ·rw [cond_true,We row r,List.all_cons];rfl
theorem ro_L2 (g:Af) (out:List Int): ∀(j f:Nat) (next i:Int),i+1=((j:Nat):Int)→j≤g.edges.length→j<f→
  Un (U6 g.edges.length out) g f next i=Lp.brk (match (List.range j).find? (H2 g out) with|some k=>((k:Nat):Int)|none=>next)
 |0,0,_,_,_,_,hf=>by omega
 |0,f+1,next,i,hi,hl,hf=>by
  rw [Un,decide_eq_false (by omega),cond_false];rfl
 |j+1,0,_,_,_,_,hf=>by omega
 |j+1,f+1,next,i,hi,hl,hf=>by
  obtain rfl:i=((j:Nat):Int):=by omega
  rw [Un,decide_eq_true (by omega),cond_true,We]
  have hfr:(!(U6 g.edges.length out).getD ((j:Nat):Int).toNat default&&(RI g ((j:Nat):Int)).all fun k=>(U6 g.edges.length out).getD k.toNat default)=H2 g out j:=by
   rw [ro_key,Int.toNat_natCast,PQ out (by omega)];rfl
  rw [hfr]
  have ih:=fun nx=>ro_L2 g out j f nx (((j:Nat):Int)-1) (by omega) (by omega) (by omega)
  rw [List.range_succ,List.find?_append]
  cases hp:H2 g out j
  ·simp only [cond_false]
   rw [ih]
   cases (List.range j).find? (H2 g out)<;>simp [hp]
  ·simp only [cond_true]
   rw [ih]
   cases (List.range j).find? (H2 g out)<;>simp [hp]
theorem ro_L1 (g:Af): ∀(f:Nat) (c:List Int),c.length≤g.edges.length→g.edges.length-c.length<f→El g f c (U6 g.edges.length c)=match Mv g (g.edges.length-c.length) c with
  |some o=>Lp.brk (o,U6 g.edges.length o)
  |none=>Lp.ret (([]:List Int),(1001:Int))
 |0,c,h1,h2=>by omega
 |f+1,c,h1,h2=>by
  rw [El]
  by_cases h:c.length<g.edges.length
  ·rw [decide_eq_true (by omega),cond_true,ro_L2 g c g.edges.length _ _ _ (by omega) (Nat.le_refl _) (by omega)]
   rw [show g.edges.length-c.length=(g.edges.length-(c.length+1))+1 by omega,Mv]
   have hnp:(List.range g.edges.length).find? (H2 g c)=KV g c:=rfl
   simp only [hnp]
   cases hn:KV g c with
   |none=>rfl
   |some j=>
    have hj:=(Kp hn).1
    simp only []
    rw [decide_eq_false (by omega),cond_false,Int.toNat_natCast,flR_set c hj]
    have:=ro_L1 g f (c++[((j:Nat):Int)]) (by simp;omega) (by simp;omega)
    rw [List.length_append,List.length_singleton] at this
    exact this
  ·rw [decide_eq_false (by omega),cond_false,show g.edges.length-c.length=0 by omega];rfl
theorem HD (g:Af):Q4 g=Fl g:=by
 rw [TF]
 unfold Q4
 rw [JZ]
 by_cases h:GF g=0
 ·rw [if_pos h,decide_eq_true h]
  simp only [Bool.not_true,cond_false]
  rw [←flR_nil,ro_L1 g _ [] (Nat.zero_le _) (by simp)]
  simp only [List.length_nil,Nat.sub_zero]
  cases Mv g g.edges.length []<;>rfl
 ·rw [if_neg h,decide_eq_false h];rfl
end
end Go.Lift
namespace Go.Lift
noncomputable section
open Go Go.RowKit
theorem V6 (xs:List ByteArray):Fh xs 8=(xs.all (fun s=>D6 s)&&decide (((xs.length:Nat):Int)≤8)):=by
 unfold Fh
 rw [Kg (L:=ST) (p:=fun s=>D6 s) (fun _=>rfl) (fun _ _ _=>rfl)]
 cases xs.all (fun s=>D6 s)<;>rfl
end
end Go.Lift
namespace Go.Lift
noncomputable section
open Go Go.RowKit
end
end Go.Lift
namespace Go.Lift
noncomputable section
open Go Go.RowKit
theorem may_of {g:Af} (h:GF g=0):RG g=true:=by
 rw [Sy] at h
 cases hm:RG g
 ·rw [hm] at h;simp at h
 ·rfl
theorem edge_ok {g:Af} (h:GF g=0) {e:Ao} (he:e∈g.edges):Fk (PM e)=true:=by
 have h0:((g.edges.map PM).all (Eo (Lg g))&&(decide (((g.edges.map PM).length:Int)≤16)&&HB (Lg g)&&K9 (Lg g).defaults))=true:=may_of h
 rw [Bool.and_eq_true,List.all_eq_true] at h0
 have:=h0.1 (PM e) (List.mem_map_of_mem he)
 unfold Eo at this
 rw [Bool.and_eq_true] at this
 exact this.1
theorem RT {g:Af} (h:GF g=0) {e:Ao} (he:e∈g.edges):0<e.outs.length:=by
 have:=edge_ok h he
 unfold Fk at this
 simp only [Bool.and_eq_true,decide_eq_true_eq] at this
 have h2:=this.2.1
 have:(PM e).outs.xs=e.outs:=rfl
 rw [this] at h2;omega
theorem Pa (s:ByteArray):D6 s=SM s:=by
 unfold D6 SM;rfl
theorem NM (xs:List ByteArray):Ov xs=Fh xs 8:=by
 rw [FC,V6]
 unfold K9
 have:(fun s=>D6 s)=SM:=funext Pa
 rw [this]
end
end Go.Lift
namespace Go.Lift
noncomputable section
open Go Go.RowKit
theorem L7 (b:List Bool): ∀(l:List Bool) (i:Nat),l=b.drop i→RF b l i=Lp.brk ()
 | [],i,_=>rfl
 |x::l,i,h=>by
  have hx:b[i]? =some x:=by
   have:=congrArg (·[0]?) h
   simpa using this.symm
  have hl:l=b.drop (i+1):=by
   have:=congrArg (List.drop 1) h
   simpa [List.drop_drop,Nat.add_comm] using this
  rw [RF,L7 b l (i+1) hl,List.getD_eq_getElem?_getD,hx]
  simp
theorem NW (b:List Bool):JN b b=true:=by
 unfold JN
 rw [L7 b b 0 (by simp)]
 simp
end
end Go.Lift
namespace Go.Lift
noncomputable section
open Go Go.RowKit
theorem Aa.sz_one (e:Aa):1≤e.sz:=by unfold Aa.sz;omega
theorem A2.sz_one (e:A2):1≤e.sz:=by unfold A2.sz;omega
theorem Ab.sz_one (e:Ab):1≤e.sz:=by unfold Ab.sz;omega
end
end Go.Lift
namespace Go.Lift
noncomputable section
open Go Go.RowKit
theorem Kh {α:Type} {p:α→Bool} {L:List α→Nat→Lp Bool Unit} (h0: ∀i,L [] i=Lp.brk ()) (h1: ∀x r i,L (x::r) i=bif !(p x) then Lp.ret false else L r (i+1)) (l:List α) (c:Bool):
  (match L l 0 with|Lp.ret r=>r|Lp.brk ()=>c)=(l.all p&&c):=by
 rw [Kg h0 h1 l 0]
 cases l.all p<;>rfl
theorem LQ (s:ByteArray) (most:Int):SU s 1 most=(!decide (s=(⟨#[]⟩:ByteArray))&&Kn s most):=by
 have hL: ∀(l:List UInt8) (i:Nat),Ry l i=if l.all Et then Lp.brk () else Lp.ret false:=by
  intro l i
  rw [←FD l i]
  induction l generalizing i with
  |nil=>rfl
  |cons x r ih=>rw [Ry,Up,ih]
 unfold SU Kn
 rw [FD,hL]
 have e:decide ((1:Int)≤((s.size:Nat):Int))= !decide (s=(⟨#[]⟩:ByteArray)):=by
  rw [←decide_not];congr 1;apply propext
  constructor
  ·rintro h rfl;exact absurd h (by decide)
  ·intro h
   have:s.size≠0:=fun h0=>h (by
    apply Ig
    have:=Dg s
    rw [h0] at this
    rw [List.length_eq_zero_iff.1 this])
   omega
 cases s.data.toList.all Et
 ·simp
 ·simp only [if_true,e]
theorem PA {α:Type} (p:α→Bool) (l:List α):(!l.any fun x=> !(p x))=l.all p:=by
 induction l with
 |nil=>rfl
 |cons x r ih=>rw [List.any_cons,List.all_cons,←ih];cases p x<;>rfl
theorem Mh (xs:List Az) (f:Az→Bool):m_n xs f=xs.any f:=by
 unfold m_n
 rw [show m_z xs f=HR f xs from Gm (p:=f) (L:=m_r f) (fun _=>rfl) (fun x r i=>by rw [m_r]) xs]
 exact DG f xs
theorem Mi (xs:List Ab) (f:Ab→Bool):m_o xs f=xs.any f:=by
 unfold m_o
 rw [show m_0 xs f=HR f xs from Gm (p:=f) (L:=m_s f) (fun _=>rfl) (fun x r i=>by rw [m_s]) xs]
 exact DG f xs
theorem N6 (xs:List Aa) (f:Aa→Bool):m_p xs f=xs.any f:=by
 unfold m_p
 rw [show m_3 xs f=HR f xs from Gm (p:=f) (L:=m_w f) (fun _=>rfl) (fun x r i=>by rw [m_w]) xs]
 exact DG f xs
theorem Iu (s:ByteArray):HT s=D6 s:=by rw [IB,Pa]
theorem Og (xs:List Az):Er xs=Oq xs:=by
 unfold Oq
 rw [show Er xs=(xs.all (fun a:Az=>HS a.command&&Fh a.reads 8)&&decide (((xs.length:Nat):Int)≤(16:Int))) from Kh (p:=fun a:Az=>HS a.command&&Fh a.reads 8) (L:=m_ch) (fun _=>rfl) (fun x r i=>by
  rw [m_ch,LQ,NM,show (!decide (x.command=(⟨#[]⟩:ByteArray))&&Kn x.command 256)=HS x.command from rfl]
  cases HS x.command<;>cases Fh x.reads 8<;>rfl) xs _,Mh]
 have:(fun z0:Az=>Nx z0)=fun a=> !(HS a.command&&Fh a.reads 8):=by
  funext a;unfold Nx;cases HS a.command<;>cases Fh a.reads 8<;>rfl
 rw [this,PA,Bool.and_comm]
theorem Qg (r:Ab):EN r=KO r:=by
 unfold EN KO
 rw [Iu,LQ];rfl
theorem LB (xs:List Ab):Uq xs=JP xs:=by
 unfold JP
 rw [show Uq xs=(xs.all KO&&decide (((xs.length:Nat):Int)≤(256:Int))) from Kh (p:=KO) (L:=m_cy) (fun _=>rfl) (fun x r i=>by
  rw [m_cy,Qg]) xs _,Mi]
 have:(fun z0:Ab=>Q5 z0)=fun r=> !(KO r):=rfl
 rw [this,PA,Bool.and_comm]
theorem R8 (f:Aa):Fz f=LG f:=by
 unfold Fz LG
 rw [Iu,NM];rfl
theorem Kb (xs:List Aa):Um xs=JO xs:=by
 unfold JO
 rw [show Um xs=(xs.all LG&&decide (((xs.length:Nat):Int)≤(256:Int))) from Kh (p:=LG) (L:=m_cs) (fun _=>rfl) (fun x r i=>by
  rw [m_cs,R8]) xs _,N6]
 have:(fun z0:Aa=>Q1 z0)=fun r=> !(LG r):=rfl
 rw [this,PA,Bool.and_comm]
theorem Tn (d:A9) (x:A2) (i:Nat): ∀(j k f:Nat),k+j=i→i≤d.files.length→j<f→Mn i d x f k=if ((d.files.take i).drop k).any (fun y=>decide (y.time=x.time))=true then Lp.ret false else Lp.brk ()
 |0,k,0,_,_,hf=>absurd hf (by omega)
 |0,k,f+1,hk,hi,_=>by
  rw [Mn,decide_eq_false (by omega),List.drop_eq_nil_of_le (by simp;omega)];rfl
 |j+1,k,0,_,_,hf=>absurd hf (by omega)
 |j+1,k,f+1,hk,hi,hf=>by
  rw [Mn,decide_eq_true (by omega),cond_true,Tn d x i j (k+1) f (by omega) hi (by omega)]
  have hk2:k<(d.files.take i).length:=by simp;omega
  rw [List.drop_eq_getElem_cons hk2,List.any_cons]
  have e:d.files.getD k default=(d.files.take i)[k]:=by simp [show k<d.files.length by omega]
  rw [e]
  cases decide ((d.files.take i)[k].time=x.time)<;>rfl
theorem Tm (d:A9): ∀(rest pre:List A2),d.files=pre++rest→Oo d rest pre.length=if E9 D6 d.clock rest (pre.map A2.time) pre.getLast? =true then Lp.brk () else Lp.ret false
 | [],pre,_=>by rw [Oo];rfl
 |x::rest,pre,h=>by
  have hl:pre.length<d.files.length:=by rw [h];simp
  have ht:d.files.take pre.length=pre:=by rw [h];simp
  have h2:=Tn d x pre.length pre.length 0 (pre.length-0+1) (by omega) (by omega) (by omega)
  rw [ht,List.drop_zero] at h2
  have ih:=Tm d rest (pre++[x]) (by rw [h];simp)
  rw [List.length_append,List.length_singleton,List.map_append,List.map_singleton,List.getLast?_concat] at ih
  have ha:(pre.map A2.time).any (fun t=>decide (t=x.time))=pre.any (fun y=>decide (y.time=x.time)):=by rw [List.any_map];rfl
  rw [Oo,h2,ih,Iu]
  unfold J2
  have hp0:pre=[]∨ ∃p y,pre=p++[y]:=by
   rcases List.eq_nil_or_concat pre with q|⟨p,y,q⟩
   ·exact Or.inl q
   ·exact Or.inr ⟨p,y,by simpa using q⟩
  rcases hp0 with rfl|⟨p,y,rfl⟩
  ·rw [decide_eq_false (show ¬((0:Int)<((([]:List A2).length:Nat):Int)) by simp),cond_false]
   rw [List.getLast?_nil,E9.eq_2,ha]
   generalize E9 D6 d.clock rest (([]:List A2).map A2.time++[x.time]) (some x)=D
   simp only [List.any_nil]
   cases D6 x.name<;>cases decide ((0:Int)≤x.content)<;>cases decide (x.content≤2147483647)<;>cases decide ((1:Int)≤x.time)<;>cases decide (x.time≤d.clock)<;>cases D<;>rfl
  ·have hg:d.files.getD ((p++[y]).length-1) default=y:=by rw [h];simp
   rw [hg,decide_eq_true (show (0:Int)<(((p++[y]).length:Nat):Int) by simp),cond_true,List.getLast?_concat,E9.eq_3,ha]
   generalize E9 D6 d.clock rest ((p++[y]).map A2.time++[x.time]) (some x)=D
   cases D6 x.name<;>cases decide ((0:Int)≤x.content)<;>cases decide (x.content≤2147483647)<;>cases decide ((1:Int)≤x.time)<;>cases decide (x.time≤d.clock)<;>cases Op.bytesLess y.name.toList x.name.toList<;>cases (p++[y]).any (fun y=>decide (y.time=x.time))<;>cases D<;>rfl
theorem Ik (d:A9):Hz d=C4 D6 d:=by
 unfold Hz C4
 have:=Tm d d.files [] rfl
 rw [List.length_nil] at this
 rw [this]
 unfold J2
 simp only [List.map_nil,List.getLast?_nil]
 have e:decide (((d.files.length:Nat):Int)≤(64:Int))=decide (d.files.length≤64):=by simp;omega
 rw [e]
 cases E9 D6 d.clock d.files [] none<;>simp [Bool.and_assoc]
theorem FS (s:A7):DU s=Hx s:=by
 unfold DU Hx
 rw [Og,LB,Kb,show Hz (⟨s.disk.clock,s.disk.files⟩:A9)=C4 D6 s.disk from Ik s.disk,show Q4 (⟨s.graph.edges,s.graph.pools,s.graph.defaults⟩:Af)=Fl s.graph from HD s.graph]
theorem Pn {e:Int} {n:Nat} (hn:n≤281474976710656):J2 e 0 (IntKind.wrap .i64 (((n:Nat):Int)-(1:Int)))=(decide (0≤e)&&decide (e<((n:Nat):Int))):=by
 unfold J2
 rw [DO (by omega) (by omega)]
 congr 1
 exact decide_eq_decide.2 (by omega)
end
end Go.Lift
namespace Go.Lift
noncomputable section
open Go Go.RowKit
def JV (d:A9):Bool:=
 (decide ((0:Int)≤d.clock)&&(decide (d.clock≤(1048576:Int))&&decide (((d.files.length:Nat):Int)≤(64:Int))))
def DF (d:A9) (ts:List Int) (x:A2) (i:Nat):Bool:=
 (!(!(D6 x.name))&&(!(!(Ow x.content))&&(!(decide (x.time<(1:Int)))&&(!(decide (d.clock<x.time))&&(!(ts.any (fun t=>decide (t=x.time)))&&(!(decide ((0:Int)<((i:Nat):Int)))||(!(!Op.bytesLess ((d.files.getD (i-1) default).name).toList x.name.toList))))))))
theorem I7 {α:Type} {l:List α} {i:Nat} {x:α} (h:l[i]? =some x):l.take (i+1)=l.take i++[x]:=by
 rw [List.take_add_one,h];rfl
theorem U0 {d:A9} {ts:List Int} {x:A2} {i:Nat} (h:DF d ts x i=true):ts.any (fun t=>decide (t=x.time))=false:=by
 unfold DF at h
 simp only [Bool.and_eq_true,Bool.not_eq_true',Bool.not_not] at h
 exact h.2.2.2.2.1
theorem Vj (d:A9):(true&&decide (0≤d.clock)&&decide (d.clock≤1048576)&&decide (d.files.length≤64))=JV d:=by
 unfold JV
 have e:decide (((d.files.length:Nat):Int)≤(64:Int))=decide (d.files.length≤64):=decide_eq_decide.2 (by omega)
 rw [e]
 cases decide ((0:Int)≤d.clock)<;>cases decide (d.clock≤(1048576:Int))<;>simp
theorem U1 {d:A9} {i:Nat} {x:A2} (hx:d.files[i]? =some x):
  E9 D6 d.clock (d.files.drop i) ((d.files.take i).map A2.time) (d.files.take i).getLast? =
   (DF d ((d.files.take i).map A2.time) x i&&E9 D6 d.clock (d.files.drop (i+1)) ((d.files.take (i+1)).map A2.time) (d.files.take (i+1)).getLast?):=by
 have hl:i<d.files.length:=(List.getElem?_eq_some_iff.1 hx).1
 have h1:d.files.drop i=x::d.files.drop (i+1):=AP hx
 rw [h1,I7 hx,List.map_append,List.map_singleton,List.getLast?_concat]
 have a1:decide ((1:Int)≤x.time)= !(decide (x.time<(1:Int))):=by rw [←decide_not];exact decide_eq_decide.2 (by omega)
 have a2:decide (x.time≤d.clock)= !(decide (d.clock<x.time)):=by rw [←decide_not];exact decide_eq_decide.2 (by omega)
 have hd:Ow x.content=(decide ((0:Int)≤x.content)&&decide (x.content≤(2147483647:Int))):=rfl
 cases i with
 |zero=>
  simp only [List.take_zero,List.map_nil,List.getLast?_nil,List.nil_append]
  rw [E9.eq_2]
  simp only [List.nil_append]
  generalize E9 D6 d.clock (d.files.drop (0+1)) [x.time] (some x)=D
  unfold DF
  rw [hd,a1,a2,show decide ((0:Int)<((0:Nat):Int))=false from rfl]
  simp only [List.any_nil,List.nil_append]
  cases D6 x.name<;>cases decide ((0:Int)≤x.content)<;>cases decide (x.content≤(2147483647:Int))<;>cases decide (x.time<(1:Int))<;>cases decide (d.clock<x.time)<;>cases D<;>rfl
 |succ j=>
  have hj:d.files[j]? =some d.files[j]:=List.getElem?_eq_getElem (by omega)
  have hg:d.files.getD (j+1-1) default=d.files[j]:=by simp [show j<d.files.length by omega]
  have hla:(d.files.take (j+1)).getLast? =some d.files[j]:=by rw [I7 hj,List.getLast?_concat]
  rw [hla,E9.eq_3]
  generalize E9 D6 d.clock (d.files.drop (j+1+1)) ((d.files.take (j+1)).map A2.time++[x.time]) (some x)=D
  unfold DF
  rw [hd,a1,a2,hg,show decide ((0:Int)<((j+1:Nat):Int))=true from decide_eq_true (by omega)]
  cases D6 x.name<;>cases decide ((0:Int)≤x.content)<;>cases decide (x.content≤(2147483647:Int))<;>cases decide (x.time<(1:Int))<;>cases decide (d.clock<x.time)<;>cases ((d.files.take (j+1)).map A2.time).any (fun t=>decide (t=x.time))<;>cases Op.bytesLess d.files[j].name.toList x.name.toList<;>cases D<;>rfl
end
end Go.Lift
namespace Go.Lift
noncomputable section
open Go Go.RowKit
end
end Go.Lift
namespace Go.Lift
noncomputable section
open Go Go.RowKit
theorem St {i j:Int} {n:Nat} (h0:0≤i) (h:i<j) (h2:j≤((n:Nat):Int)) (hn:n≤1049600):
  IntKind.wrap .i64 (i+j)=i+j∧i≤IntKind.wrap .i64 (Int.fdiv (IntKind.wrap .u64 (IntKind.wrap .i64 (i+j))) (2^(min 1 IntKind.u64.bits)))∧IntKind.wrap .i64 (Int.fdiv (IntKind.wrap .u64 (IntKind.wrap .i64 (i+j))) (2^(min 1 IntKind.u64.bits)))<j∧
  IntKind.wrap .i64 (IntKind.wrap .i64 (Int.fdiv (IntKind.wrap .u64 (IntKind.wrap .i64 (i+j))) (2^(min 1 IntKind.u64.bits)))+1)=IntKind.wrap .i64 (Int.fdiv (IntKind.wrap .u64 (IntKind.wrap .i64 (i+j))) (2^(min 1 IntKind.u64.bits)))+1:=by
 have e1:IntKind.wrap .i64 (i+j)=i+j:=DO (by omega) (by omega)
 have e2:IntKind.wrap .u64 (i+j)=i+j:=by
  unfold IntKind.wrap;simp only [IntKind.signed];first|(simp;omega)|omega|exact Int.emod_eq_of_lt (by omega) (by show _<(2:Int)^64;omega)
 have e3:Int.fdiv (i+j) (2^(min 1 IntKind.u64.bits))=(i+j) /2:=by
  show Int.fdiv (i+j) 2=(i+j) /2
  exact Int.fdiv_eq_ediv_of_nonneg _ (by decide)
 rw [e1,e2,e3]
 have e4:IntKind.wrap .i64 ((i+j) /2)=(i+j) /2:=DO (by omega) (by omega)
 rw [e4]
 have e5:IntKind.wrap .i64 ((i+j) /2+1)=(i+j) /2+1:=DO (by omega) (by omega)
 exact ⟨rfl,by omega,by omega,e5⟩
theorem Va (cmp:A2→ByteArray→Int) (xs:List A2) (t:ByteArray) (hn:xs.length≤1049600): ∀(f:Nat) (i j:Int),0≤i→i≤j→j≤((xs.length:Nat):Int)→ ∃k,VK cmp xs t f i j=Lp.brk k∧0≤k∧k≤((xs.length:Nat):Int)
 |0,i,j,h0,h1,h2=>⟨i,by rw [VK],h0,by omega⟩
 |f+1,i,j,h0,h1,h2=>by
  rw [VK]
  by_cases h:i<j
  ·rw [decide_eq_true h]
   obtain ⟨m1,m2,m3,m4⟩:=St h0 h h2 hn
   rw [m4]
   generalize IntKind.wrap .i64 (Int.fdiv (IntKind.wrap .u64 (IntKind.wrap .i64 (i+j))) (2^(min 1 IntKind.u64.bits)))=m at*
   cases decide ((cmp (xs.getD m.toNat default) t)<(0:Int))
   ·exact Va cmp xs t hn f i m h0 (by omega) (by omega)
   ·exact Va cmp xs t hn f (m+1) j (by omega) (by omega) h2
  ·rw [decide_eq_false h];exact ⟨i,rfl,h0,by omega⟩
theorem W8 {d:A9} {s:ByteArray} (hz:d.sz≤1049600) (h:(Ir d s).2=true):0≤(Ir d s).1∧(Ir d s).1.toNat<d.files.length:=by
 have hl:=Hh A2.sz_one d.files
 have hl2:=d.sz_files
 unfold Ir MK at h ⊢
 obtain ⟨k,e,h0,h1⟩:=Va (fun z0 z1=>GW z0 z1) d.files s (by omega) ((((d.files.length:Nat):Int)-(0:Int)).toNat+1) 0 ((d.files.length:Nat):Int) (Int.le_refl _) (by omega) (Int.le_refl _)
 rw [e] at h ⊢
 dsimp only at h ⊢
 by_cases hk:k<((d.files.length:Nat):Int)
 ·rw [decide_eq_true hk];show 0≤k∧k.toNat<_;omega
 ·rw [decide_eq_false hk] at h;cases h
theorem M7 (sep:List UInt8) (hs:sep.length=1): ∀r:List ByteArray,(Lib.joinTail sep (r.map (·.data.toList))).length=(r.map fun s:ByteArray=>s.size+1).sum
 | []=>by simp [Lib.joinTail]
 |x::r=>by
  have ih:=M7 sep hs r
  simp only [Lib.joinTail,List.map_cons,List.flatten_cons,List.length_append,List.sum_cons] at ih ⊢
  rw [ih,hs]
  have:x.data.toList.length=x.size:=by rw [Array.length_toList];rfl
  omega
theorem KJ (xs:List ByteArray) (sep:ByteArray) (hs:sep.data.toList.length=1):(BV xs sep).size≤Dj (fun s:ByteArray=>s.size+1) xs:=by
 show (Lib.join (xs.map (·.data.toList)) sep.data.toList).toArray.size≤_
 rw [List.size_toArray]
 cases xs with
 |nil=>simp [Lib.join_nil,Dj]
 |cons x r=>
  rw [List.map_cons,Lib.join_cons,List.length_append,M7 _ hs r]
  have:x.data.toList.length=x.size:=by rw [Array.length_toList];rfl
  simp only [Dj,List.map_cons,List.sum_cons]
  omega
theorem Sa {e:Ao} (hz:e.sz≤1049600):(BV e.outs ⟨#[32]⟩).size≤1049600∧(BV e.ins ⟨#[32]⟩).size≤1049600∧(BV e.implicit ⟨#[32]⟩).size≤1049600∧e.command.size≤1049600:=by
 have h1:=KJ e.outs ⟨#[32]⟩ rfl
 have h2:=KJ e.ins ⟨#[32]⟩ rfl
 have h3:=KJ e.implicit ⟨#[32]⟩ rfl
 unfold Ao.sz at hz
 simp only at hz
 refine ⟨by omega,by omega,by omega,by omega⟩
theorem signs5 {e:Ao} (hz:e.sz≤1049600):(BV [BV e.outs (⟨#[32]⟩:ByteArray),BV e.ins (⟨#[32]⟩:ByteArray),BV e.implicit (⟨#[32]⟩:ByteArray),(bif e.deps then (⟨#[100]⟩:ByteArray) else (⟨#[110]⟩:ByteArray)),e.command] (⟨#[124]⟩:ByteArray)).size≤140737488355328:=by
 obtain ⟨h1,h2,h3,h4⟩:=Sa hz
 refine Nat.le_trans (KJ _ _ rfl) ?_
 have h5:(bif e.deps then (⟨#[100]⟩:ByteArray) else (⟨#[110]⟩:ByteArray)).size≤1:=by cases e.deps<;>decide
 simp only [Dj,List.map_cons,List.map_nil,List.sum_cons,List.sum_nil]
 omega
theorem UA {s:A7} {edge:Int} (hz:s.sz≤1049600) (h1:(!(DU s))=false) (h2:(!(J2 edge (0:Int) (IntKind.wrap .i64 (((s.graph.edges.length:Nat):Int)-(1:Int)))))=false):
  0≤edge∧edge.toNat<s.graph.edges.length∧(s.graph.edges.getD edge.toNat default).sz≤1049600∧0<(s.graph.edges.getD edge.toNat default).outs.length:=by
 have hgl:=Nat.le_trans s.graph.sz_len (Nat.le_trans s.sz_graph hz)
 rw [Pn (by omega)] at h2
 simp only [Bool.not_eq_false',Bool.and_eq_true,decide_eq_true_eq] at h2
 have hlt:edge.toNat<s.graph.edges.length:=by omega
 have hd:Hx s=true:=by rw [←FS];simpa using h1
 unfold Hx at hd
 simp only [Bool.and_eq_true,decide_eq_true_eq] at hd
 have hc:GF s.graph=0:=by
  rcases Decidable.em (GF s.graph=0) with q|q
  ·exact q
  ·have:=hd.1;rw [TF,if_neg q] at this;exact absurd this (by decide)
 have hm:s.graph.edges.getD edge.toNat default∈s.graph.edges:=by
  have:s.graph.edges.getD edge.toNat default=s.graph.edges[edge.toNat]:=by simp [List.getD,hlt]
  rw [this];exact List.getElem_mem hlt
 have hs:=JK (sz:=Ao.sz) hm
 have:=s.graph.sz_edges
 have:=s.sz_graph
 exact ⟨h2.1,hlt,by omega,RT hc hm⟩
theorem Nu {α:Type} (p:α→Bool): ∀xs:List α,-1≤DH p xs∧DH p xs<((xs.length:Nat):Int)
 | []=>by simp [DH]
 |x::xs=>by
  have ih:=Nu p xs
  simp only [DH,List.length_cons]
  split
  ·omega
  ·split<;>omega
theorem Rp (rs:List Ab) (out:ByteArray): -1≤AO rs out∧AO rs out<((rs.length:Nat):Int):=Nu _ rs
theorem GD (fs:List Aa) (out:ByteArray): -1≤As fs out∧As fs out<((fs.length:Nat):Int):=Nu _ fs
theorem N8 {fs:List Aa} {out:ByteArray} (hz:Dj Aa.sz fs≤1049600) (h:0≤As fs out):(fs.getD (As fs out).toNat default).sz≤1049600:=by
 have hl:=(GD fs out).2
 have hlt:(As fs out).toNat<fs.length:=by omega
 have hm:fs.getD (As fs out).toNat default∈fs:=by
  have:fs.getD (As fs out).toNat default=fs[(As fs out).toNat]:=by simp [List.getD,hlt]
  rw [this];exact List.getElem_mem hlt
 have:=JK (sz:=Aa.sz) hm
 omega
theorem Dc {s:A7} {edge:Int} (hz:s.sz≤1049600) (h1:(!(Hx s))=false) (h2:decide (edge<(0:Int))=false) (h3:decide (((s.graph.edges.length:Nat):Int)≤edge)=false):
  0≤edge∧edge.toNat<s.graph.edges.length∧(s.graph.edges.getD edge.toNat default).sz≤1049600∧0<(s.graph.edges.getD edge.toNat default).outs.length:=by
 have hgl:=Nat.le_trans s.graph.sz_len (Nat.le_trans s.sz_graph hz)
 have h2':=of_decide_eq_false h2
 have h3':=of_decide_eq_false h3
 refine UA hz (by rw [FS];exact h1) ?_
 rw [Pn (by omega),decide_eq_true (by omega:0≤edge),decide_eq_true (by omega:edge<((s.graph.edges.length:Nat):Int))];rfl
theorem SB {s:A7} {x:Int} (hz:s.sz≤1049600) (h1:(!(Hx s))=false) (hx:x∈(Fl (⟨s.graph.edges,s.graph.pools,s.graph.defaults⟩:Af)).1):
  0≤x∧x.toNat<s.graph.edges.length∧(s.graph.edges.getD x.toNat default).sz≤1049600∧(s.graph.edges.getD x.toNat default).ins.length+(s.graph.edges.getD x.toNat default).implicit.length≤1049600:=by
 obtain ⟨h0,hlt⟩:=Q9 (g:=s.graph) hx
 obtain ⟨_,_,h3,_⟩:=Dc (edge:=x) hz h1 (decide_eq_false (by omega)) (decide_eq_false (by omega))
 refine ⟨h0,hlt,h3,?_⟩
 have hr1:=CB (s.graph.edges.getD x.toNat default).ins
 have hr2:=CB (s.graph.edges.getD x.toNat default).implicit
 generalize s.graph.edges.getD x.toNat default=e at*
 unfold Ao.sz at h3;simp only at h3;omega
theorem NJ {s:A7} {edge:Int} (hz:s.sz≤1049600) (h1:(!(Hx s))=false) (h2:decide (edge<(0:Int))=false) (h3:decide (((s.graph.edges.length:Nat):Int)≤edge)=false):
  (s.graph.edges.getD edge.toNat default).ins.length+(s.graph.edges.getD edge.toNat default).implicit.length+(s.graph.edges.getD edge.toNat default).order.length≤1049600:=by
 obtain ⟨_,_,h3,_⟩:=Dc hz h1 h2 h3
 have hr1:=CB (s.graph.edges.getD edge.toNat default).ins
 have hr2:=CB (s.graph.edges.getD edge.toNat default).implicit
 have hr3:=CB (s.graph.edges.getD edge.toNat default).order
 generalize s.graph.edges.getD edge.toNat default=e at*
 unfold Ao.sz at h3;simp only at h3;omega
theorem SY {s:A7} {edge:Int} (hz:s.sz≤1049600) (h1:(!(Hx s))=false) (h2:decide (edge<(0:Int))=false) (h3:decide (((s.graph.edges.length:Nat):Int)≤edge)=false):
  0≤edge∧edge.toNat<s.graph.edges.length∧(CN [(s.graph.edges.getD edge.toNat default).ins,(s.graph.edges.getD edge.toNat default).implicit,(s.graph.edges.getD edge.toNat default).order]).length≤1049600:=by
 obtain ⟨h4,h5,_,_⟩:=Dc hz h1 h2 h3
 refine ⟨h4,h5,?_⟩
 have:=NJ hz h1 h2 h3
 rw [GA]
 simp only [List.flatten_cons,List.flatten_nil,List.append_nil,List.length_append];omega
end
end Go.Lift
namespace Go.Lift
noncomputable section
open Go Go.RowKit
theorem LA:KN=true:=by
 simp only [KN,CH]
 kernel_rfl
def NI (s:A7) (i:Nat):Bool:=(Db s ((i:Nat):Int)).1
def II (s:A7) (i:Nat):Int:=(Db s ((i:Nat):Int)).2
theorem V4 (s:A7): ∀(xs:List Bool) (v:Nat) (row:List Bool),row.length=v+xs.length→
  (∃row',Mp s xs v row=Lp.brk row'∧row'.length=row.length∧(∀i,i<v→row'.getD i default=row.getD i default)∧ ∀i,v≤i→i<row.length→row'.getD i default=NI s i∧II s i=0)∨
  (∃i,v≤i∧i<row.length∧II s i≠0∧Mp s xs v row=Lp.ret ([],II s i))
 | [],v,row,h=>Or.inl ⟨row,by rw [Mp],rfl,fun _ _=>rfl,fun i h1 h2=>by simp at h;omega⟩
 |x::xs,v,row,h=>by
  simp only [List.length_cons] at h
  rw [Mp]
  show (∃row',(bif (!decide (II s v=0)) then Lp.ret (([]:List Bool),II s v) else Mp s xs (v+1) (row.set v (NI s v)))=Lp.brk row'∧_)∨(∃i,_∧_∧_∧(bif (!decide (II s v=0)) then Lp.ret (([]:List Bool),II s v) else Mp s xs (v+1) (row.set v (NI s v)))=_)
  by_cases e:II s v=0
  ·rw [decide_eq_true e]
   simp only [Bool.not_true,cond_false]
   have hset: ∀i,i≠v→(row.set v (NI s v)).getD i default=row.getD i default:=fun i hi=>by simp only [List.getD,List.getElem?_set];rw [if_neg (fun q=>hi q.symm)]
   have hsv:(row.set v (NI s v)).getD v default=NI s v:=by simp only [List.getD,List.getElem?_set];rw [if_pos trivial,if_pos (by omega)];rfl
   rcases V4 s xs (v+1) (row.set v (NI s v)) (by simp;omega) with ⟨row',h1,h2,h3,h4⟩|⟨i,h1,h2,h3,h4⟩
   ·refine Or.inl ⟨row',h1,by simpa using h2,fun i hi=>by rw [h3 i (by omega),hset i (by omega)],fun i hi hl=> ?_⟩
    rcases Nat.eq_or_lt_of_le hi with q|q
    ·subst q;exact ⟨by rw [h3 v (by omega),hsv],e⟩
    ·exact h4 i q (by simpa using hl)
   ·exact Or.inr ⟨i,by omega,by simpa using h2,h3,h4⟩
  ·rw [decide_eq_false e]
   exact Or.inr ⟨v,Nat.le_refl _,by omega,e,rfl⟩
theorem Pz (s:A7) (x:Int): ∀(xs:List ByteArray) (v:Nat) (row:List Bool),∃row',IF s x xs v row=Lp.brk row'∧row'.length=row.length∧(∀i,i≠x.toNat→row'.getD i default=row.getD i default)∧ ∀i,row.getD i default=true→row'.getD i default=true
 | [],v,row=>⟨row,by rw [IF],rfl,fun _ _=>rfl,fun _ h=>h⟩
 |y::ys,v,row=>by
  rw [IF]
  cases decide ((0:Int)≤DP s.graph y)
  ·exact Pz s x ys (v+1) row
  ·cases row.getD (DP s.graph y).toNat default
   ·exact Pz s x ys (v+1) row
   ·obtain ⟨row',h1,h2,h3,h4⟩:=Pz s x ys (v+1) (row.set x.toNat true)
    refine ⟨row',h1,by simpa using h2,fun i hi=> ?_,fun i hi=>h4 i ?_⟩
    ·rw [h3 i hi];simp only [List.getD,List.getElem?_set];rw [if_neg (fun q=>hi q.symm)]
    ·simp only [List.getD,List.getElem?_set] at hi ⊢
     split
     ·split
      ·rfl
      ·rename_i q1 q2;subst q1;rw [List.getElem?_eq_none (by omega)] at hi;exact hi
     ·exact hi
theorem V5 (s:A7): ∀(xs:List Int) (v:Nat) (row:List Bool),∃row',KM s xs v row=Lp.brk row'∧row'.length=row.length∧ ∀i,row.getD i default=true→row'.getD i default=true
 | [],v,row=>⟨row,by rw [KM],rfl,fun _ h=>h⟩
 |x::xs,v,row=>by
  rw [KM]
  obtain ⟨r1,h1,h2,_,h4⟩:=Pz s x (CN [(s.graph.edges.getD x.toNat default).ins,(s.graph.edges.getD x.toNat default).implicit]) 0 row
  rw [h1]
  obtain ⟨r2,k1,k2,k3⟩:=V5 s xs (v+1) r1
  exact ⟨r2,k1,k2.trans h2,fun i hi=>k3 i (h4 i hi)⟩
theorem V7 (s:A7):(Hx s=false∧DI s=([],1900))∨
  (Hx s=true∧ ∃i,i<s.graph.edges.length∧II s i≠0∧DI s=([],II s i))∨
  (Hx s=true∧(∀i,i<s.graph.edges.length→II s i=0)∧ ∃row row',row.length=s.graph.edges.length∧(∀i,i<s.graph.edges.length→row.getD i default=NI s i)∧
    KM s ((Fl s.graph).1) 0 row=Lp.brk row'∧row'.length=s.graph.edges.length∧(∀i,row.getD i default=true→row'.getD i default=true)∧DI s=(row',0)):=by
 unfold DI
 cases hm:Hx s
 ·exact Or.inl ⟨rfl,rfl⟩
 ·simp only [Bool.not_true,cond_false]
  rcases V4 s (List.replicate s.graph.edges.length false) 0 (List.replicate s.graph.edges.length false) (by simp) with ⟨row,h1,h2,_,h4⟩|⟨i,h1,h2,h3,h4⟩
  ·rw [h1]
   obtain ⟨row',k1,k2,k3⟩:=V5 s ((Fl s.graph).1) 0 row
   have hl:row.length=s.graph.edges.length:=by simpa using h2
   refine Or.inr (Or.inr ⟨trivial,fun i hi=>(h4 i (Nat.zero_le _) (by simpa using hi)).2,row,row',hl,fun i hi=>(h4 i (Nat.zero_le _) (by simpa using hi)).1,k1,k2.trans hl,k3,?_⟩)
   show (match KM s ((Fl s.graph).1) 0 row with|Lp.ret r=>r|Lp.brk row5'=>(row5',(0:Int)))=_
   rw [k1]
  ·rw [h4];exact Or.inr (Or.inl ⟨trivial,i,by simpa using h2,h3,rfl⟩)
theorem RM {s:A7} (hm:Hx s=true) {i:Nat} (hi:i<s.graph.edges.length):0<(s.graph.edges.getD i default).outs.length:=by
 unfold Hx at hm
 simp only [Bool.and_eq_true,decide_eq_true_eq] at hm
 have hc:GF s.graph=0:=by
  rcases Decidable.em (GF s.graph=0) with q|q
  ·exact q
  ·have:=hm.1;rw [TF,if_neg q] at this;exact absurd this (by decide)
 refine RT hc ?_
 have:s.graph.edges.getD i default=s.graph.edges[i]:=by simp [List.getD,hi]
 rw [this];exact List.getElem_mem hi
end
end Go.Lift
namespace Go.Lift
noncomputable section
open Go Go.RowKit
def Df (s:A7) (row:List Bool) (i:Nat):Bool:=((s.graph.edges.getD i default).ins++(s.graph.edges.getD i default).implicit).any fun y=>decide (0≤Ge s.graph y)&&row.getD (Ge s.graph y).toNat default
theorem L8 {row:List Bool} {i j:Nat} {b:Bool} (h:j≠i):(row.set i b).getD j default=row.getD j default:=by
 simp only [List.getD,List.getElem?_set];rw [if_neg (fun q=>h q.symm)]
theorem K2 {row:List Bool} {i:Nat} {b:Bool} (h:i<row.length):(row.set i b).getD i default=b:=by
 simp only [List.getD,List.getElem?_set];rw [if_pos trivial,if_pos h];rfl
theorem MF (s:A7) (x:Int): ∀(xs:List ByteArray) (v:Nat) (row:List Bool),(∀y∈xs,0≤Ge s.graph y→(Ge s.graph y).toNat≠x.toNat)→
  IF s x xs v row=Lp.brk (if (xs.any fun y=>decide (0≤Ge s.graph y)&&row.getD (Ge s.graph y).toNat default) then row.set x.toNat true else row)
 | [],v,row,_=>by rw [IF];rfl
 |y::ys,v,row,h=>by
  rw [IF,LK]
  have hy:=h y (by simp)
  have hys: ∀z∈ys,0≤Ge s.graph z→(Ge s.graph z).toNat≠x.toNat:=fun z hz=>h z (by simp [hz])
  by_cases h0:0≤Ge s.graph y
  ·rw [decide_eq_true h0,List.any_cons,decide_eq_true h0]
   cases hr:row.getD (Ge s.graph y).toNat default
   ·simp only [cond_true,cond_false,Bool.true_and,Bool.false_or]
    exact MF s x ys (v+1) row hys
   ·simp only [cond_true,Bool.true_and,Bool.true_or,if_true]
    rw [MF s x ys (v+1) (row.set x.toNat true) hys]
    split
    ·rw [List.set_set]
    ·rfl
  ·rw [decide_eq_false h0,List.any_cons,decide_eq_false h0]
   simp only [cond_false,Bool.false_and,Bool.false_or]
   exact MF s x ys (v+1) row hys
structure MM (s:A7) (own row:List Bool) (pre:List Int):Prop where
 len:row.length=s.graph.edges.length
 rest: ∀i:Nat,((i:Nat):Int)∉pre→row.getD i default=own.getD i default
 done: ∀i:Nat,((i:Nat):Int)∈pre→row.getD i default=(own.getD i default||Df s row i)
theorem KW {g:Af} {o pre post:List Int} {x:Int} (h:Steps g o) (e:o=pre++x::post): ∃i:Nat,x=((i:Nat):Int)∧i<g.edges.length∧x∉pre∧ ∀k∈Gp g x,k∈pre:=by
 obtain ⟨i,h1,_,h3⟩:=T5 h pre.length x (by rw [e,List.getElem?_append_right (Nat.le_refl _),Nat.sub_self];rfl)
 rw [e,List.take_left] at h3
 obtain ⟨a,b,_⟩:=Kp h3
 unfold H2 at b
 simp only [Bool.and_eq_true,Bool.not_eq_true',List.all_eq_true] at b
 refine ⟨i,h1,a,?_,?_⟩
 ·subst h1;intro q;have:=b.1;rw [List.contains_iff_mem.2 q] at this;cases this
 ·subst h1;intro k hk;have:=b.2 k hk;simpa using this
theorem G1 {s:A7} {i:Nat} {y:ByteArray} (hy:y∈(s.graph.edges.getD i default).ins++(s.graph.edges.getD i default).implicit) (h0:0≤Ge s.graph y):Ge s.graph y∈Gp s.graph ((i:Nat):Int):=by
 rw [P6]
 refine ⟨h0,y,?_,rfl⟩
 unfold Nq
 rw [Int.toNat_natCast]
 rcases List.mem_append.1 hy with q|q
 ·exact List.mem_append.2 (Or.inl q)
 ·exact List.mem_append.2 (Or.inr (List.mem_append.2 (Or.inl q)))
theorem EZ {s:A7} {r1 r2:List Bool} {i:Nat} (h: ∀y∈(s.graph.edges.getD i default).ins++(s.graph.edges.getD i default).implicit,0≤Ge s.graph y→r1.getD (Ge s.graph y).toNat default=r2.getD (Ge s.graph y).toNat default):Df s r1 i=Df s r2 i:=by
 unfold Df
 rw [Bool.eq_iff_iff,List.any_eq_true,List.any_eq_true]
 constructor
 ·rintro ⟨y,hy,e⟩
  simp only [Bool.and_eq_true,decide_eq_true_eq] at e
  exact ⟨y,hy,by simp only [Bool.and_eq_true,decide_eq_true_eq];exact ⟨e.1,by rw [←h y hy e.1];exact e.2⟩⟩
 ·rintro ⟨y,hy,e⟩
  simp only [Bool.and_eq_true,decide_eq_true_eq] at e
  exact ⟨y,hy,by simp only [Bool.and_eq_true,decide_eq_true_eq];exact ⟨e.1,by rw [h y hy e.1];exact e.2⟩⟩
theorem MM.next {s:A7} {own row:List Bool} {o pre post:List Int} {x:Int} (hs:Steps s.graph o) (e:o=pre++x::post) (I:MM s own row pre):
  ∃i:Nat,x=((i:Nat):Int)∧i<s.graph.edges.length∧MM s own (if Df s row i then row.set i true else row) (pre++[x])∧(∀y∈(s.graph.edges.getD i default).ins++(s.graph.edges.getD i default).implicit,0≤Ge s.graph y→(Ge s.graph y).toNat≠i):=by
 obtain ⟨i,rfl,hi,hn,hk⟩:=KW hs e
 have hne: ∀y∈(s.graph.edges.getD i default).ins++(s.graph.edges.getD i default).implicit,0≤Ge s.graph y→(Ge s.graph y).toNat≠i:=by
  intro y hy h0 q
  have:=hk _ (G1 hy h0)
  rw [show Ge s.graph y=((i:Nat):Int) by omega] at this
  exact hn this
 refine ⟨i,rfl,hi,?_,hne⟩
 have hstay: ∀j,j≠i→(if Df s row i then row.set i true else row).getD j default=row.getD j default:=by
  intro j hj;split
  ·exact L8 hj
  ·rfl
 refine ⟨by split<;>simp [I.len],fun j hj=> ?_,fun j hj=> ?_⟩
 ·have hji:j≠i:=fun q=>hj (by rw [q];simp)
  rw [hstay j hji];exact I.rest j (fun q=>hj (by simp [q]))
 ·rcases List.mem_append.1 hj with hj|hj
  ·
   have hji:j≠i:=fun q=>hn (by rw [←q];exact hj)
   rw [hstay j hji,I.done j hj]
   rw [EZ (r1:=row) (r2:=if Df s row i then row.set i true else row)]
   intro y hy h0
   refine (hstay _ fun q=> ?_).symm
   obtain ⟨p1,p2,hp⟩:=List.append_of_mem hj
   obtain ⟨_,_,_,_,hk'⟩:=KW (x:=((j:Nat):Int)) hs (pre:=p1) (post:=p2++((i:Nat):Int)::post) (by rw [e,hp];simp)
   have:=hk' _ (G1 hy h0)
   rw [show Ge s.graph y=((i:Nat):Int) by omega] at this
   exact hn (by rw [hp];simp [this])
  ·have hji:j=i:=by simp only [List.mem_singleton] at hj;omega
   subst hji
   rw [EZ (r1:=if Df s row j then row.set j true else row) (r2:=row) (fun y hy h0=>hstay _ (hne y hy h0))]
   rw [←I.rest j hn]
   cases ht:Df s row j
   ·simp
   ·simp only [if_true,Bool.or_true];exact K2 (by rw [I.len];exact hi)
theorem Th (s:A7) (own:List Bool) {o:List Int} (hs:Steps s.graph o): ∀(post pre:List Int) (v:Nat) (row:List Bool),o=pre++post→MM s own row pre→ ∃row',KM s post v row=Lp.brk row'∧MM s own row' o
 | [],pre,v,row,e,I=>⟨row,by rw [KM],by rw [e,List.append_nil];exact I⟩
 |x::post,pre,v,row,e,I=>by
  obtain ⟨i,rfl,hi,I2,hne⟩:=I.next hs e
  rw [KM,GA]
  simp only [List.flatten_cons,List.flatten_nil,List.append_nil,Int.toNat_natCast]
  rw [MF s ((i:Nat):Int) _ 0 row (by rw [Int.toNat_natCast];exact hne)]
  rw [Int.toNat_natCast]
  exact Th s own hs post (pre++[((i:Nat):Int)]) (v+1) _ (by rw [e];simp) I2
theorem SZ: ∀(n:Nat) (o:List Int),(∀x∈o,0≤x∧x.toNat<n)→o.Pairwise (· ≠ ·)→n≤o.length→ ∀i,i<n→((i:Nat):Int)∈o
 |0,o,_,_,_,i,hi=>by omega
 |n+1,o,hb,hp,hl,i,hi=>by
  have hn:((n:Nat):Int)∈o:=by
   refine Classical.byContradiction fun hno=> ?_
   have hb': ∀x∈o,0≤x∧x.toNat<n:=fun x hx=>by
    have:=hb x hx
    refine ⟨this.1,?_⟩
    have:x≠((n:Nat):Int):=fun q=>hno (q ▸ hx)
    omega
   cases o with
   |nil=>simp at hl
   |cons y r=>
    have hy:=hb' y (by simp)
    have:=SZ n r (fun x hx=>hb' x (by simp [hx])) (List.pairwise_cons.1 hp).2 (by simp at hl;omega) y.toNat hy.2
    exact (List.pairwise_cons.1 hp).1 _ this (by omega)
  rcases Nat.lt_or_ge i n with q|q
  ·have hsub: ∀x∈o.filter (fun x=>decide (x≠((n:Nat):Int))),0≤x∧x.toNat<n:=fun x hx=>by
     obtain ⟨h1,h2⟩:=List.mem_filter.1 hx
     have:=hb x h1
     have h3:x≠((n:Nat):Int):=by simpa using h2
     omega
   have hlen:n≤(o.filter (fun x=>decide (x≠((n:Nat):Int)))).length:=by
    obtain ⟨p1,p2,hp12⟩:=List.append_of_mem hn
    subst hp12
    rw [List.pairwise_append,List.pairwise_cons] at hp
    have f1:p1.filter (fun x=>decide (x≠((n:Nat):Int)))=p1:=List.filter_eq_self.2 fun x hx=>by simpa using hp.2.2 x hx _ (by simp)
    have f2:p2.filter (fun x=>decide (x≠((n:Nat):Int)))=p2:=List.filter_eq_self.2 fun x hx=>by simpa using fun q=>hp.2.1.1 x hx q.symm
    rw [List.filter_append,List.filter_cons,f1,f2]
    simp only [ne_eq,not_true,decide_false,if_false,List.length_append,List.length_cons] at hl ⊢
    simp;omega
   have:=SZ n _ hsub (hp.filter _) hlen i q
   exact (List.mem_filter.1 this).1
  ·have:i=n:=by omega
   subst this;exact hn
theorem M0 {g:Af} {o:List Int} (h:Steps g o) (hl:o.length=g.edges.length) {i:Nat} (hi:i<g.edges.length):((i:Nat):Int)∈o:=by
 have key: ∀ {o:List Int},Steps g o→(∀x∈o,0≤x∧x.toNat<g.edges.length)∧o.Pairwise (· ≠ ·):=by
  intro o h
  induction h with
  |nil=>exact ⟨fun x hx=>by simp at hx,.nil⟩
  | @snoc out j h hn ih=>
    obtain ⟨a,b,_⟩:=Kp hn
    unfold H2 at b
    simp only [Bool.and_eq_true,Bool.not_eq_true'] at b
    refine ⟨fun x hx=> ?_,?_⟩
    ·rcases List.mem_append.1 hx with q|q
     ·exact ih.1 x q
     ·simp only [List.mem_singleton] at q;subst q;exact ⟨by omega,by omega⟩
    ·rw [List.pairwise_append]
     refine ⟨ih.2,by simp,fun x hx y hy=> ?_⟩
     simp only [List.mem_singleton] at hy;subst hy
     intro q;subst q
     have:=b.1;rw [List.contains_iff_mem.2 hx] at this;cases this
 exact SZ _ o (key h).1 (key h).2 (by omega) i hi
theorem PI {s:A7} (h:Hx s=true):(Fl s.graph).2=0:=by
 unfold Hx at h
 simp only [Bool.and_eq_true,decide_eq_true_eq] at h
 exact h.1
theorem all_rec (s:A7):(Hx s=false∧DI s=([],1900))∨
  (Hx s=true∧ ∃i,i<s.graph.edges.length∧II s i≠0∧DI s=([],II s i))∨
  (Hx s=true∧(∀i,i<s.graph.edges.length→II s i=0)∧ ∃row',DI s=(row',0)∧row'.length=s.graph.edges.length∧ ∀i,i<s.graph.edges.length→row'.getD i default=(NI s i||Df s row' i)):=by
 rcases V7 s with h|h|⟨hm,h0,row,row',hl,hrow,e2,hl',hup,e⟩
 ·exact Or.inl h
 ·exact Or.inr (Or.inl h)
 ·obtain ⟨hs,hol,_⟩:=of_steps (PI hm)
  obtain ⟨r2,k1,k2⟩:=Th s row hs (Fl s.graph).1 [] 0 row rfl ⟨hl,fun _ _=>rfl,fun _ h=>by simp at h⟩
  rw [e2] at k1
  cases k1
  refine Or.inr (Or.inr ⟨hm,h0,row',e,hl',fun i hi=> ?_⟩)
  rw [k2.done i (M0 hs hol hi),hrow i hi]
end
end Go.Lift
namespace Go.Lift
noncomputable section
open Go Go.RowKit
def ownM (s':A7) (edge:Int):Bool×Int:=
 (bif decide (edge<(0:Int)) then (false,(1900:Int)) else (bif decide (((s'.graph.edges.length:Nat):Int)≤edge) then (false,(1900:Int)) else (bif (Tz (CN [(s'.graph.edges.getD edge.toNat default).ins,(s'.graph.edges.getD edge.toNat default).implicit,(s'.graph.edges.getD edge.toNat default).order]) (fun z0=>LC (⟨s',(s'.graph.edges.getD edge.toNat default)⟩:Ac) z0)) then (false,(1901:Int)) else ((Sj (⟨s',(s'.graph.edges.getD edge.toNat default)⟩:Ac)),(0:Int)))))
theorem own_may {s:A7} (h:Hx s=true) (e:Int):Db s e=ownM s e:=by
 unfold Db ownM;rw [h];rfl
theorem upTo_c {c:Int} (h:0≤c∧c≤2147483647):J2 c (0:Int) (2147483647:Int)=true:=by
 unfold J2;rw [decide_eq_true h.1,decide_eq_true h.2];rfl
end
end Go.Lift
namespace Go.Lift
noncomputable section
open Go Go.RowKit
theorem bt {c:Bool} {a b:Bool} (ha:a=true) (hb:b=true):(bif c then a else b)=true:=by cases c<;>assumption
end
end Go.Lift
namespace Go.Lift
noncomputable section
open Go Go.RowKit
theorem Tk: ∀(x y:List UInt8),Op.bytesLess x y=decide (x<y)
 | [],[]=>by simp [Op.bytesLess]
 |_::_,[]=>by simp [Op.bytesLess]
 | [],_::_=>by simp [Op.bytesLess]
 |a::x,b::y=>by
  rw [Op.bytesLess,Tk x y]
  simp only [List.cons_lt_cons_iff]
  by_cases h1:a<b<;>by_cases h2:a=b<;>by_cases h3:x<y<;>simp [h1,h2,h3]
def nl (a b:ByteArray):Prop:=Op.bytesLess a.toList b.toList=true
theorem HV {a b c:ByteArray} (h1:nl a b) (h2:nl b c):nl a c:=by
 unfold nl at*;rw [Tk,decide_eq_true_eq] at*;exact List.lt_trans h1 h2
theorem LN (a:ByteArray): ¬nl a a:=by
 unfold nl;rw [Tk,decide_eq_true_eq];exact List.lt_irrefl _
theorem cmp_neg (x y:ByteArray):decide (Kl x y<(0:Int))=Op.bytesLess x.toList y.toList:=by
 unfold Kl J4
 simp only [decide_true,Bool.not_true,cond_false]
 cases Op.bytesLess x.toList y.toList
 ·simp only [cond_false,Bool.false_or]
  cases decide (x=y)<;>rfl
 ·rfl
theorem Vh (x y:ByteArray):decide (Kl x y=(0:Int))=decide (x=y):=by
 unfold Kl J4
 simp only [decide_true,Bool.not_true,cond_false]
 cases h:Op.bytesLess x.toList y.toList
 ·simp only [cond_false,Bool.false_or]
  cases decide (x=y)<;>rfl
 ·have:x≠y:=fun q=>LN y (by unfold nl;rw [←h,q])
  rw [decide_eq_false this];rfl
theorem KG (pi:ByteArray→Bool) (c:Int): ∀(fs:List A2) (ts:List Int) (p:Option A2),E9 pi c fs ts p=true→(∀f∈fs,1≤f.time∧f.time≤c)∧fs.Pairwise (fun a b=>nl a.name b.name)∧(∀q,p=some q→ ∀f∈fs,nl q.name f.name)
 | [],ts,p,_=>⟨by simp,.nil,by simp⟩
 |f::r,ts,p,h=>by
  rw [E9.eq_def] at h
  simp only [Bool.and_eq_true,decide_eq_true_eq] at h
  obtain ⟨⟨⟨⟨⟨⟨⟨h1,h2⟩,h3⟩,h4⟩,h5⟩,h6⟩,h7⟩,h8⟩:=h
  obtain ⟨i1,i2,i3⟩:=KG pi c r _ _ h8
  have i3':=i3 f rfl
  refine ⟨fun g hg=> ?_,List.pairwise_cons.2 ⟨fun g hg=>i3' g hg,i2⟩,fun q hq g hg=> ?_⟩
  ·rcases List.mem_cons.1 hg with rfl|hg
   ·exact ⟨h4,h5⟩
   ·exact i1 g hg
  ·subst hq
   rcases List.mem_cons.1 hg with rfl|hg
   ·exact h7
   ·exact HV h7 (i3' g hg)
theorem IV {d:A9} (h:C4 D6 d=true):(∀f∈d.files,1≤f.time∧f.time≤d.clock)∧d.files.Pairwise (fun a b=>nl a.name b.name)∧d.clock≤1048576∧d.files.length≤64:=by
 unfold C4 at h
 simp only [Bool.and_eq_true,decide_eq_true_eq] at h
 obtain ⟨h1,h2,_⟩:=KG _ _ _ _ _ h.1.1.1
 exact ⟨h1,h2,h.1.2,h.2⟩
theorem PD {xs:List A2} {t:ByteArray} (hn:xs.length≤1049600) (hs:xs.Pairwise fun a b=>nl a.name b.name): ∀(f:Nat) (i j:Int),0≤i→i≤j→j≤((xs.length:Nat):Int)→(j-i).toNat<f→
  (∀(k:Nat) (hk:k<xs.length),((k:Nat):Int)<i→nl xs[k].name t)→(∀(k:Nat) (hk:k<xs.length),j≤((k:Nat):Int)→ ¬nl xs[k].name t)→
  ∃k:Nat,VK (fun z0 z1=>GW z0 z1) xs t f i j=Lp.brk ((k:Nat):Int)∧k≤xs.length∧(∀(q:Nat) (hq:q<xs.length),q<k→nl xs[q].name t)∧(∀(q:Nat) (hq:q<xs.length),k≤q→ ¬nl xs[q].name t)
 |0,i,j,_,_,_,hf,_,_=>by omega
 |f+1,i,j,h0,h1,h2,hf,hlo,hhi=>by
  rw [VK]
  by_cases h:i<j
  ·rw [decide_eq_true h]
   obtain ⟨m1,m2,m3,m4⟩:=St h0 h h2 hn
   rw [m4]
   generalize IntKind.wrap .i64 (Int.fdiv (IntKind.wrap .u64 (IntKind.wrap .i64 (i+j))) (2^(min 1 IntKind.u64.bits)))=m at*
   have hml:m.toNat<xs.length:=by omega
   have hg:xs.getD m.toNat default=xs[m.toNat]:=by simp [List.getD,hml]
   show ∃k:Nat,(bif decide (Kl (xs.getD m.toNat default).name t<(0:Int)) then _ else _)=_∧_
   rw [hg,cmp_neg]
   have hP:=List.pairwise_iff_getElem.1 hs
   cases hc:Op.bytesLess xs[m.toNat].name.toList t.toList
   ·exact PD hn hs f i m h0 (by omega) (by omega) (by omega) hlo (fun k hk hmk=>by
     rcases Nat.lt_or_ge m.toNat k with q|q
     ·intro hx;have:=HV (hP m.toNat k hml hk q) hx;unfold nl at this;rw [hc] at this;cases this
     ·have:k=m.toNat:=by omega
      subst this;unfold nl;rw [hc];simp)
   ·exact PD hn hs f (m+1) j (by omega) (by omega) h2 (by omega) (fun k hk hmk=>by
     rcases Nat.lt_or_ge k m.toNat with q|q
     ·exact HV (hP k m.toNat hk hml q) hc
     ·have:k=m.toNat:=by omega
      subst this;exact hc) hhi
  ·rw [decide_eq_false h]
   exact ⟨i.toNat,by rw [Int.toNat_of_nonneg h0];rfl,by omega,fun q hq hql=>hlo q hq (by omega),fun q hq hql=>hhi q hq (by omega)⟩
theorem T0 {d:A9} {n:ByteArray} (hm:C4 D6 d=true):
  (∃k:Nat,∃hk:k<d.files.length,Ir d n=(((k:Nat):Int),true)∧d.files[k].name=n∧d.files.find? (fun f=>decide (f.name=n))=some d.files[k])∨
  (∃k:Nat,k≤d.files.length∧Ir d n=(((k:Nat):Int),false)∧(∀f∈d.files,f.name≠n)∧(∀(q:Nat) (hq:q<d.files.length),q<k→nl d.files[q].name n)∧(∀(q:Nat) (hq:q<d.files.length),k≤q→ ¬nl d.files[q].name n)):=by
 obtain ⟨_,hs,_,hl⟩:=IV hm
 obtain ⟨k,e,hk,hlo,hhi⟩:=PD (t:=n) (by omega:d.files.length≤1049600) hs ((((d.files.length:Nat):Int)-(0:Int)).toNat+1) 0 ((d.files.length:Nat):Int) (Int.le_refl _) (by omega) (Int.le_refl _) (by omega) (fun k hk h=>by omega) (fun k hk h=>by omega)
 have hP:=List.pairwise_iff_getElem.1 hs
 unfold Ir MK
 rw [e]
 dsimp only
 by_cases hkl:k<d.files.length
 ·rw [decide_eq_true (by omega:((k:Nat):Int)<((d.files.length:Nat):Int))]
  have hg:d.files.getD (((k:Nat):Int)).toNat default=d.files[k]:=by rw [Int.toNat_natCast];simp [List.getD,hkl]
  simp only [cond_true]
  rw [hg]
  have hz:decide (GW d.files[k] n=(0:Int))=decide (d.files[k].name=n):=Vh _ _
  rw [hz]
  by_cases hn:d.files[k].name=n
  ·refine Or.inl ⟨k,hkl,by rw [decide_eq_true hn],hn,?_⟩
   rw [List.find?_eq_some_iff_getElem]
   refine ⟨decide_eq_true hn,k,hkl,rfl,fun j hj=> ?_⟩
   have:=hlo j (by omega) hj
   have hne:d.files[j].name≠n:=fun q=>LN n (by rw [q] at this;exact this)
   simpa using hne
  ·refine Or.inr ⟨k,hk,by rw [decide_eq_false hn],fun f hf=> ?_,hlo,hhi⟩
   obtain ⟨q,hq,rfl⟩:=List.getElem_of_mem hf
   intro he
   rcases Nat.lt_trichotomy q k with h|h|h
   ·have:=hlo q hq h;rw [he] at this;exact LN n this
   ·subst h;exact hn he
   ·have:=hP k q hkl hq h;rw [he] at this;exact hhi k hkl (Nat.le_refl _) this
 ·rw [decide_eq_false (by omega: ¬((k:Nat):Int)<((d.files.length:Nat):Int))]
  refine Or.inr ⟨k,hk,rfl,fun f hf=> ?_,hlo,hhi⟩
  obtain ⟨q,hq,rfl⟩:=List.getElem_of_mem hf
  intro he
  have:=hlo q hq (by omega);rw [he] at this;exact LN n this
def QZ (d:A9) (n:ByteArray):A2×Bool:=match d.files.find? (fun f=>decide (f.name=n)) with
 |some f=>(f,true)
 |none=>(⟨⟨#[]⟩,0,0⟩,false)
theorem JE {d:A9} (hm:C4 D6 d=true) (n:ByteArray):Cc d n=QZ d n:=by
 unfold Cc QZ
 rcases T0 (n:=n) hm with ⟨k,hk,e,_,hf⟩|⟨k,hk,e,hno,_⟩
 ·rw [e,hm,hf]
  have hg:d.files.getD (((k:Nat):Int)).toNat default=d.files[k]:=by rw [Int.toNat_natCast];simp [List.getD,hk]
  simp only [cond_true,hg]
 ·rw [e]
  have:d.files.find? (fun f=>decide (f.name=n))=none:=by
   rw [List.find?_eq_none];intro f hf;simpa using hno f hf
  rw [this];rfl
theorem S4 {d:A9} (hm:Hz d=true) (n:ByteArray): ∀(kf i:Nat) (c:ByteArray) (c2 c3:Int),d.files.length-i<kf→VI d n kf i c c2 c3=match (d.files.drop i).find? (fun f=>decide (f.name=n)) with
  |some f=>Lp.ret (f,true)
  |none=>Lp.brk (c,c2,c3)
 |0,i,c,c2,c3,h=>by omega
 |kf+1,i,c,c2,c3,h=>by
  rw [VI,hm]
  by_cases hi:i<d.files.length
  ·rw [decide_eq_true (by omega:((i:Nat):Int)<((d.files.length:Nat):Int))]
   have hg:d.files.getD i default=d.files[i]:=by simp [List.getD,hi]
   rw [hg,List.drop_eq_getElem_cons hi,List.find?_cons]
   simp only [cond_true]
   cases hn:decide (d.files[i].name=n)
   ·simp only [cond_false];exact S4 hm n kf (i+1) c c2 c3 (by omega)
   ·rfl
  ·rw [decide_eq_false (by omega: ¬((i:Nat):Int)<((d.files.length:Nat):Int)),List.drop_eq_nil_of_le (by omega)];rfl
theorem Il (d:A9) (n:ByteArray):GX d n=Cc d n:=by
 cases hm:C4 D6 d
 ·have hm':Hz d=false:=by rw [Ik];exact hm
  unfold GX Cc
  rw [hm,show d.files.length-0+1=d.files.length+1 from rfl,VI,hm']
  cases (Ir d n).2<;>cases decide (((0:Nat):Int)<((d.files.length:Nat):Int))<;>rfl
 ·rw [JE hm]
  unfold GX
  rw [S4 (by rw [Ik];exact hm) n _ _ _ _ _ (by omega),List.drop_zero]
  unfold QZ
  cases d.files.find? (fun f=>decide (f.name=n))<;>rfl
theorem Kf {α:Type} (p:α→Bool): ∀(xs:List α) (x:α),DH p (xs++[x])=if p x=true then ((xs.length:Nat):Int) else DH p xs
 | [],x=>by simp only [List.nil_append,DH];cases p x<;>simp
 |y::ys,x=>by
  rw [List.cons_append,DH,Kf p ys x]
  cases hp:p x
  ·simp only [Bool.false_eq_true,if_false];rfl
  ·simp only [if_true,List.length_cons]
   rw [if_pos (by omega)];omega
theorem Nv {rs:List Ab} (hm:Uq rs=true) (out:ByteArray): ∀(j kf:Nat) (c:ByteArray) (c2:Int) (c3:ByteArray),j≤rs.length→j<kf→Ui rs out kf (((j:Nat):Int)-1) c c2 c3=
  if DH (fun r=>decide (r.out=out)) (rs.take j)<0 then Lp.brk (c,c2,c3) else Lp.ret (rs.getD (DH (fun r=>decide (r.out=out)) (rs.take j)).toNat default,true)
 |0,0,c,c2,c3,_,h=>by omega
 |0,kf+1,c,c2,c3,_,_=>by
  rw [Ui,List.take_zero];rfl
 |j+1,0,c,c2,c3,_,h=>by omega
 |j+1,kf+1,c,c2,c3,hl,h=>by
  have ej:(((j+1:Nat):Nat):Int)-1=((j:Nat):Int):=by omega
  rw [Ui,ej,hm,decide_eq_true (by omega:(0:Int)≤((j:Nat):Int))]
  simp only [cond_true,Int.toNat_natCast]
  have hx:rs[j]? =some (rs.getD j default):=getD_some (by omega)
  rw [I7 hx,Kf]
  cases hp:decide ((rs.getD j default).out=out)
  ·simp only [cond_false,Bool.false_eq_true,if_false];exact Nv hm out j kf c c2 c3 (by omega) (by omega)
  ·simp only [cond_true,if_true,List.length_take]
   rw [if_neg (by omega),Nat.min_eq_left (by omega),Int.toNat_natCast]
theorem Nw (rs:List Ab) (out:ByteArray):VG rs out=CO rs out:=by
 have hk:((((rs.length:Nat):Int)-(1:Int))+1).toNat+1=rs.length+1:=by omega
 unfold VG CO
 rw [hk]
 cases hm:JP rs
 ·have hm':Uq rs=false:=by rw [LB];exact hm
  rw [Ui,hm']
  cases decide (AO rs out<0)<;>cases decide ((0:Int)≤((rs.length:Nat):Int)-1)<;>rfl
 ·rw [Nv (by rw [LB];exact hm) out rs.length _ _ _ _ (Nat.le_refl _) (by omega),List.take_length]
  unfold AO
  by_cases h:DH (fun r:Ab=>decide (r.out=out)) rs<0
  ·rw [if_pos h,decide_eq_true h];rfl
  ·rw [if_neg h,decide_eq_false h];rfl
theorem Nr {fs:List Aa} (hm:Um fs=true) (out:ByteArray): ∀(j kf:Nat) (c:ByteArray) (c2:Int) (c3:List ByteArray),j≤fs.length→j<kf→Uj fs out kf (((j:Nat):Int)-1) c c2 c3=
  if DH (fun r=>decide (r.out=out)) (fs.take j)<0 then Lp.brk (c,c2,c3) else Lp.ret (fs.getD (DH (fun r=>decide (r.out=out)) (fs.take j)).toNat default,true)
 |0,0,c,c2,c3,_,h=>by omega
 |0,kf+1,c,c2,c3,_,_=>by
  rw [Uj,List.take_zero];rfl
 |j+1,0,c,c2,c3,_,h=>by omega
 |j+1,kf+1,c,c2,c3,hl,h=>by
  have ej:(((j+1:Nat):Nat):Int)-1=((j:Nat):Int):=by omega
  rw [Uj,ej,hm,decide_eq_true (by omega:(0:Int)≤((j:Nat):Int))]
  simp only [cond_true,Int.toNat_natCast]
  have hx:fs[j]? =some (fs.getD j default):=getD_some (by omega)
  rw [I7 hx,Kf]
  cases hp:decide ((fs.getD j default).out=out)
  ·simp only [cond_false,Bool.false_eq_true,if_false];exact Nr hm out j kf c c2 c3 (by omega) (by omega)
  ·simp only [cond_true,if_true,List.length_take]
   rw [if_neg (by omega),Nat.min_eq_left (by omega),Int.toNat_natCast];rfl
theorem Ns (fs:List Aa) (out:ByteArray):Ul fs out=J8 fs out:=by
 have hk:((((fs.length:Nat):Int)-(1:Int))+1).toNat+1=fs.length+1:=by omega
 unfold Ul J8
 rw [hk]
 cases hm:JO fs
 ·have hm':Um fs=false:=by rw [Kb];exact hm
  rw [Uj,hm']
  cases decide (As fs out<0)<;>cases decide ((0:Int)≤((fs.length:Nat):Int)-1)<;>rfl
 ·rw [Nr (by rw [Kb];exact hm) out fs.length _ _ _ _ (Nat.le_refl _) (by omega),List.take_length]
  unfold As
  by_cases h:DH (fun r:Aa=>decide (r.out=out)) fs<0
  ·rw [if_pos h,decide_eq_true h];rfl
  ·rw [if_neg h,decide_eq_false h];rfl
theorem U2 (e:Ao):Ur e=LH e:=by
 unfold Ur LH
 simp only [SS,NM,LQ,Dh,HS]
 cases Fh e.outs 8<;>cases Fh e.ins 8<;>cases Fh e.implicit 8<;>cases Fh e.order 8<;>simp
theorem Tw (sign:ByteArray): ∀(xs:List ByteArray) (i:Nat) (acc:ByteArray),0<i→Kj sign xs i acc=Lp.brk (acc++⟨(Lib.joinTail sign.data.toList (xs.map (·.data.toList))).toArray⟩)
 | [],i,acc,_=>by
   rw [Kj];congr 1;apply Ig;simp [Lib.joinTail]
 |x::r,i,acc,h=>by
  rw [Kj,decide_eq_true (by omega:(0:Int)<((i:Nat):Int)),cond_true,Tw sign r (i+1) _ (by omega)]
  congr 1;apply Ig;simp [Lib.joinTail,ByteArray.data_append]
theorem PY (xs:List ByteArray) (sign:ByteArray):Mq xs sign=BV xs sign:=by
 unfold Mq BV
 cases xs with
 |nil=>rfl
 |cons x r=>
  rw [Kj,decide_eq_false (by simp),cond_false,Tw sign r 1 _ (by omega)]
  apply Ig;simp [Lib.join_cons,ByteArray.data_append]
theorem TK (e:Ao):J7 e=IH e:=by
 unfold J7 IH
 rw [U2,PY,PY,PY]
 cases LH e
 ·rfl
 ·simp only [Bool.not_true,cond_false]
  congr 1
  apply Ig
  simp [BV,Lib.join_cons,Lib.joinTail,ByteArray.data_append,List.append_assoc]
theorem JU (xs:List ByteArray) (f:ByteArray→Bool):Tz xs f=xs.any f:=by
 unfold Tz
 rw [show Ru xs f=HR f xs from Gm (p:=f) (fun _=>rfl) (fun x r i=>by rw [SQ]) xs,DG]
theorem Ki {α:Type} {p:α→Bool} {L:List α→Nat→Lp Bool Unit} (h0: ∀i,L [] i=Lp.brk ()) (h1: ∀x r i,L (x::r) i=bif p x then Lp.ret true else L r (i+1)): ∀(l:List α) (i:Nat),L l i=bif l.any p then Lp.ret true else Lp.brk ()
 | [],i=>by rw [h0];rfl
 |x::r,i=>by
  rw [h1,Ki h0 h1 r (i+1),List.any_cons]
  cases p x<;>rfl
theorem SW (s:A7) (e:Ao) (names:List ByteArray) (t:Int):RH (⟨s.disk.clock,s.disk.files⟩:A9) names t=Rq ⟨s,e⟩ names t:=by
 unfold RH Rq
 rw [JU,Ki (p:=fun n=>Rr n ⟨s,e⟩ t) (L:=Ox (⟨s.disk.clock,s.disk.files⟩:A9) t) (fun _=>rfl) (fun x r i=>by
  rw [Ox,Il]
  show _=bif ((!(Cc s.disk x).2)||decide (t<((Cc s.disk x).1).time)) then _ else _
  cases (!(Cc s.disk x).2)
  ·rfl
  ·rfl)]
 cases names.any _<;>rfl
theorem Vy (s:A7) (e:Ao):Km s e=Tz (CN [e.ins,e.implicit,e.order]) (fun z0=>LC (⟨s,e⟩:Ac) z0):=by
 unfold Km
 rw [JU,GA,Ki (p:=fun n=>LC ⟨s,e⟩ n) (L:=NA s) (fun _=>rfl) (fun x r i=>by
  rw [NA,Il,J9,←LK]
  show _=bif ((!(Cc s.disk x).2)&&decide (DP s.graph x<0)) then _ else _
  cases (!(Cc s.disk x).2)
  ·rfl
  ·rfl)]
 simp only [List.flatten_cons,List.flatten_nil,List.append_nil,List.append_assoc]
 cases (e.ins++(e.implicit++e.order)).any _<;>rfl
theorem OZ {d:A9} (hm:C4 D6 d=true) {n:ByteArray} (h:(Cc d n).2=true):1≤(Cc d n).1.time∧(Cc d n).1.time≤d.clock:=by
 rw [JE hm] at h ⊢
 unfold QZ at h ⊢
 cases hf:d.files.find? (fun f=>decide (f.name=n)) with
 |none=>rw [hf] at h;cases h
 |some f=>exact (IV hm).1 f (List.mem_of_find?_eq_some hf)
theorem P9 {s:A7} (hm:C4 D6 s.disk=true) (e:Ao): ∀(xs:List ByteArray) (i v:Nat) (o:Int),1≤o→(Sk ⟨s,e⟩ xs v o=Lp.ret (-1)∧IG s e xs i o=Lp.ret true)∨(∃o',1≤o'∧Sk ⟨s,e⟩ xs v o=Lp.brk o'∧IG s e xs i o=Lp.brk o')
 | [],i,v,o,h=>Or.inr ⟨o,h,by rw [Sk],by rw [IG]⟩
 |x::xs,i,v,o,h=>by
  rw [Sk,IG,show GX (⟨s.disk.clock,s.disk.files⟩:A9) x=Cc s.disk x from Il s.disk x,Nw,TK]
  dsimp only
  cases hf:(Cc s.disk x).2
  ·exact Or.inl ⟨rfl,rfl⟩
  ·cases hr:(CO s.log x).2
   ·exact Or.inl ⟨rfl,rfl⟩
   ·simp only [Bool.not_true,cond_false]
    cases decide ((CO s.log x).1.sign=(IH e).1)
    ·exact Or.inl ⟨rfl,rfl⟩
    ·cases decide ((CO s.log x).1.time=(Cc s.disk x).1.time)
     ·exact Or.inl ⟨rfl,rfl⟩
     ·simp only [Bool.not_true,cond_false]
      have:=OZ hm hf
      exact P9 hm e xs (i+1) (v+1) _ (by split<;>omega)
theorem UB {s:A7} (hm:C4 D6 s.disk=true) (e:Ao) {x:ByteArray} {xs:List ByteArray} (i v:Nat):(Sk ⟨s,e⟩ (x::xs) v s.disk.clock=Lp.ret (-1)∧IG s e (x::xs) i 1048576=Lp.ret true)∨(∃o',1≤o'∧Sk ⟨s,e⟩ (x::xs) v s.disk.clock=Lp.brk o'∧IG s e (x::xs) i 1048576=Lp.brk o'):=by
 rw [Sk,IG,show GX (⟨s.disk.clock,s.disk.files⟩:A9) x=Cc s.disk x from Il s.disk x,Nw,TK]
 dsimp only
 cases hf:(Cc s.disk x).2
 ·exact Or.inl ⟨rfl,rfl⟩
 ·cases hr:(CO s.log x).2
  ·exact Or.inl ⟨rfl,rfl⟩
  ·simp only [Bool.not_true,cond_false]
   cases decide ((CO s.log x).1.sign=(IH e).1)
   ·exact Or.inl ⟨rfl,rfl⟩
   ·cases decide ((CO s.log x).1.time=(Cc s.disk x).1.time)
    ·exact Or.inl ⟨rfl,rfl⟩
    ·simp only [Bool.not_true,cond_false]
     have h1:=OZ hm hf
     have h2:=(IV hm).2.2.1
     have e1:(if (Cc s.disk x).1.time<s.disk.clock then (Cc s.disk x).1.time else s.disk.clock)=(Cc s.disk x).1.time:=by split<;>omega
     have e2:(if (Cc s.disk x).1.time<(1048576:Int) then (Cc s.disk x).1.time else 1048576)=(Cc s.disk x).1.time:=by split<;>omega
     rw [e1,e2]
     exact P9 hm e xs (i+1) (v+1) _ h1.1
theorem Uz {s:A7} (hm:C4 D6 s.disk=true) (e:Ao) (ho:0<e.outs.length):LJ s e=Sj ⟨s,e⟩:=by
 unfold LJ Sj Lh
 show (match IG s e e.outs 0 1048576 with|Lp.ret r=>r|Lp.brk time'=>_)=_
 have key:(Sk ⟨s,e⟩ e.outs 0 s.disk.clock=Lp.ret (-1)∧IG s e e.outs 0 1048576=Lp.ret true)∨(∃o',1≤o'∧Sk ⟨s,e⟩ e.outs 0 s.disk.clock=Lp.brk o'∧IG s e e.outs 0 1048576=Lp.brk o'):=by
  cases h:e.outs with
  |nil=>rw [h] at ho;simp at ho
  |cons x xs=>exact UB hm e 0 0
 rcases key with ⟨k1,k2⟩|⟨o',k0,k1,k2⟩
 ·show _=(decide ((match Sk ⟨s,e⟩ e.outs 0 s.disk.clock with|Lp.ret r=>r|Lp.brk out'=>out')<(0:Int))||_)
  rw [k1,k2];rfl
 ·simp only [k1,k2]
  rw [decide_eq_false (by omega: ¬o'<0),Bool.false_or,SW s e,SW s e,SW s e,Ns,show GX (⟨s.disk.clock,s.disk.files⟩:A9) _=Cc s.disk _ from Il s.disk _]
theorem VL {s:A7} (h:Hx s=true):C4 D6 s.disk=true:=by
 unfold Hx at h
 simp only [Bool.and_eq_true,decide_eq_true_eq] at h
 exact h.2.2.1
end
end Go.Lift
namespace Go.Lift
noncomputable section
open Go Go.RowKit
theorem NK {s:A7} (hm:Hx s=true) {i:Nat} (hi:i<s.graph.edges.length):Db s ((i:Nat):Int)=bif Km s (s.graph.edges.getD i default) then (false,1901) else (LJ s (s.graph.edges.getD i default),0):=by
 rw [own_may hm]
 unfold ownM
 rw [Vy,decide_eq_false (by omega: ¬((i:Nat):Int)<0),decide_eq_false (by omega: ¬((s.graph.edges.length:Nat):Int)≤((i:Nat):Int)),Int.toNat_natCast,Uz (VL hm) _ (RM hm hi)]
 rfl
theorem Qj (s:A7) (row:List Bool): ∀(ys:List ByteArray) (k:Nat) (is:Bool),On s row ys k is=Lp.brk (is||ys.any fun y=>decide (0≤Ge s.graph y)&&row.getD (Ge s.graph y).toNat default)
 | [],k,is=>by rw [On];cases is<;>rfl
 |y::ys,k,is=>by
  rw [On,J9]
  show (bif is then On s row ys (k+1) true else bif decide (0≤Ge s.graph y) then On s row ys (k+1) (row.getD (Ge s.graph y).toNat default) else On s row ys (k+1) false)=_
  rw [Qj s row ys (k+1) true,Qj s row ys (k+1) _,Qj s row ys (k+1) false,List.any_cons]
  cases is<;>cases decide (0≤Ge s.graph y)<;>cases row.getD (Ge s.graph y).toNat default<;>rfl
theorem Qi (s:A7) (x:Int) (rest:List Int) (i:Nat) (row:List Bool):Mm s (x::rest) i row=bif Km s (s.graph.edges.getD x.toNat default) then Lp.ret ([],1901) else Mm s rest (i+1) (row.set x.toNat (LJ s (s.graph.edges.getD x.toNat default)||Df s row x.toNat)):=by
 rw [Mm,Qj];rfl
theorem Pe (s:A7): ∀(o:List Int) (i:Nat) (row:List Bool),(∃x∈o,Km s (s.graph.edges.getD x.toNat default)=true)→Mm s o i row=Lp.ret ([],1901)
 | [],i,row,h=>by obtain ⟨x,hx,_⟩:=h;simp at hx
 |x::o,i,row,h=>by
  rw [Qi]
  cases hl:Km s (s.graph.edges.getD x.toNat default)
  ·refine Pe s o (i+1) _ ?_
   obtain ⟨y,hy,e⟩:=h
   rcases List.mem_cons.1 hy with rfl|hy
   ·rw [hl] at e;cases e
   ·exact ⟨y,hy,e⟩
  ·rfl
structure MT (s:A7) (row:List Bool) (pre:List Int):Prop where
 len:row.length=s.graph.edges.length
 done: ∀i:Nat,((i:Nat):Int)∈pre→row.getD i default=(LJ s (s.graph.edges.getD i default)||Df s row i)
theorem MT.next {s:A7} {row:List Bool} {o pre post:List Int} {x:Int} (hs:Steps s.graph o) (e:o=pre++x::post) (I:MT s row pre):
  MT s (row.set x.toNat (LJ s (s.graph.edges.getD x.toNat default)||Df s row x.toNat)) (pre++[x]):=by
 obtain ⟨i,rfl,hi,hn,hk⟩:=KW hs e
 rw [Int.toNat_natCast]
 generalize hb:(LJ s (s.graph.edges.getD i default)||Df s row i)=b
 have hne: ∀y∈(s.graph.edges.getD i default).ins++(s.graph.edges.getD i default).implicit,0≤Ge s.graph y→(Ge s.graph y).toNat≠i:=by
  intro y hy h0 q
  have:=hk _ (G1 hy h0)
  rw [show Ge s.graph y=((i:Nat):Int) by omega] at this
  exact hn this
 refine ⟨by simp [I.len],fun j hj=> ?_⟩
 rcases List.mem_append.1 hj with hj|hj
 ·have hji:j≠i:=fun q=>hn (by rw [←q];exact hj)
  rw [L8 hji,I.done j hj]
  rw [EZ (r1:=row) (r2:=row.set i b)]
  intro y hy h0
  refine (L8 fun q=> ?_).symm
  obtain ⟨p1,p2,hp⟩:=List.append_of_mem hj
  obtain ⟨_,_,_,_,hk'⟩:=KW (x:=((j:Nat):Int)) hs (pre:=p1) (post:=p2++((i:Nat):Int)::post) (by rw [e,hp];simp)
  have:=hk' _ (G1 hy h0)
  rw [show Ge s.graph y=((i:Nat):Int) by omega] at this
  exact hn (by rw [hp];simp [this])
 ·have hji:j=i:=by simp only [List.mem_singleton] at hj;omega
  subst hji
  rw [EZ (r1:=row.set j b) (r2:=row) (fun y hy h0=>L8 (hne y hy h0)),hb]
  exact K2 (by rw [I.len];exact hi)
theorem S1 {s:A7} {o:List Int} (hs:Steps s.graph o) (hl: ∀x∈o,Km s (s.graph.edges.getD x.toNat default)=false): ∀(post pre:List Int) (v:Nat) (row:List Bool),o=pre++post→MT s row pre→ ∃row',Mm s post v row=Lp.brk row'∧MT s row' o
 | [],pre,v,row,e,I=>⟨row,by rw [Mm],by rw [e,List.append_nil];exact I⟩
 |x::post,pre,v,row,e,I=>by
  rw [Qi,hl x (by rw [e];simp),cond_false]
  exact S1 hs hl post (pre++[x]) (v+1) _ (by rw [e];simp) (I.next hs e)
theorem QQ {s:A7} {o:List Int} (hs:Steps s.graph o) {f:Nat→Bool} {r1 r2:List Bool} (h1: ∀i:Nat,((i:Nat):Int)∈o→r1.getD i default=(f i||Df s r1 i)) (h2: ∀i:Nat,((i:Nat):Int)∈o→r2.getD i default=(f i||Df s r2 i)):
  ∀(post pre:List Int),o=pre++post→(∀i:Nat,((i:Nat):Int)∈pre→r1.getD i default=r2.getD i default)→ ∀i:Nat,((i:Nat):Int)∈o→r1.getD i default=r2.getD i default
 | [],pre,e,h,i,hi=>h i (by rw [e,List.append_nil] at hi;exact hi)
 |x::post,pre,e,h,i,hi=>by
  refine QQ hs h1 h2 post (pre++[x]) (by rw [e];simp) (fun j hj=> ?_) i hi
  rcases List.mem_append.1 hj with hj|hj
  ·exact h j hj
  ·obtain ⟨k,rfl,hk,_,hn⟩:=KW hs e
   have hjk:j=k:=by simp only [List.mem_singleton] at hj;omega
   subst hjk
   rw [h1 j (by rw [e];simp),h2 j (by rw [e];simp),EZ (r1:=r1) (r2:=r2)]
   intro y hy h0
   have:=hn _ (G1 hy h0)
   rw [show Ge s.graph y=(((Ge s.graph y).toNat:Nat):Int) by omega] at this
   exact h _ this
theorem list_eq {a b:List Bool} {n:Nat} (ha:a.length=n) (hb:b.length=n) (h: ∀i,i<n→a.getD i default=b.getD i default):a=b:=by
 refine List.ext_getElem (by omega) fun i h1 h2=> ?_
 have:=h i (by omega)
 simpa [List.getD,h1,h2] using this
theorem M5 (s:A7):Fy s=DI s:=by
 unfold Fy
 rw [FS,show Q4 (⟨s.graph.edges,s.graph.pools,s.graph.defaults⟩:Af)=Fl s.graph from HD s.graph]
 rcases all_rec s with ⟨hm,e⟩|⟨hm,i,hi,hne,e⟩|⟨hm,h0,row',e,hl,hr⟩
 ·rw [e,hm];rfl
 ·obtain ⟨hs,hol,_⟩:=of_steps (PI hm)
  have hp:=NK hm hi
  have hlk:Km s (s.graph.edges.getD i default)=true:=by
   cases hq:Km s (s.graph.edges.getD i default)
   ·rw [hq] at hp;exact absurd (by unfold II;rw [hp];rfl) hne
   ·rfl
  have hE:II s i=1901:=by unfold II;rw [hp,hlk];rfl
  rw [e,hm,hE,Pe s _ 0 _ ⟨_,M0 hs hol hi,by rw [Int.toNat_natCast];exact hlk⟩];rfl
 ·obtain ⟨hs,hol,_⟩:=of_steps (PI hm)
  have hlk: ∀i,i<s.graph.edges.length→Km s (s.graph.edges.getD i default)=false:=fun i hi=>by
   have hp:=NK hm hi
   have h1:=h0 i hi
   unfold II at h1
   rw [hp] at h1
   cases hq:Km s (s.graph.edges.getD i default)
   ·rfl
   ·rw [hq] at h1;exact absurd h1 (show ¬(1901:Int)=0 by decide)
  have hB: ∀i,i<s.graph.edges.length→NI s i=LJ s (s.graph.edges.getD i default):=fun i hi=>by
   unfold NI;rw [NK hm hi,hlk i hi];rfl
  obtain ⟨r2,k1,k2⟩:=S1 hs (fun x hx=>hlk _ (Q9 hx).2) (Fl s.graph).1 [] 0 (List.replicate s.graph.edges.length false) rfl ⟨by simp,fun _ h=>by simp at h⟩
  rw [hm,k1,e]
  simp only [Bool.not_true,cond_false]
  rw [list_eq k2.len hl fun i hi=>QQ hs (f:=fun i=>LJ s (s.graph.edges.getD i default)) (r1:=r2) (r2:=row') k2.done (fun j hj=>by
   have hjl:j<s.graph.edges.length:=by have:=(Q9 hj).2;omega
   rw [hr j hjl,hB j hjl]) (Fl s.graph).1 [] rfl (fun _ h=>by simp at h) i (M0 hs hol hi)]
end
end Go.Lift
namespace Go.Lift
noncomputable section
open Go Go.RowKit
def Ep (n:ByteArray) (f:A2):Bool:=Op.bytesLess f.name.toList n.toList
def Dt (n:ByteArray) (f:A2):Bool:= !decide (f.name=n)
def Gs (fs:List A2) (f:A2):List A2:=fs.takeWhile (Ep f.name)++f::(fs.dropWhile (Ep f.name)).filter (Dt f.name)
theorem Qe (name:ByteArray) (content:Int) (d:A9): ∀(xs:List A2) (i:Nat) (cell:List A2),J5 name content d xs i true cell=Lp.brk (true,cell++xs.filter (Dt name))
 | [],i,cell=>by rw [J5];simp
 |x::xs,i,cell=>by
  rw [J5,Qe name content d xs (i+1) (cell++[x]),Qe name content d xs (i+1) cell,List.filter_cons]
  show (bif !true then _ else bif Dt name x then _ else _)=_
  cases Dt name x<;>simp
theorem Qf (name:ByteArray) (content:Int) (d:A9): ∀(xs:List A2) (i:Nat) (cell:List A2),J5 name content d xs i false cell=
  if xs.dropWhile (Ep name)=[] then Lp.brk (false,cell++xs) else Lp.brk (true,cell++Gs xs ⟨name,content,IntKind.wrap .i64 (d.clock+1)⟩)
 | [],i,cell=>by rw [J5];simp
 |x::xs,i,cell=>by
  rw [J5,Qe,Qe,Qf name content d xs (i+1) (cell++[x]),Qf name content d xs (i+1) cell]
  show (bif !false then (bif !(Ep name x) then (bif Dt name x then _ else _) else (bif Dt name x then _ else _)) else _)=_
  unfold Gs
  cases h:Ep name x
  ·rw [List.dropWhile_cons_of_neg (by simp [h]),List.takeWhile_cons_of_neg (by simp [h])]
   simp only [Bool.not_false,cond_true,List.filter_cons]
   cases Dt name x<;>simp
  ·have ho:Dt name x=true:=by
     unfold Dt;rw [decide_eq_false];rfl
     intro q;unfold Ep at h;rw [q] at h;exact LN name h
   rw [List.dropWhile_cons_of_pos h,List.takeWhile_cons_of_pos h,ho]
   simp only [Bool.not_false,Bool.not_true,cond_true,cond_false]
   by_cases hd:List.dropWhile (Ep name) xs=[]
   ·rw [if_pos hd,if_pos hd];simp
   ·rw [if_neg hd,if_neg hd];simp
theorem put_low {fs:List A2} {n:ByteArray} (h:fs.dropWhile (Ep n)=[]):fs.takeWhile (Ep n)=fs:=by
 have:=List.takeWhile_append_dropWhile (p:=Ep n) (l:=fs)
 rw [h,List.append_nil] at this;exact this
theorem L1 (d:A9) (name:ByteArray) (content:Int):E5 d name content=
  if C4 D6 d=true∧D6 name=true∧0≤content∧content≤2147483647 then
   (if 1048576<IntKind.wrap .i64 (d.clock+1)∨64<(Gs d.files ⟨name,content,IntKind.wrap .i64 (d.clock+1)⟩).length then (⟨0,[]⟩,1201)
    else (⟨IntKind.wrap .i64 (d.clock+1),Gs d.files ⟨name,content,IntKind.wrap .i64 (d.clock+1)⟩⟩,0)) else (⟨0,[]⟩,1200):=by
 unfold E5
 rw [Ik,Iu]
 by_cases h1:C4 D6 d=true
 case neg=>rw [if_neg (fun q=>h1 q.1),Bool.eq_false_iff.2 h1];rfl
 by_cases h2:D6 name=true
 case neg=>rw [if_neg (fun q=>h2 q.2.1),h1,Bool.eq_false_iff.2 h2];rfl
 by_cases h3:0≤content∧content≤2147483647
 ·rw [if_pos ⟨h1,h2,h3.1,h3.2⟩,h1,h2,upTo_c h3,Qf]
  simp only [Bool.not_true,cond_false,List.nil_append]
  generalize hc:IntKind.wrap .i64 (d.clock+1)=c
  by_cases hd:d.files.dropWhile (Ep name)=[]
  ·rw [if_pos hd]
   have e:Gs d.files ⟨name,content,c⟩=d.files++[⟨name,content,c⟩]:=by unfold Gs;rw [put_low hd,hd];rfl
   rw [e]
   simp only [Bool.not_false,cond_true]
   by_cases h4:1048576<c
   ·rw [if_pos (Or.inl h4),decide_eq_true h4];rfl
   ·rw [decide_eq_false h4,cond_false]
    by_cases h5:64<(d.files++[(⟨name,content,c⟩:A2)]).length
    ·rw [if_pos (Or.inr h5),decide_eq_true (by omega)];rfl
    ·rw [if_neg (by omega),decide_eq_false (by omega)];rfl
  ·rw [if_neg hd]
   simp only [Bool.not_true,cond_false]
   by_cases h4:1048576<c
   ·rw [if_pos (Or.inl h4),decide_eq_true h4];rfl
   ·rw [decide_eq_false h4,cond_false]
    by_cases h5:64<(Gs d.files ⟨name,content,c⟩).length
    ·rw [if_pos (Or.inr h5),decide_eq_true (by omega)];rfl
    ·rw [if_neg (by omega),decide_eq_false (by omega)];rfl
 ·rw [if_neg (fun q=>h3 q.2.2),h1,h2]
  have:J2 content 0 2147483647=false:=by
   unfold J2
   rw [←Bool.not_eq_true];simp only [Bool.and_eq_true,decide_eq_true_eq];exact h3
  rw [this];rfl
def fileP (pi:ByteArray→Bool) (c:Int) (f:A2):Prop:=pi f.name=true∧0≤f.content∧f.content≤2147483647∧1≤f.time∧f.time≤c
theorem OW (pi:ByteArray→Bool) (c:Int): ∀(fs:List A2) (ts:List Int) (p:Option A2),E9 pi c fs ts p=true↔
  ((∀f∈fs,fileP pi c f)∧fs.Pairwise (fun a b=>nl a.name b.name)∧fs.Pairwise (fun a b=>a.time≠b.time)∧(∀f∈fs,f.time∉ts)∧(∀q,p=some q→ ∀f∈fs,nl q.name f.name))
 | [],ts,p=>by simp [E9]
 |f::r,ts,p=>by
  rw [E9.eq_def]
  simp only [Bool.and_eq_true,decide_eq_true_eq,Bool.not_eq_true']
  rw [OW pi c r]
  constructor
  ·rintro ⟨⟨⟨⟨⟨⟨⟨h1,h2⟩,h3⟩,h4⟩,h5⟩,h6⟩,h7⟩,i1,i2,i3,i4,i5⟩
   have i5':=i5 f rfl
   refine ⟨fun g hg=> ?_,List.pairwise_cons.2 ⟨fun g hg=>i5' g hg,i2⟩,List.pairwise_cons.2 ⟨fun g hg q=>i4 g hg (by simp [q]),i3⟩,fun g hg=> ?_,fun q hq g hg=> ?_⟩
   ·rcases List.mem_cons.1 hg with rfl|hg
    ·exact ⟨h1,h2,h3,h4,h5⟩
    ·exact i1 g hg
   ·rcases List.mem_cons.1 hg with rfl|hg
    ·intro hm
     rw [List.any_eq_false] at h6
     exact h6 _ hm (by simp)
    ·intro hm;exact i4 g hg (by simp [hm])
   ·subst hq
    rcases List.mem_cons.1 hg with rfl|hg
    ·exact h7
    ·exact HV h7 (i5' g hg)
  ·rintro ⟨j1,j2,j3,j4,j5⟩
   obtain ⟨h1,h2,h3,h4,h5⟩:=j1 f (by simp)
   rw [List.pairwise_cons] at j2 j3
   refine ⟨⟨⟨⟨⟨⟨⟨h1,h2⟩,h3⟩,h4⟩,h5⟩,?_⟩,?_⟩,fun g hg=>j1 g (by simp [hg]),j2.2,j3.2,fun g hg=> ?_,fun q hq g hg=> ?_⟩
   ·rw [List.any_eq_false];intro t ht q
    have:=j4 f (by simp)
    simp only [decide_eq_true_eq] at q
    exact this (q ▸ ht)
   ·cases p with
    |none=>rfl
    |some q=>exact j5 q rfl f (by simp)
   ·intro hm
    rcases List.mem_append.1 hm with hm|hm
    ·exact j4 g (by simp [hg]) hm
    ·simp only [List.mem_singleton] at hm;exact j3.1 g hg hm.symm
   ·cases hq;exact j2.1 g hg
theorem OX (d:A9):C4 D6 d=true↔((∀f∈d.files,fileP D6 d.clock f)∧d.files.Pairwise (fun a b=>nl a.name b.name)∧d.files.Pairwise (fun a b=>a.time≠b.time))∧0≤d.clock∧d.clock≤1048576∧d.files.length≤64:=by
 unfold C4
 simp only [Bool.and_eq_true,decide_eq_true_eq]
 rw [OW]
 constructor
 ·rintro ⟨⟨⟨⟨h1,h2,h3,_,_⟩,h4⟩,h5⟩,h6⟩;exact ⟨⟨h1,h2,h3⟩,h4,h5,h6⟩
 ·rintro ⟨⟨h1,h2,h3⟩,h4,h5,h6⟩;exact ⟨⟨⟨⟨h1,h2,h3,by simp,by simp⟩,h4⟩,h5⟩,h6⟩
theorem VS {a b:ByteArray} (h: ¬nl a b) (hne:a≠b):nl b a:=by
 unfold nl at*
 rw [Tk,decide_eq_true_eq] at*
 rcases Std.lt_trichotomy a.toList b.toList with q|q|q
 ·exact absurd q h
 ·exact absurd (Ig (by rw [←Lib.toList_data,←Lib.toList_data];exact q)) hne
 ·exact q
theorem SV {α:Type} {p:α→Bool} {x:α}: ∀ {xs:List α},x∈xs.takeWhile p→p x=true
 | [],h=>by simp at h
 |y::ys,h=>by
  cases hp:p y
  ·rw [List.takeWhile_cons_of_neg (by simp [hp])] at h;simp at h
  ·rw [List.takeWhile_cons_of_pos hp] at h
   rcases List.mem_cons.1 h with rfl|h
   ·exact hp
   ·exact SV h
theorem VN {fs:List A2} {f g:A2}:g∈Gs fs f↔g=f∨(g∈fs∧g.name≠f.name):=by
 unfold Gs
 have hsplit:=List.takeWhile_append_dropWhile (p:=Ep f.name) (l:=fs)
 rw [List.mem_append,List.mem_cons,List.mem_filter]
 have ho:Dt f.name g=true↔g.name≠f.name:=by unfold Dt;simp
 rw [ho]
 constructor
 ·rintro (h|h|⟨h1,h2⟩)
  ·refine Or.inr ⟨by rw [←hsplit];exact List.mem_append.2 (Or.inl h),fun q=> ?_⟩
   have:=SV h
   unfold Ep at this;rw [q] at this;exact LN _ this
  ·exact Or.inl h
  ·exact Or.inr ⟨by rw [←hsplit];exact List.mem_append.2 (Or.inr h1),h2⟩
 ·rintro (h|⟨h1,h2⟩)
  ·exact Or.inr (Or.inl h)
  ·rw [←hsplit] at h1
   rcases List.mem_append.1 h1 with q|q
   ·exact Or.inl q
   ·exact Or.inr (Or.inr ⟨q,h2⟩)
theorem PK {fs:List A2} {n:ByteArray} (hs:fs.Pairwise (fun a b=>nl a.name b.name)): ∀g∈fs.dropWhile (Ep n),¬nl g.name n:=by
 induction fs with
 |nil=>intro g hg;simp at hg
 |cons x xs ih=>
  intro g hg
  cases h:Ep n x
  ·rw [List.dropWhile_cons_of_neg (by simp [h])] at hg
   rcases List.mem_cons.1 hg with rfl|hg
   ·unfold nl;unfold Ep at h;rw [h];simp
   ·intro q
    have:=HV ((List.pairwise_cons.1 hs).1 g hg) q
    unfold nl at this;unfold Ep at h;rw [h] at this;cases this
  ·rw [List.dropWhile_cons_of_pos h] at hg
   exact ih (List.pairwise_cons.1 hs).2 g hg
theorem RW {fs:List A2} {f:A2} (hs:fs.Pairwise (fun a b=>nl a.name b.name)):(Gs fs f).Pairwise (fun a b=>nl a.name b.name):=by
 have hsplit:=List.takeWhile_append_dropWhile (p:=Ep f.name) (l:=fs)
 have hge:=PK (n:=f.name) hs
 rw [←hsplit,List.pairwise_append] at hs
 unfold Gs
 rw [List.pairwise_append,List.pairwise_cons]
 have hgt: ∀g∈(fs.dropWhile (Ep f.name)).filter (Dt f.name),nl f.name g.name:=by
  intro g hg
  obtain ⟨h1,h2⟩:=List.mem_filter.1 hg
  refine VS (hge g h1) ?_
  unfold Dt at h2;simpa using h2
 have hlt: ∀g∈fs.takeWhile (Ep f.name),nl g.name f.name:=fun g hg=>SV (p:=Ep f.name) hg
 refine ⟨hs.1,⟨hgt,hs.2.1.filter _⟩,fun a ha b hb=> ?_⟩
 rcases List.mem_cons.1 hb with rfl|hb
 ·exact hlt a ha
 ·exact HV (hlt a ha) (hgt b hb)
theorem T1 {fs:List A2} {f:A2} (hs:fs.Pairwise (fun a b=>a.time≠b.time)) (hf: ∀g∈fs,g.time≠f.time):(Gs fs f).Pairwise (fun a b=>a.time≠b.time):=by
 have hsplit:=List.takeWhile_append_dropWhile (p:=Ep f.name) (l:=fs)
 have h1: ∀g∈fs.takeWhile (Ep f.name),g∈fs:=fun g hg=>by rw [←hsplit];exact List.mem_append.2 (Or.inl hg)
 have h2: ∀g∈(fs.dropWhile (Ep f.name)).filter (Dt f.name),g∈fs:=fun g hg=>by rw [←hsplit];exact List.mem_append.2 (Or.inr (List.mem_filter.1 hg).1)
 rw [←hsplit,List.pairwise_append] at hs
 unfold Gs
 rw [List.pairwise_append,List.pairwise_cons]
 refine ⟨hs.1,⟨fun g hg=>(hf g (h2 g hg)).symm,hs.2.1.filter _⟩,fun a ha b hb=> ?_⟩
 rcases List.mem_cons.1 hb with rfl|hb
 ·exact hf a (h1 a ha)
 ·exact hs.2.2 a ha b (List.mem_filter.1 hb).1
theorem put_may {d:A9} {n:ByteArray} {c:Int} (h:C4 D6 d=true) (hn:D6 n=true) (hc:0≤c∧c≤2147483647) (hk:d.clock+1≤1048576) (hl:(Gs d.files ⟨n,c,d.clock+1⟩).length≤64):C4 D6 ⟨d.clock+1,Gs d.files ⟨n,c,d.clock+1⟩⟩=true:=by
 rw [OX] at h ⊢
 obtain ⟨⟨h1,h2,h3⟩,h4,h5,h6⟩:=h
 have ht: ∀g∈d.files,g.time≠d.clock+1:=fun g hg=>by have:=(h1 g hg).2.2.2.2;omega
 refine ⟨⟨fun g hg=> ?_,RW h2,T1 h3 ht⟩,by show 0≤d.clock+1;omega,hk,hl⟩
 rcases VN.1 hg with rfl|⟨hg,_⟩
 ·exact ⟨hn,hc.1,hc.2,by show 1≤d.clock+1;omega,Int.le_refl _⟩
 ·obtain ⟨a,b,c',e,f⟩:=h1 g hg
  exact ⟨a,b,c',e,by show g.time≤d.clock+1;omega⟩
theorem SG {fs:List A2} {f:A2} {m:ByteArray} (hm:m≠f.name):(Gs fs f).find? (fun g=>decide (g.name=m))=fs.find? (fun g=>decide (g.name=m)):=by
 have hsplit:=List.takeWhile_append_dropWhile (p:=Ep f.name) (l:=fs)
 have e:(fun g:A2=>decide (Dt f.name g=true∧decide (g.name=m)=true))=fun g=>decide (g.name=m):=by
  funext g;unfold Dt
  by_cases h:g.name=m
  ·rw [decide_eq_true h,decide_eq_false (fun q=>hm (h.symm.trans q))];rfl
  ·rw [decide_eq_false h];simp
 unfold Gs
 rw [List.find?_append,List.find?_cons,decide_eq_false (fun q=>hm q.symm),List.find?_filter,e,←List.find?_append,hsplit]
theorem S5 {d:A9} {n:ByteArray} {c:Int} {d':A9} (hd:C4 D6 d=true) (hd':C4 D6 d'=true) (e:d'.files=Gs d.files ⟨n,c,d.clock+1⟩) {m:ByteArray} (hm:m≠n):GX d' m=GX d m:=by
 rw [Il,Il,JE hd,JE hd']
 unfold QZ
 rw [e,SG (by exact hm)]
end
end Go.Lift
namespace Go.Lift
noncomputable section
open Go Go.RowKit
def uN:ByteArray:=(⟨#[113,47,117,110,117,115,101,100,46,102,105,108,101]⟩:ByteArray)
def Td (n:ByteArray) (d d':A9):Prop:= ∀m,m≠n→GX d' m=GX d m
theorem P7 {n:ByteArray} {d d':A9} (h:Td n d d') (t:Int): ∀(xs:List ByteArray),n∉xs→ ∀i,Ox d' t xs i=Ox d t xs i
 | [],_,i=>by rw [Ox,Ox]
 |x::xs,hn,i=>by
  rw [Ox,Ox,h x (fun q=>hn (by simp [q])),P7 h t xs (fun q=>hn (by simp [q]))]
theorem Kq {n:ByteArray} {d d':A9} (h:Td n d d') {xs:List ByteArray} (hn:n∉xs) (t:Int):RH d' xs t=RH d xs t:=by
 unfold RH;rw [P7 h t xs hn]
structure QE (n:ByteArray) (s s':A7):Prop where
 graph:s'.graph=s.graph
 acts:s'.actions=s.actions
 log:s'.log=s.log
 deps:s'.deps=s.deps
 disk:Td n s.disk s'.disk
 ok:C4 D6 s.disk=true
 ok':C4 D6 s'.disk=true
 told: ∀f∈s.deps,n∉f.ins
def EdE (n:ByteArray) (e:Ao):Prop:=n∉e.outs∧n∉e.ins∧n∉e.implicit∧n∉e.order
theorem QE.lacksL {n:ByteArray} {s s':A7} (h:QE n s s'): ∀(xs:List ByteArray),n∉xs→ ∀i,NA s' xs i=NA s xs i
 | [],_,i=>by rw [NA,NA]
 |x::xs,hn,i=>by
  rw [NA,NA,h.graph,h.lacksL xs (fun q=>hn (by simp [q]))]
  rw [show GX (⟨s'.disk.clock,s'.disk.files⟩:A9) x=GX (⟨s.disk.clock,s.disk.files⟩:A9) x from h.disk x (fun q=>hn (by simp [q]))]
theorem QE.lacks {n:ByteArray} {s s':A7} (h:QE n s s') {e:Ao} (he:EdE n e):Km s' e=Km s e:=by
 unfold Km
 rw [h.lacksL _ (by simp [he.2.1,he.2.2.1,he.2.2.2])]
theorem QE.ownL {n:ByteArray} {s s':A7} (h:QE n s s') (e:Ao): ∀(xs:List ByteArray),n∉xs→ ∀i t,IG s' e xs i t=IG s e xs i t
 | [],_,i,t=>by rw [IG,IG]
 |x::xs,hn,i,t=>by
  rw [IG,IG,h.log]
  rw [show GX (⟨s'.disk.clock,s'.disk.files⟩:A9) x=GX (⟨s.disk.clock,s.disk.files⟩:A9) x from h.disk x (fun q=>hn (by simp [q]))]
  rw [h.ownL e xs (fun q=>hn (by simp [q]))]
theorem SN {fs:List Aa} {out:ByteArray} {n:ByteArray} (h: ∀f∈fs,n∉f.ins):n∉((Ul fs out).1).ins:=by
 rw [Ns]
 unfold J8
 by_cases hl:As fs out<0
 ·rw [decide_eq_true hl];exact List.not_mem_nil
 ·rw [decide_eq_false hl]
  cases JO fs
  ·exact List.not_mem_nil
  ·have hlt:=(GD fs out).2
   refine h (fs.getD (As fs out).toNat default) ?_
   have hk:(As fs out).toNat<fs.length:=by omega
   have:fs.getD (As fs out).toNat default=fs[(As fs out).toNat]:=by simp [List.getD,hk]
   rw [this];exact List.getElem_mem hk
theorem QE.own {n:ByteArray} {s s':A7} (h:QE n s s') {e:Ao} (he:EdE n e) (ho:0<e.outs.length):LJ s' e=LJ s e:=by
 unfold LJ
 have h0:e.outs.getD 0 default∈e.outs:=by
  have:e.outs.getD 0 default=e.outs[0]:=by simp [List.getD,ho]
  rw [this];exact List.getElem_mem ho
 have hne:e.outs.getD 0 default≠n:=fun q=>he.1 (q ▸ h0)
 have hD:Td n (⟨s.disk.clock,s.disk.files⟩:A9) (⟨s'.disk.clock,s'.disk.files⟩:A9):=h.disk
 rw [h.ownL e e.outs he.1,h.deps,hD _ hne]
 simp only [Kq hD he.2.1,Kq hD he.2.2.1,Kq hD (SN h.told)]
theorem QE.may {n:ByteArray} {s s':A7} (h:QE n s s'):Hx s'=Hx s:=by
 unfold Hx
 rw [h.graph,h.acts,h.log,h.deps,h.ok,h.ok']
theorem QE.takes {n:ByteArray} {s s':A7} (h:QE n s s') (row:List Bool) (i:Nat):Df s' row i=Df s row i:=by
 unfold Df;rw [h.graph]
theorem QE.rows {n:ByteArray} {s s':A7} (h:QE n s s') (hm:Hx s=true) (hE: ∀e∈s.graph.edges,EdE n e): ∀(o:List Int) (i:Nat) (row:List Bool),(∀x∈o,0≤x∧x.toNat<s.graph.edges.length)→Mm s' o i row=Mm s o i row
 | [],i,row,_=>by rw [Mm,Mm]
 |x::o,i,row,hb=>by
  have hx:=(hb x (by simp)).2
  have he:s.graph.edges.getD x.toNat default∈s.graph.edges:=by
   have:s.graph.edges.getD x.toNat default=s.graph.edges[x.toNat]:=by simp [List.getD,hx]
   rw [this];exact List.getElem_mem hx
  rw [Qi,Qi,h.graph,h.lacks (hE _ he),h.own (hE _ he) (RM hm hx),h.takes,h.rows hm hE o _ _ (fun y hy=>hb y (by simp [hy]))]
theorem QE.all {n:ByteArray} {s s':A7} (h:QE n s s') (hE: ∀e∈s.graph.edges,EdE n e):DI s'=DI s:=by
 have hM:=h.may
 cases hm:Hx s
 ·rw [hm] at hM
  unfold DI;rw [hm,hM];rfl
 ·rw [←M5,←M5]
  unfold Fy
  rw [FS,FS,hM,h.graph,show Q4 (⟨s.graph.edges,s.graph.pools,s.graph.defaults⟩:Af)=Fl s.graph from HD s.graph]
  rw [h.rows hm hE _ 0 _ (fun x hx=>Q9 hx)]
theorem edit_L2: ∀(xs:List ByteArray) (k:Nat),RC xs k=bif xs.any (fun x=>decide (x=uN)) then Lp.ret true else Lp.brk ():=Ki (fun _=>rfl) (fun x r i=>by rw [RC];rfl)
theorem edit_L4: ∀(xs:List ByteArray) (k:Nat),RE xs k=bif xs.any (fun x=>decide (x=uN)) then Lp.ret true else Lp.brk ():=Ki (fun _=>rfl) (fun x r i=>by rw [RE];rfl)
theorem edit_L1: ∀(xs:List Aa) (k:Nat),Rz xs k=bif xs.any (fun f=>f.ins.any (fun x=>decide (x=uN))) then Lp.ret true else Lp.brk ():=Ki (fun _=>rfl) (fun x r i=>by rw [Rz,edit_L2];cases x.ins.any _<;>rfl)
theorem edit_L3: ∀(xs:List Ao) (k:Nat),RD xs k=bif xs.any (fun e=>(((e.outs++e.ins)++e.implicit)++e.order).any (fun x=>decide (x=uN))) then Lp.ret true else Lp.brk ():=Ki (fun _=>rfl) (fun x r i=>by rw [RD,edit_L4];cases List.any _ _<;>rfl)
theorem and_ok (x:Int):0≤Bv .and .i64 x (65535:Int)∧Bv .and .i64 x (65535:Int)≤2147483647:=by have:=and_le x 65535 (by decide) (by decide);omega
def edS (s:A7) (c:Int):A7:=(⟨(⟨s.graph.edges,s.graph.pools,s.graph.defaults⟩:Af),s.actions,(⟨((E5 (⟨s.disk.clock,s.disk.files⟩:A9) uN c).1).clock,((E5 (⟨s.disk.clock,s.disk.files⟩:A9) uN c).1).files⟩:A9),s.log,s.deps,s.jobs,s.going,s.status⟩:A7)
theorem J0 (s:A7) (x:Int):Q3 s x=true:=by
 unfold Q3
 rw [LA,edit_L1,edit_L3]
 have hc:=and_ok x
 generalize Bv .and .i64 x (65535:Int)=c at*
 show (true&&((!decide ((E5 s.disk uN c).2=0))||(match (bif s.deps.any (fun f=>f.ins.any (fun x=>decide (x=uN))) then Lp.ret true else Lp.brk ():Lp Bool Unit) with|Lp.ret r=>r|Lp.brk ()=>(match (bif s.graph.edges.any (fun e=>(((e.outs++e.ins)++e.implicit)++e.order).any (fun x=>decide (x=uN))) then Lp.ret true else Lp.brk ():Lp Bool Unit) with|Lp.ret r=>r|Lp.brk ()=>(decide (CH (DI s).2=CH (DI (edS s c)).2)&&JN (DI s).1 (DI (edS s c)).1)))))=true
 have hwrap:C4 D6 s.disk=true→IntKind.wrap .i64 (s.disk.clock+1)=s.disk.clock+1:=fun h=>by
  have:=((OX _).1 h).2
  exact DO (by omega) (by omega)
 have hp:=L1 s.disk uN c
 by_cases h0:C4 D6 s.disk=true∧D6 uN=true∧0≤c∧c≤2147483647
 case neg=>rw [if_neg h0] at hp;rw [hp];rfl
 rw [if_pos h0,hwrap h0.1] at hp
 by_cases h1:1048576<s.disk.clock+1∨64<(Gs s.disk.files ⟨uN,c,s.disk.clock+1⟩).length
 case pos=>rw [if_pos h1] at hp;rw [hp];rfl
 rw [if_neg h1] at hp
 have hd':=put_may h0.1 h0.2.1 hc (by omega) (by omega)
 cases hA:s.deps.any (fun f=>f.ins.any (fun x=>decide (x=uN)))
 case true=>simp
 cases hB:s.graph.edges.any (fun e=>(((e.outs++e.ins)++e.implicit)++e.order).any (fun x=>decide (x=uN)))
 case true=>simp
 have hS:QE uN s (edS s c):=by
  have e1:(edS s c).disk=⟨s.disk.clock+1,Gs s.disk.files ⟨uN,c,s.disk.clock+1⟩⟩:=by
   show (⟨(E5 s.disk uN c).1.clock,(E5 s.disk uN c).1.files⟩:A9)=_
   rw [hp]
  refine ⟨rfl,rfl,rfl,rfl,fun m hm=> ?_,h0.1,by rw [e1];exact hd',fun f hf hn=> ?_⟩
  ·rw [e1];exact S5 h0.1 hd' rfl hm
  ·rw [List.any_eq_false] at hA
   refine hA f hf ?_
   rw [List.any_eq_true];exact ⟨_,hn,by simp⟩
 have hE: ∀e∈s.graph.edges,EdE uN e:=by
  intro e he
  rw [List.any_eq_false] at hB
  have hb:=hB e he
  rw [List.any_eq_true] at hb
  have key: ∀y,y∈e.outs∨y∈e.ins∨y∈e.implicit∨y∈e.order→y≠uN:=fun y hy q=>hb ⟨y,by simp only [List.mem_append];rcases hy with h|h|h|h<;>simp [h],by simp [q]⟩
  exact ⟨fun q=>key _ (Or.inl q) rfl,fun q=>key _ (Or.inr (Or.inl q)) rfl,fun q=>key _ (Or.inr (Or.inr (Or.inl q))) rfl,fun q=>key _ (Or.inr (Or.inr (Or.inr q))) rfl⟩
 rw [hS.all hE,NW]
 simp
theorem Lb {α:Type} (sz:α→Nat) (x:α) (xs:List α):Dj sz (x::xs)=sz x+Dj sz xs:=by simp only [Dj,List.map_cons,List.sum_cons];omega
theorem Wl {α:Type} (sz:α→Nat) (xs ys:List α):Dj sz (xs++ys)+1=Dj sz xs+Dj sz ys:=by simp only [Dj,List.map_append,List.sum_append];omega
theorem O1 {α:Type} (sz:α→Nat) (p:α→Bool): ∀xs:List α,Dj sz (xs.filter p)≤Dj sz xs
 | []=>Nat.le_refl _
 |x::xs=>by
  have ih:=O1 sz p xs
  rw [List.filter_cons]
  split
  ·rw [Lb,Lb];omega
  ·rw [Lb];omega
theorem putF_sz (fs:List A2) (f:A2):Dj A2.sz (Gs fs f)≤Dj A2.sz fs+f.sz:=by
 have hsplit:=List.takeWhile_append_dropWhile (p:=Ep f.name) (l:=fs)
 have h1:=Wl A2.sz (fs.takeWhile (Ep f.name)) (fs.dropWhile (Ep f.name))
 rw [hsplit] at h1
 have h2:=O1 A2.sz (Dt f.name) (fs.dropWhile (Ep f.name))
 unfold Gs
 have h3:=Wl A2.sz (fs.takeWhile (Ep f.name)) (f::(fs.dropWhile (Ep f.name)).filter (Dt f.name))
 rw [Lb] at h3
 omega
theorem T2 (d:A9) (n:ByteArray) (c:Int):((E5 d n c).1).sz≤d.sz+n.size+4:=by
 have hd:3≤d.sz:=by show 3≤1+Dj A2.sz d.files+1;unfold Dj;omega
 have hz:(⟨0,[]⟩:A9).sz=3:=rfl
 rw [L1]
 split
 ·split
  ·show (⟨0,[]⟩:A9).sz≤_;omega
  ·have:=putF_sz d.files ⟨n,c,IntKind.wrap .i64 (d.clock+1)⟩
   have hf:(⟨n,c,IntKind.wrap .i64 (d.clock+1)⟩:A2).sz=n.size+1+1+1+1:=rfl
   show (⟨IntKind.wrap .i64 (d.clock+1),Gs d.files ⟨n,c,IntKind.wrap .i64 (d.clock+1)⟩⟩:A9).sz≤_
   unfold A9.sz
   show 1+Dj A2.sz (Gs d.files ⟨n,c,IntKind.wrap .i64 (d.clock+1)⟩)+1≤1+Dj A2.sz d.files+1+n.size+4
   omega
 ·show (⟨0,[]⟩:A9).sz≤_;omega
theorem ed_sz {s:A7} {c:Int} (hz:s.sz≤1048500+76):(edS s c).sz≤1048500+100:=by
 have h:=T2 s.disk uN c
 have hu:uN.size=13:=rfl
 have e1:(edS s c).disk.sz=((E5 s.disk uN c).1).sz:=rfl
 have e2:(edS s c).sz=s.graph.sz+Dj Az.sz s.actions+(edS s c).disk.sz+Dj Ab.sz s.log+Dj Aa.sz s.deps+1+1+Dj (fun _=>1) s.status+1:=rfl
 have e3:s.sz=s.graph.sz+Dj Az.sz s.actions+s.disk.sz+Dj Ab.sz s.log+Dj Aa.sz s.deps+1+1+Dj (fun _=>1) s.status+1:=rfl
 omega
theorem R9 {fs:List Aa} (hz:Dj Aa.sz fs≤1049600) {f:Aa} (h:f∈fs):f.ins.length≤1049600:=by
 have:=JK (sz:=Aa.sz) h
 have h1:=CB f.ins
 have h2:=f.sz_ins
 omega
theorem SD {s:A7} (hz:s.sz≤1048500+76) {e:Ao} (h:e∈s.graph.edges):e.outs.length+e.ins.length+e.implicit.length+e.order.length≤1049600:=by
 have:=JK (sz:=Ao.sz) h
 have:=s.graph.sz_edges
 have:=s.sz_graph
 have hr0:=CB e.outs
 have hr1:=CB e.ins
 have hr2:=CB e.implicit
 have hr3:=CB e.order
 unfold Ao.sz at this
 have hz':e.sz≤1049600:=by omega
 unfold Ao.sz at hz';simp only at hz';omega
end
end Go.Lift
namespace Go.Lift
noncomputable section
open Go Go.RowKit
theorem L2 {H:Type} {enc:TypeId×Value→H} {w:World} {spare:Nat→Bool} {held:Bool} {bk:DataW H→Nat} {μ:Mu} (hb:Cq bk) (hμ: ∀g,¬μ.mut g):HJ enc Go.Proofs.Tryz.prog w spare held bk μ 9 AV.s (fun s:ByteArray=>s.size+1):=HJ.str hb (by kernel_rfl)
theorem Kt {H:Type} {enc:TypeId×Value→H} {w:World} {spare:Nat→Bool} {held:Bool} {bk:DataW H→Nat} {μ:Mu} (hb:Cq bk) (hμ: ∀g,¬μ.mut g):HJ enc Go.Proofs.Tryz.prog w spare held bk μ 24 (Ar 1 AV.s) (Dj (fun s:ByteArray=>s.size+1)):=HJ.slice hb hμ (e:=9) (by kernel_rfl) (by kernel_rfl) (fun a=>Or.inr ⟨(by intro fs h;cases h),rfl,rfl⟩) (L2 hb hμ)
theorem Wc {H:Type} {enc:TypeId×Value→H} {w:World} {spare:Nat→Bool} {held:Bool} {bk:DataW H→Nat} {μ:Mu} (hb:Cq bk) (hμ: ∀g,¬μ.mut g):HJ enc Go.Proofs.Tryz.prog w spare held bk μ 4 AV.b (fun _=>1):=HJ.bool hb (by kernel_rfl)
theorem rdg_65 {H:Type} {enc:TypeId×Value→H} {w:World} {spare:Nat→Bool} {held:Bool} {bk:DataW H→Nat} {μ:Mu} (hb:Cq bk) (hμ: ∀g,¬μ.mut g):HJ enc Go.Proofs.Tryz.prog w spare held bk μ 65 Ao.av Ao.sz where
 rd fuel cs x h hbd:=by
  obtain ⟨xs,n,e,hl,hlen,hf⟩:=DZ (t:=65) (by kernel_rfl) h
  have hn:(Lx Go.Proofs.Tryz.prog 65).size=7:=by kernel_rfl
  have hc:Go.Proofs.Tryz.prog.cellsOf 65=7:=by kernel_rfl
  rw [hn] at hlen;rw [hc] at hl
  match xs,hlen,e,hf with
  | [x0,x1,x2,x3,x4,x5,x6],_,e,hf=>
    have hag:=hb.agg [x0.1,x1.1,x2.1,x3.1,x4.1,x5.1,x6.1]
    simp only [List.map_cons,List.map_nil,List.sum_cons,List.sum_nil] at hag e
    rw [e] at hbd ⊢
    obtain ⟨y0,e0,r0⟩:=hf 0 0 24 1 (by kernel_rfl)
    cases e0
    obtain ⟨a0,c0,o0,s0⟩:=(Kt hb hμ).rd _ _ _ r0 (by omega)
    obtain ⟨y1,e1,r1⟩:=hf 1 1 24 1 (by kernel_rfl)
    cases e1
    obtain ⟨a1,c1,o1,s1⟩:=(Kt hb hμ).rd _ _ _ r1 (by omega)
    obtain ⟨y2,e2,r2⟩:=hf 2 2 24 1 (by kernel_rfl)
    cases e2
    obtain ⟨a2,c2,o2,s2⟩:=(Kt hb hμ).rd _ _ _ r2 (by omega)
    obtain ⟨y3,e3,r3⟩:=hf 3 3 24 1 (by kernel_rfl)
    cases e3
    obtain ⟨a3,c3,o3,s3⟩:=(Kt hb hμ).rd _ _ _ r3 (by omega)
    obtain ⟨y4,e4,r4⟩:=hf 4 4 9 1 (by kernel_rfl)
    cases e4
    obtain ⟨a4,c4,o4,s4⟩:=(L2 hb hμ).rd _ _ _ r4 (by omega)
    obtain ⟨y5,e5,r5⟩:=hf 5 5 4 1 (by kernel_rfl)
    cases e5
    obtain ⟨a5,c5,o5,s5⟩:=(Wc hb hμ).rd _ _ _ r5 (by omega)
    obtain ⟨y6,e6,r6⟩:=hf 6 6 9 1 (by kernel_rfl)
    cases e6
    obtain ⟨a6,c6,o6,s6⟩:=(L2 hb hμ).rd _ _ _ r6 (by omega)
    refine ⟨⟨a0,a1,a2,a3,a4,a5,a6⟩,?_,?_,?_⟩
    ·have q:=(B5 (B5 (B5 (B5 (B5 (B5 (B5 (show Cn w μ [] (cs.take 0) by simp [Cn]) c0) c1) c2) c3) c4) c5) c6)
     rw [show cs.take (0+1+1+1+1+1+1+1)=cs from List.take_of_length_le (by omega)] at q
     exact q
    ·have q:=(B6 (B6 (B6 (B6 (B6 (B6 (B6 (show ∀u∈cs.take 0,u.oneCell'=true by simp) o0) o1) o2) o3) o4) o5) o6)
     rw [show cs.take (0+1+1+1+1+1+1+1)=cs from List.take_of_length_le (by omega)] at q
     exact q
    ·unfold Ao.sz;simp only at*;omega
theorem rdg_22 {H:Type} {enc:TypeId×Value→H} {w:World} {spare:Nat→Bool} {held:Bool} {bk:DataW H→Nat} {μ:Mu} (hb:Cq bk) (hμ: ∀g,¬μ.mut g):HJ enc Go.Proofs.Tryz.prog w spare held bk μ 22 (Ar 7 Ao.av) (Dj Ao.sz):=HJ.slice hb hμ (e:=65) (by kernel_rfl) (by kernel_rfl) (fun a=>Or.inl ⟨_,rfl,rfl⟩) (rdg_65 hb hμ)
theorem M9 {H:Type} {enc:TypeId×Value→H} {w:World} {spare:Nat→Bool} {held:Bool} {bk:DataW H→Nat} {μ:Mu} (hb:Cq bk) (hμ: ∀g,¬μ.mut g):HJ enc Go.Proofs.Tryz.prog w spare held bk μ 3 (AV.i .i64) (fun _=>1):=HJ.int hb (by kernel_rfl)
theorem rdg_122 {H:Type} {enc:TypeId×Value→H} {w:World} {spare:Nat→Bool} {held:Bool} {bk:DataW H→Nat} {μ:Mu} (hb:Cq bk) (hμ: ∀g,¬μ.mut g):HJ enc Go.Proofs.Tryz.prog w spare held bk μ 122 BD.av BD.sz where
 rd fuel cs x h hbd:=by
  obtain ⟨xs,n,e,hl,hlen,hf⟩:=DZ (t:=122) (by kernel_rfl) h
  have hn:(Lx Go.Proofs.Tryz.prog 122).size=2:=by kernel_rfl
  have hc:Go.Proofs.Tryz.prog.cellsOf 122=2:=by kernel_rfl
  rw [hn] at hlen;rw [hc] at hl
  match xs,hlen,e,hf with
  | [x0,x1],_,e,hf=>
    have hag:=hb.agg [x0.1,x1.1]
    simp only [List.map_cons,List.map_nil,List.sum_cons,List.sum_nil] at hag e
    rw [e] at hbd ⊢
    obtain ⟨y0,e0,r0⟩:=hf 0 0 9 1 (by kernel_rfl)
    cases e0
    obtain ⟨a0,c0,o0,s0⟩:=(L2 hb hμ).rd _ _ _ r0 (by omega)
    obtain ⟨y1,e1,r1⟩:=hf 1 1 3 1 (by kernel_rfl)
    cases e1
    obtain ⟨a1,c1,o1,s1⟩:=(M9 hb hμ).rd _ _ _ r1 (by omega)
    refine ⟨⟨a0,a1⟩,?_,?_,?_⟩
    ·have q:=(B5 (B5 (show Cn w μ [] (cs.take 0) by simp [Cn]) c0) c1)
     rw [show cs.take (0+1+1)=cs from List.take_of_length_le (by omega)] at q
     exact q
    ·have q:=(B6 (B6 (show ∀u∈cs.take 0,u.oneCell'=true by simp) o0) o1)
     rw [show cs.take (0+1+1)=cs from List.take_of_length_le (by omega)] at q
     exact q
    ·unfold BD.sz;simp only at*;omega
theorem rdg_23 {H:Type} {enc:TypeId×Value→H} {w:World} {spare:Nat→Bool} {held:Bool} {bk:DataW H→Nat} {μ:Mu} (hb:Cq bk) (hμ: ∀g,¬μ.mut g):HJ enc Go.Proofs.Tryz.prog w spare held bk μ 23 (Ar 2 BD.av) (Dj BD.sz):=HJ.slice hb hμ (e:=122) (by kernel_rfl) (by kernel_rfl) (fun a=>Or.inl ⟨_,rfl,rfl⟩) (rdg_122 hb hμ)
theorem rdg_26 {H:Type} {enc:TypeId×Value→H} {w:World} {spare:Nat→Bool} {held:Bool} {bk:DataW H→Nat} {μ:Mu} (hb:Cq bk) (hμ: ∀g,¬μ.mut g):HJ enc Go.Proofs.Tryz.prog w spare held bk μ 26 Af.av Af.sz where
 rd fuel cs x h hbd:=by
  obtain ⟨xs,n,e,hl,hlen,hf⟩:=DZ (t:=26) (by kernel_rfl) h
  have hn:(Lx Go.Proofs.Tryz.prog 26).size=3:=by kernel_rfl
  have hc:Go.Proofs.Tryz.prog.cellsOf 26=3:=by kernel_rfl
  rw [hn] at hlen;rw [hc] at hl
  match xs,hlen,e,hf with
  | [x0,x1,x2],_,e,hf=>
    have hag:=hb.agg [x0.1,x1.1,x2.1]
    simp only [List.map_cons,List.map_nil,List.sum_cons,List.sum_nil] at hag e
    rw [e] at hbd ⊢
    obtain ⟨y0,e0,r0⟩:=hf 0 0 22 1 (by kernel_rfl)
    cases e0
    obtain ⟨a0,c0,o0,s0⟩:=(rdg_22 hb hμ).rd _ _ _ r0 (by omega)
    obtain ⟨y1,e1,r1⟩:=hf 1 1 23 1 (by kernel_rfl)
    cases e1
    obtain ⟨a1,c1,o1,s1⟩:=(rdg_23 hb hμ).rd _ _ _ r1 (by omega)
    obtain ⟨y2,e2,r2⟩:=hf 2 2 24 1 (by kernel_rfl)
    cases e2
    obtain ⟨a2,c2,o2,s2⟩:=(Kt hb hμ).rd _ _ _ r2 (by omega)
    refine ⟨⟨a0,a1,a2⟩,?_,?_,?_⟩
    ·have q:=(B5 (B5 (B5 (show Cn w μ [] (cs.take 0) by simp [Cn]) c0) c1) c2)
     rw [show cs.take (0+1+1+1)=cs from List.take_of_length_le (by omega)] at q
     exact q
    ·have q:=(B6 (B6 (B6 (show ∀u∈cs.take 0,u.oneCell'=true by simp) o0) o1) o2)
     rw [show cs.take (0+1+1+1)=cs from List.take_of_length_le (by omega)] at q
     exact q
    ·unfold Af.sz;simp only at*;omega
theorem rdg_67 {H:Type} {enc:TypeId×Value→H} {w:World} {spare:Nat→Bool} {held:Bool} {bk:DataW H→Nat} {μ:Mu} (hb:Cq bk) (hμ: ∀g,¬μ.mut g):HJ enc Go.Proofs.Tryz.prog w spare held bk μ 67 Az.av Az.sz where
 rd fuel cs x h hbd:=by
  obtain ⟨xs,n,e,hl,hlen,hf⟩:=DZ (t:=67) (by kernel_rfl) h
  have hn:(Lx Go.Proofs.Tryz.prog 67).size=3:=by kernel_rfl
  have hc:Go.Proofs.Tryz.prog.cellsOf 67=3:=by kernel_rfl
  rw [hn] at hlen;rw [hc] at hl
  match xs,hlen,e,hf with
  | [x0,x1,x2],_,e,hf=>
    have hag:=hb.agg [x0.1,x1.1,x2.1]
    simp only [List.map_cons,List.map_nil,List.sum_cons,List.sum_nil] at hag e
    rw [e] at hbd ⊢
    obtain ⟨y0,e0,r0⟩:=hf 0 0 9 1 (by kernel_rfl)
    cases e0
    obtain ⟨a0,c0,o0,s0⟩:=(L2 hb hμ).rd _ _ _ r0 (by omega)
    obtain ⟨y1,e1,r1⟩:=hf 1 1 24 1 (by kernel_rfl)
    cases e1
    obtain ⟨a1,c1,o1,s1⟩:=(Kt hb hμ).rd _ _ _ r1 (by omega)
    obtain ⟨y2,e2,r2⟩:=hf 2 2 4 1 (by kernel_rfl)
    cases e2
    obtain ⟨a2,c2,o2,s2⟩:=(Wc hb hμ).rd _ _ _ r2 (by omega)
    refine ⟨⟨a0,a1,a2⟩,?_,?_,?_⟩
    ·have q:=(B5 (B5 (B5 (show Cn w μ [] (cs.take 0) by simp [Cn]) c0) c1) c2)
     rw [show cs.take (0+1+1+1)=cs from List.take_of_length_le (by omega)] at q
     exact q
    ·have q:=(B6 (B6 (B6 (show ∀u∈cs.take 0,u.oneCell'=true by simp) o0) o1) o2)
     rw [show cs.take (0+1+1+1)=cs from List.take_of_length_le (by omega)] at q
     exact q
    ·unfold Az.sz;simp only at*;omega
theorem rdg_27 {H:Type} {enc:TypeId×Value→H} {w:World} {spare:Nat→Bool} {held:Bool} {bk:DataW H→Nat} {μ:Mu} (hb:Cq bk) (hμ: ∀g,¬μ.mut g):HJ enc Go.Proofs.Tryz.prog w spare held bk μ 27 (Ar 3 Az.av) (Dj Az.sz):=HJ.slice hb hμ (e:=67) (by kernel_rfl) (by kernel_rfl) (fun a=>Or.inl ⟨_,rfl,rfl⟩) (rdg_67 hb hμ)
theorem rdg_85 {H:Type} {enc:TypeId×Value→H} {w:World} {spare:Nat→Bool} {held:Bool} {bk:DataW H→Nat} {μ:Mu} (hb:Cq bk) (hμ: ∀g,¬μ.mut g):HJ enc Go.Proofs.Tryz.prog w spare held bk μ 85 A2.av A2.sz where
 rd fuel cs x h hbd:=by
  obtain ⟨xs,n,e,hl,hlen,hf⟩:=DZ (t:=85) (by kernel_rfl) h
  have hn:(Lx Go.Proofs.Tryz.prog 85).size=3:=by kernel_rfl
  have hc:Go.Proofs.Tryz.prog.cellsOf 85=3:=by kernel_rfl
  rw [hn] at hlen;rw [hc] at hl
  match xs,hlen,e,hf with
  | [x0,x1,x2],_,e,hf=>
    have hag:=hb.agg [x0.1,x1.1,x2.1]
    simp only [List.map_cons,List.map_nil,List.sum_cons,List.sum_nil] at hag e
    rw [e] at hbd ⊢
    obtain ⟨y0,e0,r0⟩:=hf 0 0 9 1 (by kernel_rfl)
    cases e0
    obtain ⟨a0,c0,o0,s0⟩:=(L2 hb hμ).rd _ _ _ r0 (by omega)
    obtain ⟨y1,e1,r1⟩:=hf 1 1 3 1 (by kernel_rfl)
    cases e1
    obtain ⟨a1,c1,o1,s1⟩:=(M9 hb hμ).rd _ _ _ r1 (by omega)
    obtain ⟨y2,e2,r2⟩:=hf 2 2 3 1 (by kernel_rfl)
    cases e2
    obtain ⟨a2,c2,o2,s2⟩:=(M9 hb hμ).rd _ _ _ r2 (by omega)
    refine ⟨⟨a0,a1,a2⟩,?_,?_,?_⟩
    ·have q:=(B5 (B5 (B5 (show Cn w μ [] (cs.take 0) by simp [Cn]) c0) c1) c2)
     rw [show cs.take (0+1+1+1)=cs from List.take_of_length_le (by omega)] at q
     exact q
    ·have q:=(B6 (B6 (B6 (show ∀u∈cs.take 0,u.oneCell'=true by simp) o0) o1) o2)
     rw [show cs.take (0+1+1+1)=cs from List.take_of_length_le (by omega)] at q
     exact q
    ·unfold A2.sz;simp only at*;omega
theorem rdg_28 {H:Type} {enc:TypeId×Value→H} {w:World} {spare:Nat→Bool} {held:Bool} {bk:DataW H→Nat} {μ:Mu} (hb:Cq bk) (hμ: ∀g,¬μ.mut g):HJ enc Go.Proofs.Tryz.prog w spare held bk μ 28 (Ar 3 A2.av) (Dj A2.sz):=HJ.slice hb hμ (e:=85) (by kernel_rfl) (by kernel_rfl) (fun a=>Or.inl ⟨_,rfl,rfl⟩) (rdg_85 hb hμ)
theorem rdg_30 {H:Type} {enc:TypeId×Value→H} {w:World} {spare:Nat→Bool} {held:Bool} {bk:DataW H→Nat} {μ:Mu} (hb:Cq bk) (hμ: ∀g,¬μ.mut g):HJ enc Go.Proofs.Tryz.prog w spare held bk μ 30 A9.av A9.sz where
 rd fuel cs x h hbd:=by
  obtain ⟨xs,n,e,hl,hlen,hf⟩:=DZ (t:=30) (by kernel_rfl) h
  have hn:(Lx Go.Proofs.Tryz.prog 30).size=2:=by kernel_rfl
  have hc:Go.Proofs.Tryz.prog.cellsOf 30=2:=by kernel_rfl
  rw [hn] at hlen;rw [hc] at hl
  match xs,hlen,e,hf with
  | [x0,x1],_,e,hf=>
    have hag:=hb.agg [x0.1,x1.1]
    simp only [List.map_cons,List.map_nil,List.sum_cons,List.sum_nil] at hag e
    rw [e] at hbd ⊢
    obtain ⟨y0,e0,r0⟩:=hf 0 0 3 1 (by kernel_rfl)
    cases e0
    obtain ⟨a0,c0,o0,s0⟩:=(M9 hb hμ).rd _ _ _ r0 (by omega)
    obtain ⟨y1,e1,r1⟩:=hf 1 1 28 1 (by kernel_rfl)
    cases e1
    obtain ⟨a1,c1,o1,s1⟩:=(rdg_28 hb hμ).rd _ _ _ r1 (by omega)
    refine ⟨⟨a0,a1⟩,?_,?_,?_⟩
    ·have q:=(B5 (B5 (show Cn w μ [] (cs.take 0) by simp [Cn]) c0) c1)
     rw [show cs.take (0+1+1)=cs from List.take_of_length_le (by omega)] at q
     exact q
    ·have q:=(B6 (B6 (show ∀u∈cs.take 0,u.oneCell'=true by simp) o0) o1)
     rw [show cs.take (0+1+1)=cs from List.take_of_length_le (by omega)] at q
     exact q
    ·unfold A9.sz;simp only at*;omega
theorem rdg_56 {H:Type} {enc:TypeId×Value→H} {w:World} {spare:Nat→Bool} {held:Bool} {bk:DataW H→Nat} {μ:Mu} (hb:Cq bk) (hμ: ∀g,¬μ.mut g):HJ enc Go.Proofs.Tryz.prog w spare held bk μ 56 Ab.av Ab.sz where
 rd fuel cs x h hbd:=by
  obtain ⟨xs,n,e,hl,hlen,hf⟩:=DZ (t:=56) (by kernel_rfl) h
  have hn:(Lx Go.Proofs.Tryz.prog 56).size=3:=by kernel_rfl
  have hc:Go.Proofs.Tryz.prog.cellsOf 56=3:=by kernel_rfl
  rw [hn] at hlen;rw [hc] at hl
  match xs,hlen,e,hf with
  | [x0,x1,x2],_,e,hf=>
    have hag:=hb.agg [x0.1,x1.1,x2.1]
    simp only [List.map_cons,List.map_nil,List.sum_cons,List.sum_nil] at hag e
    rw [e] at hbd ⊢
    obtain ⟨y0,e0,r0⟩:=hf 0 0 9 1 (by kernel_rfl)
    cases e0
    obtain ⟨a0,c0,o0,s0⟩:=(L2 hb hμ).rd _ _ _ r0 (by omega)
    obtain ⟨y1,e1,r1⟩:=hf 1 1 3 1 (by kernel_rfl)
    cases e1
    obtain ⟨a1,c1,o1,s1⟩:=(M9 hb hμ).rd _ _ _ r1 (by omega)
    obtain ⟨y2,e2,r2⟩:=hf 2 2 9 1 (by kernel_rfl)
    cases e2
    obtain ⟨a2,c2,o2,s2⟩:=(L2 hb hμ).rd _ _ _ r2 (by omega)
    refine ⟨⟨a0,a1,a2⟩,?_,?_,?_⟩
    ·have q:=(B5 (B5 (B5 (show Cn w μ [] (cs.take 0) by simp [Cn]) c0) c1) c2)
     rw [show cs.take (0+1+1+1)=cs from List.take_of_length_le (by omega)] at q
     exact q
    ·have q:=(B6 (B6 (B6 (show ∀u∈cs.take 0,u.oneCell'=true by simp) o0) o1) o2)
     rw [show cs.take (0+1+1+1)=cs from List.take_of_length_le (by omega)] at q
     exact q
    ·unfold Ab.sz;simp only at*;omega
theorem rdg_31 {H:Type} {enc:TypeId×Value→H} {w:World} {spare:Nat→Bool} {held:Bool} {bk:DataW H→Nat} {μ:Mu} (hb:Cq bk) (hμ: ∀g,¬μ.mut g):HJ enc Go.Proofs.Tryz.prog w spare held bk μ 31 (Ar 3 Ab.av) (Dj Ab.sz):=HJ.slice hb hμ (e:=56) (by kernel_rfl) (by kernel_rfl) (fun a=>Or.inl ⟨_,rfl,rfl⟩) (rdg_56 hb hμ)
theorem rdg_61 {H:Type} {enc:TypeId×Value→H} {w:World} {spare:Nat→Bool} {held:Bool} {bk:DataW H→Nat} {μ:Mu} (hb:Cq bk) (hμ: ∀g,¬μ.mut g):HJ enc Go.Proofs.Tryz.prog w spare held bk μ 61 Aa.av Aa.sz where
 rd fuel cs x h hbd:=by
  obtain ⟨xs,n,e,hl,hlen,hf⟩:=DZ (t:=61) (by kernel_rfl) h
  have hn:(Lx Go.Proofs.Tryz.prog 61).size=3:=by kernel_rfl
  have hc:Go.Proofs.Tryz.prog.cellsOf 61=3:=by kernel_rfl
  rw [hn] at hlen;rw [hc] at hl
  match xs,hlen,e,hf with
  | [x0,x1,x2],_,e,hf=>
    have hag:=hb.agg [x0.1,x1.1,x2.1]
    simp only [List.map_cons,List.map_nil,List.sum_cons,List.sum_nil] at hag e
    rw [e] at hbd ⊢
    obtain ⟨y0,e0,r0⟩:=hf 0 0 9 1 (by kernel_rfl)
    cases e0
    obtain ⟨a0,c0,o0,s0⟩:=(L2 hb hμ).rd _ _ _ r0 (by omega)
    obtain ⟨y1,e1,r1⟩:=hf 1 1 3 1 (by kernel_rfl)
    cases e1
    obtain ⟨a1,c1,o1,s1⟩:=(M9 hb hμ).rd _ _ _ r1 (by omega)
    obtain ⟨y2,e2,r2⟩:=hf 2 2 24 1 (by kernel_rfl)
    cases e2
    obtain ⟨a2,c2,o2,s2⟩:=(Kt hb hμ).rd _ _ _ r2 (by omega)
    refine ⟨⟨a0,a1,a2⟩,?_,?_,?_⟩
    ·have q:=(B5 (B5 (B5 (show Cn w μ [] (cs.take 0) by simp [Cn]) c0) c1) c2)
     rw [show cs.take (0+1+1+1)=cs from List.take_of_length_le (by omega)] at q
     exact q
    ·have q:=(B6 (B6 (B6 (show ∀u∈cs.take 0,u.oneCell'=true by simp) o0) o1) o2)
     rw [show cs.take (0+1+1+1)=cs from List.take_of_length_le (by omega)] at q
     exact q
    ·unfold Aa.sz;simp only at*;omega
theorem rdg_32 {H:Type} {enc:TypeId×Value→H} {w:World} {spare:Nat→Bool} {held:Bool} {bk:DataW H→Nat} {μ:Mu} (hb:Cq bk) (hμ: ∀g,¬μ.mut g):HJ enc Go.Proofs.Tryz.prog w spare held bk μ 32 (Ar 3 Aa.av) (Dj Aa.sz):=HJ.slice hb hμ (e:=61) (by kernel_rfl) (by kernel_rfl) (fun a=>Or.inl ⟨_,rfl,rfl⟩) (rdg_61 hb hμ)
theorem rdg_33 {H:Type} {enc:TypeId×Value→H} {w:World} {spare:Nat→Bool} {held:Bool} {bk:DataW H→Nat} {μ:Mu} (hb:Cq bk) (hμ: ∀g,¬μ.mut g):HJ enc Go.Proofs.Tryz.prog w spare held bk μ 33 (Ar 1 (AV.i .i64)) (Dj (fun _=>1)):=HJ.slice hb hμ (e:=3) (by kernel_rfl) (by kernel_rfl) (fun a=>Or.inr ⟨(by intro fs h;cases h),rfl,rfl⟩) (M9 hb hμ)
theorem rdg_35 {H:Type} {enc:TypeId×Value→H} {w:World} {spare:Nat→Bool} {held:Bool} {bk:DataW H→Nat} {μ:Mu} (hb:Cq bk) (hμ: ∀g,¬μ.mut g):HJ enc Go.Proofs.Tryz.prog w spare held bk μ 35 A7.av A7.sz where
 rd fuel cs x h hbd:=by
  obtain ⟨xs,n,e,hl,hlen,hf⟩:=DZ (t:=35) (by kernel_rfl) h
  have hn:(Lx Go.Proofs.Tryz.prog 35).size=8:=by kernel_rfl
  have hc:Go.Proofs.Tryz.prog.cellsOf 35=11:=by kernel_rfl
  rw [hn] at hlen;rw [hc] at hl
  match xs,hlen,e,hf with
  | [x0,x1,x2,x3,x4,x5,x6,x7],_,e,hf=>
    have hag:=hb.agg [x0.1,x1.1,x2.1,x3.1,x4.1,x5.1,x6.1,x7.1]
    simp only [List.map_cons,List.map_nil,List.sum_cons,List.sum_nil] at hag e
    rw [e] at hbd ⊢
    obtain ⟨y0,e0,r0⟩:=hf 0 0 26 3 (by kernel_rfl)
    cases e0
    obtain ⟨a0,c0,o0,s0⟩:=(rdg_26 hb hμ).rd _ _ _ r0 (by omega)
    obtain ⟨y1,e1,r1⟩:=hf 1 3 27 1 (by kernel_rfl)
    cases e1
    obtain ⟨a1,c1,o1,s1⟩:=(rdg_27 hb hμ).rd _ _ _ r1 (by omega)
    obtain ⟨y2,e2,r2⟩:=hf 2 4 30 2 (by kernel_rfl)
    cases e2
    obtain ⟨a2,c2,o2,s2⟩:=(rdg_30 hb hμ).rd _ _ _ r2 (by omega)
    obtain ⟨y3,e3,r3⟩:=hf 3 6 31 1 (by kernel_rfl)
    cases e3
    obtain ⟨a3,c3,o3,s3⟩:=(rdg_31 hb hμ).rd _ _ _ r3 (by omega)
    obtain ⟨y4,e4,r4⟩:=hf 4 7 32 1 (by kernel_rfl)
    cases e4
    obtain ⟨a4,c4,o4,s4⟩:=(rdg_32 hb hμ).rd _ _ _ r4 (by omega)
    obtain ⟨y5,e5,r5⟩:=hf 5 8 3 1 (by kernel_rfl)
    cases e5
    obtain ⟨a5,c5,o5,s5⟩:=(M9 hb hμ).rd _ _ _ r5 (by omega)
    obtain ⟨y6,e6,r6⟩:=hf 6 9 4 1 (by kernel_rfl)
    cases e6
    obtain ⟨a6,c6,o6,s6⟩:=(Wc hb hμ).rd _ _ _ r6 (by omega)
    obtain ⟨y7,e7,r7⟩:=hf 7 10 33 1 (by kernel_rfl)
    cases e7
    obtain ⟨a7,c7,o7,s7⟩:=(rdg_33 hb hμ).rd _ _ _ r7 (by omega)
    refine ⟨⟨a0,a1,a2,a3,a4,a5,a6,a7⟩,?_,?_,?_⟩
    ·have q:=(B5 (B5 (B5 (B5 (B5 (B5 (B5 (B5 (show Cn w μ [] (cs.take 0) by simp [Cn]) c0) c1) c2) c3) c4) c5) c6) c7)
     rw [show cs.take (0+3+1+2+1+1+1+1+1)=cs from List.take_of_length_le (by omega)] at q
     exact q
    ·have q:=(B6 (B6 (B6 (B6 (B6 (B6 (B6 (B6 (show ∀u∈cs.take 0,u.oneCell'=true by simp) o0) o1) o2) o3) o4) o5) o6) o7)
     rw [show cs.take (0+3+1+2+1+1+1+1+1)=cs from List.take_of_length_le (by omega)] at q
     exact q
    ·unfold A7.sz;simp only at*;omega
end
end Go.Lift
