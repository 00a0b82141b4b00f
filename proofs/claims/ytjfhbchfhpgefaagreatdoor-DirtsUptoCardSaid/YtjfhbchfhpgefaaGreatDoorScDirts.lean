/-
  Lemmas of this claim: a layer over the kit's calls, contracts of the functions that the law reaches, and the law's row. No condition of its own.
-/
import Derived.Test.YtjfhbchfhpgefaaGreatDoorLbDirts
import Derived.Test.YtjfhbchfhpgefaaGreatDoorSaDirts
set_option linter.unusedSimpArgs false
set_option linter.unusedVariables false
set_option linter.unusedSectionVars false
set_option maxRecDepth 20000
namespace Go.Lift
noncomputable section
open Go Go.RowKit
structure Ak where
 name:ByteArray
 content:Int
 time:Int
def Ak.av (d:Ak):AV:= .st [AV.s d.name,(AV.i .i64) d.content,(AV.i .i64) d.time]
def Ak.zero:Ak:=⟨(⟨#[]⟩:ByteArray),(0:Int),(0:Int)⟩
instance:Inhabited Ak:=⟨Ak.zero⟩
def Ak.sz (d:Ak):Nat:=(fun s:ByteArray=>s.size+1) d.name+(fun _=>1) d.content+(fun _=>1) d.time+1
structure A8 where
 outs:List ByteArray
 ins:List ByteArray
 implicit:List ByteArray
 order:List ByteArray
 command:ByteArray
 deps:Bool
 pool:ByteArray
def A8.av (d:A8):AV:= .st [(Ag 1 AV.s) d.outs,(Ag 1 AV.s) d.ins,(Ag 1 AV.s) d.implicit,(Ag 1 AV.s) d.order,AV.s d.command,AV.b d.deps,AV.s d.pool]
def A8.zero:A8:=⟨[],[],[],[],(⟨#[]⟩:ByteArray),false,(⟨#[]⟩:ByteArray)⟩
instance:Inhabited A8:=⟨A8.zero⟩
def A8.sz (d:A8):Nat:=(Eb (fun s:ByteArray=>s.size+1)) d.outs+(Eb (fun s:ByteArray=>s.size+1)) d.ins+(Eb (fun s:ByteArray=>s.size+1)) d.implicit+(Eb (fun s:ByteArray=>s.size+1)) d.order+(fun s:ByteArray=>s.size+1) d.command+(fun _=>1) d.deps+(fun s:ByteArray=>s.size+1) d.pool+1
theorem A8.sz_outs (d:A8):(Eb (fun s:ByteArray=>s.size+1)) d.outs≤d.sz:=by unfold A8.sz;omega
theorem A8.sz_ins (d:A8):(Eb (fun s:ByteArray=>s.size+1)) d.ins≤d.sz:=by unfold A8.sz;omega
theorem A8.sz_implicit (d:A8):(Eb (fun s:ByteArray=>s.size+1)) d.implicit≤d.sz:=by unfold A8.sz;omega
theorem A8.sz_order (d:A8):(Eb (fun s:ByteArray=>s.size+1)) d.order≤d.sz:=by unfold A8.sz;omega
theorem JS {d:A8} (h:lim d.av):lim ((Ag 1 AV.s) d.outs):=by simp only [A8.av,lim,Ea] at h;exact h.1
structure AD where
 name:ByteArray
 depth:Int
def AD.av (d:AD):AV:= .st [AV.s d.name,(AV.i .i64) d.depth]
def AD.zero:AD:=⟨(⟨#[]⟩:ByteArray),(0:Int)⟩
instance:Inhabited AD:=⟨AD.zero⟩
def AD.sz (d:AD):Nat:=(fun s:ByteArray=>s.size+1) d.name+(fun _=>1) d.depth+1
structure A3 where
 edges:List A8
 pools:List AD
 defaults:List ByteArray
def A3.av (d:A3):AV:= .st [(Ag 7 A8.av) d.edges,(Ag 2 AD.av) d.pools,(Ag 1 AV.s) d.defaults]
def A3.zero:A3:=⟨[],[],[]⟩
instance:Inhabited A3:=⟨A3.zero⟩
def A3.sz (d:A3):Nat:=(Eb A8.sz) d.edges+(Eb AD.sz) d.pools+(Eb (fun s:ByteArray=>s.size+1)) d.defaults+1
theorem A3.sz_edges (d:A3):(Eb A8.sz) d.edges≤d.sz:=by unfold A3.sz;omega
theorem A3.sz_pools (d:A3):(Eb AD.sz) d.pools≤d.sz:=by unfold A3.sz;omega
theorem A3.sz_defaults (d:A3):(Eb (fun s:ByteArray=>s.size+1)) d.defaults≤d.sz:=by unfold A3.sz;omega
theorem Qg {d:A3} (h:lim (.pt d.av.cells)):lim d.av:=by simp only [A3.av,AV.cells,lim] at h ⊢;exact h
theorem Et {d:A3} (h:lim d.av):lim ((Ag 7 A8.av) d.edges):=by simp only [A3.av,lim,Ea] at h;exact h.1
theorem N3 {d:A3} (h:lim d.av):lim ((Ag 2 AD.av) d.pools):=by simp only [A3.av,lim,Ea] at h;exact h.2.1
structure Ae where
 command:ByteArray
 reads:List ByteArray
 fails:Bool
def Ae.av (d:Ae):AV:= .st [AV.s d.command,(Ag 1 AV.s) d.reads,AV.b d.fails]
def Ae.zero:Ae:=⟨(⟨#[]⟩:ByteArray),[],false⟩
instance:Inhabited Ae:=⟨Ae.zero⟩
def Ae.sz (d:Ae):Nat:=(fun s:ByteArray=>s.size+1) d.command+(Eb (fun s:ByteArray=>s.size+1)) d.reads+(fun _=>1) d.fails+1
theorem Ae.sz_reads (d:Ae):(Eb (fun s:ByteArray=>s.size+1)) d.reads≤d.sz:=by unfold Ae.sz;omega
structure A6 where
 out:ByteArray
 time:Int
 sign:ByteArray
def A6.av (d:A6):AV:= .st [AV.s d.out,(AV.i .i64) d.time,AV.s d.sign]
def A6.zero:A6:=⟨(⟨#[]⟩:ByteArray),(0:Int),(⟨#[]⟩:ByteArray)⟩
instance:Inhabited A6:=⟨A6.zero⟩
def A6.sz (d:A6):Nat:=(fun s:ByteArray=>s.size+1) d.out+(fun _=>1) d.time+(fun s:ByteArray=>s.size+1) d.sign+1
structure A2 where
 out:ByteArray
 time:Int
 ins:List ByteArray
def A2.av (d:A2):AV:= .st [AV.s d.out,(AV.i .i64) d.time,(Ag 1 AV.s) d.ins]
def A2.zero:A2:=⟨(⟨#[]⟩:ByteArray),(0:Int),[]⟩
instance:Inhabited A2:=⟨A2.zero⟩
def A2.sz (d:A2):Nat:=(fun s:ByteArray=>s.size+1) d.out+(fun _=>1) d.time+(Eb (fun s:ByteArray=>s.size+1)) d.ins+1
theorem A2.sz_ins (d:A2):(Eb (fun s:ByteArray=>s.size+1)) d.ins≤d.sz:=by unfold A2.sz;omega
structure Aj where
 clock:Int
 files:List Ak
def Aj.av (d:Aj):AV:= .st [(AV.i .i64) d.clock,(Ag 3 Ak.av) d.files]
def Aj.zero:Aj:=⟨(0:Int),[]⟩
instance:Inhabited Aj:=⟨Aj.zero⟩
def Aj.sz (d:Aj):Nat:=(fun _=>1) d.clock+(Eb Ak.sz) d.files+1
theorem Aj.sz_files (d:Aj):(Eb Ak.sz) d.files≤d.sz:=by unfold Aj.sz;omega
theorem Oa {d:Aj} (h:lim d.av):lim ((Ag 3 Ak.av) d.files):=by simp only [Aj.av,lim,Ea] at h;exact h.2.1
structure A7 where
 graph:A3
 actions:List Ae
 disk:Aj
 log:List A6
 deps:List A2
 jobs:Int
 going:Bool
 status:List Int
def A7.av (d:A7):AV:= .st [(Ag 7 A8.av) d.graph.edges,(Ag 2 AD.av) d.graph.pools,(Ag 1 AV.s) d.graph.defaults,(Ag 3 Ae.av) d.actions,(AV.i .i64) d.disk.clock,(Ag 3 Ak.av) d.disk.files,(Ag 3 A6.av) d.log,(Ag 3 A2.av) d.deps,(AV.i .i64) d.jobs,AV.b d.going,(Ag 1 (AV.i .i64)) d.status]
def A7.zero:A7:=⟨A3.zero,[],Aj.zero,[],[],(0:Int),false,[]⟩
instance:Inhabited A7:=⟨A7.zero⟩
def A7.sz (d:A7):Nat:=A3.sz d.graph+(Eb Ae.sz) d.actions+Aj.sz d.disk+(Eb A6.sz) d.log+(Eb A2.sz) d.deps+(fun _=>1) d.jobs+(fun _=>1) d.going+(Eb (fun _=>1)) d.status+1
theorem A7.sz_graph (d:A7):A3.sz d.graph≤d.sz:=by unfold A7.sz;omega
theorem A7.sz_actions (d:A7):(Eb Ae.sz) d.actions≤d.sz:=by unfold A7.sz;omega
theorem A7.sz_disk (d:A7):Aj.sz d.disk≤d.sz:=by unfold A7.sz;omega
theorem A7.sz_log (d:A7):(Eb A6.sz) d.log≤d.sz:=by unfold A7.sz;omega
theorem A7.sz_deps (d:A7):(Eb A2.sz) d.deps≤d.sz:=by unfold A7.sz;omega
theorem A7.sz_status (d:A7):(Eb (fun _=>1)) d.status≤d.sz:=by unfold A7.sz;omega
structure Am where
 state:A7
 edge:A8
def Am.av (d:Am):AV:= .st [(ptA A7.av) d.state,(ptA A8.av) d.edge]
def AF:Ak:=(⟨(⟨#[97,46,99]⟩:ByteArray),(1:Int),(1:Int)⟩:Ak)
def AJ:Ak:=(⟨(⟨#[98,46,99]⟩:ByteArray),(3:Int),(3:Int)⟩:Ak)
def AH:Ak:=(⟨(⟨#[97,46,104]⟩:ByteArray),(2:Int),(2:Int)⟩:Ak)
def El:A6:=(⟨(⟨#[]⟩:ByteArray),(0:Int),(⟨#[]⟩:ByteArray)⟩:A6)
def AG:Ak:=(⟨(⟨#[122,46,104]⟩:ByteArray),(4:Int),(4:Int)⟩:Ak)
def BF:Ae:=(⟨(⟨#[99,99,32,97]⟩:ByteArray),[(⟨#[122,46,104]⟩:ByteArray)],false⟩:Ae)
def XE:A8:=(⟨[(⟨#[108,105,98]⟩:ByteArray)],[(⟨#[97,46,111]⟩:ByteArray),(⟨#[98,46,111]⟩:ByteArray)],[],[],(⟨#[]⟩:ByteArray),false,(⟨#[]⟩:ByteArray)⟩:A8)
def XF:A8:=(⟨[(⟨#[108,105,98]⟩:ByteArray)],[(⟨#[97,46,111]⟩:ByteArray),(⟨#[98,46,111]⟩:ByteArray)],[],[],(⟨#[97,114]⟩:ByteArray),false,(⟨#[]⟩:ByteArray)⟩:A8)
def TG:A8:=(⟨[(⟨#[98,46,111]⟩:ByteArray)],[(⟨#[98,46,99]⟩:ByteArray)],[],[(⟨#[97,46,111]⟩:ByteArray)],(⟨#[99,99,32,98]⟩:ByteArray),false,(⟨#[116,119,111]⟩:ByteArray)⟩:A8)
def TF:A8:=(⟨[(⟨#[97,46,111]⟩:ByteArray),(⟨#[97,46,100]⟩:ByteArray)],[(⟨#[97,46,99]⟩:ByteArray)],[(⟨#[97,46,104]⟩:ByteArray)],[],(⟨#[99,99,32,97]⟩:ByteArray),true,(⟨#[116,119,111]⟩:ByteArray)⟩:A8)
def XG:Aj:=(⟨(4:Int),[AF,AH,AJ,AG]⟩:Aj)
def FE:A3:=(⟨[XE,TF,TG],[(⟨(⟨#[116,119,111]⟩:ByteArray),(2:Int)⟩:AD)],[(⟨#[108,105,98]⟩:ByteArray)]⟩:A3)
def D7:A3:=(⟨[XF,TF,TG],[(⟨(⟨#[116,119,111]⟩:ByteArray),(2:Int)⟩:AD)],[(⟨#[108,105,98]⟩:ByteArray)]⟩:A3)
def AO:A7:=(⟨D7,[BF],XG,[],[],(2:Int),false,[]⟩:A7)
def Lc:List A8→Nat
 | []=>0
 |e::r=>e.outs.length+Lc r
def S8 (e:A8):CP:=⟨⟨false,e.outs⟩,⟨false,e.ins⟩,⟨false,e.implicit⟩,⟨false,e.order⟩,e.command,e.deps,e.pool⟩
def pOf (p:AD):DG:=⟨p.name,p.depth⟩
def MZ (g:A3):B2:=⟨false,g.edges.map S8,false,g.pools.map pOf,⟨false,g.defaults⟩⟩
def U4 (g:A3):Bool:=Nw (MZ g)
def H9 (g:A3):Int:=JY (MZ g)
def Is (g:A3) (edge:Int):Nat:=(g.edges.getD edge.toNat default).ins.length+(g.edges.getD edge.toNat default).implicit.length+(g.edges.getD edge.toNat default).order.length
def G4 (pi:ByteArray→Bool) (c:Int):List Ak→List Int→Option Ak→Bool
 | [],_,_=>true
 |f::r,ts,p=>(pi f.name&&decide (0≤f.content)&&decide (f.content≤2147483647)&&decide (1≤f.time)&&decide (f.time≤c)&& !(ts.any (fun t=>decide (t=f.time)))&&(match p with|none=>true|some q=>Op.bytesLess q.name.toList f.name.toList))&&G4 pi c r (ts++[f.time]) (some f)
def Do (pi:ByteArray→Bool) (d:Aj):Bool:=G4 pi d.clock d.files [] none&&decide (0≤d.clock)&&decide (d.clock≤1048576)&&decide (d.files.length≤64)
def C2 (xs:List ByteArray) (sep:ByteArray):ByteArray:=⟨(Lib.join (xs.map (·.data.toList)) sep.data.toList).toArray⟩
def Ik (xs:List ByteArray):List ByteArray:=xs
def Ek {α:Type} (p:α→Bool):List α→Int
 | []=> -1
 |x::xs=>if 0≤Ek p xs then Ek p xs+1 else if p x then 0 else -1
def AU (rs:List A6) (out:ByteArray):Int:=Ek (fun r=>decide (r.out=out)) rs
def Ax (fs:List A2) (out:ByteArray):Int:=Ek (fun r=>decide (r.out=out)) fs
def GG:List ByteArray→Nat→(List ByteArray)→Lp (List ByteArray) ((List ByteArray))
 | [],i,row=>Lp.brk row
 |x1::rest,i,row=>GG rest (i+1) (row.set i ((⟨#[126]⟩:ByteArray)++(row.getD i default)))
def VP (a:List ByteArray):List ByteArray:=
 (match GG a 0 a with
 |Lp.ret r=>r
 |Lp.brk row'=>row')
def Wz:List Bool→Nat→(List Bool)→Lp (List Bool) ((List Bool))
 | [],i,row=>Lp.brk row
 |x1::rest,i,row=>Wz rest (i+1) (row.set i (!(row.getD i default)))
def m_d7 (a:List Bool):List Bool:=
 (match Wz a 0 a with
 |Lp.ret r=>r
 |Lp.brk row'=>row')
def EU (s':ByteArray):Bool:=
 (decide ((BA s').2=(0:Int))&&decide ((BA s').1=s'))
def Vc:List ByteArray→Nat→Lp (Bool) (Unit)
 | [],v9=>Lp.brk ()
 |x1::rest,v9=>(bif (!(EU x1)) then Lp.ret false else Vc rest (v9+1))
def G2 (ss:List ByteArray) (most':Int):Bool:=
 (match Vc ss 0 with
 |Lp.ret r=>r
 |Lp.brk ()=>decide (((ss.length:Nat):Int)≤most'))
def U8:List UInt8→Nat→Lp (Bool) (Unit)
 | [],v8=>Lp.brk ()
 |x1::rest,v8=>(bif decide ((x1.toNat:Int)<(32:Int)) then Lp.ret false else (bif decide ((126:Int)<(x1.toNat:Int)) then Lp.ret false else U8 rest (v8+1)))
def LG (s':ByteArray) (most':Int):Bool:=
 (match U8 s'.data.toList 0 with
 |Lp.ret r=>r
 |Lp.brk ()=>decide (((s'.size:Nat):Int)≤most'))
def IK (s':ByteArray):Bool:=
 ((!decide (s'=(⟨#[]⟩:ByteArray)))&&(LG s' (256:Int)))
def Va:List (List ByteArray)→Nat→Lp (Bool) (Unit)
 | [],v23=>Lp.brk ()
 |x1::rest,v23=>(bif (!(G2 x1 (8:Int))) then Lp.ret false else Va rest (v23+1))
def Nt (e:A8):Bool:=
 (match Va [e.outs,e.ins,e.implicit,e.order] 0 with
 |Lp.ret r=>r
 |Lp.brk ()=>(decide ((0:Int)<((e.outs.length:Nat):Int))&&((IK e.command)&&(decide (e.pool=(⟨#[]⟩:ByteArray))||(GU e.pool)))))
def On:List A8→Nat→(List ByteArray)→Lp (List ByteArray) ((List ByteArray))
 | [],v11,out=>Lp.brk out
 |x1::rest,v11,out=>On rest (v11+1) (out++x1.outs)
def St (x':ByteArray):List ByteArray→Nat→Lp (Bool) (Unit)
 | [],i=>Lp.brk ()
 |x1::rest,i=>(bif decide (x1=x') then Lp.ret true else St x' rest (i+1))
def Mo (xs:List ByteArray) (x':ByteArray):Bool:=
 (match St x' xs 0 with
 |Lp.ret r=>r
 |Lp.brk ()=>false)
def Nu (c:Int):Bool:=
 (bif decide ((97:Int)≤c) then (decide (c≤(122:Int))||(decide ((48:Int)≤c)&&decide (c≤(57:Int)))) else (decide ((48:Int)≤c)&&decide (c≤(57:Int))))
def Qu:List UInt8→Nat→Lp (Bool) (Unit)
 | [],i=>Lp.brk ()
 |x1::rest,i=>(bif decide ((x1.toNat:Int)<(32:Int)) then Lp.ret false else (bif decide ((126:Int)<(x1.toNat:Int)) then Lp.ret false else Qu rest (i+1)))
def Hp (s':ByteArray) (least:Int) (most':Int):Bool:=
 (match Qu s'.data.toList 0 with
 |Lp.ret r=>r
 |Lp.brk ()=>(decide (least≤((s'.size:Nat):Int))&&decide (((s'.size:Nat):Int)≤most')))
def Ok:List UInt8→Nat→Lp (Bool) (Unit)
 | [],i=>Lp.brk ()
 |x1::rest,i=>(bif (!(Nu (x1.toNat:Int))) then (bif (!decide ((x1.toNat:Int)=(46:Int))) then (bif (!decide ((x1.toNat:Int)=(95:Int))) then (bif (!decide ((x1.toNat:Int)=(45:Int))) then (bif (!decide ((x1.toNat:Int)=(47:Int))) then Lp.ret false else Ok rest (i+1)) else Ok rest (i+1)) else Ok rest (i+1)) else Ok rest (i+1)) else Ok rest (i+1))
def Hn (s':ByteArray):Bool:=
 (match Ok s'.data.toList 0 with
 |Lp.ret r=>r
 |Lp.brk ()=>(decide ((1:Int)≤((s'.size:Nat):Int))&&decide (((s'.size:Nat):Int)≤(16:Int))))
def LC (sign:ByteArray):List ByteArray→Nat→ByteArray→Lp (ByteArray) (ByteArray)
 | [],i,s'=>Lp.brk s'
 |x1::rest,i,s'=>(bif decide ((0:Int)<((i:Nat):Int)) then LC sign rest (i+1) ((s'++sign)++x1) else LC sign rest (i+1) (s'++x1))
def FY (xs:List ByteArray) (sign:ByteArray):ByteArray:=
 (match LC sign xs 0 (⟨#[]⟩:ByteArray) with
 |Lp.ret r=>r
 |Lp.brk sv'=>sv')
def Nq (s':ByteArray) (sign:Int):Nat→(List ByteArray)→Nat→Nat→Lp (List ByteArray) ((List ByteArray))
 |0,out,from',i=>Lp.brk out
 |kf+1,out,from',i=>(bif decide (((i:Nat):Int)≤((s'.size:Nat):Int)) then (bif (decide (((i:Nat):Int)=((s'.size:Nat):Int))||decide (((s'.data.getD i 0).toNat:Int)=sign)) then Nq s' sign kf (out++[(s'.extract from' i)]) (i+1) (i+1) else Nq s' sign kf out from' (i+1)) else Lp.brk out)
def Em (s':ByteArray) (sign:Int):List ByteArray:=
 (match Nq s' sign (s'.size+1-0+1) [] 0 0 with
 |Lp.ret r=>r
 |Lp.brk out'=>out')
def Nl:List ByteArray→Nat→(List ByteArray)→Lp (ByteArray×Int) ((List ByteArray))
 | [],i,kept=>Lp.brk kept
 |x1::rest,i,kept=>(bif decide (x1=(⟨#[]⟩:ByteArray)) then Nl rest (i+1) kept else (bif decide (x1=(⟨#[46]⟩:ByteArray)) then Nl rest (i+1) kept else (bif decide (x1=(⟨#[46,46]⟩:ByteArray)) then (bif decide (((kept.length:Nat):Int)=(0:Int)) then Lp.ret ((⟨#[]⟩:ByteArray),(200:Int)) else Nl rest (i+1) (kept.take (kept.length-1))) else Nl rest (i+1) (kept++[x1]))))
def Mq (s':ByteArray):ByteArray×Int:=
 (bif (!(Hn s')) then ((⟨#[]⟩:ByteArray),(200:Int)) else (bif decide (((s'.data.getD 0 0).toNat:Int)=(47:Int)) then ((⟨#[]⟩:ByteArray),(200:Int)) else (match Nl (Em s' (47:Int)) 0 [] with
 |Lp.ret r=>r
 |Lp.brk kept'=>(bif decide (((kept'.length:Nat):Int)=(0:Int)) then ((⟨#[]⟩:ByteArray),(200:Int)) else ((FY kept' (⟨#[47]⟩:ByteArray)),(0:Int))))))
def Ho (s':ByteArray):Bool:=
 (decide ((Mq s').2=(0:Int))&&decide ((Mq s').1=s'))
def TU:List ByteArray→Nat→Lp (Bool) (Unit)
 | [],i=>Lp.brk ()
 |x1::rest,i=>(bif (!(Ho x1)) then Lp.ret false else TU rest (i+1))
def Jo (xs:List ByteArray):Bool:=
 (match TU xs 0 with
 |Lp.ret r=>r
 |Lp.brk ()=>decide (((xs.length:Nat):Int)≤(8:Int)))
def U6 (name:ByteArray):List AD→Nat→Lp (Int) (Unit)
 | [],i=>Lp.brk ()
 |x1::rest,i=>(bif decide (x1.name=name) then Lp.ret ((i:Nat):Int) else U6 name rest (i+1))
def KZ (ps:List AD) (name:ByteArray):Int:=
 (match U6 name ps 0 with
 |Lp.ret r=>r
 |Lp.brk ()=>(-1:Int))
def HN (e:A8):Bool:=
 (decide ((0:Int)<((e.outs.length:Nat):Int))&&((Jo e.outs)&&((Jo e.ins)&&((Jo e.implicit)&&((Jo e.order)&&((Hp e.command (1:Int) (256:Int))&&(decide (e.pool=(⟨#[]⟩:ByteArray))||(Hn e.pool))))))))
def Qq (g:A3):List A8→Nat→Lp (Bool) (Unit)
 | [],i2=>Lp.brk ()
 |x2::rest,i2=>(bif (!(HN x2)) then Lp.ret false else (bif (!decide (x2.pool=(⟨#[]⟩:ByteArray))) then (bif decide ((KZ g.pools x2.pool)<(0:Int)) then Lp.ret false else Qq g rest (i2+1)) else Qq g rest (i2+1)))
def Ss (g:A3):List AD→Nat→Lp (Bool) (Unit)
 | [],i=>Lp.brk ()
 |x1::rest,i=>(bif (!(Hn x1.name)) then Lp.ret false else (bif decide (x1.depth<(1:Int)) then Lp.ret false else (bif decide ((8:Int)<x1.depth) then Lp.ret false else (bif (!decide ((KZ g.pools x1.name)=((i:Nat):Int))) then Lp.ret false else Ss g rest (i+1)))))
def KV (g:A3):Bool:=
 (match Ss g g.pools 0 with
 |Lp.ret r=>r
 |Lp.brk ()=>(match Qq g g.edges 0 with
 |Lp.ret r=>r
 |Lp.brk ()=>(decide (((g.pools.length:Nat):Int)≤(4:Int))&&(decide (((g.edges.length:Nat):Int)≤(16:Int))&&(Jo g.defaults)))))
def Ub:List ByteArray→Nat→(List ByteArray)→Lp (Int) ((List ByteArray))
 | [],k,all2=>Lp.brk all2
 |x2::rest,k,all2=>(bif (Mo all2 x2) then Lp.ret (901:Int) else Ub rest (k+1) (all2++[x2]))
def Ua:List A8→Nat→(List ByteArray)→Lp (Int) (Unit)
 | [],i,all=>Lp.brk ()
 |x1::rest,i,all=>(match Ub x1.outs 0 all with
 |Lp.ret r=>Lp.ret r
 |Lp.brk all2'=>Ua rest (i+1) all2')
def Pz (g:A3):Int:=
 (bif (!(KV g)) then (900:Int) else (match Ua g.edges 0 [] with
 |Lp.ret r=>r
 |Lp.brk ()=>(0:Int)))
def WA (name:ByteArray):List A8→Nat→Lp (Int) (Unit)
 | [],i=>Lp.brk ()
 |x1::rest,i=>(bif (Mo x1.outs name) then Lp.ret ((i:Nat):Int) else WA name rest (i+1))
def Hq (g:A3) (name:ByteArray):Int:=
 (match WA name g.edges 0 with
 |Lp.ret r=>r
 |Lp.brk ()=>(-1:Int))
def Sv (g:A3):List ByteArray→Nat→(List Int)→Lp (List Int) ((List Int))
 | [],i,out=>Lp.brk out
 |x1::rest,i,out=>(bif decide ((0:Int)≤(Hq g x1)) then Sv g rest (i+1) (out++[(Hq g x1)]) else Sv g rest (i+1) out)
def Fh (g:A3) (edge:Int):List Int:=
 (match Sv g (((g.edges.getD edge.toNat default).ins++(g.edges.getD edge.toNat default).implicit)++(g.edges.getD edge.toNat default).order) 0 [] with
 |Lp.ret r=>r
 |Lp.brk out'=>out')
def Qt (row:List Bool):List Int→Nat→Bool→Lp (List Int×Int) (Bool)
 | [],k,free=>Lp.brk free
 |x3::rest,k,free=>(bif free then Qt row rest (k+1) (row.getD x3.toNat default) else Qt row rest (k+1) false)
def Sw (row:List Bool) (g:A3):Nat→Int→Int→Lp (List Int×Int) (Int)
 |0,next,i=>Lp.brk next
 |kf+1,next,i=>(bif decide ((0:Int)≤i) then (match Qt row (Fh g i) 0 (!(row.getD i.toNat default)) with
 |Lp.ret r=>Lp.ret r
 |Lp.brk free'=>(bif free' then Sw row g kf i (i-(1:Int)) else Sw row g kf next (i-(1:Int)))) else Lp.brk next)
def Vb (g:A3):Nat→(List Int)→(List Bool)→Lp (List Int×Int) ((List Int)×(List Bool))
 |0,out,row=>Lp.brk (out,row)
 |kf+1,out,row=>(bif decide (((out.length:Nat):Int)<((g.edges.length:Nat):Int)) then (match Sw row g (((((g.edges.length:Nat):Int)-(1:Int))+1).toNat+1) (-1:Int) (((g.edges.length:Nat):Int)-(1:Int)) with
 |Lp.ret r=>Lp.ret r
 |Lp.brk next'=>(bif decide (next'<(0:Int)) then Lp.ret (([]:List Int),(1001:Int)) else Vb g kf (out++[next']) (row.set next'.toNat true))) else Lp.brk (out,row))
def Hb (g:A3):List Int×Int:=
 (bif (!decide ((Pz g)=(0:Int))) then (([]:List Int),(1000:Int)) else (match Vb g (g.edges.length-0+1) [] (List.replicate g.edges.length false) with
 |Lp.ret r=>r
 |Lp.brk (out',row')=>(out',(0:Int))))
def TS (b:List Int):List Int→Nat→Lp (Bool) (Unit)
 | [],i=>Lp.brk ()
 |x1::rest,i=>(bif (!decide (x1=(b.getD i default))) then Lp.ret false else TS b rest (i+1))
def Qs (a:List Int) (b:List Int):Bool:=
 (!(!decide (((a.length:Nat):Int)=((b.length:Nat):Int)))&&(match TS b a 0 with
 |Lp.ret r=>r
 |Lp.brk ()=>true))
def TZ (b:List Bool):List Bool→Nat→Lp (Bool) (Unit)
 | [],i=>Lp.brk ()
 |x1::rest,i=>(bif (!(x1==(b.getD i default))) then Lp.ret false else TZ b rest (i+1))
def HO (a:List Bool) (b:List Bool):Bool:=
 (!(!decide (((a.length:Nat):Int)=((b.length:Nat):Int)))&&(match TZ b a 0 with
 |Lp.ret r=>r
 |Lp.brk ()=>true))
def Wy (v:Int):List Int→Nat→Lp (Int) (Unit)
 | [],v8=>Lp.brk ()
 |x1::rest,v8=>(bif decide (v=x1) then Lp.ret ((v8:Nat):Int) else Wy v rest (v8+1))
def TP (s':List Int) (v:Int):Int:=
 (match Wy v s' 0 with
 |Lp.ret r=>r
 |Lp.brk ()=>(-1:Int))
def Og (s':List Int) (v:Int):Bool:=
 decide ((0:Int)≤(TP s' v))
def Ww (v:ByteArray):List ByteArray→Nat→Lp (Int) (Unit)
 | [],v8=>Lp.brk ()
 |x1::rest,v8=>(bif decide (v=x1) then Lp.ret ((v8:Nat):Int) else Ww v rest (v8+1))
def TJ (s':List ByteArray) (v:ByteArray):Int:=
 (match Ww v s' 0 with
 |Lp.ret r=>r
 |Lp.brk ()=>(-1:Int))
def V8 (s':List ByteArray) (v:ByteArray):Bool:=
 decide ((0:Int)≤(TJ s' v))
def m_2 (f:A8→Bool):List A8→Nat→Lp (Int) (Unit)
 | [],v8=>Lp.brk ()
 |x1::rest,v8=>(bif (f x1) then Lp.ret ((v8:Nat):Int) else m_2 f rest (v8+1))
def TM (s':List A8) (f:A8→Bool):Int:=
 (match m_2 f s' 0 with
 |Lp.ret r=>r
 |Lp.brk ()=>(-1:Int))
def U7 (e:A8) (name:ByteArray):Bool:=
 (V8 e.outs name)
def CO (g:A3) (s':ByteArray):Int:=
 (TM g.edges (fun z0=>U7 z0 s'))
def Wx (f:Int→Bool):List Int→Nat→Lp (Int) (Unit)
 | [],v8=>Lp.brk ()
 |x1::rest,v8=>(bif (f x1) then Lp.ret ((v8:Nat):Int) else Wx f rest (v8+1))
def TQ (s':List Int) (f:Int→Bool):Int:=
 (match Wx f s' 0 with
 |Lp.ret r=>r
 |Lp.brk ()=>(-1:Int))
def WS (s':List Int) (f:Int→Bool):Bool:=
 decide ((0:Int)≤(TQ s' f))
def Gv (n':Nat):List ByteArray:=
 (bif decide ((0:Int)<((n':Nat):Int)) then ((List.replicate n' (⟨#[]⟩:ByteArray)).take 0) else [])
def Mp:List (List ByteArray)→Nat→(List ByteArray)→Lp (List ByteArray) ((List ByteArray))
 | [],v27,newslice=>Lp.brk newslice
 |x2::rest,v27,newslice=>Mp rest (v27+1) (newslice++x2)
def WB:List (List ByteArray)→Nat→Nat→Lp (List ByteArray) (Nat)
 | [],v11,size=>Lp.brk size
 |x1::rest,v11,size=>WB rest (v11+1) (size+x1.length)
def Ci (slices:List (List ByteArray)):List ByteArray:=
 (match WB slices 0 0 with
 |Lp.ret r=>r
 |Lp.brk size'=>(match Mp slices 0 ((List.replicate size' (⟨#[]⟩:ByteArray)).take 0) with
 |Lp.ret r=>r
 |Lp.brk newslice4'=>newslice4'))
def QA (g:A3):List ByteArray→Nat→(List Int)→Lp (List Int) ((List Int))
 | [],v31,out=>Lp.brk out
 |x1::rest,v31,out=>(bif decide ((0:Int)≤(CO g x1)) then (bif (!(Og out (CO g x1))) then QA g rest (v31+1) (out++[(CO g x1)]) else QA g rest (v31+1) out) else QA g rest (v31+1) out)
def Ha (g:A3) (edge:Int):List Int:=
 (match QA g (Ci [(g.edges.getD edge.toNat default).ins,(g.edges.getD edge.toNat default).implicit,(g.edges.getD edge.toNat default).order]) 0 [] with
 |Lp.ret r=>r
 |Lp.brk out'=>out')
def Iq (edge:Int) (out:List Int):Bool:=
 (Og out edge)
def Om (edge:Int) (told:Int→Bool):Bool:=
 (!(told edge))
def Py:List (List Int)→Nat→(List Int)→Lp (List Int×Int) (Bool×(List Int))
 | [],v38,cell2=>Lp.brk (false,cell2)
 |x3::rest,v38,cell2=>(bif (!(Iq ((v38:Nat):Int) cell2)) then (bif (!(WS x3 (fun z0=>Om z0 (fun z0=>Iq z0 cell2)))) then Lp.brk (true,(cell2++[((v38:Nat):Int)])) else Py rest (v38+1) cell2) else Py rest (v38+1) cell2)
def QE (g:A3) (row:List (List Int)):Nat→(List Int)→Lp (List Int×Int) ((List Int))
 |0,cell=>Lp.brk cell
 |kf+1,cell=>(bif decide (((cell.length:Nat):Int)<((g.edges.length:Nat):Int)) then (match Py row 0 cell with
 |Lp.ret r=>Lp.ret r
 |Lp.brk (t',cell2')=>(bif t' then QE g row kf cell2' else Lp.ret (([]:List Int),(1001:Int)))) else Lp.brk cell)
def Px (g:A3):List (List Int)→Nat→(List (List Int))→Lp (List Int×Int) ((List (List Int)))
 | [],v20,row=>Lp.brk row
 |x1::rest,v20,row=>Px g rest (v20+1) (row.set v20 (Ha g ((v20:Nat):Int)))
def DQ (g:A3):List Int×Int:=
 (bif (!decide ((H9 g)=(0:Int))) then (([]:List Int),(1000:Int)) else (match Px g (List.replicate g.edges.length ([]:List Int)) 0 (List.replicate g.edges.length ([]:List Int)) with
 |Lp.ret r=>r
 |Lp.brk row'=>(match QE g row' (g.edges.length-0+1) [] with
 |Lp.ret r=>r
 |Lp.brk cell3'=>(cell3',(0:Int)))))
def GS (g:A3) (i3:Int):List Int→Nat→(List Bool)→Lp (List Bool×Int) ((List Bool))
 | [],k,row4=>Lp.brk row4
 |x4::rest,k,row4=>(bif (row4.getD x4.toNat default) then GS g i3 rest (k+1) (row4.set x4.toNat true) else GS g i3 rest (k+1) (row4.set x4.toNat (row4.getD ((((Hb g).1).getD i3.toNat default).toNat) default)))
def Oq (g:A3):Nat→Int→(List Bool)→Lp (List Bool×Int) ((List Bool))
 |0,i3,row3=>Lp.brk row3
 |kf+1,i3,row3=>(bif decide ((0:Int)≤i3) then (match GS g i3 (Fh (⟨g.edges,g.pools,g.defaults⟩:A3) (((Hb g).1).getD i3.toNat default)) 0 row3 with
 |Lp.ret r=>Lp.ret r
 |Lp.brk row4'=>Oq g kf (i3-(1:Int)) row4') else Lp.brk row3)
def Oo (g:A3):List ByteArray→Nat→(List Bool)→Lp (List Bool×Int) ((List Bool))
 | [],i2,row2=>Lp.brk row2
 |x2::rest,i2,row2=>(bif decide ((Hq (⟨g.edges,g.pools,g.defaults⟩:A3) x2)<(0:Int)) then Lp.ret (([]:List Bool),(2001:Int)) else Oo g rest (i2+1) (row2.set (Hq (⟨g.edges,g.pools,g.defaults⟩:A3) x2).toNat true))
def LD (a:A8):A8:=
 (⟨a.outs,a.ins,a.implicit,a.order,a.command,a.deps,a.pool⟩:A8)
def Sr:List A8→Nat→(List A8)→Lp (A3) ((List A8))
 | [],i,edges=>Lp.brk edges
 |x1::rest,i,edges=>Sr rest (i+1) (edges++[(LD x1)])
def Jl (a:A3):A3:=
 (match Sr a.edges 0 [] with
 |Lp.ret r=>r
 |Lp.brk edges'=>(⟨edges',a.pools,a.defaults⟩:A3))
def U3 (b:List ByteArray):List ByteArray→Nat→Lp (Bool) (Unit)
 | [],i=>Lp.brk ()
 |x1::rest,i=>(bif (!decide (x1=(b.getD i default))) then Lp.ret false else U3 b rest (i+1))
def Jz (a:List ByteArray) (b:List ByteArray):Bool:=
 (!(!decide (((a.length:Nat):Int)=((b.length:Nat):Int)))&&(match U3 b a 0 with
 |Lp.ret r=>r
 |Lp.brk ()=>true))
def Mm (a:A8) (b:A8):Bool:=
 ((Jz a.outs b.outs)&&((Jz a.ins b.ins)&&((Jz a.implicit b.implicit)&&((Jz a.order b.order)&&(decide (a.command=b.command)&&((a.deps==b.deps)&&decide (a.pool=b.pool)))))))
def U2 (b:List AD):List AD→Nat→Lp (Bool) (Unit)
 | [],i=>Lp.brk ()
 |x1::rest,i=>(bif (!(decide (x1.name=(b.getD i default).name)&&(decide (x1.depth=(b.getD i default).depth)&&true))) then Lp.ret false else U2 b rest (i+1))
def Qz (a:List AD) (b:List AD):Bool:=
 (!(!decide (((a.length:Nat):Int)=((b.length:Nat):Int)))&&(match U2 b a 0 with
 |Lp.ret r=>r
 |Lp.brk ()=>true))
def U1 (b:A3):List A8→Nat→Lp (Bool) (Unit)
 | [],i=>Lp.brk ()
 |x1::rest,i=>(bif (!(Mm x1 (b.edges.getD i default))) then Lp.ret false else U1 b rest (i+1))
def Oh (a:A3) (b:A3):Bool:=
 (!(!decide (((a.edges.length:Nat):Int)=((b.edges.length:Nat):Int)))&&(match U1 b a.edges 0 with
 |Lp.ret r=>r
 |Lp.brk ()=>((Qz a.pools b.pools)&&(Jz a.defaults b.defaults))))
def GE (e:Int):Int:=
 e
def Pw (a:Ae):Bool:=
 ((!(IK a.command))||(!(G2 a.reads (8:Int))))
def m_0 (f:Ae→Bool):List Ae→Nat→Lp (Int) (Unit)
 | [],v8=>Lp.brk ()
 |x1::rest,v8=>(bif (f x1) then Lp.ret ((v8:Nat):Int) else m_0 f rest (v8+1))
def m_9 (s':List Ae) (f:Ae→Bool):Int:=
 (match m_0 f s' 0 with
 |Lp.ret r=>r
 |Lp.brk ()=>(-1:Int))
def m_w (s':List Ae) (f:Ae→Bool):Bool:=
 decide ((0:Int)≤(m_9 s' f))
def QD (as':List Ae):Bool:=
 (decide (((as'.length:Nat):Int)≤(16:Int))&&(!(m_w as' (fun z0=>Pw z0))))
def Nr (x':Int):Bool:=
 (decide ((1:Int)≤x')&&decide (x'≤(1048576:Int)))
def Mn (r:A6):Bool:=
 ((EU r.out)&&((Nr r.time)&&((!decide (r.sign=(⟨#[]⟩:ByteArray)))&&(LG r.sign (2048:Int)))))
def Su (r:A6):Bool:=
 (!(Mn r))
def m_1 (f:A6→Bool):List A6→Nat→Lp (Int) (Unit)
 | [],v8=>Lp.brk ()
 |x1::rest,v8=>(bif (f x1) then Lp.ret ((v8:Nat):Int) else m_1 f rest (v8+1))
def TK (s':List A6) (f:A6→Bool):Int:=
 (match m_1 f s' 0 with
 |Lp.ret r=>r
 |Lp.brk ()=>(-1:Int))
def m_x (s':List A6) (f:A6→Bool):Bool:=
 decide ((0:Int)≤(TK s' f))
def L0 (rs:List A6):Bool:=
 (decide (((rs.length:Nat):Int)≤(256:Int))&&(!(m_x rs (fun z0=>Su z0))))
def Ns (f:A2):Bool:=
 ((EU f.out)&&((Nr f.time)&&(G2 f.ins (8:Int))))
def Sx (f:A2):Bool:=
 (!(Ns f))
def m_5 (f:A2→Bool):List A2→Nat→Lp (Int) (Unit)
 | [],v8=>Lp.brk ()
 |x1::rest,v8=>(bif (f x1) then Lp.ret ((v8:Nat):Int) else m_5 f rest (v8+1))
def TL (s':List A2) (f:A2→Bool):Int:=
 (match m_5 f s' 0 with
 |Lp.ret r=>r
 |Lp.brk ()=>(-1:Int))
def m_y (s':List A2) (f:A2→Bool):Bool:=
 decide ((0:Int)≤(TL s' f))
def LF (fs:List A2):Bool:=
 (decide (((fs.length:Nat):Int)≤(256:Int))&&(!(m_y fs (fun z0=>Sx z0))))
def QC (x':Int):Bool:=
 (decide ((0:Int)≤x')&&decide (x'≤(2147483647:Int)))
def De (s':A7):Bool:=
 (decide ((DQ s'.graph).2=(0:Int))&&((QD s'.actions)&&((Do EU s'.disk)&&((L0 s'.log)&&(LF s'.deps)))))
def DL (x':Int) (least:Int) (most':Int):Bool:=
 (decide (least≤x')&&decide (x'≤most'))
def TX:List Ae→Nat→Lp (Bool) (Unit)
 | [],i=>Lp.brk ()
 |x1::rest,i=>(bif (!(Hp x1.command (1:Int) (256:Int))) then Lp.ret false else (bif (!(Jo x1.reads)) then Lp.ret false else TX rest (i+1)))
def Pv (as':List Ae):Bool:=
 (match TX as' 0 with
 |Lp.ret r=>r
 |Lp.brk ()=>decide (((as'.length:Nat):Int)≤(16:Int)))
def Oj (i:Nat) (d:Aj) (x1:Ak):Nat→Nat→Lp (Bool) (Unit)
 |0,k=>Lp.brk ()
 |kf+1,k=>(bif decide (((k:Nat):Int)<((i:Nat):Int)) then (bif decide ((d.files.getD k default).time=x1.time) then Lp.ret false else Oj i d x1 kf (k+1)) else Lp.brk ())
def Qp (d:Aj):List Ak→Nat→Lp (Bool) (Unit)
 | [],i=>Lp.brk ()
 |x1::rest,i=>(bif (!(Ho x1.name)) then Lp.ret false else (bif (!(DL x1.content (0:Int) (2147483647:Int))) then Lp.ret false else (bif (!(DL x1.time (1:Int) d.clock)) then Lp.ret false else (bif decide ((0:Int)<((i:Nat):Int)) then (bif (!Op.bytesLess ((d.files.getD (i-1) default).name).toList x1.name.toList) then Lp.ret false else (match Oj i d x1 (i-0+1) 0 with
 |Lp.ret r=>Lp.ret r
 |Lp.brk ()=>Qp d rest (i+1))) else (match Oj i d x1 (i-0+1) 0 with
 |Lp.ret r=>Lp.ret r
 |Lp.brk ()=>Qp d rest (i+1))))))
def Hm (d:Aj):Bool:=
 (match Qp d d.files 0 with
 |Lp.ret r=>r
 |Lp.brk ()=>((DL d.clock (0:Int) (1048576:Int))&&decide (((d.files.length:Nat):Int)≤(64:Int))))
def Qw (r:A6):Bool:=
 ((Ho r.out)&&((DL r.time (1:Int) (1048576:Int))&&(Hp r.sign (1:Int) (2048:Int))))
def U5:List A6→Nat→Lp (Bool) (Unit)
 | [],i=>Lp.brk ()
 |x1::rest,i=>(bif (!(Qw x1)) then Lp.ret false else U5 rest (i+1))
def KX (rs:List A6):Bool:=
 (match U5 rs 0 with
 |Lp.ret r=>r
 |Lp.brk ()=>decide (((rs.length:Nat):Int)≤(256:Int)))
def QB (f:A2):Bool:=
 ((Ho f.out)&&((DL f.time (1:Int) (1048576:Int))&&(Jo f.ins)))
def TT:List A2→Nat→Lp (Bool) (Unit)
 | [],i=>Lp.brk ()
 |x1::rest,i=>(bif (!(QB x1)) then Lp.ret false else TT rest (i+1))
def LE (fs:List A2):Bool:=
 (match TT fs 0 with
 |Lp.ret r=>r
 |Lp.brk ()=>decide (((fs.length:Nat):Int)≤(256:Int)))
def Jn (s':A7):Bool:=
 (decide ((Hb (⟨s'.graph.edges,s'.graph.pools,s'.graph.defaults⟩:A3)).2=(0:Int))&&((Pv s'.actions)&&((Hm (⟨s'.disk.clock,s'.disk.files⟩:Aj))&&((KX s'.log)&&(LE s'.deps)))))
def GT (s':A7) (edge:Int):List AD→Nat→Int→Lp (Bool) (Int)
 | [],i2,most'=>Lp.brk most'
 |x2::rest,i2,most'=>(bif decide (x2.name=(s'.graph.edges.getD edge.toNat default).pool) then GT s' edge rest (i2+1) x2.depth else GT s' edge rest (i2+1) most')
def EV (s':A7) (edge:Int):List Int→Nat→Nat→Nat→Lp (Bool) (Nat×Nat)
 | [],i,all,own=>Lp.brk (all,own)
 |x1::rest,i,all,own=>(bif decide (x1=(2:Int)) then (bif decide ((s'.graph.edges.getD i default).pool=(s'.graph.edges.getD edge.toNat default).pool) then EV s' edge rest (i+1) (all+1) (own+1) else EV s' edge rest (i+1) (all+1) own) else EV s' edge rest (i+1) all own)
def m_ref12_room (s':A7) (edge:Int):Bool:=
 (match EV s' edge s'.status 0 0 0 with
 |Lp.ret r=>r
 |Lp.brk (all',own')=>(match GT s' edge s'.graph.pools 0 (8:Int) with
 |Lp.ret r=>r
 |Lp.brk most'2'=>(decide (((all':Nat):Int)<s'.jobs)&&(decide ((s'.graph.edges.getD edge.toNat default).pool=(⟨#[]⟩:ByteArray))||decide (((own':Nat):Int)<most'2')))))
def TV (b:List Ae):List Ae→Nat→Lp (Bool) (Unit)
 | [],i=>Lp.brk ()
 |x1::rest,i=>(bif (!decide (x1.command=(b.getD i default).command)) then Lp.ret false else (bif (!(x1.fails==(b.getD i default).fails)) then Lp.ret false else (bif (!(Jz x1.reads ((b.getD i default).reads))) then Lp.ret false else TV b rest (i+1))))
def Np (a:List Ae) (b:List Ae):Bool:=
 (!(!decide (((a.length:Nat):Int)=((b.length:Nat):Int)))&&(match TV b a 0 with
 |Lp.ret r=>r
 |Lp.brk ()=>true))
def U0 (b:List Ak):List Ak→Nat→Lp (Bool) (Unit)
 | [],i=>Lp.brk ()
 |x1::rest,i=>(bif (!(decide (x1.name=(b.getD i default).name)&&(decide (x1.content=(b.getD i default).content)&&(decide (x1.time=(b.getD i default).time)&&true)))) then Lp.ret false else U0 b rest (i+1))
def Qx (a:List Ak) (b:List Ak):Bool:=
 (!(!decide (((a.length:Nat):Int)=((b.length:Nat):Int)))&&(match U0 b a 0 with
 |Lp.ret r=>r
 |Lp.brk ()=>true))
def Qr (a:Aj) (b:Aj):Bool:=
 (decide (a.clock=b.clock)&&(Qx a.files b.files))
def TW (b:List A6):List A6→Nat→Lp (Bool) (Unit)
 | [],i=>Lp.brk ()
 |x1::rest,i=>(bif (!(decide (x1.out=(b.getD i default).out)&&(decide (x1.time=(b.getD i default).time)&&(decide (x1.sign=(b.getD i default).sign)&&true)))) then Lp.ret false else TW b rest (i+1))
def Pu (a:List A6) (b:List A6):Bool:=
 (!(!decide (((a.length:Nat):Int)=((b.length:Nat):Int)))&&(match TW b a 0 with
 |Lp.ret r=>r
 |Lp.brk ()=>true))
def Qy (a:A2) (b:A2):Bool:=
 (decide (a.out=b.out)&&(decide (a.time=b.time)&&(Jz a.ins b.ins)))
def TY (b:List A2):List A2→Nat→Lp (Bool) (Unit)
 | [],i=>Lp.brk ()
 |x1::rest,i=>(bif (!(Qy x1 (b.getD i default))) then Lp.ret false else TY b rest (i+1))
def Pt (a:List A2) (b:List A2):Bool:=
 (!(!decide (((a.length:Nat):Int)=((b.length:Nat):Int)))&&(match TY b a 0 with
 |Lp.ret r=>r
 |Lp.brk ()=>true))
def Jm (a:A7) (b:A7):Bool:=
 ((Oh (⟨a.graph.edges,a.graph.pools,a.graph.defaults⟩:A3) (⟨b.graph.edges,b.graph.pools,b.graph.defaults⟩:A3))&&((Np a.actions b.actions)&&((Qr (⟨a.disk.clock,a.disk.files⟩:Aj) (⟨b.disk.clock,b.disk.files⟩:Aj))&&((Pu a.log b.log)&&((Pt a.deps b.deps)&&(decide (a.jobs=b.jobs)&&((a.going==b.going)&&(Qs a.status b.status))))))))
def Sm:List Ae→Nat→(List Ae)→Lp (List Ae) ((List Ae))
 | [],i,out=>Lp.brk out
 |x1::rest,i,out=>Sm rest (i+1) (out++[(⟨x1.command,x1.reads,x1.fails⟩:Ae)])
def Qo (a:List Ae):List Ae:=
 (match Sm a 0 [] with
 |Lp.ret r=>r
 |Lp.brk out'=>out')
def Ol (a:Aj):Aj:=
 (⟨a.clock,a.files⟩:Aj)
def Sk:List A2→Nat→(List A2)→Lp (List A2) ((List A2))
 | [],i,out=>Lp.brk out
 |x1::rest,i,out=>Sk rest (i+1) (out++[(⟨x1.out,x1.time,x1.ins⟩:A2)])
def Qv (a:List A2):List A2:=
 (match Sk a 0 [] with
 |Lp.ret r=>r
 |Lp.brk out'=>out')
def CJ (a:A7):A7:=
 (⟨(⟨(Jl (⟨a.graph.edges,a.graph.pools,a.graph.defaults⟩:A3)).edges,(Jl (⟨a.graph.edges,a.graph.pools,a.graph.defaults⟩:A3)).pools,(Jl (⟨a.graph.edges,a.graph.pools,a.graph.defaults⟩:A3)).defaults⟩:A3),(Qo a.actions),(⟨(Ol (⟨a.disk.clock,a.disk.files⟩:Aj)).clock,(Ol (⟨a.disk.clock,a.disk.files⟩:Aj)).files⟩:Aj),a.log,(Qv a.deps),a.jobs,a.going,a.status⟩:A7)
def K8 (x':ByteArray):Bool:=
 (!decide (x'=x'))
def LB (x':ByteArray) (y:ByteArray):Int:=
 (bif (K8 x') then (bif (K8 y) then (0:Int) else (-1:Int)) else (bif (K8 y) then (1:Int) else (bif (Op.bytesLess x'.toList y.toList) then (-1:Int) else (bif (!(Op.bytesLess x'.toList y.toList||decide (x'=y))) then (1:Int) else (0:Int)))))
def HM (f:Ak) (s':ByteArray):Int:=
 (LB f.name s')
def XI (cmp:Ak→ByteArray→Int) (x':List Ak) (target:ByteArray):Nat→Int→Int→Lp (Int×Bool) (Int)
 |0,i,j=>Lp.brk i
 |kf+1,i,j=>(bif decide (i<j) then (bif decide ((cmp (x'.getD (IntKind.wrap .i64 (Int.fdiv (IntKind.wrap .u64 (IntKind.wrap .i64 (i+j))) (2^(min 1 IntKind.u64.bits)))).toNat default) target)<(0:Int)) then XI cmp x' target kf (IntKind.wrap .i64 ((IntKind.wrap .i64 (Int.fdiv (IntKind.wrap .u64 (IntKind.wrap .i64 (i+j))) (2^(min 1 IntKind.u64.bits))))+(1:Int))) j else XI cmp x' target kf i (IntKind.wrap .i64 (Int.fdiv (IntKind.wrap .u64 (IntKind.wrap .i64 (i+j))) (2^(min 1 IntKind.u64.bits))))) else Lp.brk i)
def OM (x':List Ak) (target:ByteArray) (cmp:Ak→ByteArray→Int):Int×Bool:=
 (match XI cmp x' target ((((x'.length:Nat):Int)-(0:Int)).toNat+1) (0:Int) ((x'.length:Nat):Int) with
 |Lp.ret r=>r
 |Lp.brk i'=>(bif decide (i'<((x'.length:Nat):Int)) then (i',decide ((cmp (x'.getD i'.toNat default) target)=(0:Int))) else (i',false)))
def DK (d:Aj) (s':ByteArray):Int×Bool:=
 ((OM d.files s' (fun z0 z1=>HM z0 z1)).1,(OM d.files s' (fun z0 z1=>HM z0 z1)).2)
def Cn (d:Aj) (s':ByteArray):Ak×Bool:=
 (bif (DK d s').2 then (bif (Do EU d) then ((⟨(d.files.getD ((DK d s').1).toNat default).name,(d.files.getD ((DK d s').1).toNat default).content,(d.files.getD ((DK d s').1).toNat default).time⟩:Ak),true) else ((⟨(⟨#[]⟩:ByteArray),(0:Int),(0:Int)⟩:Ak),false)) else ((⟨(⟨#[]⟩:ByteArray),(0:Int),(0:Int)⟩:Ak),false))
def JL (e:A8):ByteArray×Int:=
 (bif (!(Nt e)) then ((⟨#[]⟩:ByteArray),(1100:Int)) else ((C2 [(C2 e.outs (⟨#[32]⟩:ByteArray)),(C2 e.ins (⟨#[32]⟩:ByteArray)),(C2 e.implicit (⟨#[32]⟩:ByteArray)),(bif e.deps then (⟨#[100]⟩:ByteArray) else (⟨#[110]⟩:ByteArray)),e.command] (⟨#[124]⟩:ByteArray)),(0:Int)))
def Dc (rs:List A6) (out:ByteArray):A6×Bool:=
 (bif decide ((AU rs out)<(0:Int)) then (El,false) else (bif (!(L0 rs)) then (El,false) else ((⟨(rs.getD (AU rs out).toNat default).out,(rs.getD (AU rs out).toNat default).time,(rs.getD (AU rs out).toNat default).sign⟩:A6),true)))
def GR (f:A2):A2:=
 (⟨f.out,f.time,(Ik f.ins)⟩:A2)
def Ey (fs:List A2) (out:ByteArray):A2×Bool:=
 (bif decide ((Ax fs out)<(0:Int)) then ((⟨(⟨#[]⟩:ByteArray),(0:Int),[]⟩:A2),false) else (bif (!(LF fs)) then ((⟨(⟨#[]⟩:ByteArray),(0:Int),[]⟩:A2),false) else ((⟨(GR (fs.getD (Ax fs out).toNat default)).out,(GR (fs.getD (Ax fs out).toNat default)).time,(GR (fs.getD (Ax fs out).toNat default)).ins⟩:A2),true)))
def Nk (l:Am) (s':ByteArray):Bool:=
 ((!(Cn l.state.disk s').2)&&decide ((CO l.state.graph s')<(0:Int)))
def UI (l:Am):List ByteArray→Nat→Int→Lp (Int) (Int)
 | [],v32,out=>Lp.brk out
 |x1::rest,v32,out=>(bif (!(Cn l.state.disk x1).2) then Lp.ret (-1:Int) else (bif (!(Dc l.state.log x1).2) then Lp.ret (-1:Int) else (bif (!decide (((Dc l.state.log x1).1).sign=(JL l.edge).1)) then Lp.ret (-1:Int) else (bif (!decide (((Dc l.state.log x1).1).time=((Cn l.state.disk x1).1).time)) then Lp.ret (-1:Int) else UI l rest (v32+1) (if ((Cn l.state.disk x1).1).time<out then ((Cn l.state.disk x1).1).time else out)))))
def N0 (l:Am):Int:=
 (match UI l l.edge.outs 0 l.state.disk.clock with
 |Lp.ret r=>r
 |Lp.brk out'=>out')
def TR (s':ByteArray) (l:Am) (time:Int):Bool:=
 ((!(Cn l.state.disk s').2)||decide (time<((Cn l.state.disk s').1).time))
def V9 (f:ByteArray→Bool):List ByteArray→Nat→Lp (Int) (Unit)
 | [],v8=>Lp.brk ()
 |x1::rest,v8=>(bif (f x1) then Lp.ret ((v8:Nat):Int) else V9 f rest (v8+1))
def TN (s':List ByteArray) (f:ByteArray→Bool):Int:=
 (match V9 f s' 0 with
 |Lp.ret r=>r
 |Lp.brk ()=>(-1:Int))
def VQ (s':List ByteArray) (f:ByteArray→Bool):Bool:=
 decide ((0:Int)≤(TN s' f))
def K7 (l:Am) (ss:List ByteArray) (time:Int):Bool:=
 (VQ ss (fun z0=>TR z0 l time))
def KU (l:Am):Bool:=
 (decide ((N0 l)<(0:Int))||((K7 l l.edge.ins (N0 l))||((K7 l l.edge.implicit (N0 l))||(!(!l.edge.deps)&&((!(Ey l.state.deps (l.edge.outs.getD 0 default)).2)||((!decide (((Ey l.state.deps (l.edge.outs.getD 0 default)).1).time=((Cn l.state.disk (l.edge.outs.getD 0 default)).1).time))||(K7 l (((Ey l.state.deps (l.edge.outs.getD 0 default)).1).ins) (N0 l))))))))
def C0 (s':A7) (edge:Int):Bool×Int:=
 (bif (!(De s')) then (false,(1900:Int)) else (bif decide (edge<(0:Int)) then (false,(1900:Int)) else (bif decide (((s'.graph.edges.length:Nat):Int)≤edge) then (false,(1900:Int)) else (bif (VQ (Ci [(s'.graph.edges.getD edge.toNat default).ins,(s'.graph.edges.getD edge.toNat default).implicit,(s'.graph.edges.getD edge.toNat default).order]) (fun z0=>Nk (⟨s',(s'.graph.edges.getD edge.toNat default)⟩:Am) z0)) then (false,(1901:Int)) else ((KU (⟨s',(s'.graph.edges.getD edge.toNat default)⟩:Am)),(0:Int))))))
def GF (s':A7) (x2:Int):List ByteArray→Nat→(List Bool)→Lp (List Bool×Int) ((List Bool))
 | [],v70,row3=>Lp.brk row3
 |x3::rest,v70,row3=>(bif decide ((0:Int)≤(CO s'.graph x3)) then (bif (row3.getD ((CO s'.graph x3).toNat) default) then GF s' x2 rest (v70+1) (row3.set x2.toNat true) else GF s' x2 rest (v70+1) row3) else GF s' x2 rest (v70+1) row3)
def JJ (s':A7):List Int→Nat→(List Bool)→Lp (List Bool×Int) ((List Bool))
 | [],v50,row2=>Lp.brk row2
 |x2::rest,v50,row2=>(match GF s' x2 (Ci [(s'.graph.edges.getD x2.toNat default).ins,(s'.graph.edges.getD x2.toNat default).implicit]) 0 row2 with
 |Lp.ret r=>Lp.ret r
 |Lp.brk row4'=>JJ s' rest (v50+1) row4')
def KW (s':A7):List Bool→Nat→(List Bool)→Lp (List Bool×Int) ((List Bool))
 | [],v25,row=>Lp.brk row
 |x1::rest,v25,row=>(bif (!decide ((C0 s' ((v25:Nat):Int)).2=(0:Int))) then Lp.ret (([]:List Bool),(C0 s' ((v25:Nat):Int)).2) else KW s' rest (v25+1) (row.set v25 ((C0 s' ((v25:Nat):Int)).1)))
def D0 (s':A7):List Bool×Int:=
 (bif (!(De s')) then (([]:List Bool),(1900:Int)) else (match KW s' (List.replicate s'.graph.edges.length false) 0 (List.replicate s'.graph.edges.length false) with
 |Lp.ret r=>r
 |Lp.brk row'=>(match JJ s' ((DQ (⟨s'.graph.edges,s'.graph.pools,s'.graph.defaults⟩:A3)).1) 0 row' with
 |Lp.ret r=>r
 |Lp.brk row5'=>(row5',(0:Int)))))
def L1 (e:A8):ByteArray×Int:=
 (bif (!(HN e)) then ((⟨#[]⟩:ByteArray),(1100:Int)) else ((((((((((FY e.outs (⟨#[32]⟩:ByteArray))++(⟨#[124]⟩:ByteArray))++(FY e.ins (⟨#[32]⟩:ByteArray)))++(⟨#[124]⟩:ByteArray))++(FY e.implicit (⟨#[32]⟩:ByteArray)))++(⟨#[124]⟩:ByteArray))++(bif e.deps then (⟨#[100]⟩:ByteArray) else (⟨#[110]⟩:ByteArray)))++(⟨#[124]⟩:ByteArray))++e.command),(0:Int)))
def U9 (d:Aj) (name:ByteArray):Nat→Nat→ByteArray→Int→Int→Lp (Ak×Bool) (ByteArray×Int×Int)
 |0,i,cell,cell2,cell3=>Lp.brk (cell,cell2,cell3)
 |kf+1,i,cell,cell2,cell3=>(bif decide (((i:Nat):Int)<((d.files.length:Nat):Int)) then (bif (Hm d) then (bif decide ((d.files.getD i default).name=name) then Lp.ret ((⟨(d.files.getD i default).name,(d.files.getD i default).content,(d.files.getD i default).time⟩:Ak),true) else U9 d name kf (i+1) cell cell2 cell3) else Lp.brk (cell,cell2,cell3)) else Lp.brk (cell,cell2,cell3))
def CM (d:Aj) (name:ByteArray):Ak×Bool:=
 (match U9 d name (d.files.length-0+1) 0 (⟨#[]⟩:ByteArray) (0:Int) (0:Int) with
 |Lp.ret r=>r
 |Lp.brk (cell',cell2',cell3')=>((⟨(⟨#[]⟩:ByteArray),(0:Int),(0:Int)⟩:Ak),false))
def Sn (rs:List A6) (out:ByteArray):Nat→Int→ByteArray→Int→ByteArray→Lp (A6×Bool) (ByteArray×Int×ByteArray)
 |0,i,cell,cell2,cell3=>Lp.brk (cell,cell2,cell3)
 |kf+1,i,cell,cell2,cell3=>(bif decide ((0:Int)≤i) then (bif (KX rs) then (bif decide ((rs.getD i.toNat default).out=out) then Lp.ret ((⟨(rs.getD i.toNat default).out,(rs.getD i.toNat default).time,(rs.getD i.toNat default).sign⟩:A6),true) else Sn rs out kf (i-(1:Int)) cell cell2 cell3) else Lp.brk (cell,cell2,cell3)) else Lp.brk (cell,cell2,cell3))
def JM (rs:List A6) (out:ByteArray):A6×Bool:=
 (match Sn rs out (((((rs.length:Nat):Int)-(1:Int))+1).toNat+1) (((rs.length:Nat):Int)-(1:Int)) (⟨#[]⟩:ByteArray) (0:Int) (⟨#[]⟩:ByteArray) with
 |Lp.ret r=>r
 |Lp.brk (cell',cell2',cell3')=>(El,false))
def Of (f:A2):A2:=
 (⟨f.out,f.time,f.ins⟩:A2)
def Sl (fs:List A2) (out:ByteArray):Nat→Int→ByteArray→Int→(List ByteArray)→Lp (A2×Bool) (ByteArray×Int×(List ByteArray))
 |0,i,cell,cell2,cell3=>Lp.brk (cell,cell2,cell3)
 |kf+1,i,cell,cell2,cell3=>(bif decide ((0:Int)≤i) then (bif (LE fs) then (bif decide ((fs.getD i.toNat default).out=out) then Lp.ret ((⟨(Of (fs.getD i.toNat default)).out,(Of (fs.getD i.toNat default)).time,(Of (fs.getD i.toNat default)).ins⟩:A2),true) else Sl fs out kf (i-(1:Int)) cell cell2 cell3) else Lp.brk (cell,cell2,cell3)) else Lp.brk (cell,cell2,cell3))
def KL (fs:List A2) (out:ByteArray):A2×Bool:=
 (match Sl fs out (((((fs.length:Nat):Int)-(1:Int))+1).toNat+1) (((fs.length:Nat):Int)-(1:Int)) (⟨#[]⟩:ByteArray) (0:Int) [] with
 |Lp.ret r=>r
 |Lp.brk (cell',cell2',cell3')=>((⟨(⟨#[]⟩:ByteArray),(0:Int),[]⟩:A2),false))
def So (s':A7):List ByteArray→Nat→Lp (Bool) (Unit)
 | [],i=>Lp.brk ()
 |x1::rest,i=>(bif (!(CM (⟨s'.disk.clock,s'.disk.files⟩:Aj) x1).2) then (bif decide ((Hq (⟨s'.graph.edges,s'.graph.pools,s'.graph.defaults⟩:A3) x1)<(0:Int)) then Lp.ret true else So s' rest (i+1)) else So s' rest (i+1))
def IL (s':A7) (x':A8):Bool:=
 (match So s' ((x'.ins++x'.implicit)++x'.order) 0 with
 |Lp.ret r=>r
 |Lp.brk ()=>false)
def Uc (d:Aj) (time:Int):List ByteArray→Nat→Lp (Bool) (Unit)
 | [],i=>Lp.brk ()
 |x1::rest,i=>(bif (!(CM d x1).2) then Lp.ret true else (bif decide (time<((CM d x1).1).time) then Lp.ret true else Uc d time rest (i+1)))
def JK (d:Aj) (names:List ByteArray) (time:Int):Bool:=
 (match Uc d time names 0 with
 |Lp.ret r=>r
 |Lp.brk ()=>false)
def KY (s':A7) (x':A8):List ByteArray→Nat→Int→Lp (Bool) (Int)
 | [],i,time=>Lp.brk time
 |x1::rest,i,time=>(bif (!(CM (⟨s'.disk.clock,s'.disk.files⟩:Aj) x1).2) then Lp.ret true else (bif (!(JM s'.log x1).2) then Lp.ret true else (bif (!decide (((JM s'.log x1).1).sign=(L1 x').1)) then Lp.ret true else (bif (!decide (((JM s'.log x1).1).time=((CM (⟨s'.disk.clock,s'.disk.files⟩:Aj) x1).1).time)) then Lp.ret true else KY s' x' rest (i+1) (if ((CM (⟨s'.disk.clock,s'.disk.files⟩:Aj) x1).1).time<time then ((CM (⟨s'.disk.clock,s'.disk.files⟩:Aj) x1).1).time else time)))))
def G1 (s':A7) (x':A8):Bool:=
 (match KY s' x' x'.outs 0 (1048576:Int) with
 |Lp.ret r=>r
 |Lp.brk time'=>((JK (⟨s'.disk.clock,s'.disk.files⟩:Aj) x'.ins time')||((JK (⟨s'.disk.clock,s'.disk.files⟩:Aj) x'.implicit time')||(!(!x'.deps)&&((!(KL s'.deps (x'.outs.getD 0 default)).2)||((!decide (((KL s'.deps (x'.outs.getD 0 default)).1).time=((CM (⟨s'.disk.clock,s'.disk.files⟩:Aj) (x'.outs.getD 0 default)).1).time))||(JK (⟨s'.disk.clock,s'.disk.files⟩:Aj) (((KL s'.deps (x'.outs.getD 0 default)).1).ins) time')))))))
def EQ (s':A7) (edge:Int):Bool×Int:=
 (bif (!(Jn s')) then (false,(1900:Int)) else (bif (!(DL edge (0:Int) (IntKind.wrap .i64 (((s'.graph.edges.length:Nat):Int)-(1:Int))))) then (false,(1900:Int)) else (bif (IL s' (s'.graph.edges.getD edge.toNat default)) then (false,(1901:Int)) else ((G1 s' (s'.graph.edges.getD edge.toNat default)),(0:Int)))))
def Ml (s':A7) (row:List Bool):List ByteArray→Nat→Bool→Lp (List Bool×Int) (Bool)
 | [],k,is=>Lp.brk is
 |x2::rest,k,is=>(bif is then Ml s' row rest (k+1) true else (bif decide ((0:Int)≤(Hq s'.graph x2)) then Ml s' row rest (k+1) (row.getD ((Hq s'.graph x2).toNat) default) else Ml s' row rest (k+1) false))
def Oi (s':A7):List Int→Nat→(List Bool)→Lp (List Bool×Int) ((List Bool))
 | [],i,row=>Lp.brk row
 |x1::rest,i,row=>(bif (IL s' (s'.graph.edges.getD x1.toNat default)) then Lp.ret (([]:List Bool),(1901:Int)) else (match Ml s' row ((s'.graph.edges.getD x1.toNat default).ins++(s'.graph.edges.getD x1.toNat default).implicit) 0 (G1 s' (s'.graph.edges.getD x1.toNat default)) with
 |Lp.ret r=>Lp.ret r
 |Lp.brk is'=>Oi s' rest (i+1) (row.set x1.toNat is')))
def Lb (s':A7):List Bool×Int:=
 (bif (!(Jn s')) then (([]:List Bool),(1900:Int)) else (match Oi s' ((Hb s'.graph).1) 0 (List.replicate s'.graph.edges.length false) with
 |Lp.ret r=>r
 |Lp.brk row'=>(row',(0:Int))))
def La:A7:=
 AO
def K9:Bool:=
 ((C0 AO (1:Int)).1&&(decide ((GE ((C0 AO (1:Int)).2))=(0:Int))&&((HO ((D0 AO).1) [true,true,true])&&(decide ((GE ((D0 AO).2))=(0:Int))&&(decide ((GE ((C0 (⟨D7,[BF],(⟨(4:Int),(([AF,AH,AJ,AG].take [AF,AH,AJ,AG].length).drop 1)⟩:Aj),[],[],(2:Int),false,[]⟩:A7) (1:Int)).2))=(1901:Int))&&(decide ((GE ((C0 AO (3:Int)).2))=(1900:Int))&&decide ((GE ((D0 (⟨FE,[BF],(⟨(4:Int),(([AF,AH,AJ,AG].take [AF,AH,AJ,AG].length).drop 1)⟩:Aj),[],[],(2:Int),false,[]⟩:A7)).2))=(1900:Int))))))))
def LH (s':A7) (edge:Int):Bool:=
 (!(!((C0 (CJ s') edge).1==(EQ s' edge).1))&&(!(!decide ((GE ((C0 (CJ s') edge).2))=(EQ s' edge).2))&&(!(!(HO ((D0 (CJ s')).1) ((Lb s').1)))&&(!(!decide ((GE ((D0 (CJ s')).2))=(Lb s').2))&&((Jm (CJ s') s')&&K9)))))
end
end Go.Lift
namespace Go.Lift
noncomputable section
open Go Go.RowKit
theorem Dj {α:Type} {sz:α→Nat} (h: ∀x,1≤sz x) (xs:List α):xs.length+1≤Eb sz xs:=by
 unfold Eb
 induction xs with
 |nil=>simp
 |cons x xs ih=>have:=h x;simp only [List.map_cons,List.sum_cons,List.length_cons];omega
theorem Ia {α:Type} {sz:α→Nat} {x:α}: ∀ {xs:List α},x∈xs→sz x+1≤Eb sz xs
 | [],h=>by simp at h
 |y::ys,h=>by
  unfold Eb
  simp only [List.map_cons,List.sum_cons]
  rcases List.mem_cons.1 h with rfl|h
  ·omega
  ·have:=Ia (sz:=sz) h;unfold Eb at this;omega
theorem Ye {α:Type} [Inhabited α] {sz:α→Nat} {xs:List α} {i:Nat} (h:i<xs.length):sz (xs.getD i default)+1≤Eb sz xs:=
 Ia (List.mem_of_getElem? (getD_some h))
theorem Bp (xs:List ByteArray):xs.length+1≤Eb (fun s:ByteArray=>s.size+1) xs:=Dj (fun _=>Nat.le_add_left 1 _) xs
theorem A8.sz_one (e:A8):1≤e.sz:=by unfold A8.sz;omega
theorem AD.sz_one (e:AD):1≤e.sz:=by unfold AD.sz;omega
theorem T5 (d:A8):d.sz=Eb (fun s:ByteArray=>s.size+1) d.outs+Eb (fun s:ByteArray=>s.size+1) d.ins+Eb (fun s:ByteArray=>s.size+1) d.implicit+Eb (fun s:ByteArray=>s.size+1) d.order+(d.command.size+1)+1+(d.pool.size+1)+1:=rfl
theorem A3.sz_len (g:A3):g.edges.length≤g.sz:=Nat.le_trans (Nat.le_of_succ_le (Dj A8.sz_one g.edges)) g.sz_edges
theorem Ro (g:A3) (i:Int):Is g i≤g.sz:=by
 unfold Is
 by_cases h:i.toNat<g.edges.length
 ·have h1:=Ye (sz:=A8.sz) h
  have h2:=g.sz_edges
  generalize g.edges.getD i.toNat default=e at*
  have a:=Bp e.ins;have b:=Bp e.implicit;have c:=Bp e.order
  rw [T5] at h1
  omega
 ·rw [List.getD_eq_getElem?_getD,List.getElem?_eq_none (by omega)]
  show (0+0+0:Nat)≤_
  omega
theorem Rq: ∀es:List A8,Lc es≤Eb A8.sz es
 | []=>Nat.zero_le _
 |e::es=>by
  have:=Rq es
  have a:=Bp e.outs;have b:=e.sz_outs
  unfold Eb at*
  simp only [Lc,List.map_cons,List.sum_cons] at*
  omega
theorem Um (g:A3):Lc g.edges≤g.sz:=Nat.le_trans (Rq _) g.sz_edges
end
end Go.Lift
namespace Go.Lift
noncomputable section
open Go Go.RowKit
theorem Lz {α:Type} {p:α→Bool} {L:List α→Nat→Lp Bool Unit} (h0: ∀i,L [] i=Lp.brk ()) (h1: ∀x r i,L (x::r) i=bif !(p x) then Lp.ret false else L r (i+1)): ∀(l:List α) (i:Nat),L l i=if l.all p then Lp.brk () else Lp.ret false
 | [],i=>by rw [h0];rfl
 |x::r,i=>by
  rw [h1,Lz h0 h1 r (i+1),List.all_cons]
  cases p x<;>simp
theorem CL (xs ys:List ByteArray) (k:Nat):BP (xs++ys) k=BP xs k+BP ys k:=by
 induction xs with
 |nil=>simp [BP]
 |cons x xs ih=>simp only [List.cons_append,BP,ih];omega
theorem Fk (xs:List ByteArray) (n k:Nat):BP (xs.take n) k≤BP xs k:=by
 have:=CL (xs.take n) (xs.drop n) k
 rw [List.take_append_drop] at this
 omega
theorem Ou (l:List UInt8) (i:Nat):Ok l i=if l.all Gc then Lp.brk () else Lp.ret false:=
 Lz (p:=Gc) (fun _=>rfl) (fun x r i=>by
  rw [Ok,Wc]
  have e:Nu (x.toNat:Int)=Q1 x.toNat:=by
   unfold Nu Q1
   cases decide ((97:Int)≤(x.toNat:Int))<;>cases decide ((x.toNat:Int)≤122)<;>rfl
  rw [e]
  generalize Q1 x.toNat=a
  generalize decide ((x.toNat:Int)=46)=b
  generalize decide ((x.toNat:Int)=95)=c
  generalize decide ((x.toNat:Int)=45)=d
  generalize decide ((x.toNat:Int)=47)=f
  cases a<;>cases b<;>cases c<;>cases d<;>cases f<;>rfl) l i
theorem DS (s:ByteArray):Hn s=GU s:=by
 unfold Hn
 rw [Ou,Ue]
 cases s.data.toList.all Gc<;>rfl
theorem VS {s:ByteArray} (h:GU s=true):1≤s.size∧s.size≤16:=by
 rw [Ue] at h
 simp only [Bool.and_eq_true,decide_eq_true_eq] at h
 omega
theorem NG {s:ByteArray} (h:Hn s=true):1≤s.size∧s.size≤16:=VS (by rw [←DS];exact h)
theorem JD {s:ByteArray} (h:(!(Hn s))=false):1≤s.size∧s.size≤16:=NG (by simpa using h)
def Lp.val {α:Type}:Lp α α→α
 | .ret a=>a
 | .brk a=>a
theorem Kq (s:ByteArray) (c:Int): ∀(k:Nat) (out:List ByteArray) (f i:Nat),BP out 1≤f→f≤i→i≤s.size+1→BP (Nq s c k out f i).val 1≤s.size+1
 |0,out,f,i,h1,h2,h3=>by simp only [Nq,Lp.val];omega
 |k+1,out,f,i,h1,h2,h3=>by
  rw [Nq]
  by_cases h:((i:Nat):Int)≤((s.size:Nat):Int)
  ·rw [decide_eq_true h,cond_true]
   cases (decide (((i:Nat):Int)=((s.size:Nat):Int))||decide (((s.data.getD i 0).toNat:Int)=c))
   ·exact Kq s c k out f (i+1) h1 (by omega) (by omega)
   ·refine Kq s c k _ (i+1) (i+1) ?_ (Nat.le_refl _) (by omega)
    rw [CL]
    simp only [BP,ByteArray.size_extract]
    omega
  ·rw [decide_eq_false h,cond_false]
   simp only [Lp.val];omega
theorem Q2 (s:ByteArray) (c:Int):BP (Em s c) 1≤s.size+1:=by
 have:=Kq s c (s.size+1-0+1) [] 0 0 (Nat.le_refl _) (Nat.le_refl _) (Nat.zero_le _)
 unfold Em
 cases e:Nq s c (s.size+1-0+1) [] 0 0<;>rw [e] at this<;>exact this
theorem Vk {s:ByteArray} {c:Int} {kept:List ByteArray} {n:Nat} (h:s.size≤16) (hk:BP kept 1+n≤BP (Em s c) 1):BP kept (⟨#[47]⟩:ByteArray).size≤281474976710656:=by
 have:=Q2 s c
 show BP kept 1≤_
 omega
theorem Rb: ∀(xs:List (List ByteArray)) (i n:Nat),WB xs i n=Lp.brk (n+xs.flatten.length)
 | [],i,n=>by simp [WB]
 |x::xs,i,n=>by rw [WB,Rb xs];simp [Nat.add_assoc]
theorem Rc: ∀(xs:List (List ByteArray)) (i:Nat) (out:List ByteArray),Mp xs i out=Lp.brk (out++xs.flatten)
 | [],i,n=>by simp [Mp]
 |x::xs,i,n=>by rw [Mp,Rc xs];simp [List.append_assoc]
theorem Gd (xs:List (List ByteArray)):Ci xs=xs.flatten:=by
 simp only [Ci,Rb,Rc,List.take_zero,List.nil_append]
theorem R9 {g:A3} (h:(!decide ((H9 g)=(0:Int)))=false):g.edges.length≤16:=by
 have h1:H9 g=0:=by simpa using h
 unfold H9 JY at h1
 split at h1
 ·simp at h1
 ·rename_i hm
  have hm':Nw (MZ g)=true:=by simpa using hm
  simp only [Nw,Bool.and_eq_true,decide_eq_true_eq,MZ,List.length_map] at hm'
  have:=hm'.2.1;omega
theorem VK (f:A8→Bool): ∀(xs:List A8) (i:Nat),m_2 f xs i=Lp.brk ()∨ ∃r:Nat,m_2 f xs i=Lp.ret (r:Int)∧i≤r∧r<i+xs.length
 | [],i=>Or.inl rfl
 |x::xs,i=>by
  rw [m_2]
  cases f x
  ·simp only [cond_false]
   rcases VK f xs (i+1) with h|⟨r,h,h1,h2⟩
   ·exact Or.inl h
   ·exact Or.inr ⟨r,h,by omega,by simp only [List.length_cons];omega⟩
  ·exact Or.inr ⟨i,rfl,Nat.le_refl _,by simp⟩
theorem Mr (g:A3) (s:ByteArray):CO g s<(g.edges.length:Int)∧ -1≤CO g s:=by
 unfold CO TM
 rcases VK (fun z0=>U7 z0 s) g.edges 0 with h|⟨r,h,h1,h2⟩
 ·rw [h];exact ⟨by show (-1:Int)<_;omega,Int.le_refl _⟩
 ·rw [h];exact ⟨by show (r:Int)<_;omega,by show (-1:Int)≤r;omega⟩
def inG (g:A3) (k:Int):Prop:=0≤k∧k.toNat<g.edges.length
theorem XP (g:A3): ∀(xs:List (List Int)) (i:Nat) (c:List Int),i+xs.length≤g.edges.length→(∀k∈c,inG g k)→ ∃t c',Py xs i c=Lp.brk (t,c')∧(∀k∈c',inG g k)∧c'.length≤c.length+1
 | [],i,c,_,h=>⟨_,_,rfl,h,by omega⟩
 |x::xs,i,c,hl,h=>by
  simp only [List.length_cons] at hl
  rw [Py]
  cases (!(Iq ((i:Nat):Int) c))
  ·exact XP g xs (i+1) c (by omega) h
  ·simp only [cond_true]
   cases (!(WS x (fun z0=>Om z0 (fun z0=>Iq z0 c))))
   ·exact XP g xs (i+1) c (by omega) h
   ·refine ⟨_,_,rfl,?_,by simp⟩
    intro k hk
    rcases List.mem_append.1 hk with hk|hk
    ·exact h k hk
    ·rw [List.mem_singleton.1 hk];exact ⟨by omega,by omega⟩
theorem XO (g:A3) (row:List (List Int)) (hr:row.length≤g.edges.length): ∀(f:Nat) (c:List Int),(∀k∈c,inG g k)→(∃c',QE g row f c=Lp.brk c'∧(∀k∈c',inG g k)∧(c.length≤g.edges.length→c'.length≤g.edges.length))∨QE g row f c=Lp.ret (([]:List Int),(1001:Int))
 |0,c,h=>Or.inl ⟨c,rfl,h,id⟩
 |f+1,c,h=>by
  rw [QE]
  cases hd:decide (((c.length:Nat):Int)<((g.edges.length:Nat):Int))
  ·exact Or.inl ⟨c,rfl,h,id⟩
  ·have hd':=of_decide_eq_true hd
   obtain ⟨t,c',e,a,l⟩:=XP g row 0 c (by omega) h
   simp only [cond_true,e]
   cases t
   ·exact Or.inr rfl
   ·rcases XO g row hr f c' a with ⟨c2,h1,h2,h3⟩|h1
    ·exact Or.inl ⟨c2,h1,h2,fun _=>h3 (by omega)⟩
    ·exact Or.inr h1
theorem XN (g:A3): ∀(xs:List (List Int)) (i:Nat) (row:List (List Int)),∃row',Px g xs i row=Lp.brk row'∧row'.length=row.length
 | [],i,row=>⟨_,rfl,rfl⟩
 |x::xs,i,row=>by
  rw [Px]
  obtain ⟨r,e,a⟩:=XN g xs (i+1) (row.set i (Ha g ((i:Nat):Int)))
  exact ⟨r,e,by simpa using a⟩
theorem SC {g:A3} {k:Int} (h:k∈(DQ g).1):0≤k∧k.toNat<g.edges.length:=by
 unfold DQ at h
 cases hc:(!decide ((H9 g)=(0:Int)))
 ·rw [hc] at h
  simp only [cond_false] at h
  obtain ⟨row,e,a⟩:=XN g (List.replicate g.edges.length ([]:List Int)) 0 (List.replicate g.edges.length ([]:List Int))
  rw [e] at h
  simp only at h
  rcases XO g row (by rw [a];simp) (g.edges.length-0+1) [] (by simp) with ⟨c,e2,b,_⟩|e2
  ·rw [e2] at h;exact b k h
  ·rw [e2] at h;simp at h
 ·rw [hc] at h;simp at h
theorem of_ok {g:A3} (h:(!decide ((DQ g).2=(0:Int)))=false):g.edges.length≤16∧(DQ g).1.length≤g.edges.length:=by
 have h1:(DQ g).2=0:=by simpa using h
 clear h
 unfold DQ at h1 ⊢
 cases hc:(!decide ((H9 g)=(0:Int)))
 ·rw [hc] at h1
  simp only [cond_false] at h1 ⊢
  refine ⟨R9 hc,?_⟩
  obtain ⟨row,e,a⟩:=XN g (List.replicate g.edges.length ([]:List Int)) 0 (List.replicate g.edges.length ([]:List Int))
  rw [e] at h1 ⊢
  simp only at h1 ⊢
  rcases XO g row (by rw [a];simp) (g.edges.length-0+1) [] (by simp) with ⟨c,e2,b,l⟩|e2
  ·rw [e2];exact l (by simp)
  ·rw [e2] at h1;simp at h1
 ·rw [hc] at h1;simp at h1
end
end Go.Lift
namespace Go.Lift
noncomputable section
open Go Go.RowKit
theorem NN (c:UInt8): ∀l:List UInt8,BD c l≠ []
 | []=>by simp [BD]
 |b::l=>by
  rw [BD]
  split
  ·simp
  ·cases h:BD c l<;>simp
theorem Me (s:ByteArray) (f i:Nat):(s.extract f i).data.toList=(s.data.toList.take i).drop f:=by
 rw [ByteArray.data_extract,Array.toList_extract,List.extract_eq_take_drop,List.take_drop]
 by_cases h:f≤i
 ·rw [show f+(i-f)=i by omega]
 ·rw [show f+(i-f)=f by omega,List.drop_of_length_le (by simp;omega),List.drop_of_length_le (by simp;omega)]
theorem Iw (s:ByteArray): ∀(k:Nat) (out:List ByteArray) (f i:Nat),f≤i→i≤s.size→s.size+1-i<k→
  Nq s 47 k out f i=Lp.brk (out++(match BD 47 (s.data.toList.drop i) with| []=>[]|p::r=>Fw ((s.data.toList.take i).drop f++p)::r.map Fw))
 |0,_,_,_,_,_,h=>by omega
 |k+1,out,f,i,h1,h2,h3=>by
  have hl:=DR s
  rw [Nq,decide_eq_true (by omega),cond_true]
  by_cases hi:i=s.size
  ·subst hi
   rw [decide_eq_true rfl,Bool.true_or,cond_true]
   obtain ⟨k',rfl⟩: ∃k',k=k'+1:=⟨k-1,by omega⟩
   rw [Nq,decide_eq_false (by omega),cond_false,List.drop_of_length_le (by omega)]
   simp only [BD,List.append_nil,List.map_nil]
   rw [←Me,Ks]
  ·have hlt:i<s.data.toList.length:=by omega
   have hd:s.data.toList.drop i=s.data.getD i 0::s.data.toList.drop (i+1):=by
    rw [List.drop_eq_getElem_cons hlt]
    congr 1
    have:i<s.data.size:=by rw [←Array.length_toList];exact hlt
    simp only [Array.getD,this,dif_pos];simp
   have ht:s.data.toList.take (i+1)=s.data.toList.take i++[s.data.getD i 0]:=by
    rw [List.take_add_one,List.getElem?_eq_getElem hlt]
    have:i<s.data.size:=by rw [←Array.length_toList];exact hlt
    simp only [Array.getD,this,dif_pos];simp
   rw [decide_eq_false (by omega),Bool.false_or,hd,BD]
   by_cases hb:s.data.getD i 0=47
   ·rw [if_pos hb,decide_eq_true (by rw [hb];rfl),cond_true,Iw s k _ (i+1) (i+1) (Nat.le_refl _) (by omega) (by omega)]
    simp only [List.append_assoc,List.append_nil,List.singleton_append]
    rw [show Fw ((s.data.toList.take i).drop f)=s.extract f i from by rw [←Me];rfl]
    congr 3
    cases h:BD 47 (s.data.toList.drop (i+1)) with
    |nil=>exact absurd h (NN _ _)
    |cons p r=>simp only [List.map_cons];rw [List.drop_of_length_le (by simp;omega),List.nil_append]
   ·have hn: ¬((s.data.getD i 0).toNat:Int)=47:=fun h=>hb (by
      apply UInt8.toNat_inj.1;show _=47;omega)
    rw [if_neg hb,decide_eq_false hn,cond_false,Iw s k out f (i+1) (by omega) (by omega) (by omega)]
    congr 2
    cases h:BD 47 (s.data.toList.drop (i+1)) with
    |nil=>exact absurd h (NN _ _)
    |cons p r=>
     simp only
     rw [ht,List.drop_append_of_le_length (by simp;omega),List.append_assoc];rfl
theorem QK (s:ByteArray):Em s 47=(BD 47 s.data.toList).map Fw:=by
 unfold Em
 rw [Iw s _ [] 0 0 (Nat.le_refl _) (Nat.zero_le _) (by omega)]
 simp only [List.drop_zero,List.nil_append,List.take_zero]
 cases h:BD 47 s.data.toList with
 |nil=>exact absurd h (NN _ _)
 |cons p r=>rfl
theorem ES: ∀(ps:List ByteArray) (i:Nat) (kept:List ByteArray),Nl ps i kept=match K3 ps kept with
  |none=>Lp.ret ((⟨#[]⟩:ByteArray),(200:Int))
  |some k=>Lp.brk k
 | [],i,kept=>rfl
 |p::ps,i,kept=>by
  rw [Nl,K3,Kr]
  by_cases h1:p=⟨#[]⟩
  ·rw [decide_eq_true h1,cond_true,if_pos (Or.inl h1),ES ps];rfl
  ·rw [decide_eq_false h1,cond_false]
   by_cases h2:p=⟨#[46]⟩
   ·rw [decide_eq_true h2,cond_true,if_pos (Or.inr h2),ES ps];rfl
   ·rw [decide_eq_false h2,cond_false,if_neg (by rintro (h|h);exact h1 h;exact h2 h)]
    by_cases h3:p=⟨#[46,46]⟩
    ·rw [decide_eq_true h3,cond_true,if_neg (fun h=>h h3)]
     by_cases h4:kept=[]
     ·subst h4;rfl
     ·rw [decide_eq_false (by cases kept with
       |nil=>exact absurd rfl h4
       |cons a b=>simp only [List.length_cons];omega),cond_false,if_neg h4,ES ps,List.dropLast_eq_take];rfl
    ·rw [decide_eq_false h3,cond_false,if_pos h3,ES ps];rfl
theorem MF: ∀(xs:List ByteArray) (i:Nat) (acc:ByteArray),0<i→LC ⟨#[47]⟩ xs i acc=Lp.brk (Fw (acc.data.toList++Lib.joinTail [47] (xs.map (·.data.toList))))
 | [],i,acc,_=>by
   rw [LC];simp only [Lib.joinTail,List.map_nil,List.flatten_nil,List.append_nil];rfl
 |x::xs,i,acc,h=>by
  rw [LC,decide_eq_true (by omega),cond_true,MF xs (i+1) _ (by omega)]
  congr 2
  simp [Lib.joinTail]
theorem SH (k:ByteArray) (ks:List ByteArray):FY (k::ks) ⟨#[47]⟩=Tw (k::ks):=by
 unfold FY Tw
 rw [LC,decide_eq_false (by omega),cond_false,MF ks 1 _ (by omega)]
 simp only [List.map_cons,Lib.join_cons]
 show Fw _=_
 unfold Fw
 congr 2
theorem ME (s:ByteArray):Mq s=BA s:=by
 unfold Mq BA
 rw [DS]
 cases hm:GU s
 ·simp
 ·have hz:=VS hm
  have hl:=DR s
  have hh:s.data.toList.head? =some (s.data.getD 0 0):=by
   cases hs:s.data.toList with
   |nil=>rw [hs] at hl;simp at hl;omega
   |cons a b=>
    have:0<s.data.size:=by show 0<s.size;omega
    simp only [Array.getD,this,dif_pos,List.head?_cons]
    have e:s.data.toList[0]? =some a:=by rw [hs];rfl
    rw [Array.getElem?_toList] at e
    rw [Array.getElem?_eq_getElem this] at e
    exact e.symm
  simp only [Bool.not_true,cond_false,Bool.true_eq_false,false_or,hh]
  by_cases hb:s.data.getD 0 0=47
  ·rw [decide_eq_true (by rw [hb];rfl),cond_true,if_pos (by rw [hb])]
  ·have hn: ¬((s.data.getD 0 0).toNat:Int)=47:=fun h=>hb (by
     apply UInt8.toNat_inj.1;show _=47;omega)
   rw [decide_eq_false hn,cond_false,if_neg (by simpa using hb),QK,ES]
   cases K3 ((BD 47 s.data.toList).map Fw) [] with
   |none=>rfl
   |some k=>
    cases k with
    |nil=>rfl
    |cons k ks=>
     simp only
     rw [decide_eq_false (by simp only [List.length_cons];omega),cond_false,SH]
theorem JE (s:ByteArray):Ho s=V3 s:=by
 unfold Ho V3;rw [ME]
theorem Gk (xs:List ByteArray):Jo xs=Ls ⟨false,xs⟩:=by
 unfold Jo Ls
 rw [Lz (p:=V3) (L:=TU) (fun _=>rfl) (fun x r i=>by rw [TU,JE]) xs 0]
 cases xs.all V3<;>simp
theorem Gl (l:List UInt8) (i:Nat):Qu l i=if l.all Fj then Lp.brk () else Lp.ret false:=
 Lz (p:=Fj) (L:=Qu) (fun _=>rfl) (fun x r i=>by
  rw [Qu]
  have e:Fj x=(!decide ((x.toNat:Int)<32)&& !decide ((126:Int)<(x.toNat:Int))):=by
   unfold Fj
   congr 1
   ·rw [←decide_not];congr 1;apply propext;omega
   ·rw [←decide_not];congr 1;apply propext;omega
  rw [e]
  cases decide ((x.toNat:Int)<32)<;>cases decide ((126:Int)<(x.toNat:Int))<;>rfl) l i
theorem Ov (s:ByteArray):Hp s 1 256=FD s:=by
 unfold Hp FD NE
 rw [Gl]
 have e:decide ((1:Int)≤((s.size:Nat):Int))= !decide (s=⟨#[]⟩):=by
  rw [←decide_not];congr 1;apply propext
  constructor
  ·rintro h rfl;exact absurd h (by decide)
  ·intro h
   have:s.size≠0:=fun h0=>h (by
    apply JX
    have:=DR s
    rw [h0] at this
    rw [List.length_eq_zero_iff.1 this])
   omega
 cases s.data.toList.all Fj
 ·simp
 ·simp only [if_true,e,Bool.true_and]
theorem Ot (e:A8):HN e=G5 (S8 e):=by
 unfold HN G5 S8
 simp only [Gk,Ov,DS,List.all_cons,List.all_nil,Bool.and_true]
 have h:decide ((0:Int)<((e.outs.length:Nat):Int))=decide (((e.outs.length:Nat):Int)>0):=rfl
 rw [h]
 generalize decide (((e.outs.length:Nat):Int)>0)=a
 generalize Ls ⟨false,e.outs⟩=b
 generalize Ls ⟨false,e.ins⟩=c
 generalize Ls ⟨false,e.implicit⟩=d
 generalize Ls ⟨false,e.order⟩=f
 cases a<;>cases b<;>cases c<;>cases d<;>cases f<;>simp
theorem V7 {α:Type} {p:α→Bool} {L:List α→Nat→Lp Int Unit} (h0: ∀i,L [] i=Lp.brk ()) (h1: ∀x r i,L (x::r) i=bif p x then Lp.ret ((i:Nat):Int) else L r (i+1)): ∀(l:List α) (i:Nat),L l i=match l.findIdx? p with
  |some j=>Lp.ret (((i+j:Nat)):Int)
  |none=>Lp.brk ()
 | [],i=>by rw [h0];rfl
 |x::r,i=>by
  rw [h1,V7 h0 h1 r (i+1),List.findIdx?_cons]
  cases p x
  ·simp only [cond_false,Bool.false_eq_true,if_false]
   cases r.findIdx? p with
   |none=>rfl
   |some j=>simp only [Option.map_some];congr 2;omega
  ·rfl
theorem XA {α β:Type} (f:α→β) (p:β→Bool) (q:α→Bool) (h: ∀x,p (f x)=q x) (xs:List α):IJ p (xs.map f)=IJ q xs:=by
 unfold IJ
 rw [List.findIdx?_map]
 have:p∘f=q:=funext h
 rw [this]
theorem Kl (g:A3) (name:ByteArray):KZ g.pools name=GW (MZ g) name:=by
 unfold KZ GW
 rw [V7 (p:=fun p:AD=>decide (p.name=name)) (L:=U6 name) (fun _=>rfl) (fun x r i=>by rw [U6]) g.pools 0]
 rw [show (MZ g).pools=g.pools.map pOf from rfl,XA pOf _ (fun p=>decide (p.name=name)) (fun x=>rfl)]
 unfold IJ
 cases g.pools.findIdx? (fun p=>decide (p.name=name)) with
 |none=>rfl
 |some j=>simp
theorem OY {α β:Type} (f:α→β) (p:Nat→β→Bool) (q:Nat→α→Bool) (h: ∀i x,p i (f x)=q i x): ∀(i:Nat) (xs:List α),Gb p i (xs.map f)=Gb q i xs
 |_,[]=>rfl
 |i,x::xs=>by simp only [List.map_cons,Gb,h,OY f p q h (i+1) xs]
theorem Rm {α:Type} {p:Nat→α→Bool} {L:List α→Nat→Lp Bool Unit} (h0: ∀i,L [] i=Lp.brk ()) (h1: ∀x r i,L (x::r) i=bif !(p i x) then Lp.ret false else L r (i+1)): ∀(l:List α) (i:Nat),L l i=if Gb p i l then Lp.brk () else Lp.ret false
 | [],i=>by rw [h0];rfl
 |x::r,i=>by
  rw [h1,Rm h0 h1 r (i+1),Gb]
  cases p i x<;>simp
def MC (g:A3) (k:Nat) (p:AD):Bool:=LM (MZ g) k (pOf p)
theorem L2 (g:A3) (l:List AD) (i:Nat):Ss g l i=if Gb (MC g) i l then Lp.brk () else Lp.ret false:=
 Rm (p:=MC g) (L:=Ss g) (fun _=>rfl) (fun x r i=>by
  rw [Ss,DS,Kl]
  have e:MC g i x=(GU x.name&& !decide (x.depth<1)&& !decide ((8:Int)<x.depth)&&decide (GW (MZ g) x.name=((i:Nat):Int))):=rfl
  rw [e]
  cases GU x.name<;>cases decide (x.depth<1)<;>cases decide ((8:Int)<x.depth)<;>cases decide (GW (MZ g) x.name=((i:Nat):Int))<;>rfl) l i
theorem L3 (g:A3) (l:List A8) (i:Nat):Qq g l i=if l.all (fun e=>Ff (MZ g) (S8 e)) then Lp.brk () else Lp.ret false:=
 Lz (p:=fun e=>Ff (MZ g) (S8 e)) (L:=Qq g) (fun _=>rfl) (fun x r i=>by
  rw [Qq,Ot,Kl]
  have e:Ff (MZ g) (S8 x)=(G5 (S8 x)&&(decide (x.pool=(⟨#[]⟩:ByteArray))|| !decide (GW (MZ g) x.pool<0))):=rfl
  rw [e]
  cases G5 (S8 x)<;>cases decide (x.pool=(⟨#[]⟩:ByteArray))<;>cases decide (GW (MZ g) x.pool<0)<;>rfl) l i
theorem J1 (g:A3):KV g=U4 g:=by
 unfold KV U4 Nw Iu
 rw [L2,L3,Gk]
 rw [show (MZ g).edges=g.edges.map S8 from rfl,show (MZ g).pools=g.pools.map pOf from rfl,List.all_map,List.length_map,List.length_map,OY pOf _ (MC g) (fun _ _=>rfl)]
 rw [show (MZ g).defaults=⟨false,g.defaults⟩ from rfl]
 rw [show (Ff (MZ g)∘S8)=(fun e=>Ff (MZ g) (S8 e)) from rfl]
 cases Gb (MC g) 0 g.pools<;>cases g.edges.all (fun e=>Ff (MZ g) (S8 e))<;>simp
 cases decide (((g.pools.length:Nat):Int)≤4)<;>cases decide (((g.edges.length:Nat):Int)≤16)<;>simp
theorem I7 (xs:List ByteArray) (x:ByteArray):(x∈xs→Mo xs x=true)∧(x∉xs→Mo xs x=false):=by
 have h: ∀(l:List ByteArray) (i:Nat),(x∈l→St x l i=Lp.ret true)∧(x∉l→St x l i=Lp.brk ()):=by
  intro l;induction l with
  |nil=>intro i;exact ⟨fun h=>by simp at h,fun _=>rfl⟩
  |cons y l ih=>
   intro i
   rw [St]
   by_cases hy:y=x
   ·subst hy;rw [decide_eq_true rfl,cond_true];exact ⟨fun _=>rfl,fun h=>absurd (List.mem_cons_self) h⟩
   ·rw [decide_eq_false hy,cond_false]
    refine ⟨fun h=>(ih (i+1)).1 ?_,fun h=>(ih (i+1)).2 fun h2=>h (List.mem_cons_of_mem _ h2)⟩
    rcases List.mem_cons.1 h with h|h
    ·exact absurd h.symm hy
    ·exact h
 unfold Mo
 exact ⟨fun hx=>by rw [(h xs 0).1 hx],fun hx=>by rw [(h xs 0).2 hx]⟩
theorem J0: ∀(l:List ByteArray) (k:Nat) (acc:List ByteArray),acc.Nodup→Ub l k acc=if (acc++l).Nodup then Lp.brk (acc++l) else Lp.ret 901
 | [],k,acc,h=>by rw [List.append_nil,if_pos h];rfl
 |x::l,k,acc,h=>by
  rw [Ub]
  by_cases hx:x∈acc
  ·rw [(I7 acc x).1 hx,cond_true,if_neg]
   intro hn
   rw [List.nodup_append] at hn
   exact hn.2.2 x hx x (by simp) rfl
  ·rw [(I7 acc x).2 hx,cond_false,J0 l (k+1) (acc++[x]) (by
    rw [List.nodup_append]
    exact ⟨h,by simp,fun a ha b hb=>by simp only [List.mem_singleton] at hb;subst hb;rintro rfl;exact hx ha⟩),List.append_assoc,List.singleton_append]
theorem Gj: ∀(es:List A8) (i:Nat) (acc:List ByteArray),acc.Nodup→Ua es i acc=if (acc++es.flatMap (·.outs)).Nodup then Lp.brk () else Lp.ret 901
 | [],i,acc,h=>by rw [List.flatMap_nil,List.append_nil,if_pos h];rfl
 |e::es,i,acc,h=>by
  rw [Ua,J0 _ _ _ h,List.flatMap_cons,←List.append_assoc]
  by_cases hn:(acc++e.outs).Nodup
  ·rw [if_pos hn]
   simp only
   rw [Gj es (i+1) _ hn]
  ·rw [if_neg hn]
   simp only
   rw [if_neg]
   intro h2
   rw [List.nodup_append] at h2
   exact hn h2.1
theorem Lf (g:A3):Pz g=H9 g:=by
 unfold Pz H9 JY
 rw [J1]
 show _=if U4 g=false then _ else _
 cases U4 g
 ·rfl
 ·rw [Gj _ _ _ List.nodup_nil,List.nil_append]
  have e:Dd (MZ g).edges=g.edges.flatMap (·.outs):=by
   unfold Dd
   rw [show (MZ g).edges=g.edges.map S8 from rfl,List.flatMap_map];rfl
  rw [e]
  have hd:=Lx ((g.edges.flatMap (·.outs)).map fun x=>x.data.toList)
  have hn:((g.edges.flatMap (·.outs)).map fun x=>x.data.toList).Nodup↔(g.edges.flatMap (·.outs)).Nodup:=by
   constructor
   ·intro h;exact List.Pairwise.of_map (fun x:ByteArray=>x.data.toList) (fun a b hh hab=>hh (by rw [hab])) h
   ·intro h;exact List.Pairwise.map _ (fun a b hab hh=>hab (JX hh)) h
  by_cases h:(g.edges.flatMap (·.outs)).Nodup
  ·rw [if_pos h]
   have:Io ((g.edges.flatMap (·.outs)).map fun x=>x.data.toList)=false:=by
    cases hh:Io ((g.edges.flatMap (·.outs)).map fun x=>x.data.toList)
    ·rfl
    ·exact absurd (hn.2 h) (hd.1 hh)
   rw [this];rfl
  ·rw [if_neg h]
   have:Io ((g.edges.flatMap (·.outs)).map fun x=>x.data.toList)=true:=hd.2 (fun hh=>h (hn.1 hh))
   rw [this];rfl
end
end Go.Lift
namespace Go.Lift
noncomputable section
open Go Go.RowKit
def H2 (g:A3) (n:ByteArray):Int:=IJ (fun e=>Lib.containsS e.outs n) g.edges
theorem mkD_in (g:A3) (x:ByteArray):H2 g x= -1∨ ∃i e,H2 g x=((i:Nat):Int)∧g.edges[i]? =some e∧x∈e.outs:=by
 unfold H2 IJ
 cases h:g.edges.findIdx? (fun e=>Lib.containsS e.outs x) with
 |none=>exact Or.inl rfl
 |some i=>
  obtain ⟨hi,h2,_⟩:=List.findIdx?_eq_some_iff_getElem.1 h
  exact Or.inr ⟨i,g.edges[i],rfl,List.getElem?_eq_getElem hi,(Lib.containsS_iff _ _).1 h2⟩
end
end Go.Lift
namespace Go.Lift
noncomputable section
open Go Go.RowKit
theorem UT (g:A3):H9 g=if U4 g=false then 900 else if (g.edges.flatMap (·.outs)).Nodup then 0 else 901:=by
 rw [←Lf]
 unfold Pz
 rw [J1]
 cases U4 g
 ·rfl
 ·rw [Gj _ _ _ List.nodup_nil,List.nil_append]
  by_cases h:(g.edges.flatMap (·.outs)).Nodup
  ·rw [if_pos h,if_pos h];rfl
  ·rw [if_neg h,if_neg h];rfl
end
end Go.Lift
namespace Go.Lift
noncomputable section
open Go Go.RowKit
theorem H8 {α:Type} {p:α→Bool} {L:List α→Nat→Lp Int Unit} (h0: ∀i,L [] i=Lp.brk ()) (h1: ∀x r i,L (x::r) i=bif p x then Lp.ret ((i:Nat):Int) else L r (i+1)) (l:List α):
  (match L l 0 with|Lp.ret r=>r|Lp.brk ()=>(-1:Int))=IJ p l:=by
 rw [V7 h0 h1 l 0];unfold IJ
 cases l.findIdx? p with
 |none=>rfl
 |some j=>simp
theorem Ej {α:Type} (p:α→Bool) (l:List α):decide ((0:Int)≤IJ p l)=l.any p:=by
 unfold IJ
 cases h:l.findIdx? p with
 |none=>
  have:=List.findIdx?_eq_none_iff.1 h
  rw [show l.any p=false from by simpa using this];rfl
 |some j=>
  obtain ⟨hj,h2,_⟩:=List.findIdx?_eq_some_iff_getElem.1 h
  rw [List.any_eq_true.2 ⟨l[j],List.getElem_mem hj,h2⟩]
  simp
theorem S2 (xs:List ByteArray) (v:ByteArray):V8 xs v=Lib.containsS xs v:=by
 unfold V8 TJ
 refine (congrArg (fun z=>decide ((0:Int)≤z)) (H8 (p:=fun y=>decide (v=y)) (fun _=>rfl) (fun _ _ _=>rfl) xs)).trans ?_
 rw [Ej]
 cases hc:Lib.containsS xs v
 ·rw [List.any_eq_false]
  intro y hy e
  have:v=y:=by simpa using e
  subst this
  rw [(Lib.containsS_iff _ _).2 hy] at hc;cases hc
 ·exact List.any_eq_true.2 ⟨v,(Lib.containsS_iff _ _).1 hc,by simp⟩
theorem M6 (xs:List Int) (v:Int):Og xs v=xs.contains v:=by
 unfold Og TP
 refine (congrArg (fun z=>decide ((0:Int)≤z)) (H8 (p:=fun y=>decide (v=y)) (fun _=>rfl) (fun _ _ _=>rfl) xs)).trans ?_
 rw [Ej]
 rw [Bool.eq_iff_iff];simp
theorem Na (xs:List Int) (f:Int→Bool):WS xs f=xs.any f:=by
 unfold WS TQ
 exact (congrArg (fun z=>decide ((0:Int)≤z)) (H8 (p:=f) (fun _=>rfl) (fun _ _ _=>rfl) xs)).trans (Ej _ _)
theorem Nv (g:A3) (x:ByteArray):CO g x=H2 g x:=by
 unfold CO TM H2
 refine (H8 (p:=fun e=>U7 e x) (fun _=>rfl) (fun _ _ _=>rfl) g.edges).trans ?_
 congr 1;funext e;exact S2 e.outs x
theorem has_str (xs:List ByteArray) (x:ByteArray):Mo xs x=Lib.containsS xs x:=by
 cases hc:Lib.containsS xs x
 ·exact (I7 xs x).2 fun h=>by rw [(Lib.containsS_iff _ _).2 h] at hc;cases hc
 ·exact (I7 xs x).1 ((Lib.containsS_iff _ _).1 hc)
theorem HV (g:A3) (x:ByteArray):Hq g x=H2 g x:=by
 unfold Hq H2
 refine (H8 (p:=fun e=>Mo e.outs x) (fun _=>rfl) (fun _ _ _=>rfl) g.edges).trans ?_
 congr 1;funext e;exact has_str e.outs x
def Pn (g:A3) (e:Int):List ByteArray:=(g.edges.getD e.toNat default).ins++((g.edges.getD e.toNat default).implicit++(g.edges.getD e.toNat default).order)
theorem Hc (g:A3): ∀(xs:List ByteArray) (i:Nat) (out:List Int),∃out',QA g xs i out=Lp.brk out'∧ ∀k,k∈out'↔k∈out∨(0≤k∧ ∃x∈xs,H2 g x=k)
 | [],i,out=>⟨out,rfl,fun k=>by simp⟩
 |x::xs,i,out=>by
  rw [QA,Nv,M6]
  by_cases h1:0≤H2 g x
  ·by_cases h2:H2 g x∈out
   ·obtain ⟨o,e1,e2⟩:=Hc g xs (i+1) out
    refine ⟨o,by simp [h1,h2,e1],fun k=> ?_⟩
    rw [e2]
    constructor
    ·rintro (h|⟨h,y,hy,e⟩)
     ·exact Or.inl h
     ·exact Or.inr ⟨h,y,by simp [hy],e⟩
    ·rintro (h|⟨h,y,hy,e⟩)
     ·exact Or.inl h
     ·rcases List.mem_cons.1 hy with rfl|hy
      ·subst e;exact Or.inl h2
      ·exact Or.inr ⟨h,y,hy,e⟩
   ·obtain ⟨o,e1,e2⟩:=Hc g xs (i+1) (out++[H2 g x])
    refine ⟨o,by simp [h1,h2,e1],fun k=> ?_⟩
    rw [e2,List.mem_append,List.mem_singleton]
    constructor
    ·rintro ((h|h)|⟨h,y,hy,e⟩)
     ·exact Or.inl h
     ·subst h;exact Or.inr ⟨h1,x,by simp,rfl⟩
     ·exact Or.inr ⟨h,y,by simp [hy],e⟩
    ·rintro (h|⟨h,y,hy,e⟩)
     ·exact Or.inl (Or.inl h)
     ·rcases List.mem_cons.1 hy with rfl|hy
      ·exact Or.inl (Or.inr e.symm)
      ·exact Or.inr ⟨h,y,hy,e⟩
  ·obtain ⟨o,e1,e2⟩:=Hc g xs (i+1) out
   refine ⟨o,by simp [h1,e1],fun k=> ?_⟩
   rw [e2]
   constructor
   ·rintro (h|⟨h,y,hy,e⟩)
    ·exact Or.inl h
    ·exact Or.inr ⟨h,y,by simp [hy],e⟩
   ·rintro (h|⟨h,y,hy,e⟩)
    ·exact Or.inl h
    ·rcases List.mem_cons.1 hy with rfl|hy
     ·omega
     ·exact Or.inr ⟨h,y,hy,e⟩
theorem Rp (g:A3) (e k:Int):k∈Ha g e↔0≤k∧ ∃x∈Pn g e,H2 g x=k:=by
 unfold Ha
 rw [Gd]
 obtain ⟨o,e1,e2⟩:=Hc g ([(g.edges.getD e.toNat default).ins,(g.edges.getD e.toNat default).implicit,(g.edges.getD e.toNat default).order].flatten) 0 []
 rw [e1]
 show k∈o↔_
 rw [e2]
 simp [Pn]
theorem Ix (g:A3): ∀(xs:List ByteArray) (i:Nat) (out:List Int),∃out',Sv g xs i out=Lp.brk out'∧ ∀k,k∈out'↔k∈out∨(0≤k∧ ∃x∈xs,H2 g x=k)
 | [],i,out=>⟨out,rfl,fun k=>by simp⟩
 |x::xs,i,out=>by
  rw [Sv,HV]
  by_cases h1:0≤H2 g x
  ·obtain ⟨o,e1,e2⟩:=Ix g xs (i+1) (out++[H2 g x])
   refine ⟨o,by simp [h1,e1],fun k=> ?_⟩
   rw [e2,List.mem_append,List.mem_singleton]
   constructor
   ·rintro ((h|h)|⟨h,y,hy,e⟩)
    ·exact Or.inl h
    ·subst h;exact Or.inr ⟨h1,x,by simp,rfl⟩
    ·exact Or.inr ⟨h,y,by simp [hy],e⟩
   ·rintro (h|⟨h,y,hy,e⟩)
    ·exact Or.inl (Or.inl h)
    ·rcases List.mem_cons.1 hy with rfl|hy
     ·exact Or.inl (Or.inr e.symm)
     ·exact Or.inr ⟨h,y,hy,e⟩
  ·obtain ⟨o,e1,e2⟩:=Ix g xs (i+1) out
   refine ⟨o,by simp [h1,e1],fun k=> ?_⟩
   rw [e2]
   constructor
   ·rintro (h|⟨h,y,hy,e⟩)
    ·exact Or.inl h
    ·exact Or.inr ⟨h,y,by simp [hy],e⟩
   ·rintro (h|⟨h,y,hy,e⟩)
    ·exact Or.inl h
    ·rcases List.mem_cons.1 hy with rfl|hy
     ·omega
     ·exact Or.inr ⟨h,y,hy,e⟩
theorem PR (g:A3) (e k:Int):k∈Fh g e↔0≤k∧ ∃x∈Pn g e,H2 g x=k:=by
 unfold Fh
 obtain ⟨o,e1,e2⟩:=Ix g (((g.edges.getD e.toNat default).ins++(g.edges.getD e.toNat default).implicit)++(g.edges.getD e.toNat default).order) 0 []
 rw [e1]
 show k∈o↔_
 rw [e2]
 simp [Pn]
theorem PC (g:A3) (e k:Int):k∈Ha g e↔k∈Fh g e:=by rw [Rp,PR]
theorem XK (g:A3) (x:ByteArray):H2 g x<(g.edges.length:Int):=by
 rcases mkD_in g x with h|⟨i,e,h,he,_⟩
 ·rw [h];omega
 ·rw [h];have:=(List.getElem?_eq_some_iff.1 he).1;omega
theorem LP {g:A3} {e k:Int} (h:k∈Fh g e):0≤k∧k.toNat<g.edges.length:=by
 obtain ⟨h0,x,_,e1⟩:=(PR g e k).1 h
 have:=XK g x
 omega
def HU (g:A3) (out:List Int) (i:Nat):Bool:= !(out.contains ((i:Nat):Int))&&(Ha g ((i:Nat):Int)).all fun k=>out.contains k
def Mx (g:A3) (out:List Int):Option Nat:=(List.range g.edges.length).find? (HU g out)
def Nz (g:A3):Nat→List Int→Option (List Int)
 |0,out=>some out
 |f+1,out=>match Mx g out with
  |some i=>Nz g f (out++[((i:Nat):Int)])
  |none=>none
theorem Uj (g:A3) (c:List Int): ∀(l i:Nat),Py ((List.range' i l).map fun i=>Ha g ((i:Nat):Int)) i c=match (List.range' i l).find? (HU g c) with
  |some j=>Lp.brk (true,c++[((j:Nat):Int)])
  |none=>Lp.brk (false,c)
 |0,i=>rfl
 |l+1,i=>by
  rw [List.range'_succ,List.map_cons,Py,Uj g c l (i+1),List.find?_cons]
  have e:(!(Iq ((i:Nat):Int) c)&& !(WS (Ha g ((i:Nat):Int)) (fun z0=>Om z0 (fun z0=>Iq z0 c))))=HU g c i:=by
   unfold HU Iq Om
   rw [Na]
   simp only [M6]
   congr 1
   rw [Bool.eq_iff_iff];simp
  rw [←e]
  cases (!(Iq ((i:Nat):Int) c))<;>cases (!(WS (Ha g ((i:Nat):Int)) (fun z0=>Om z0 (fun z0=>Iq z0 c))))<;>rfl
theorem Uh (g:A3): ∀(xs:List (List Int)) (i:Nat) (row:List (List Int)),i+xs.length≤row.length→ ∃row',Px g xs i row=Lp.brk row'∧row'.length=row.length∧ ∀j,row'[j]? =if i≤j∧j<i+xs.length then some (Ha g ((j:Nat):Int)) else row[j]?
 | [],i,row,h=>⟨row,rfl,rfl,fun j=>by rw [if_neg (by simp)]⟩
 |x::xs,i,row,h=>by
  simp only [List.length_cons] at h
  obtain ⟨r,e1,e2,e3⟩:=Uh g xs (i+1) (row.set i (Ha g ((i:Nat):Int))) (by simp;omega)
  refine ⟨r,by rw [Px];exact e1,by simpa using e2,fun j=> ?_⟩
  rw [e3,List.getElem?_set,List.length_cons]
  by_cases h1:i=j
  ·subst h1;rw [if_neg (by omega),if_pos rfl]
   have:i<row.length:=by omega
   simp [this]
  ·rw [if_neg h1]
   by_cases h2:i+1≤j∧j<i+1+xs.length
   ·rw [if_pos h2,if_pos (by omega)]
   ·rw [if_neg h2,if_neg (by omega)]
theorem of_rows (g:A3):Px g (List.replicate g.edges.length ([]:List Int)) 0 (List.replicate g.edges.length ([]:List Int))=Lp.brk ((List.range' 0 g.edges.length).map fun i=>Ha g ((i:Nat):Int)):=by
 obtain ⟨r,e1,e2,e3⟩:=Uh g (List.replicate g.edges.length ([]:List Int)) 0 (List.replicate g.edges.length ([]:List Int)) (by simp)
 rw [e1];congr 1
 apply List.ext_getElem?
 intro j
 rw [e3,List.getElem?_map]
 simp only [List.length_replicate] at e2 ⊢
 by_cases h:j<g.edges.length
 ·rw [if_pos ⟨Nat.zero_le _,by omega⟩,List.getElem?_range' h];simp
 ·rw [if_neg (by omega),List.getElem?_eq_none (by simp;omega),List.getElem?_eq_none (by simp;omega)];rfl
theorem Ui (g:A3): ∀(f:Nat) (c:List Int),c.length≤g.edges.length→g.edges.length-c.length<f→QE g ((List.range' 0 g.edges.length).map fun i=>Ha g ((i:Nat):Int)) f c=match Nz g (g.edges.length-c.length) c with
  |some o=>Lp.brk o
  |none=>Lp.ret (([]:List Int),(1001:Int))
 |0,c,h1,h2=>by omega
 |f+1,c,h1,h2=>by
  rw [QE]
  by_cases h:c.length<g.edges.length
  ·rw [decide_eq_true (by omega),cond_true,Uj,←List.range_eq_range']
   rw [show g.edges.length-c.length=(g.edges.length-(c.length+1))+1 by omega,Nz]
   show (match (match Mx g c with|some j=>Lp.brk (true,c++[((j:Nat):Int)])|none=>Lp.brk (false,c):Lp (List Int×Int) (Bool×List Int)) with|Lp.ret r=>Lp.ret r|Lp.brk (t',c')=>_)=_
   cases hn:Mx g c with
   |none=>rfl
   |some j=>
    simp only [cond_true]
    have:=Ui g f (c++[((j:Nat):Int)]) (by simp;omega) (by simp;omega)
    rw [List.length_append,List.length_singleton,←List.range_eq_range'] at this
    exact this
  ·rw [decide_eq_false (by omega),cond_false,show g.edges.length-c.length=0 by omega];rfl
theorem Uk (g:A3):DQ g=if H9 g=0 then (match Nz g g.edges.length [] with|some o=>(o,(0:Int))|none=>(([]:List Int),(1001:Int))) else (([]:List Int),(1000:Int)):=by
 unfold DQ
 by_cases h:H9 g=0
 ·rw [if_pos h,decide_eq_true h]
  simp only [Bool.not_true,cond_false]
  rw [of_rows]
  simp only []
  rw [Ui g _ [] (Nat.zero_le _) (by simp)]
  simp only [List.length_nil,Nat.sub_zero]
  cases Nz g g.edges.length []<;>rfl
 ·rw [if_neg h,decide_eq_false h];rfl
inductive Steps (g:A3):List Int→Prop
 |nil:Steps g []
 |snoc {out:List Int} {i:Nat} (h:Steps g out) (hn:Mx g out=some i):Steps g (out++[((i:Nat):Int)])
theorem PF (g:A3): ∀(f:Nat) (out o:List Int),Steps g out→Nz g f out=some o→Steps g o∧o.length=out.length+f∧ ∃r,o=out++r
 |0,out,o,h,e=>by simp only [Nz,Option.some.injEq] at e;subst e;exact ⟨h,rfl,[],by simp⟩
 |f+1,out,o,h,e=>by
  simp only [Nz] at e
  split at e
  ·rename_i i hi
   obtain ⟨h1,h2,r,h3⟩:=PF g f _ o (h.snoc hi) e
   exact ⟨h1,by rw [h2];simp;omega,[((i:Nat):Int)]++r,by rw [h3];simp⟩
  ·cases e
theorem of_steps {g:A3} (h:(DQ g).2=0):Steps g (DQ g).1∧(DQ g).1.length=g.edges.length∧H9 g=0:=by
 rw [Uk] at h ⊢
 split at h<;>rename_i hc
 ·rw [if_pos hc]
  cases ho:Nz g g.edges.length [] with
  |none=>rw [ho] at h;simp at h
  |some o=>
   obtain ⟨h1,h2,_⟩:=PF g _ _ _ .nil ho
   exact ⟨h1,by simpa using h2,hc⟩
 ·simp at h
theorem of_none {g:A3} (h:(DQ g).2≠0):(DQ g).1=[]:=by
 rw [Uk] at h ⊢
 split at h<;>rename_i hc
 ·rw [if_pos hc]
  cases ho:Nz g g.edges.length [] with
  |none=>rfl
  |some o=>rw [ho] at h;simp at h
 ·rw [if_neg hc]
theorem LK {g:A3} {out:List Int} {i:Nat} (h:Mx g out=some i):i<g.edges.length∧HU g out i=true∧ ∀k,k<i→HU g out k=false:=by
 unfold Mx at h
 have h1:=List.mem_of_find?_eq_some h
 refine ⟨by simpa using h1,List.find?_some h,fun k hk=> ?_⟩
 have:=List.find?_range_eq_some.1 h
 simpa using this.2.2 k hk
theorem Vm {g:A3} {o:List Int} (h:Steps g o): ∀(k:Nat) (x:Int),o[k]? =some x→ ∃i:Nat,x=((i:Nat):Int)∧Steps g (o.take k)∧Mx g (o.take k)=some i:=by
 induction h with
 |nil=>intro k x hx;simp at hx
 | @snoc out i h hn ih=>
   intro k x hx
   rcases Nat.lt_trichotomy k out.length with q|q|q
   ·rw [List.getElem?_append_left q] at hx
    obtain ⟨j,h1,h2,h3⟩:=ih k x hx
    rw [List.take_append_of_le_length (Nat.le_of_lt q)]
    exact ⟨j,h1,h2,h3⟩
   ·subst q
    rw [List.getElem?_append_right (Nat.le_refl _),Nat.sub_self] at hx
    simp at hx;subst hx
    exact ⟨i,rfl,by simpa using h,by simpa using hn⟩
   ·rw [List.getElem?_eq_none (by simp;omega)] at hx;cases hx
end
end Go.Lift
namespace Go.Lift
noncomputable section
open Go Go.RowKit
theorem Tn (a:A8):LD a=a:=rfl
theorem M7: ∀(xs:List A8) (i:Nat) (c:List A8),Sr xs i c=Lp.brk (c++xs)
 | [],i,c=>by simp [Sr]
 |x::r,i,c=>by rw [Sr,M7 r (i+1),Tn];simp
theorem S3 (g:A3):Jl g=g:=by
 unfold Jl;rw [M7];rfl
theorem MM: ∀(xs pre:List ByteArray),U3 (pre++xs) xs pre.length=Lp.brk ()
 | [],pre=>rfl
 |x::r,pre=>by
  have h:=MM r (pre++[x])
  rw [U3]
  simp only [List.append_assoc,List.singleton_append,List.length_append,List.length_singleton] at h
  simp [List.getD_eq_getElem?_getD,h]
theorem FP (xs:List ByteArray):Jz xs xs=true:=by
 unfold Jz
 have:=MM xs []
 simp only [List.nil_append,List.length_nil] at this
 rw [this];simp
theorem ML: ∀(xs pre:List AD),U2 (pre++xs) xs pre.length=Lp.brk ()
 | [],pre=>rfl
 |x::r,pre=>by
  have h:=ML r (pre++[x])
  rw [U2]
  simp only [List.append_assoc,List.singleton_append,List.length_append,List.length_singleton] at h
  simp [List.getD_eq_getElem?_getD,h]
theorem PX (xs:List AD):Qz xs xs=true:=by
 unfold Qz
 have:=ML xs []
 simp only [List.nil_append,List.length_nil] at this
 rw [this];simp
theorem QL (e:A8):Mm e e=true:=by
 simp [Mm,FP]
theorem MK (g:A3): ∀(xs pre:List A8),g.edges=pre++xs→U1 g xs pre.length=Lp.brk ()
 | [],pre,_=>rfl
 |x::r,pre,e=>by
  have h:=MK g r (pre++[x]) (by simp [e])
  rw [U1]
  simp only [List.length_append,List.length_singleton] at h
  have:g.edges.getD pre.length default=x:=by rw [e];simp [List.getD_eq_getElem?_getD]
  rw [this,QL,h];rfl
theorem PW (g:A3):Oh g g=true:=by
 unfold Oh
 have:=MK g g.edges [] rfl
 simp only [List.length_nil] at this
 rw [this];simp [PX,FP]
end
end Go.Lift
namespace Go.Lift
noncomputable section
open Go Go.RowKit
def Wn (n:Nat) (out:List Int):List Bool:=(List.range n).map fun k=>out.contains ((k:Nat):Int)
theorem Sa {n k:Nat} (out:List Int) (h:k<n):(Wn n out).getD k default=out.contains ((k:Nat):Int):=by
 unfold Wn
 rw [List.getD_eq_getElem?_getD,List.getElem?_map,List.getElem?_range h];rfl
theorem flR_nil (n:Nat):Wn n []=List.replicate n false:=by
 apply List.ext_getElem?
 intro i
 unfold Wn
 rw [List.getElem?_map,List.getElem?_replicate]
 by_cases h:i<n
 ·rw [List.getElem?_range h,if_pos h];rfl
 ·rw [List.getElem?_eq_none (by simp;omega),if_neg h];rfl
theorem flR_set {n i:Nat} (out:List Int) (h:i<n):(Wn n out).set i true=Wn n (out++[((i:Nat):Int)]):=by
 apply List.ext_getElem?
 intro k
 unfold Wn
 rw [List.getElem?_set,List.getElem?_map,List.getElem?_map]
 by_cases hk:k<n
 ·rw [List.getElem?_range hk]
  simp only [List.length_map,List.length_range,Option.map_some]
  by_cases e:i=k
  ·subst e;rw [if_pos rfl,if_pos h];simp
  ·rw [if_neg e];congr 1;rw [Bool.eq_iff_iff];simp;omega
 ·rw [List.getElem?_eq_none (by simp;omega)]
  rw [if_neg (by omega)];rfl
theorem ro_key (g:A3) (out:List Int) (e:Int):(Fh g e).all (fun k:Int=>(Wn g.edges.length out).getD k.toNat default)=(Ha g e).all fun k=>out.contains k:=by
 rw [Bool.eq_iff_iff,List.all_eq_true,List.all_eq_true]
 constructor
 ·intro h k hk
  have hk':=(PC g e k).1 hk
  have h1:=h k hk'
  obtain ⟨m1,m2⟩:=LP hk'
  rw [Sa out m2,show ((k.toNat:Nat):Int)=k by omega] at h1
  exact h1
 ·intro h k hk
  have h1:=h k ((PC g e k).2 hk)
  obtain ⟨m1,m2⟩:=LP hk
  rw [Sa out m2,show ((k.toNat:Nat):Int)=k by omega]
  exact h1
theorem Y6 (row:List Bool): ∀(xs:List Int) (k:Nat) (b:Bool),Qt row xs k b=Lp.brk (b&&xs.all fun k=>row.getD k.toNat default)
 | [],k,b=>by simp [Qt]
 |x::r,k,b=>by
  rw [Qt]
  cases b
  ·rw [cond_false,Y6 row r];rfl
  ·rw [cond_true,Y6 row r,List.all_cons];rfl
theorem ro_L2 (g:A3) (out:List Int): ∀(j f:Nat) (next i:Int),i+1=((j:Nat):Int)→j≤g.edges.length→j<f→
  Sw (Wn g.edges.length out) g f next i=Lp.brk (match (List.range j).find? (HU g out) with|some k=>((k:Nat):Int)|none=>next)
 |0,0,_,_,_,_,hf=>by omega
 |0,f+1,next,i,hi,hl,hf=>by
  rw [Sw,decide_eq_false (by omega),cond_false];rfl
 |j+1,0,_,_,_,_,hf=>by omega
 |j+1,f+1,next,i,hi,hl,hf=>by
  obtain rfl:i=((j:Nat):Int):=by omega
  rw [Sw,decide_eq_true (by omega),cond_true,Y6]
  have hfr:(!(Wn g.edges.length out).getD ((j:Nat):Int).toNat default&&(Fh g ((j:Nat):Int)).all fun k=>(Wn g.edges.length out).getD k.toNat default)=HU g out j:=by
   rw [ro_key,Int.toNat_natCast,Sa out (by omega)];rfl
  rw [hfr]
  have ih:=fun nx=>ro_L2 g out j f nx (((j:Nat):Int)-1) (by omega) (by omega) (by omega)
  rw [List.range_succ,List.find?_append]
  cases hp:HU g out j
  ·simp only [cond_false]
   rw [ih]
   cases (List.range j).find? (HU g out)<;>simp [hp]
  ·simp only [cond_true]
   rw [ih]
   cases (List.range j).find? (HU g out)<;>simp [hp]
theorem ro_L1 (g:A3): ∀(f:Nat) (c:List Int),c.length≤g.edges.length→g.edges.length-c.length<f→Vb g f c (Wn g.edges.length c)=match Nz g (g.edges.length-c.length) c with
  |some o=>Lp.brk (o,Wn g.edges.length o)
  |none=>Lp.ret (([]:List Int),(1001:Int))
 |0,c,h1,h2=>by omega
 |f+1,c,h1,h2=>by
  rw [Vb]
  by_cases h:c.length<g.edges.length
  ·rw [decide_eq_true (by omega),cond_true,ro_L2 g c g.edges.length _ _ _ (by omega) (Nat.le_refl _) (by omega)]
   rw [show g.edges.length-c.length=(g.edges.length-(c.length+1))+1 by omega,Nz]
   have hnp:(List.range g.edges.length).find? (HU g c)=Mx g c:=rfl
   simp only [hnp]
   cases hn:Mx g c with
   |none=>rfl
   |some j=>
    have hj:=(LK hn).1
    simp only []
    rw [decide_eq_false (by omega),cond_false,Int.toNat_natCast,flR_set c hj]
    have:=ro_L1 g f (c++[((j:Nat):Int)]) (by simp;omega) (by simp;omega)
    rw [List.length_append,List.length_singleton] at this
    exact this
  ·rw [decide_eq_false (by omega),cond_false,show g.edges.length-c.length=0 by omega];rfl
theorem Gz (g:A3):Hb g=DQ g:=by
 rw [Uk]
 unfold Hb
 rw [Lf]
 by_cases h:H9 g=0
 ·rw [if_pos h,decide_eq_true h]
  simp only [Bool.not_true,cond_false]
  rw [←flR_nil,ro_L1 g _ [] (Nat.zero_le _) (by simp)]
  simp only [List.length_nil,Nat.sub_zero]
  cases Nz g g.edges.length []<;>rfl
 ·rw [if_neg h,decide_eq_false h];rfl
theorem Vd (g:A3) (x:ByteArray):Hq g x<(g.edges.length:Int):=by rw [HV];exact XK g x
theorem Vj (g:A3):(Hb g).1.length≤g.edges.length:=by
 rw [Gz]
 by_cases h:(DQ g).2=0
 ·exact (of_ok (by rw [decide_eq_true h];rfl)).2
 ·rw [of_none h];exact Nat.zero_le _
end
end Go.Lift
namespace Go.Lift
noncomputable section
open Go Go.RowKit
theorem X8 (xs:List ByteArray):G2 xs 8=(xs.all (fun s=>EU s)&&decide (((xs.length:Nat):Int)≤8)):=by
 unfold G2
 rw [Lz (L:=Vc) (p:=fun s=>EU s) (fun _=>rfl) (fun _ _ _=>rfl)]
 cases xs.all (fun s=>EU s)<;>rfl
end
end Go.Lift
namespace Go.Lift
noncomputable section
open Go Go.RowKit
end
end Go.Lift
namespace Go.Lift
noncomputable section
open Go Go.RowKit
theorem may_of {g:A3} (h:H9 g=0):U4 g=true:=by
 rw [UT] at h
 cases hm:U4 g
 ·rw [hm] at h;simp at h
 ·rfl
theorem edge_ok {g:A3} (h:H9 g=0) {e:A8} (he:e∈g.edges):G5 (S8 e)=true:=by
 have h0:((g.edges.map S8).all (Ff (MZ g))&&(decide (((g.edges.map S8).length:Int)≤16)&&Iu (MZ g)&&Ls (MZ g).defaults))=true:=may_of h
 rw [Bool.and_eq_true,List.all_eq_true] at h0
 have:=h0.1 (S8 e) (List.mem_map_of_mem he)
 unfold Ff at this
 rw [Bool.and_eq_true] at this
 exact this.1
theorem Uo {g:A3} (h:H9 g=0) {e:A8} (he:e∈g.edges):0<e.outs.length:=by
 have:=edge_ok h he
 unfold G5 at this
 simp only [Bool.and_eq_true,decide_eq_true_eq] at this
 have h2:=this.2.1
 have:(S8 e).outs.xs=e.outs:=rfl
 rw [this] at h2;omega
theorem Ru (s:ByteArray):EU s=V3 s:=by
 unfold EU V3;rfl
theorem PL (xs:List ByteArray):Jo xs=G2 xs 8:=by
 rw [Gk,X8]
 unfold Ls
 have:(fun s=>EU s)=V3:=funext Ru
 rw [this]
end
end Go.Lift
namespace Go.Lift
noncomputable section
open Go Go.RowKit
theorem O5 (b:List Int): ∀(l:List Int) (i:Nat),l=b.drop i→TS b l i=Lp.brk ()
 | [],i,_=>rfl
 |x::l,i,h=>by
  have hx:b[i]? =some x:=by
   have:=congrArg (·[0]?) h
   simpa using this.symm
  have hl:l=b.drop (i+1):=by
   have:=congrArg (List.drop 1) h
   simpa [List.drop_drop,Nat.add_comm] using this
  rw [TS,O5 b l (i+1) hl,List.getD_eq_getElem?_getD,hx]
  simp
theorem QM (b:List Int):Qs b b=true:=by
 unfold Qs
 rw [O5 b b 0 (by simp)]
 simp
theorem MJ (b:List Bool): ∀(l:List Bool) (i:Nat),l=b.drop i→TZ b l i=Lp.brk ()
 | [],i,_=>rfl
 |x::l,i,h=>by
  have hx:b[i]? =some x:=by
   have:=congrArg (·[0]?) h
   simpa using this.symm
  have hl:l=b.drop (i+1):=by
   have:=congrArg (List.drop 1) h
   simpa [List.drop_drop,Nat.add_comm] using this
  rw [TZ,MJ b l (i+1) hl,List.getD_eq_getElem?_getD,hx]
  simp
theorem PU (b:List Bool):HO b b=true:=by
 unfold HO
 rw [MJ b b 0 (by simp)]
 simp
end
end Go.Lift
namespace Go.Lift
noncomputable section
open Go Go.RowKit
theorem Ae.sz_one (e:Ae):1≤e.sz:=by unfold Ae.sz;omega
theorem A2.sz_one (e:A2):1≤e.sz:=by unfold A2.sz;omega
theorem Ak.sz_one (e:Ak):1≤e.sz:=by unfold Ak.sz;omega
theorem A6.sz_one (e:A6):1≤e.sz:=by unfold A6.sz;omega
end
end Go.Lift
namespace Go.Lift
noncomputable section
open Go Go.RowKit
theorem LA {α:Type} {p:α→Bool} {L:List α→Nat→Lp Bool Unit} (h0: ∀i,L [] i=Lp.brk ()) (h1: ∀x r i,L (x::r) i=bif !(p x) then Lp.ret false else L r (i+1)) (l:List α) (c:Bool):
  (match L l 0 with|Lp.ret r=>r|Lp.brk ()=>c)=(l.all p&&c):=by
 rw [Lz h0 h1 l 0]
 cases l.all p<;>rfl
theorem ND (s:ByteArray) (most:Int):Hp s 1 most=(!decide (s=(⟨#[]⟩:ByteArray))&&LG s most):=by
 have hL: ∀(l:List UInt8) (i:Nat),U8 l i=if l.all Fj then Lp.brk () else Lp.ret false:=by
  intro l i
  rw [←Gl l i]
  induction l generalizing i with
  |nil=>rfl
  |cons x r ih=>rw [U8,Qu,ih]
 unfold Hp LG
 rw [Gl,hL]
 have e:decide ((1:Int)≤((s.size:Nat):Int))= !decide (s=(⟨#[]⟩:ByteArray)):=by
  rw [←decide_not];congr 1;apply propext
  constructor
  ·rintro h rfl;exact absurd h (by decide)
  ·intro h
   have:s.size≠0:=fun h0=>h (by
    apply JX
    have:=DR s
    rw [h0] at this
    rw [List.length_eq_zero_iff.1 this])
   omega
 cases s.data.toList.all Fj
 ·simp
 ·simp only [if_true,e]
theorem RV {α:Type} (p:α→Bool) (l:List α):(!l.any fun x=> !(p x))=l.all p:=by
 induction l with
 |nil=>rfl
 |cons x r ih=>rw [List.any_cons,List.all_cons,←ih];cases p x<;>rfl
theorem Oc (xs:List Ae) (f:Ae→Bool):m_w xs f=xs.any f:=by
 unfold m_w
 rw [show m_9 xs f=IJ f xs from H8 (p:=f) (L:=m_0 f) (fun _=>rfl) (fun x r i=>by rw [m_0]) xs]
 exact Ej f xs
theorem Od (xs:List A6) (f:A6→Bool):m_x xs f=xs.any f:=by
 unfold m_x
 rw [show TK xs f=IJ f xs from H8 (p:=f) (L:=m_1 f) (fun _=>rfl) (fun x r i=>by rw [m_1]) xs]
 exact Ej f xs
theorem P7 (xs:List A2) (f:A2→Bool):m_y xs f=xs.any f:=by
 unfold m_y
 rw [show TL xs f=IJ f xs from H8 (p:=f) (L:=m_5 f) (fun _=>rfl) (fun x r i=>by rw [m_5]) xs]
 exact Ej f xs
theorem LL (s:ByteArray):Ho s=EU s:=by rw [JE,Ru]
theorem Qh (xs:List Ae):Pv xs=QD xs:=by
 unfold QD
 rw [show Pv xs=(xs.all (fun a:Ae=>IK a.command&&G2 a.reads 8)&&decide (((xs.length:Nat):Int)≤(16:Int))) from LA (p:=fun a:Ae=>IK a.command&&G2 a.reads 8) (L:=TX) (fun _=>rfl) (fun x r i=>by
  rw [TX,ND,PL,show (!decide (x.command=(⟨#[]⟩:ByteArray))&&LG x.command 256)=IK x.command from rfl]
  cases IK x.command<;>cases G2 x.reads 8<;>rfl) xs _,Oc]
 have:(fun z0:Ae=>Pw z0)=fun a=> !(IK a.command&&G2 a.reads 8):=by
  funext a;unfold Pw;cases IK a.command<;>cases G2 a.reads 8<;>rfl
 rw [this,RV,Bool.and_comm]
theorem SG (r:A6):Qw r=Mn r:=by
 unfold Qw Mn
 rw [LL,ND];rfl
theorem Nj (xs:List A6):KX xs=L0 xs:=by
 unfold L0
 rw [show KX xs=(xs.all Mn&&decide (((xs.length:Nat):Int)≤(256:Int))) from LA (p:=Mn) (L:=U5) (fun _=>rfl) (fun x r i=>by
  rw [U5,SG]) xs _,Od]
 have:(fun z0:A6=>Su z0)=fun r=> !(Mn r):=rfl
 rw [this,RV,Bool.and_comm]
theorem Tr (f:A2):QB f=Ns f:=by
 unfold QB Ns
 rw [LL,PL];rfl
theorem Lu (xs:List A2):LE xs=LF xs:=by
 unfold LF
 rw [show LE xs=(xs.all Ns&&decide (((xs.length:Nat):Int)≤(256:Int))) from LA (p:=Ns) (L:=TT) (fun _=>rfl) (fun x r i=>by
  rw [TT,Tr]) xs _,P7]
 have:(fun z0:A2=>Sx z0)=fun r=> !(Ns r):=rfl
 rw [this,RV,Bool.and_comm]
theorem VD (d:Aj) (x:Ak) (i:Nat): ∀(j k f:Nat),k+j=i→i≤d.files.length→j<f→Oj i d x f k=if ((d.files.take i).drop k).any (fun y=>decide (y.time=x.time))=true then Lp.ret false else Lp.brk ()
 |0,k,0,_,_,hf=>absurd hf (by omega)
 |0,k,f+1,hk,hi,_=>by
  rw [Oj,decide_eq_false (by omega),List.drop_eq_nil_of_le (by simp;omega)];rfl
 |j+1,k,0,_,_,hf=>absurd hf (by omega)
 |j+1,k,f+1,hk,hi,hf=>by
  rw [Oj,decide_eq_true (by omega),cond_true,VD d x i j (k+1) f (by omega) hi (by omega)]
  have hk2:k<(d.files.take i).length:=by simp;omega
  rw [List.drop_eq_getElem_cons hk2,List.any_cons]
  have e:d.files.getD k default=(d.files.take i)[k]:=by simp [show k<d.files.length by omega]
  rw [e]
  cases decide ((d.files.take i)[k].time=x.time)<;>rfl
theorem VC (d:Aj): ∀(rest pre:List Ak),d.files=pre++rest→Qp d rest pre.length=if G4 EU d.clock rest (pre.map Ak.time) pre.getLast? =true then Lp.brk () else Lp.ret false
 | [],pre,_=>by rw [Qp];rfl
 |x::rest,pre,h=>by
  have hl:pre.length<d.files.length:=by rw [h];simp
  have ht:d.files.take pre.length=pre:=by rw [h];simp
  have h2:=VD d x pre.length pre.length 0 (pre.length-0+1) (by omega) (by omega) (by omega)
  rw [ht,List.drop_zero] at h2
  have ih:=VC d rest (pre++[x]) (by rw [h];simp)
  rw [List.length_append,List.length_singleton,List.map_append,List.map_singleton,List.getLast?_concat] at ih
  have ha:(pre.map Ak.time).any (fun t=>decide (t=x.time))=pre.any (fun y=>decide (y.time=x.time)):=by rw [List.any_map];rfl
  rw [Qp,h2,ih,LL]
  unfold DL
  have hp0:pre=[]∨ ∃p y,pre=p++[y]:=by
   rcases List.eq_nil_or_concat pre with q|⟨p,y,q⟩
   ·exact Or.inl q
   ·exact Or.inr ⟨p,y,by simpa using q⟩
  rcases hp0 with rfl|⟨p,y,rfl⟩
  ·rw [decide_eq_false (show ¬((0:Int)<((([]:List Ak).length:Nat):Int)) by simp),cond_false]
   rw [List.getLast?_nil,G4.eq_2,ha]
   generalize G4 EU d.clock rest (([]:List Ak).map Ak.time++[x.time]) (some x)=D
   simp only [List.any_nil]
   cases EU x.name<;>cases decide ((0:Int)≤x.content)<;>cases decide (x.content≤2147483647)<;>cases decide ((1:Int)≤x.time)<;>cases decide (x.time≤d.clock)<;>cases D<;>rfl
  ·have hg:d.files.getD ((p++[y]).length-1) default=y:=by rw [h];simp
   rw [hg,decide_eq_true (show (0:Int)<(((p++[y]).length:Nat):Int) by simp),cond_true,List.getLast?_concat,G4.eq_3,ha]
   generalize G4 EU d.clock rest ((p++[y]).map Ak.time++[x.time]) (some x)=D
   cases EU x.name<;>cases decide ((0:Int)≤x.content)<;>cases decide (x.content≤2147483647)<;>cases decide ((1:Int)≤x.time)<;>cases decide (x.time≤d.clock)<;>cases Op.bytesLess y.name.toList x.name.toList<;>cases (p++[y]).any (fun y=>decide (y.time=x.time))<;>cases D<;>rfl
theorem Lv (d:Aj):Hm d=Do EU d:=by
 unfold Hm Do
 have:=VC d d.files [] rfl
 rw [List.length_nil] at this
 rw [this]
 unfold DL
 simp only [List.map_nil,List.getLast?_nil]
 have e:decide (((d.files.length:Nat):Int)≤(64:Int))=decide (d.files.length≤64):=by simp;omega
 rw [e]
 cases G4 EU d.clock d.files [] none<;>simp [Bool.and_assoc]
theorem GH (s:A7):Jn s=De s:=by
 unfold Jn De
 rw [Qh,Nj,Lu,show Hm (⟨s.disk.clock,s.disk.files⟩:Aj)=Do EU s.disk from Lv s.disk,show Hb (⟨s.graph.edges,s.graph.pools,s.graph.defaults⟩:A3)=DQ s.graph from Gz s.graph]
theorem KS {e:Int} {n:Nat} (hn:n≤281474976710656):DL e 0 (IntKind.wrap .i64 (((n:Nat):Int)-(1:Int)))=(decide (0≤e)&&decide (e<((n:Nat):Int))):=by
 unfold DL
 rw [FX (by omega) (by omega)]
 congr 1
 exact decide_eq_decide.2 (by omega)
end
end Go.Lift
namespace Go.Lift
noncomputable section
open Go Go.RowKit
def L8 (d:Aj):Bool:=
 (decide ((0:Int)≤d.clock)&&(decide (d.clock≤(1048576:Int))&&decide (((d.files.length:Nat):Int)≤(64:Int))))
def Eh (d:Aj) (ts:List Int) (x:Ak) (i:Nat):Bool:=
 (!(!(EU x.name))&&(!(!(QC x.content))&&(!(decide (x.time<(1:Int)))&&(!(decide (d.clock<x.time))&&(!(ts.any (fun t=>decide (t=x.time)))&&(!(decide ((0:Int)<((i:Nat):Int)))||(!(!Op.bytesLess ((d.files.getD (i-1) default).name).toList x.name.toList))))))))
theorem J4 {α:Type} {l:List α} {i:Nat} {x:α} (h:l[i]? =some x):l.take (i+1)=l.take i++[x]:=by
 rw [List.take_add_one,h];rfl
theorem Wh {d:Aj} {ts:List Int} {x:Ak} {i:Nat} (h:Eh d ts x i=true):ts.any (fun t=>decide (t=x.time))=false:=by
 unfold Eh at h
 simp only [Bool.and_eq_true,Bool.not_eq_true',Bool.not_not] at h
 exact h.2.2.2.2.1
theorem Xm (d:Aj):(true&&decide (0≤d.clock)&&decide (d.clock≤1048576)&&decide (d.files.length≤64))=L8 d:=by
 unfold L8
 have e:decide (((d.files.length:Nat):Int)≤(64:Int))=decide (d.files.length≤64):=decide_eq_decide.2 (by omega)
 rw [e]
 cases decide ((0:Int)≤d.clock)<;>cases decide (d.clock≤(1048576:Int))<;>simp
theorem Wi {d:Aj} {i:Nat} {x:Ak} (hx:d.files[i]? =some x):
  G4 EU d.clock (d.files.drop i) ((d.files.take i).map Ak.time) (d.files.take i).getLast? =
   (Eh d ((d.files.take i).map Ak.time) x i&&G4 EU d.clock (d.files.drop (i+1)) ((d.files.take (i+1)).map Ak.time) (d.files.take (i+1)).getLast?):=by
 have hl:i<d.files.length:=(List.getElem?_eq_some_iff.1 hx).1
 have h1:d.files.drop i=x::d.files.drop (i+1):=AB hx
 rw [h1,J4 hx,List.map_append,List.map_singleton,List.getLast?_concat]
 have a1:decide ((1:Int)≤x.time)= !(decide (x.time<(1:Int))):=by rw [←decide_not];exact decide_eq_decide.2 (by omega)
 have a2:decide (x.time≤d.clock)= !(decide (d.clock<x.time)):=by rw [←decide_not];exact decide_eq_decide.2 (by omega)
 have hd:QC x.content=(decide ((0:Int)≤x.content)&&decide (x.content≤(2147483647:Int))):=rfl
 cases i with
 |zero=>
  simp only [List.take_zero,List.map_nil,List.getLast?_nil,List.nil_append]
  rw [G4.eq_2]
  simp only [List.nil_append]
  generalize G4 EU d.clock (d.files.drop (0+1)) [x.time] (some x)=D
  unfold Eh
  rw [hd,a1,a2,show decide ((0:Int)<((0:Nat):Int))=false from rfl]
  simp only [List.any_nil,List.nil_append]
  cases EU x.name<;>cases decide ((0:Int)≤x.content)<;>cases decide (x.content≤(2147483647:Int))<;>cases decide (x.time<(1:Int))<;>cases decide (d.clock<x.time)<;>cases D<;>rfl
 |succ j=>
  have hj:d.files[j]? =some d.files[j]:=List.getElem?_eq_getElem (by omega)
  have hg:d.files.getD (j+1-1) default=d.files[j]:=by simp [show j<d.files.length by omega]
  have hla:(d.files.take (j+1)).getLast? =some d.files[j]:=by rw [J4 hj,List.getLast?_concat]
  rw [hla,G4.eq_3]
  generalize G4 EU d.clock (d.files.drop (j+1+1)) ((d.files.take (j+1)).map Ak.time++[x.time]) (some x)=D
  unfold Eh
  rw [hd,a1,a2,hg,show decide ((0:Int)<((j+1:Nat):Int))=true from decide_eq_true (by omega)]
  cases EU x.name<;>cases decide ((0:Int)≤x.content)<;>cases decide (x.content≤(2147483647:Int))<;>cases decide (x.time<(1:Int))<;>cases decide (d.clock<x.time)<;>cases ((d.files.take (j+1)).map Ak.time).any (fun t=>decide (t=x.time))<;>cases Op.bytesLess d.files[j].name.toList x.name.toList<;>cases D<;>rfl
end
end Go.Lift
namespace Go.Lift
noncomputable section
open Go Go.RowKit
theorem JZ: ∀(xs:List Ae) (i:Nat) (c:List Ae),Sm xs i c=Lp.brk (c++xs)
 | [],i,c=>by rw [Sm];simp
 |x::r,i,c=>by rw [Sm,JZ r];simp
theorem L7: ∀(xs:List A2) (i:Nat) (c:List A2),Sk xs i c=Lp.brk (c++xs)
 | [],i,c=>by rw [Sk];simp
 |x::r,i,c=>by rw [Sk,L7 r];simp
theorem M8 (s:A7):CJ s=s:=by
 have h1:Qo s.actions=s.actions:=by unfold Qo;rw [JZ];rfl
 have h2:Qv s.deps=s.deps:=by unfold Qv;rw [L7];rfl
 have h3:Jl (⟨s.graph.edges,s.graph.pools,s.graph.defaults⟩:A3)=s.graph:=S3 s.graph
 unfold CJ
 rw [h1,h2,h3];rfl
theorem Xn {α:Type} [Inhabited α] {b l:List α} {x:α} {i:Nat} (h:x::l=b.drop i):b.getD i default=x∧l=b.drop (i+1):=by
 have hx:b[i]? =some x:=by
  have:=congrArg (·[0]?) h
  simpa using this.symm
 have hl:l=b.drop (i+1):=by
  have:=congrArg (List.drop 1) h
  simpa [List.drop_drop,Nat.add_comm] using this
 exact ⟨by rw [List.getD_eq_getElem?_getD,hx];rfl,hl⟩
theorem Mk {α:Type} [Inhabited α] {L:List α→List α→Nat→Lp Bool Unit} (h0: ∀b i,L b [] i=Lp.brk ()) (h1: ∀b x r i,b.getD i default=x→L b (x::r) i=L b r (i+1)) (b:List α): ∀(l:List α) (i:Nat),l=b.drop i→L b l i=Lp.brk ()
 | [],i,_=>h0 b i
 |x::l,i,h=>by
  obtain ⟨e,hl⟩:=Xn h
  rw [h1 b x l i e,Mk h0 h1 b l (i+1) hl]
theorem PV (b:List Ak):Qx b b=true:=by
 unfold Qx
 rw [Mk (L:=U0) (fun _ _=>rfl) (fun b x r i e=>by rw [U0,e];simp) b b 0 rfl];simp
theorem NK (b:List A6):Pu b b=true:=by
 unfold Pu
 rw [Mk (L:=TW) (fun _ _=>rfl) (fun b x r i e=>by rw [TW,e];simp) b b 0 rfl];simp
theorem Ow (b:List A2):Pt b b=true:=by
 unfold Pt
 rw [Mk (L:=TY) (fun _ _=>rfl) (fun b x r i e=>by rw [TY,e,show Qy x x=true by simp [Qy,FP]];simp) b b 0 rfl];simp
theorem NJ (b:List Ae):Np b b=true:=by
 unfold Np
 rw [Mk (L:=TV) (fun _ _=>rfl) (fun b x r i e=>by rw [TV,e,FP];simp) b b 0 rfl];simp
theorem PY (s:A7):Jm s s=true:=by
 unfold Jm
 have h1:Oh (⟨s.graph.edges,s.graph.pools,s.graph.defaults⟩:A3) (⟨s.graph.edges,s.graph.pools,s.graph.defaults⟩:A3)=true:=PW _
 have h2:Qr (⟨s.disk.clock,s.disk.files⟩:Aj) (⟨s.disk.clock,s.disk.files⟩:Aj)=true:=by unfold Qr;simp [PV]
 rw [h1,h2,NJ,NK,Ow,QM];simp
end
end Go.Lift
namespace Go.Lift
noncomputable section
open Go Go.RowKit
theorem UO {i j:Int} {n:Nat} (h0:0≤i) (h:i<j) (h2:j≤((n:Nat):Int)) (hn:n≤1048576):
  IntKind.wrap .i64 (i+j)=i+j∧i≤IntKind.wrap .i64 (Int.fdiv (IntKind.wrap .u64 (IntKind.wrap .i64 (i+j))) (2^(min 1 IntKind.u64.bits)))∧IntKind.wrap .i64 (Int.fdiv (IntKind.wrap .u64 (IntKind.wrap .i64 (i+j))) (2^(min 1 IntKind.u64.bits)))<j∧
  IntKind.wrap .i64 (IntKind.wrap .i64 (Int.fdiv (IntKind.wrap .u64 (IntKind.wrap .i64 (i+j))) (2^(min 1 IntKind.u64.bits)))+1)=IntKind.wrap .i64 (Int.fdiv (IntKind.wrap .u64 (IntKind.wrap .i64 (i+j))) (2^(min 1 IntKind.u64.bits)))+1:=by
 have e1:IntKind.wrap .i64 (i+j)=i+j:=FX (by omega) (by omega)
 have e2:IntKind.wrap .u64 (i+j)=i+j:=by
  unfold IntKind.wrap;simp only [IntKind.signed];first|(simp;omega)|omega|exact Int.emod_eq_of_lt (by omega) (by show _<(2:Int)^64;omega)
 have e3:Int.fdiv (i+j) (2^(min 1 IntKind.u64.bits))=(i+j) /2:=by
  show Int.fdiv (i+j) 2=(i+j) /2
  exact Int.fdiv_eq_ediv_of_nonneg _ (by decide)
 rw [e1,e2,e3]
 have e4:IntKind.wrap .i64 ((i+j) /2)=(i+j) /2:=FX (by omega) (by omega)
 rw [e4]
 have e5:IntKind.wrap .i64 ((i+j) /2+1)=(i+j) /2+1:=FX (by omega) (by omega)
 exact ⟨rfl,by omega,by omega,e5⟩
theorem Xd (cmp:Ak→ByteArray→Int) (xs:List Ak) (t:ByteArray) (hn:xs.length≤1048576): ∀(f:Nat) (i j:Int),0≤i→i≤j→j≤((xs.length:Nat):Int)→ ∃k,XI cmp xs t f i j=Lp.brk k∧0≤k∧k≤((xs.length:Nat):Int)
 |0,i,j,h0,h1,h2=>⟨i,by rw [XI],h0,by omega⟩
 |f+1,i,j,h0,h1,h2=>by
  rw [XI]
  by_cases h:i<j
  ·rw [decide_eq_true h]
   obtain ⟨m1,m2,m3,m4⟩:=UO h0 h h2 hn
   rw [m4]
   generalize IntKind.wrap .i64 (Int.fdiv (IntKind.wrap .u64 (IntKind.wrap .i64 (i+j))) (2^(min 1 IntKind.u64.bits)))=m at*
   cases decide ((cmp (xs.getD m.toNat default) t)<(0:Int))
   ·exact Xd cmp xs t hn f i m h0 (by omega) (by omega)
   ·exact Xd cmp xs t hn f (m+1) j (by omega) (by omega) h2
  ·rw [decide_eq_false h];exact ⟨i,rfl,h0,by omega⟩
theorem XZ {d:Aj} {s:ByteArray} (hz:d.sz≤1048576) (h:(DK d s).2=true):0≤(DK d s).1∧(DK d s).1.toNat<d.files.length:=by
 have hl:=Dj Ak.sz_one d.files
 have hl2:=d.sz_files
 unfold DK OM at h ⊢
 obtain ⟨k,e,h0,h1⟩:=Xd (fun z0 z1=>HM z0 z1) d.files s (by omega) ((((d.files.length:Nat):Int)-(0:Int)).toNat+1) 0 ((d.files.length:Nat):Int) (Int.le_refl _) (by omega) (Int.le_refl _)
 rw [e] at h ⊢
 dsimp only at h ⊢
 by_cases hk:k<((d.files.length:Nat):Int)
 ·rw [decide_eq_true hk];show 0≤k∧k.toNat<_;omega
 ·rw [decide_eq_false hk] at h;cases h
theorem O1 (sep:List UInt8) (hs:sep.length=1): ∀r:List ByteArray,(Lib.joinTail sep (r.map (·.data.toList))).length=(r.map fun s:ByteArray=>s.size+1).sum
 | []=>by simp [Lib.joinTail]
 |x::r=>by
  have ih:=O1 sep hs r
  simp only [Lib.joinTail,List.map_cons,List.flatten_cons,List.length_append,List.sum_cons] at ih ⊢
  rw [ih,hs]
  have:x.data.toList.length=x.size:=by rw [Array.length_toList];rfl
  omega
theorem Mh (xs:List ByteArray) (sep:ByteArray) (hs:sep.data.toList.length=1):(C2 xs sep).size≤Eb (fun s:ByteArray=>s.size+1) xs:=by
 show (Lib.join (xs.map (·.data.toList)) sep.data.toList).toArray.size≤_
 rw [List.size_toArray]
 cases xs with
 |nil=>simp [Lib.join_nil,Eb]
 |cons x r=>
  rw [List.map_cons,Lib.join_cons,List.length_append,O1 _ hs r]
  have:x.data.toList.length=x.size:=by rw [Array.length_toList];rfl
  simp only [Eb,List.map_cons,List.sum_cons]
  omega
theorem PZ {e:A8} (hz:e.sz≤1048576):(C2 e.outs ⟨#[32]⟩).size≤1048576∧(C2 e.ins ⟨#[32]⟩).size≤1048576∧(C2 e.implicit ⟨#[32]⟩).size≤1048576∧e.command.size≤1048576:=by
 have h1:=Mh e.outs ⟨#[32]⟩ rfl
 have h2:=Mh e.ins ⟨#[32]⟩ rfl
 have h3:=Mh e.implicit ⟨#[32]⟩ rfl
 unfold A8.sz at hz
 simp only at hz
 refine ⟨by omega,by omega,by omega,by omega⟩
theorem signs5 {e:A8} (hz:e.sz≤1048576):(C2 [C2 e.outs (⟨#[32]⟩:ByteArray),C2 e.ins (⟨#[32]⟩:ByteArray),C2 e.implicit (⟨#[32]⟩:ByteArray),(bif e.deps then (⟨#[100]⟩:ByteArray) else (⟨#[110]⟩:ByteArray)),e.command] (⟨#[124]⟩:ByteArray)).size≤140737488355328:=by
 obtain ⟨h1,h2,h3,h4⟩:=PZ hz
 refine Nat.le_trans (Mh _ _ rfl) ?_
 have h5:(bif e.deps then (⟨#[100]⟩:ByteArray) else (⟨#[110]⟩:ByteArray)).size≤1:=by cases e.deps<;>decide
 simp only [Eb,List.map_cons,List.map_nil,List.sum_cons,List.sum_nil]
 omega
theorem NA {s:A7} {edge:Int} (hz:s.sz≤1048576) (h1:(!(Jn s))=false) (h2:(!(DL edge (0:Int) (IntKind.wrap .i64 (((s.graph.edges.length:Nat):Int)-(1:Int)))))=false):
  0≤edge∧edge.toNat<s.graph.edges.length∧(s.graph.edges.getD edge.toNat default).sz≤1048576∧0<(s.graph.edges.getD edge.toNat default).outs.length:=by
 have hgl:=Nat.le_trans s.graph.sz_len (Nat.le_trans s.sz_graph hz)
 rw [KS (by omega)] at h2
 simp only [Bool.not_eq_false',Bool.and_eq_true,decide_eq_true_eq] at h2
 have hlt:edge.toNat<s.graph.edges.length:=by omega
 have hd:De s=true:=by rw [←GH];simpa using h1
 unfold De at hd
 simp only [Bool.and_eq_true,decide_eq_true_eq] at hd
 have hc:H9 s.graph=0:=by
  rcases Decidable.em (H9 s.graph=0) with q|q
  ·exact q
  ·have:=hd.1;rw [Uk,if_neg q] at this;exact absurd this (by decide)
 have hm:s.graph.edges.getD edge.toNat default∈s.graph.edges:=by
  have:s.graph.edges.getD edge.toNat default=s.graph.edges[edge.toNat]:=by simp [List.getD,hlt]
  rw [this];exact List.getElem_mem hlt
 have hs:=Ia (sz:=A8.sz) hm
 have:=s.graph.sz_edges
 have:=s.sz_graph
 exact ⟨h2.1,hlt,by omega,Uo hc hm⟩
theorem Wa {s:A7} {x:Int} (hz:s.sz≤1048576) (h1:(!(Jn s))=false) (hx:x∈(Hb (⟨s.graph.edges,s.graph.pools,s.graph.defaults⟩:A3)).1):
  0≤x∧x.toNat<s.graph.edges.length∧(s.graph.edges.getD x.toNat default).sz≤1048576∧0<(s.graph.edges.getD x.toNat default).outs.length∧(s.graph.edges.getD x.toNat default).ins.length+(s.graph.edges.getD x.toNat default).implicit.length≤1048576:=by
 have hx':x∈(DQ s.graph).1:=by rw [←Gz];exact hx
 obtain ⟨h0,hlt⟩:=SC hx'
 have hgl:=Nat.le_trans s.graph.sz_len (Nat.le_trans s.sz_graph hz)
 obtain ⟨_,_,h3,h4⟩:=NA (edge:=x) hz h1 (by rw [KS (by omega),decide_eq_true h0,decide_eq_true (by omega:x<((s.graph.edges.length:Nat):Int))];rfl)
 refine ⟨h0,hlt,h3,h4,?_⟩
 have hr1:=Bp (s.graph.edges.getD x.toNat default).ins
 have hr2:=Bp (s.graph.edges.getD x.toNat default).implicit
 generalize s.graph.edges.getD x.toNat default=e at*
 unfold A8.sz at h3;simp only at h3;omega
theorem Pq {α:Type} (p:α→Bool): ∀xs:List α,-1≤Ek p xs∧Ek p xs<((xs.length:Nat):Int)
 | []=>by simp [Ek]
 |x::xs=>by
  have ih:=Pq p xs
  simp only [Ek,List.length_cons]
  split
  ·omega
  ·split<;>omega
theorem TH (rs:List A6) (out:ByteArray): -1≤AU rs out∧AU rs out<((rs.length:Nat):Int):=Pq _ rs
theorem K0 (fs:List A2) (out:ByteArray): -1≤Ax fs out∧Ax fs out<((fs.length:Nat):Int):=Pq _ fs
theorem P9 {fs:List A2} {out:ByteArray} (hz:Eb A2.sz fs≤1048576) (h:0≤Ax fs out):(fs.getD (Ax fs out).toNat default).sz≤1048576:=by
 have hl:=(K0 fs out).2
 have hlt:(Ax fs out).toNat<fs.length:=by omega
 have hm:fs.getD (Ax fs out).toNat default∈fs:=by
  have:fs.getD (Ax fs out).toNat default=fs[(Ax fs out).toNat]:=by simp [List.getD,hlt]
  rw [this];exact List.getElem_mem hlt
 have:=Ia (sz:=A2.sz) hm
 omega
theorem DM {s:A7} {edge:Int} (hz:s.sz≤1048576) (h1:(!(De s))=false) (h2:decide (edge<(0:Int))=false) (h3:decide (((s.graph.edges.length:Nat):Int)≤edge)=false):
  0≤edge∧edge.toNat<s.graph.edges.length∧(s.graph.edges.getD edge.toNat default).sz≤1048576∧0<(s.graph.edges.getD edge.toNat default).outs.length:=by
 have hgl:=Nat.le_trans s.graph.sz_len (Nat.le_trans s.sz_graph hz)
 have h2':=of_decide_eq_false h2
 have h3':=of_decide_eq_false h3
 refine NA hz (by rw [GH];exact h1) ?_
 rw [KS (by omega),decide_eq_true (by omega:0≤edge),decide_eq_true (by omega:edge<((s.graph.edges.length:Nat):Int))];rfl
theorem P8 {s:A7} {x:Int} (hz:s.sz≤1048576) (h1:(!(De s))=false) (hx:x∈(DQ (⟨s.graph.edges,s.graph.pools,s.graph.defaults⟩:A3)).1):
  0≤x∧x.toNat<s.graph.edges.length∧(s.graph.edges.getD x.toNat default).sz≤1048576∧(s.graph.edges.getD x.toNat default).ins.length+(s.graph.edges.getD x.toNat default).implicit.length≤1048576:=by
 obtain ⟨h0,hlt⟩:=SC (g:=s.graph) hx
 obtain ⟨_,_,h3,_⟩:=DM (edge:=x) hz h1 (decide_eq_false (by omega)) (decide_eq_false (by omega))
 refine ⟨h0,hlt,h3,?_⟩
 have hr1:=Bp (s.graph.edges.getD x.toNat default).ins
 have hr2:=Bp (s.graph.edges.getD x.toNat default).implicit
 generalize s.graph.edges.getD x.toNat default=e at*
 unfold A8.sz at h3;simp only at h3;omega
theorem PI {s:A7} {edge:Int} (hz:s.sz≤1048576) (h1:(!(De s))=false) (h2:decide (edge<(0:Int))=false) (h3:decide (((s.graph.edges.length:Nat):Int)≤edge)=false):
  (s.graph.edges.getD edge.toNat default).ins.length+(s.graph.edges.getD edge.toNat default).implicit.length+(s.graph.edges.getD edge.toNat default).order.length≤1048576:=by
 obtain ⟨_,_,h3,_⟩:=DM hz h1 h2 h3
 have hr1:=Bp (s.graph.edges.getD edge.toNat default).ins
 have hr2:=Bp (s.graph.edges.getD edge.toNat default).implicit
 have hr3:=Bp (s.graph.edges.getD edge.toNat default).order
 generalize s.graph.edges.getD edge.toNat default=e at*
 unfold A8.sz at h3;simp only at h3;omega
theorem Vg {s:A7} {edge:Int} (hz:s.sz≤1048576) (h1:(!(De s))=false) (h2:decide (edge<(0:Int))=false) (h3:decide (((s.graph.edges.length:Nat):Int)≤edge)=false):
  0≤edge∧edge.toNat<s.graph.edges.length∧(Ci [(s.graph.edges.getD edge.toNat default).ins,(s.graph.edges.getD edge.toNat default).implicit,(s.graph.edges.getD edge.toNat default).order]).length≤1048576:=by
 obtain ⟨h4,h5,_,_⟩:=DM hz h1 h2 h3
 refine ⟨h4,h5,?_⟩
 have:=PI hz h1 h2 h3
 rw [Gd]
 simp only [List.flatten_cons,List.flatten_nil,List.append_nil,List.length_append];omega
end
end Go.Lift
namespace Go.Lift
noncomputable section
open Go Go.RowKit
theorem Ni:K9=true:=by
 simp only [K9,GE]
 kernel_rfl
def PH (s:A7) (i:Nat):Bool:=(C0 s ((i:Nat):Int)).1
def JN (s:A7) (i:Nat):Int:=(C0 s ((i:Nat):Int)).2
theorem X6 (s:A7): ∀(xs:List Bool) (v:Nat) (row:List Bool),row.length=v+xs.length→
  (∃row',KW s xs v row=Lp.brk row'∧row'.length=row.length∧(∀i,i<v→row'.getD i default=row.getD i default)∧ ∀i,v≤i→i<row.length→row'.getD i default=PH s i∧JN s i=0)∨
  (∃i,v≤i∧i<row.length∧JN s i≠0∧KW s xs v row=Lp.ret ([],JN s i))
 | [],v,row,h=>Or.inl ⟨row,by rw [KW],rfl,fun _ _=>rfl,fun i h1 h2=>by simp at h;omega⟩
 |x::xs,v,row,h=>by
  simp only [List.length_cons] at h
  rw [KW]
  show (∃row',(bif (!decide (JN s v=0)) then Lp.ret (([]:List Bool),JN s v) else KW s xs (v+1) (row.set v (PH s v)))=Lp.brk row'∧_)∨(∃i,_∧_∧_∧(bif (!decide (JN s v=0)) then Lp.ret (([]:List Bool),JN s v) else KW s xs (v+1) (row.set v (PH s v)))=_)
  by_cases e:JN s v=0
  ·rw [decide_eq_true e]
   simp only [Bool.not_true,cond_false]
   have hset: ∀i,i≠v→(row.set v (PH s v)).getD i default=row.getD i default:=fun i hi=>by simp only [List.getD,List.getElem?_set];rw [if_neg (fun q=>hi q.symm)]
   have hsv:(row.set v (PH s v)).getD v default=PH s v:=by simp only [List.getD,List.getElem?_set];rw [if_pos trivial,if_pos (by omega)];rfl
   rcases X6 s xs (v+1) (row.set v (PH s v)) (by simp;omega) with ⟨row',h1,h2,h3,h4⟩|⟨i,h1,h2,h3,h4⟩
   ·refine Or.inl ⟨row',h1,by simpa using h2,fun i hi=>by rw [h3 i (by omega),hset i (by omega)],fun i hi hl=> ?_⟩
    rcases Nat.eq_or_lt_of_le hi with q|q
    ·subst q;exact ⟨by rw [h3 v (by omega),hsv],e⟩
    ·exact h4 i q (by simpa using hl)
   ·exact Or.inr ⟨i,by omega,by simpa using h2,h3,h4⟩
  ·rw [decide_eq_false e]
   exact Or.inr ⟨v,Nat.le_refl _,by omega,e,rfl⟩
theorem RU (s:A7) (x:Int): ∀(xs:List ByteArray) (v:Nat) (row:List Bool),∃row',GF s x xs v row=Lp.brk row'∧row'.length=row.length∧(∀i,i≠x.toNat→row'.getD i default=row.getD i default)∧ ∀i,row.getD i default=true→row'.getD i default=true
 | [],v,row=>⟨row,by rw [GF],rfl,fun _ _=>rfl,fun _ h=>h⟩
 |y::ys,v,row=>by
  rw [GF]
  cases decide ((0:Int)≤CO s.graph y)
  ·exact RU s x ys (v+1) row
  ·cases row.getD (CO s.graph y).toNat default
   ·exact RU s x ys (v+1) row
   ·obtain ⟨row',h1,h2,h3,h4⟩:=RU s x ys (v+1) (row.set x.toNat true)
    refine ⟨row',h1,by simpa using h2,fun i hi=> ?_,fun i hi=>h4 i ?_⟩
    ·rw [h3 i hi];simp only [List.getD,List.getElem?_set];rw [if_neg (fun q=>hi q.symm)]
    ·simp only [List.getD,List.getElem?_set] at hi ⊢
     split
     ·split
      ·rfl
      ·rename_i q1 q2;subst q1;rw [List.getElem?_eq_none (by omega)] at hi;exact hi
     ·exact hi
theorem X7 (s:A7): ∀(xs:List Int) (v:Nat) (row:List Bool),∃row',JJ s xs v row=Lp.brk row'∧row'.length=row.length∧ ∀i,row.getD i default=true→row'.getD i default=true
 | [],v,row=>⟨row,by rw [JJ],rfl,fun _ h=>h⟩
 |x::xs,v,row=>by
  rw [JJ]
  obtain ⟨r1,h1,h2,_,h4⟩:=RU s x (Ci [(s.graph.edges.getD x.toNat default).ins,(s.graph.edges.getD x.toNat default).implicit]) 0 row
  rw [h1]
  obtain ⟨r2,k1,k2,k3⟩:=X7 s xs (v+1) r1
  exact ⟨r2,k1,k2.trans h2,fun i hi=>k3 i (h4 i hi)⟩
theorem X9 (s:A7):(De s=false∧D0 s=([],1900))∨
  (De s=true∧ ∃i,i<s.graph.edges.length∧JN s i≠0∧D0 s=([],JN s i))∨
  (De s=true∧(∀i,i<s.graph.edges.length→JN s i=0)∧ ∃row row',row.length=s.graph.edges.length∧(∀i,i<s.graph.edges.length→row.getD i default=PH s i)∧
    JJ s ((DQ s.graph).1) 0 row=Lp.brk row'∧row'.length=s.graph.edges.length∧(∀i,row.getD i default=true→row'.getD i default=true)∧D0 s=(row',0)):=by
 unfold D0
 cases hm:De s
 ·exact Or.inl ⟨rfl,rfl⟩
 ·simp only [Bool.not_true,cond_false]
  rcases X6 s (List.replicate s.graph.edges.length false) 0 (List.replicate s.graph.edges.length false) (by simp) with ⟨row,h1,h2,_,h4⟩|⟨i,h1,h2,h3,h4⟩
  ·rw [h1]
   obtain ⟨row',k1,k2,k3⟩:=X7 s ((DQ s.graph).1) 0 row
   have hl:row.length=s.graph.edges.length:=by simpa using h2
   refine Or.inr (Or.inr ⟨trivial,fun i hi=>(h4 i (Nat.zero_le _) (by simpa using hi)).2,row,row',hl,fun i hi=>(h4 i (Nat.zero_le _) (by simpa using hi)).1,k1,k2.trans hl,k3,?_⟩)
   show (match JJ s ((DQ s.graph).1) 0 row with|Lp.ret r=>r|Lp.brk row5'=>(row5',(0:Int)))=_
   rw [k1]
  ·rw [h4];exact Or.inr (Or.inl ⟨trivial,i,by simpa using h2,h3,rfl⟩)
theorem Ug {s:A7} (hm:De s=true) {i:Nat} (hi:i<s.graph.edges.length):0<(s.graph.edges.getD i default).outs.length:=by
 unfold De at hm
 simp only [Bool.and_eq_true,decide_eq_true_eq] at hm
 have hc:H9 s.graph=0:=by
  rcases Decidable.em (H9 s.graph=0) with q|q
  ·exact q
  ·have:=hm.1;rw [Uk,if_neg q] at this;exact absurd this (by decide)
 refine Uo hc ?_
 have:s.graph.edges.getD i default=s.graph.edges[i]:=by simp [List.getD,hi]
 rw [this];exact List.getElem_mem hi
end
end Go.Lift
namespace Go.Lift
noncomputable section
open Go Go.RowKit
def EL (s:A7) (row:List Bool) (i:Nat):Bool:=((s.graph.edges.getD i default).ins++(s.graph.edges.getD i default).implicit).any fun y=>decide (0≤H2 s.graph y)&&row.getD (H2 s.graph y).toNat default
theorem MN {row:List Bool} {i j:Nat} {b:Bool} (h:j≠i):(row.set i b).getD j default=row.getD j default:=by
 simp only [List.getD,List.getElem?_set];rw [if_neg (fun q=>h q.symm)]
theorem Li {row:List Bool} {i:Nat} {b:Bool} (h:i<row.length):(row.set i b).getD i default=b:=by
 simp only [List.getD,List.getElem?_set];rw [if_pos trivial,if_pos h];rfl
theorem OI (s:A7) (x:Int): ∀(xs:List ByteArray) (v:Nat) (row:List Bool),(∀y∈xs,0≤H2 s.graph y→(H2 s.graph y).toNat≠x.toNat)→
  GF s x xs v row=Lp.brk (if (xs.any fun y=>decide (0≤H2 s.graph y)&&row.getD (H2 s.graph y).toNat default) then row.set x.toNat true else row)
 | [],v,row,_=>by rw [GF];rfl
 |y::ys,v,row,h=>by
  rw [GF,Nv]
  have hy:=h y (by simp)
  have hys: ∀z∈ys,0≤H2 s.graph z→(H2 s.graph z).toNat≠x.toNat:=fun z hz=>h z (by simp [hz])
  by_cases h0:0≤H2 s.graph y
  ·rw [decide_eq_true h0,List.any_cons,decide_eq_true h0]
   cases hr:row.getD (H2 s.graph y).toNat default
   ·simp only [cond_true,cond_false,Bool.true_and,Bool.false_or]
    exact OI s x ys (v+1) row hys
   ·simp only [cond_true,Bool.true_and,Bool.true_or,if_true]
    rw [OI s x ys (v+1) (row.set x.toNat true) hys]
    split
    ·rw [List.set_set]
    ·rfl
  ·rw [decide_eq_false h0,List.any_cons,decide_eq_false h0]
   simp only [cond_false,Bool.false_and,Bool.false_or]
   exact OI s x ys (v+1) row hys
structure OO (s:A7) (own row:List Bool) (pre:List Int):Prop where
 len:row.length=s.graph.edges.length
 rest: ∀i:Nat,((i:Nat):Int)∉pre→row.getD i default=own.getD i default
 done: ∀i:Nat,((i:Nat):Int)∈pre→row.getD i default=(own.getD i default||EL s row i)
theorem My {g:A3} {o pre post:List Int} {x:Int} (h:Steps g o) (e:o=pre++x::post): ∃i:Nat,x=((i:Nat):Int)∧i<g.edges.length∧x∉pre∧ ∀k∈Ha g x,k∈pre:=by
 obtain ⟨i,h1,_,h3⟩:=Vm h pre.length x (by rw [e,List.getElem?_append_right (Nat.le_refl _),Nat.sub_self];rfl)
 rw [e,List.take_left] at h3
 obtain ⟨a,b,_⟩:=LK h3
 unfold HU at b
 simp only [Bool.and_eq_true,Bool.not_eq_true',List.all_eq_true] at b
 refine ⟨i,h1,a,?_,?_⟩
 ·subst h1;intro q;have:=b.1;rw [List.contains_iff_mem.2 q] at this;cases this
 ·subst h1;intro k hk;have:=b.2 k hk;simpa using this
theorem GO {s:A7} {i:Nat} {y:ByteArray} (hy:y∈(s.graph.edges.getD i default).ins++(s.graph.edges.getD i default).implicit) (h0:0≤H2 s.graph y):H2 s.graph y∈Ha s.graph ((i:Nat):Int):=by
 rw [Rp]
 refine ⟨h0,y,?_,rfl⟩
 unfold Pn
 rw [Int.toNat_natCast]
 rcases List.mem_append.1 hy with q|q
 ·exact List.mem_append.2 (Or.inl q)
 ·exact List.mem_append.2 (Or.inr (List.mem_append.2 (Or.inl q)))
theorem FR {s:A7} {r1 r2:List Bool} {i:Nat} (h: ∀y∈(s.graph.edges.getD i default).ins++(s.graph.edges.getD i default).implicit,0≤H2 s.graph y→r1.getD (H2 s.graph y).toNat default=r2.getD (H2 s.graph y).toNat default):EL s r1 i=EL s r2 i:=by
 unfold EL
 rw [Bool.eq_iff_iff,List.any_eq_true,List.any_eq_true]
 constructor
 ·rintro ⟨y,hy,e⟩
  simp only [Bool.and_eq_true,decide_eq_true_eq] at e
  exact ⟨y,hy,by simp only [Bool.and_eq_true,decide_eq_true_eq];exact ⟨e.1,by rw [←h y hy e.1];exact e.2⟩⟩
 ·rintro ⟨y,hy,e⟩
  simp only [Bool.and_eq_true,decide_eq_true_eq] at e
  exact ⟨y,hy,by simp only [Bool.and_eq_true,decide_eq_true_eq];exact ⟨e.1,by rw [h y hy e.1];exact e.2⟩⟩
theorem OO.next {s:A7} {own row:List Bool} {o pre post:List Int} {x:Int} (hs:Steps s.graph o) (e:o=pre++x::post) (I:OO s own row pre):
  ∃i:Nat,x=((i:Nat):Int)∧i<s.graph.edges.length∧OO s own (if EL s row i then row.set i true else row) (pre++[x])∧(∀y∈(s.graph.edges.getD i default).ins++(s.graph.edges.getD i default).implicit,0≤H2 s.graph y→(H2 s.graph y).toNat≠i):=by
 obtain ⟨i,rfl,hi,hn,hk⟩:=My hs e
 have hne: ∀y∈(s.graph.edges.getD i default).ins++(s.graph.edges.getD i default).implicit,0≤H2 s.graph y→(H2 s.graph y).toNat≠i:=by
  intro y hy h0 q
  have:=hk _ (GO hy h0)
  rw [show H2 s.graph y=((i:Nat):Int) by omega] at this
  exact hn this
 refine ⟨i,rfl,hi,?_,hne⟩
 have hstay: ∀j,j≠i→(if EL s row i then row.set i true else row).getD j default=row.getD j default:=by
  intro j hj;split
  ·exact MN hj
  ·rfl
 refine ⟨by split<;>simp [I.len],fun j hj=> ?_,fun j hj=> ?_⟩
 ·have hji:j≠i:=fun q=>hj (by rw [q];simp)
  rw [hstay j hji];exact I.rest j (fun q=>hj (by simp [q]))
 ·rcases List.mem_append.1 hj with hj|hj
  ·
   have hji:j≠i:=fun q=>hn (by rw [←q];exact hj)
   rw [hstay j hji,I.done j hj]
   rw [FR (r1:=row) (r2:=if EL s row i then row.set i true else row)]
   intro y hy h0
   refine (hstay _ fun q=> ?_).symm
   obtain ⟨p1,p2,hp⟩:=List.append_of_mem hj
   obtain ⟨_,_,_,_,hk'⟩:=My (x:=((j:Nat):Int)) hs (pre:=p1) (post:=p2++((i:Nat):Int)::post) (by rw [e,hp];simp)
   have:=hk' _ (GO hy h0)
   rw [show H2 s.graph y=((i:Nat):Int) by omega] at this
   exact hn (by rw [hp];simp [this])
  ·have hji:j=i:=by simp only [List.mem_singleton] at hj;omega
   subst hji
   rw [FR (r1:=if EL s row j then row.set j true else row) (r2:=row) (fun y hy h0=>hstay _ (hne y hy h0))]
   rw [←I.rest j hn]
   cases ht:EL s row j
   ·simp
   ·simp only [if_true,Bool.or_true];exact Li (by rw [I.len];exact hi)
theorem Vx (s:A7) (own:List Bool) {o:List Int} (hs:Steps s.graph o): ∀(post pre:List Int) (v:Nat) (row:List Bool),o=pre++post→OO s own row pre→ ∃row',JJ s post v row=Lp.brk row'∧OO s own row' o
 | [],pre,v,row,e,I=>⟨row,by rw [JJ],by rw [e,List.append_nil];exact I⟩
 |x::post,pre,v,row,e,I=>by
  obtain ⟨i,rfl,hi,I2,hne⟩:=I.next hs e
  rw [JJ,Gd]
  simp only [List.flatten_cons,List.flatten_nil,List.append_nil,Int.toNat_natCast]
  rw [OI s ((i:Nat):Int) _ 0 row (by rw [Int.toNat_natCast];exact hne)]
  rw [Int.toNat_natCast]
  exact Vx s own hs post (pre++[((i:Nat):Int)]) (v+1) _ (by rw [e];simp) I2
theorem Vh: ∀(n:Nat) (o:List Int),(∀x∈o,0≤x∧x.toNat<n)→o.Pairwise (· ≠ ·)→n≤o.length→ ∀i,i<n→((i:Nat):Int)∈o
 |0,o,_,_,_,i,hi=>by omega
 |n+1,o,hb,hp,hl,i,hi=>by
  have hn:((n:Nat):Int)∈o:=by
   refine Classical.byContradiction fun hno=> ?_
   have hb': ∀x∈o,0≤x∧x.toNat<n:=fun x hx=>by
    have:=hb x hx
    refine ⟨this.1,?_⟩
    have:x≠((n:Nat):Int):=fun q=>hno (q ▸ hx)
    omega
   cases o with
   |nil=>simp at hl
   |cons y r=>
    have hy:=hb' y (by simp)
    have:=Vh n r (fun x hx=>hb' x (by simp [hx])) (List.pairwise_cons.1 hp).2 (by simp at hl;omega) y.toNat hy.2
    exact (List.pairwise_cons.1 hp).1 _ this (by omega)
  rcases Nat.lt_or_ge i n with q|q
  ·have hsub: ∀x∈o.filter (fun x=>decide (x≠((n:Nat):Int))),0≤x∧x.toNat<n:=fun x hx=>by
     obtain ⟨h1,h2⟩:=List.mem_filter.1 hx
     have:=hb x h1
     have h3:x≠((n:Nat):Int):=by simpa using h2
     omega
   have hlen:n≤(o.filter (fun x=>decide (x≠((n:Nat):Int)))).length:=by
    obtain ⟨p1,p2,hp12⟩:=List.append_of_mem hn
    subst hp12
    rw [List.pairwise_append,List.pairwise_cons] at hp
    have f1:p1.filter (fun x=>decide (x≠((n:Nat):Int)))=p1:=List.filter_eq_self.2 fun x hx=>by simpa using hp.2.2 x hx _ (by simp)
    have f2:p2.filter (fun x=>decide (x≠((n:Nat):Int)))=p2:=List.filter_eq_self.2 fun x hx=>by simpa using fun q=>hp.2.1.1 x hx q.symm
    rw [List.filter_append,List.filter_cons,f1,f2]
    simp only [ne_eq,not_true,decide_false,if_false,List.length_append,List.length_cons] at hl ⊢
    simp;omega
   have:=Vh n _ hsub (hp.filter _) hlen i q
   exact (List.mem_filter.1 this).1
  ·have:i=n:=by omega
   subst this;exact hn
theorem NO {g:A3} {o:List Int} (h:Steps g o) (hl:o.length=g.edges.length) {i:Nat} (hi:i<g.edges.length):((i:Nat):Int)∈o:=by
 have key: ∀ {o:List Int},Steps g o→(∀x∈o,0≤x∧x.toNat<g.edges.length)∧o.Pairwise (· ≠ ·):=by
  intro o h
  induction h with
  |nil=>exact ⟨fun x hx=>by simp at hx,.nil⟩
  | @snoc out j h hn ih=>
    obtain ⟨a,b,_⟩:=LK hn
    unfold HU at b
    simp only [Bool.and_eq_true,Bool.not_eq_true'] at b
    refine ⟨fun x hx=> ?_,?_⟩
    ·rcases List.mem_append.1 hx with q|q
     ·exact ih.1 x q
     ·simp only [List.mem_singleton] at q;subst q;exact ⟨by omega,by omega⟩
    ·rw [List.pairwise_append]
     refine ⟨ih.2,by simp,fun x hx y hy=> ?_⟩
     simp only [List.mem_singleton] at hy;subst hy
     intro q;subst q
     have:=b.1;rw [List.contains_iff_mem.2 hx] at this;cases this
 exact Vh _ o (key h).1 (key h).2 (by omega) i hi
theorem S5 {s:A7} (h:De s=true):(DQ s.graph).2=0:=by
 unfold De at h
 simp only [Bool.and_eq_true,decide_eq_true_eq] at h
 exact h.1
theorem Vy (s:A7):(De s=false∧D0 s=([],1900))∨
  (De s=true∧ ∃i,i<s.graph.edges.length∧JN s i≠0∧D0 s=([],JN s i))∨
  (De s=true∧(∀i,i<s.graph.edges.length→JN s i=0)∧ ∃row',D0 s=(row',0)∧row'.length=s.graph.edges.length∧ ∀i,i<s.graph.edges.length→row'.getD i default=(PH s i||EL s row' i)):=by
 rcases X9 s with h|h|⟨hm,h0,row,row',hl,hrow,e2,hl',hup,e⟩
 ·exact Or.inl h
 ·exact Or.inr (Or.inl h)
 ·obtain ⟨hs,hol,_⟩:=of_steps (S5 hm)
  obtain ⟨r2,k1,k2⟩:=Vx s row hs (DQ s.graph).1 [] 0 row rfl ⟨hl,fun _ _=>rfl,fun _ h=>by simp at h⟩
  rw [e2] at k1
  cases k1
  refine Or.inr (Or.inr ⟨hm,h0,row',e,hl',fun i hi=> ?_⟩)
  rw [k2.done i (NO hs hol hi),hrow i hi]
theorem all_len (s:A7):(D0 s).1.length≤s.graph.edges.length:=by
 rcases Vy s with ⟨_,e⟩|⟨_,i,_,hne,e⟩|⟨_,_,row',e,hl,_⟩
 ·rw [e];exact Nat.zero_le _
 ·rw [e];exact Nat.zero_le _
 ·rw [e];exact Nat.le_of_eq hl
end
end Go.Lift
namespace Go.Lift
noncomputable section
open Go Go.RowKit
def ownM (s':A7) (edge:Int):Bool×Int:=
 (bif decide (edge<(0:Int)) then (false,(1900:Int)) else (bif decide (((s'.graph.edges.length:Nat):Int)≤edge) then (false,(1900:Int)) else (bif (VQ (Ci [(s'.graph.edges.getD edge.toNat default).ins,(s'.graph.edges.getD edge.toNat default).implicit,(s'.graph.edges.getD edge.toNat default).order]) (fun z0=>Nk (⟨s',(s'.graph.edges.getD edge.toNat default)⟩:Am) z0)) then (false,(1901:Int)) else ((KU (⟨s',(s'.graph.edges.getD edge.toNat default)⟩:Am)),(0:Int)))))
theorem VW {s:A7} (h:De s=true) (e:Int):C0 s e=ownM s e:=by
 unfold C0 ownM;rw [h];rfl
end
end Go.Lift
namespace Go.Lift
noncomputable section
open Go Go.RowKit
theorem bt {c:Bool} {a b:Bool} (ha:a=true) (hb:b=true):(bif c then a else b)=true:=by cases c<;>assumption
end
end Go.Lift
namespace Go.Lift
noncomputable section
open Go Go.RowKit
theorem Xb: ∀(x y:List UInt8),Op.bytesLess x y=decide (x<y)
 | [],[]=>by simp [Op.bytesLess]
 |_::_,[]=>by simp [Op.bytesLess]
 | [],_::_=>by simp [Op.bytesLess]
 |a::x,b::y=>by
  rw [Op.bytesLess,Xb x y]
  simp only [List.cons_lt_cons_iff]
  by_cases h1:a<b<;>by_cases h2:a=b<;>by_cases h3:x<y<;>simp [h1,h2,h3]
def nl (a b:ByteArray):Prop:=Op.bytesLess a.toList b.toList=true
theorem PE {a b c:ByteArray} (h1:nl a b) (h2:nl b c):nl a c:=by
 unfold nl at*;rw [Xb,decide_eq_true_eq] at*;exact List.lt_trans h1 h2
theorem SA (a:ByteArray): ¬nl a a:=by
 unfold nl;rw [Xb,decide_eq_true_eq];exact List.lt_irrefl _
theorem cmp_neg (x y:ByteArray):decide (LB x y<(0:Int))=Op.bytesLess x.toList y.toList:=by
 unfold LB K8
 simp only [decide_true,Bool.not_true,cond_false]
 cases Op.bytesLess x.toList y.toList
 ·simp only [cond_false,Bool.false_or]
  cases decide (x=y)<;>rfl
 ·rfl
theorem Xk (x y:ByteArray):decide (LB x y=(0:Int))=decide (x=y):=by
 unfold LB K8
 simp only [decide_true,Bool.not_true,cond_false]
 cases h:Op.bytesLess x.toList y.toList
 ·simp only [cond_false,Bool.false_or]
  cases decide (x=y)<;>rfl
 ·have:x≠y:=fun q=>SA y (by unfold nl;rw [←h,q])
  rw [decide_eq_false this];rfl
theorem Md (pi:ByteArray→Bool) (c:Int): ∀(fs:List Ak) (ts:List Int) (p:Option Ak),G4 pi c fs ts p=true→(∀f∈fs,1≤f.time∧f.time≤c)∧fs.Pairwise (fun a b=>nl a.name b.name)∧(∀q,p=some q→ ∀f∈fs,nl q.name f.name)
 | [],ts,p,_=>⟨by simp,.nil,by simp⟩
 |f::r,ts,p,h=>by
  rw [G4.eq_def] at h
  simp only [Bool.and_eq_true,decide_eq_true_eq] at h
  obtain ⟨⟨⟨⟨⟨⟨⟨h1,h2⟩,h3⟩,h4⟩,h5⟩,h6⟩,h7⟩,h8⟩:=h
  obtain ⟨i1,i2,i3⟩:=Md pi c r _ _ h8
  have i3':=i3 f rfl
  refine ⟨fun g hg=> ?_,List.pairwise_cons.2 ⟨fun g hg=>i3' g hg,i2⟩,fun q hq g hg=> ?_⟩
  ·rcases List.mem_cons.1 hg with rfl|hg
   ·exact ⟨h4,h5⟩
   ·exact i1 g hg
  ·subst hq
   rcases List.mem_cons.1 hg with rfl|hg
   ·exact h7
   ·exact PE h7 (i3' g hg)
theorem K1 {d:Aj} (h:Do EU d=true):(∀f∈d.files,1≤f.time∧f.time≤d.clock)∧d.files.Pairwise (fun a b=>nl a.name b.name)∧d.clock≤1048576∧d.files.length≤64:=by
 unfold Do at h
 simp only [Bool.and_eq_true,decide_eq_true_eq] at h
 obtain ⟨h1,h2,_⟩:=Md _ _ _ _ _ h.1.1.1
 exact ⟨h1,h2,h.1.2,h.2⟩
theorem RY {xs:List Ak} {t:ByteArray} (hn:xs.length≤1048576) (hs:xs.Pairwise fun a b=>nl a.name b.name): ∀(f:Nat) (i j:Int),0≤i→i≤j→j≤((xs.length:Nat):Int)→(j-i).toNat<f→
  (∀(k:Nat) (hk:k<xs.length),((k:Nat):Int)<i→nl xs[k].name t)→(∀(k:Nat) (hk:k<xs.length),j≤((k:Nat):Int)→ ¬nl xs[k].name t)→
  ∃k:Nat,XI (fun z0 z1=>HM z0 z1) xs t f i j=Lp.brk ((k:Nat):Int)∧k≤xs.length∧(∀(q:Nat) (hq:q<xs.length),q<k→nl xs[q].name t)∧(∀(q:Nat) (hq:q<xs.length),k≤q→ ¬nl xs[q].name t)
 |0,i,j,_,_,_,hf,_,_=>by omega
 |f+1,i,j,h0,h1,h2,hf,hlo,hhi=>by
  rw [XI]
  by_cases h:i<j
  ·rw [decide_eq_true h]
   obtain ⟨m1,m2,m3,m4⟩:=UO h0 h h2 hn
   rw [m4]
   generalize IntKind.wrap .i64 (Int.fdiv (IntKind.wrap .u64 (IntKind.wrap .i64 (i+j))) (2^(min 1 IntKind.u64.bits)))=m at*
   have hml:m.toNat<xs.length:=by omega
   have hg:xs.getD m.toNat default=xs[m.toNat]:=by simp [List.getD,hml]
   show ∃k:Nat,(bif decide (LB (xs.getD m.toNat default).name t<(0:Int)) then _ else _)=_∧_
   rw [hg,cmp_neg]
   have hP:=List.pairwise_iff_getElem.1 hs
   cases hc:Op.bytesLess xs[m.toNat].name.toList t.toList
   ·exact RY hn hs f i m h0 (by omega) (by omega) (by omega) hlo (fun k hk hmk=>by
     rcases Nat.lt_or_ge m.toNat k with q|q
     ·intro hx;have:=PE (hP m.toNat k hml hk q) hx;unfold nl at this;rw [hc] at this;cases this
     ·have:k=m.toNat:=by omega
      subst this;unfold nl;rw [hc];simp)
   ·exact RY hn hs f (m+1) j (by omega) (by omega) h2 (by omega) (fun k hk hmk=>by
     rcases Nat.lt_or_ge k m.toNat with q|q
     ·exact PE (hP k m.toNat hk hml q) hc
     ·have:k=m.toNat:=by omega
      subst this;exact hc) hhi
  ·rw [decide_eq_false h]
   exact ⟨i.toNat,by rw [Int.toNat_of_nonneg h0];rfl,by omega,fun q hq hql=>hlo q hq (by omega),fun q hq hql=>hhi q hq (by omega)⟩
theorem Vi {d:Aj} {n:ByteArray} (hm:Do EU d=true):
  (∃k:Nat,∃hk:k<d.files.length,DK d n=(((k:Nat):Int),true)∧d.files[k].name=n∧d.files.find? (fun f=>decide (f.name=n))=some d.files[k])∨
  (∃k:Nat,k≤d.files.length∧DK d n=(((k:Nat):Int),false)∧(∀f∈d.files,f.name≠n)∧(∀(q:Nat) (hq:q<d.files.length),q<k→nl d.files[q].name n)∧(∀(q:Nat) (hq:q<d.files.length),k≤q→ ¬nl d.files[q].name n)):=by
 obtain ⟨_,hs,_,hl⟩:=K1 hm
 obtain ⟨k,e,hk,hlo,hhi⟩:=RY (t:=n) (by omega:d.files.length≤1048576) hs ((((d.files.length:Nat):Int)-(0:Int)).toNat+1) 0 ((d.files.length:Nat):Int) (Int.le_refl _) (by omega) (Int.le_refl _) (by omega) (fun k hk h=>by omega) (fun k hk h=>by omega)
 have hP:=List.pairwise_iff_getElem.1 hs
 unfold DK OM
 rw [e]
 dsimp only
 by_cases hkl:k<d.files.length
 ·rw [decide_eq_true (by omega:((k:Nat):Int)<((d.files.length:Nat):Int))]
  have hg:d.files.getD (((k:Nat):Int)).toNat default=d.files[k]:=by rw [Int.toNat_natCast];simp [List.getD,hkl]
  simp only [cond_true]
  rw [hg]
  have hz:decide (HM d.files[k] n=(0:Int))=decide (d.files[k].name=n):=Xk _ _
  rw [hz]
  by_cases hn:d.files[k].name=n
  ·refine Or.inl ⟨k,hkl,by rw [decide_eq_true hn],hn,?_⟩
   rw [List.find?_eq_some_iff_getElem]
   refine ⟨decide_eq_true hn,k,hkl,rfl,fun j hj=> ?_⟩
   have:=hlo j (by omega) hj
   have hne:d.files[j].name≠n:=fun q=>SA n (by rw [q] at this;exact this)
   simpa using hne
  ·refine Or.inr ⟨k,hk,by rw [decide_eq_false hn],fun f hf=> ?_,hlo,hhi⟩
   obtain ⟨q,hq,rfl⟩:=List.getElem_of_mem hf
   intro he
   rcases Nat.lt_trichotomy q k with h|h|h
   ·have:=hlo q hq h;rw [he] at this;exact SA n this
   ·subst h;exact hn he
   ·have:=hP k q hkl hq h;rw [he] at this;exact hhi k hkl (Nat.le_refl _) this
 ·rw [decide_eq_false (by omega: ¬((k:Nat):Int)<((d.files.length:Nat):Int))]
  refine Or.inr ⟨k,hk,rfl,fun f hf=> ?_,hlo,hhi⟩
  obtain ⟨q,hq,rfl⟩:=List.getElem_of_mem hf
  intro he
  have:=hlo q hq (by omega);rw [he] at this;exact SA n this
def VJ (d:Aj) (n:ByteArray):Ak×Bool:=match d.files.find? (fun f=>decide (f.name=n)) with
 |some f=>(f,true)
 |none=>(⟨⟨#[]⟩,0,0⟩,false)
theorem Rf {d:Aj} (hm:Do EU d=true) (n:ByteArray):Cn d n=VJ d n:=by
 unfold Cn VJ
 rcases Vi (n:=n) hm with ⟨k,hk,e,_,hf⟩|⟨k,hk,e,hno,_⟩
 ·rw [e,hm,hf]
  have hg:d.files.getD (((k:Nat):Int)).toNat default=d.files[k]:=by rw [Int.toNat_natCast];simp [List.getD,hk]
  simp only [cond_true,hg]
 ·rw [e]
  have:d.files.find? (fun f=>decide (f.name=n))=none:=by
   rw [List.find?_eq_none];intro f hf;simpa using hno f hf
  rw [this];rfl
theorem Uw {d:Aj} (hm:Hm d=true) (n:ByteArray): ∀(kf i:Nat) (c:ByteArray) (c2 c3:Int),d.files.length-i<kf→U9 d n kf i c c2 c3=match (d.files.drop i).find? (fun f=>decide (f.name=n)) with
  |some f=>Lp.ret (f,true)
  |none=>Lp.brk (c,c2,c3)
 |0,i,c,c2,c3,h=>by omega
 |kf+1,i,c,c2,c3,h=>by
  rw [U9,hm]
  by_cases hi:i<d.files.length
  ·rw [decide_eq_true (by omega:((i:Nat):Int)<((d.files.length:Nat):Int))]
   have hg:d.files.getD i default=d.files[i]:=by simp [List.getD,hi]
   rw [hg,List.drop_eq_getElem_cons hi,List.find?_cons]
   simp only [cond_true]
   cases hn:decide (d.files[i].name=n)
   ·simp only [cond_false];exact Uw hm n kf (i+1) c c2 c3 (by omega)
   ·rfl
  ·rw [decide_eq_false (by omega: ¬((i:Nat):Int)<((d.files.length:Nat):Int)),List.drop_eq_nil_of_le (by omega)];rfl
theorem Mf (d:Aj) (n:ByteArray):CM d n=Cn d n:=by
 cases hm:Do EU d
 ·have hm':Hm d=false:=by rw [Lv];exact hm
  unfold CM Cn
  rw [hm,show d.files.length-0+1=d.files.length+1 from rfl,U9,hm']
  cases (DK d n).2<;>cases decide (((0:Nat):Int)<((d.files.length:Nat):Int))<;>rfl
 ·rw [Rf hm]
  unfold CM
  rw [Uw (by rw [Lv];exact hm) n _ _ _ _ _ (by omega),List.drop_zero]
  unfold VJ
  cases d.files.find? (fun f=>decide (f.name=n))<;>rfl
theorem Ly {α:Type} (p:α→Bool): ∀(xs:List α) (x:α),Ek p (xs++[x])=if p x=true then ((xs.length:Nat):Int) else Ek p xs
 | [],x=>by simp only [List.nil_append,Ek];cases p x<;>simp
 |y::ys,x=>by
  rw [List.cons_append,Ek,Ly p ys x]
  cases hp:p x
  ·simp only [Bool.false_eq_true,if_false];rfl
  ·simp only [if_true,List.length_cons]
   rw [if_pos (by omega)];omega
theorem Pr {rs:List A6} (hm:KX rs=true) (out:ByteArray): ∀(j kf:Nat) (c:ByteArray) (c2:Int) (c3:ByteArray),j≤rs.length→j<kf→Sn rs out kf (((j:Nat):Int)-1) c c2 c3=
  if Ek (fun r=>decide (r.out=out)) (rs.take j)<0 then Lp.brk (c,c2,c3) else Lp.ret (rs.getD (Ek (fun r=>decide (r.out=out)) (rs.take j)).toNat default,true)
 |0,0,c,c2,c3,_,h=>by omega
 |0,kf+1,c,c2,c3,_,_=>by
  rw [Sn,List.take_zero];rfl
 |j+1,0,c,c2,c3,_,h=>by omega
 |j+1,kf+1,c,c2,c3,hl,h=>by
  have ej:(((j+1:Nat):Nat):Int)-1=((j:Nat):Int):=by omega
  rw [Sn,ej,hm,decide_eq_true (by omega:(0:Int)≤((j:Nat):Int))]
  simp only [cond_true,Int.toNat_natCast]
  have hx:rs[j]? =some (rs.getD j default):=getD_some (by omega)
  rw [J4 hx,Ly]
  cases hp:decide ((rs.getD j default).out=out)
  ·simp only [cond_false,Bool.false_eq_true,if_false];exact Pr hm out j kf c c2 c3 (by omega) (by omega)
  ·simp only [cond_true,if_true,List.length_take]
   rw [if_neg (by omega),Nat.min_eq_left (by omega),Int.toNat_natCast]
theorem Ps (rs:List A6) (out:ByteArray):JM rs out=Dc rs out:=by
 have hk:((((rs.length:Nat):Int)-(1:Int))+1).toNat+1=rs.length+1:=by omega
 unfold JM Dc
 rw [hk]
 cases hm:L0 rs
 ·have hm':KX rs=false:=by rw [Nj];exact hm
  rw [Sn,hm']
  cases decide (AU rs out<0)<;>cases decide ((0:Int)≤((rs.length:Nat):Int)-1)<;>rfl
 ·rw [Pr (by rw [Nj];exact hm) out rs.length _ _ _ _ (Nat.le_refl _) (by omega),List.take_length]
  unfold AU
  by_cases h:Ek (fun r:A6=>decide (r.out=out)) rs<0
  ·rw [if_pos h,decide_eq_true h];rfl
  ·rw [if_neg h,decide_eq_false h];rfl
theorem Po {fs:List A2} (hm:LE fs=true) (out:ByteArray): ∀(j kf:Nat) (c:ByteArray) (c2:Int) (c3:List ByteArray),j≤fs.length→j<kf→Sl fs out kf (((j:Nat):Int)-1) c c2 c3=
  if Ek (fun r=>decide (r.out=out)) (fs.take j)<0 then Lp.brk (c,c2,c3) else Lp.ret (fs.getD (Ek (fun r=>decide (r.out=out)) (fs.take j)).toNat default,true)
 |0,0,c,c2,c3,_,h=>by omega
 |0,kf+1,c,c2,c3,_,_=>by
  rw [Sl,List.take_zero];rfl
 |j+1,0,c,c2,c3,_,h=>by omega
 |j+1,kf+1,c,c2,c3,hl,h=>by
  have ej:(((j+1:Nat):Nat):Int)-1=((j:Nat):Int):=by omega
  rw [Sl,ej,hm,decide_eq_true (by omega:(0:Int)≤((j:Nat):Int))]
  simp only [cond_true,Int.toNat_natCast]
  have hx:fs[j]? =some (fs.getD j default):=getD_some (by omega)
  rw [J4 hx,Ly]
  cases hp:decide ((fs.getD j default).out=out)
  ·simp only [cond_false,Bool.false_eq_true,if_false];exact Po hm out j kf c c2 c3 (by omega) (by omega)
  ·simp only [cond_true,if_true,List.length_take]
   rw [if_neg (by omega),Nat.min_eq_left (by omega),Int.toNat_natCast];rfl
theorem V4 (fs:List A2) (out:ByteArray):KL fs out=Ey fs out:=by
 have hk:((((fs.length:Nat):Int)-(1:Int))+1).toNat+1=fs.length+1:=by omega
 unfold KL Ey
 rw [hk]
 cases hm:LF fs
 ·have hm':LE fs=false:=by rw [Lu];exact hm
  rw [Sl,hm']
  cases decide (Ax fs out<0)<;>cases decide ((0:Int)≤((fs.length:Nat):Int)-1)<;>rfl
 ·rw [Po (by rw [Lu];exact hm) out fs.length _ _ _ _ (Nat.le_refl _) (by omega),List.take_length]
  unfold Ax
  by_cases h:Ek (fun r:A2=>decide (r.out=out)) fs<0
  ·rw [if_pos h,decide_eq_true h];rfl
  ·rw [if_neg h,decide_eq_false h];rfl
theorem Wj (e:A8):HN e=Nt e:=by
 unfold HN Nt
 simp only [Va,PL,ND,DS,IK]
 cases G2 e.outs 8<;>cases G2 e.ins 8<;>cases G2 e.implicit 8<;>cases G2 e.order 8<;>simp
theorem VL (sign:ByteArray): ∀(xs:List ByteArray) (i:Nat) (acc:ByteArray),0<i→LC sign xs i acc=Lp.brk (acc++⟨(Lib.joinTail sign.data.toList (xs.map (·.data.toList))).toArray⟩)
 | [],i,acc,_=>by
   rw [LC];congr 1;apply JX;simp [Lib.joinTail]
 |x::r,i,acc,h=>by
  rw [LC,decide_eq_true (by omega:(0:Int)<((i:Nat):Int)),cond_true,VL sign r (i+1) _ (by omega)]
  congr 1;apply JX;simp [Lib.joinTail,ByteArray.data_append]
theorem KJ (xs:List ByteArray) (sign:ByteArray):FY xs sign=C2 xs sign:=by
 unfold FY C2
 cases xs with
 |nil=>rfl
 |cons x r=>
  rw [LC,decide_eq_false (by simp),cond_false,VL sign r 1 _ (by omega)]
  apply JX;simp [Lib.join_cons,ByteArray.data_append]
theorem VZ (e:A8):L1 e=JL e:=by
 unfold L1 JL
 rw [Wj,KJ,KJ,KJ]
 cases Nt e
 ·rfl
 ·simp only [Bool.not_true,cond_false]
  congr 1
  apply JX
  simp [C2,Lib.join_cons,Lib.joinTail,ByteArray.data_append,List.append_assoc]
theorem L6 (xs:List ByteArray) (f:ByteArray→Bool):VQ xs f=xs.any f:=by
 unfold VQ
 rw [show TN xs f=IJ f xs from H8 (p:=f) (fun _=>rfl) (fun x r i=>by rw [V9]) xs,Ej]
theorem V6 {α:Type} {p:α→Bool} {L:List α→Nat→Lp Bool Unit} (h0: ∀i,L [] i=Lp.brk ()) (h1: ∀x r i,L (x::r) i=bif p x then Lp.ret true else L r (i+1)): ∀(l:List α) (i:Nat),L l i=bif l.any p then Lp.ret true else Lp.brk ()
 | [],i=>by rw [h0];rfl
 |x::r,i=>by
  rw [h1,V6 h0 h1 r (i+1),List.any_cons]
  cases p x<;>rfl
theorem Ve (s:A7) (e:A8) (names:List ByteArray) (t:Int):JK (⟨s.disk.clock,s.disk.files⟩:Aj) names t=K7 ⟨s,e⟩ names t:=by
 unfold JK K7
 rw [L6,V6 (p:=fun n=>TR n ⟨s,e⟩ t) (L:=Uc (⟨s.disk.clock,s.disk.files⟩:Aj) t) (fun _=>rfl) (fun x r i=>by
  rw [Uc,Mf]
  show _=bif ((!(Cn s.disk x).2)||decide (t<((Cn s.disk x).1).time)) then _ else _
  cases (!(Cn s.disk x).2)
  ·rfl
  ·rfl)]
 cases names.any _<;>rfl
theorem Tx (s:A7) (e:A8):IL s e=VQ (Ci [e.ins,e.implicit,e.order]) (fun z0=>Nk (⟨s,e⟩:Am) z0):=by
 unfold IL
 rw [L6,Gd,V6 (p:=fun n=>Nk ⟨s,e⟩ n) (L:=So s) (fun _=>rfl) (fun x r i=>by
  rw [So,Mf,HV,←Nv]
  show _=bif ((!(Cn s.disk x).2)&&decide (CO s.graph x<0)) then _ else _
  cases (!(Cn s.disk x).2)
  ·rfl
  ·rfl)]
 simp only [List.flatten_cons,List.flatten_nil,List.append_nil,List.append_assoc]
 cases (e.ins++(e.implicit++e.order)).any _<;>rfl
theorem Rh {d:Aj} (hm:Do EU d=true) {n:ByteArray} (h:(Cn d n).2=true):1≤(Cn d n).1.time∧(Cn d n).1.time≤d.clock:=by
 rw [Rf hm] at h ⊢
 unfold VJ at h ⊢
 cases hf:d.files.find? (fun f=>decide (f.name=n)) with
 |none=>rw [hf] at h;cases h
 |some f=>exact (K1 hm).1 f (List.mem_of_find?_eq_some hf)
theorem Rr {s:A7} (hm:Do EU s.disk=true) (e:A8): ∀(xs:List ByteArray) (i v:Nat) (o:Int),1≤o→(UI ⟨s,e⟩ xs v o=Lp.ret (-1)∧KY s e xs i o=Lp.ret true)∨(∃o',1≤o'∧UI ⟨s,e⟩ xs v o=Lp.brk o'∧KY s e xs i o=Lp.brk o')
 | [],i,v,o,h=>Or.inr ⟨o,h,by rw [UI],by rw [KY]⟩
 |x::xs,i,v,o,h=>by
  rw [UI,KY,show CM (⟨s.disk.clock,s.disk.files⟩:Aj) x=Cn s.disk x from Mf s.disk x,Ps,VZ]
  dsimp only
  cases hf:(Cn s.disk x).2
  ·exact Or.inl ⟨rfl,rfl⟩
  ·cases hr:(Dc s.log x).2
   ·exact Or.inl ⟨rfl,rfl⟩
   ·simp only [Bool.not_true,cond_false]
    cases decide ((Dc s.log x).1.sign=(JL e).1)
    ·exact Or.inl ⟨rfl,rfl⟩
    ·cases decide ((Dc s.log x).1.time=(Cn s.disk x).1.time)
     ·exact Or.inl ⟨rfl,rfl⟩
     ·simp only [Bool.not_true,cond_false]
      have:=Rh hm hf
      exact Rr hm e xs (i+1) (v+1) _ (by split<;>omega)
theorem WH {s:A7} (hm:Do EU s.disk=true) (e:A8) {x:ByteArray} {xs:List ByteArray} (i v:Nat):(UI ⟨s,e⟩ (x::xs) v s.disk.clock=Lp.ret (-1)∧KY s e (x::xs) i 1048576=Lp.ret true)∨(∃o',1≤o'∧UI ⟨s,e⟩ (x::xs) v s.disk.clock=Lp.brk o'∧KY s e (x::xs) i 1048576=Lp.brk o'):=by
 rw [UI,KY,show CM (⟨s.disk.clock,s.disk.files⟩:Aj) x=Cn s.disk x from Mf s.disk x,Ps,VZ]
 dsimp only
 cases hf:(Cn s.disk x).2
 ·exact Or.inl ⟨rfl,rfl⟩
 ·cases hr:(Dc s.log x).2
  ·exact Or.inl ⟨rfl,rfl⟩
  ·simp only [Bool.not_true,cond_false]
   cases decide ((Dc s.log x).1.sign=(JL e).1)
   ·exact Or.inl ⟨rfl,rfl⟩
   ·cases decide ((Dc s.log x).1.time=(Cn s.disk x).1.time)
    ·exact Or.inl ⟨rfl,rfl⟩
    ·simp only [Bool.not_true,cond_false]
     have h1:=Rh hm hf
     have h2:=(K1 hm).2.2.1
     have e1:(if (Cn s.disk x).1.time<s.disk.clock then (Cn s.disk x).1.time else s.disk.clock)=(Cn s.disk x).1.time:=by split<;>omega
     have e2:(if (Cn s.disk x).1.time<(1048576:Int) then (Cn s.disk x).1.time else 1048576)=(Cn s.disk x).1.time:=by split<;>omega
     rw [e1,e2]
     exact Rr hm e xs (i+1) (v+1) _ h1.1
theorem Rs {s:A7} (hm:Do EU s.disk=true) (e:A8) (ho:0<e.outs.length):G1 s e=KU ⟨s,e⟩:=by
 unfold G1 KU N0
 show (match KY s e e.outs 0 1048576 with|Lp.ret r=>r|Lp.brk time'=>_)=_
 have key:(UI ⟨s,e⟩ e.outs 0 s.disk.clock=Lp.ret (-1)∧KY s e e.outs 0 1048576=Lp.ret true)∨(∃o',1≤o'∧UI ⟨s,e⟩ e.outs 0 s.disk.clock=Lp.brk o'∧KY s e e.outs 0 1048576=Lp.brk o'):=by
  cases h:e.outs with
  |nil=>rw [h] at ho;simp at ho
  |cons x xs=>exact WH hm e 0 0
 rcases key with ⟨k1,k2⟩|⟨o',k0,k1,k2⟩
 ·show _=(decide ((match UI ⟨s,e⟩ e.outs 0 s.disk.clock with|Lp.ret r=>r|Lp.brk out'=>out')<(0:Int))||_)
  rw [k1,k2];rfl
 ·simp only [k1,k2]
  rw [decide_eq_false (by omega: ¬o'<0),Bool.false_or,Ve s e,Ve s e,Ve s e,V4,show CM (⟨s.disk.clock,s.disk.files⟩:Aj) _=Cn s.disk _ from Mf s.disk _]
theorem Uf {s:A7} (h:De s=true):Do EU s.disk=true:=by
 unfold De at h
 simp only [Bool.and_eq_true,decide_eq_true_eq] at h
 exact h.2.2.1
theorem XV {s:A7} (hz:s.sz≤1048576) (e:Int):EQ s e=C0 s e:=by
 have hgl:=Nat.le_trans s.graph.sz_len (Nat.le_trans s.sz_graph hz)
 cases hm:De s
 ·unfold EQ C0;rw [GH,hm];rfl
 ·rw [VW hm]
  unfold EQ ownM
  rw [GH,hm,KS (by omega),Tx]
  by_cases h0:e<0
  ·rw [decide_eq_true h0,decide_eq_false (by omega: ¬0≤e)];rfl
  ·rw [decide_eq_false h0,decide_eq_true (by omega:0≤e)]
   by_cases h1:((s.graph.edges.length:Nat):Int)≤e
   ·rw [decide_eq_true h1,decide_eq_false (by omega: ¬e<((s.graph.edges.length:Nat):Int))];rfl
   ·rw [decide_eq_false h1,decide_eq_true (by omega:e<((s.graph.edges.length:Nat):Int))]
    simp only [Bool.and_true,Bool.not_true,cond_false]
    have ho:=Ug hm (i:=e.toNat) (by omega)
    rw [Rs (Uf hm) _ ho]
end
end Go.Lift
namespace Go.Lift
noncomputable section
open Go Go.RowKit
theorem PJ {s:A7} (hm:De s=true) {i:Nat} (hi:i<s.graph.edges.length):C0 s ((i:Nat):Int)=bif IL s (s.graph.edges.getD i default) then (false,1901) else (G1 s (s.graph.edges.getD i default),0):=by
 rw [VW hm]
 unfold ownM
 rw [Tx,decide_eq_false (by omega: ¬((i:Nat):Int)<0),decide_eq_false (by omega: ¬((s.graph.edges.length:Nat):Int)≤((i:Nat):Int)),Int.toNat_natCast,Rs (Uf hm) _ (Ug hm hi)]
 rfl
theorem SI (s:A7) (row:List Bool): ∀(ys:List ByteArray) (k:Nat) (is:Bool),Ml s row ys k is=Lp.brk (is||ys.any fun y=>decide (0≤H2 s.graph y)&&row.getD (H2 s.graph y).toNat default)
 | [],k,is=>by rw [Ml];cases is<;>rfl
 |y::ys,k,is=>by
  rw [Ml,HV]
  show (bif is then Ml s row ys (k+1) true else bif decide (0≤H2 s.graph y) then Ml s row ys (k+1) (row.getD (H2 s.graph y).toNat default) else Ml s row ys (k+1) false)=_
  rw [SI s row ys (k+1) true,SI s row ys (k+1) _,SI s row ys (k+1) false,List.any_cons]
  cases is<;>cases decide (0≤H2 s.graph y)<;>cases row.getD (H2 s.graph y).toNat default<;>rfl
theorem Y4 (s:A7) (x:Int) (rest:List Int) (i:Nat) (row:List Bool):Oi s (x::rest) i row=bif IL s (s.graph.edges.getD x.toNat default) then Lp.ret ([],1901) else Oi s rest (i+1) (row.set x.toNat (G1 s (s.graph.edges.getD x.toNat default)||EL s row x.toNat)):=by
 rw [Oi,SI];rfl
theorem Rz (s:A7): ∀(o:List Int) (i:Nat) (row:List Bool),(∃x∈o,IL s (s.graph.edges.getD x.toNat default)=true)→Oi s o i row=Lp.ret ([],1901)
 | [],i,row,h=>by obtain ⟨x,hx,_⟩:=h;simp at hx
 |x::o,i,row,h=>by
  rw [Y4]
  cases hl:IL s (s.graph.edges.getD x.toNat default)
  ·refine Rz s o (i+1) _ ?_
   obtain ⟨y,hy,e⟩:=h
   rcases List.mem_cons.1 hy with rfl|hy
   ·rw [hl] at e;cases e
   ·exact ⟨y,hy,e⟩
  ·rfl
structure OT (s:A7) (row:List Bool) (pre:List Int):Prop where
 len:row.length=s.graph.edges.length
 done: ∀i:Nat,((i:Nat):Int)∈pre→row.getD i default=(G1 s (s.graph.edges.getD i default)||EL s row i)
theorem OT.next {s:A7} {row:List Bool} {o pre post:List Int} {x:Int} (hs:Steps s.graph o) (e:o=pre++x::post) (I:OT s row pre):
  OT s (row.set x.toNat (G1 s (s.graph.edges.getD x.toNat default)||EL s row x.toNat)) (pre++[x]):=by
 obtain ⟨i,rfl,hi,hn,hk⟩:=My hs e
 rw [Int.toNat_natCast]
 generalize hb:(G1 s (s.graph.edges.getD i default)||EL s row i)=b
 have hne: ∀y∈(s.graph.edges.getD i default).ins++(s.graph.edges.getD i default).implicit,0≤H2 s.graph y→(H2 s.graph y).toNat≠i:=by
  intro y hy h0 q
  have:=hk _ (GO hy h0)
  rw [show H2 s.graph y=((i:Nat):Int) by omega] at this
  exact hn this
 refine ⟨by simp [I.len],fun j hj=> ?_⟩
 rcases List.mem_append.1 hj with hj|hj
 ·have hji:j≠i:=fun q=>hn (by rw [←q];exact hj)
  rw [MN hji,I.done j hj]
  rw [FR (r1:=row) (r2:=row.set i b)]
  intro y hy h0
  refine (MN fun q=> ?_).symm
  obtain ⟨p1,p2,hp⟩:=List.append_of_mem hj
  obtain ⟨_,_,_,_,hk'⟩:=My (x:=((j:Nat):Int)) hs (pre:=p1) (post:=p2++((i:Nat):Int)::post) (by rw [e,hp];simp)
  have:=hk' _ (GO hy h0)
  rw [show H2 s.graph y=((i:Nat):Int) by omega] at this
  exact hn (by rw [hp];simp [this])
 ·have hji:j=i:=by simp only [List.mem_singleton] at hj;omega
  subst hji
  rw [FR (r1:=row.set j b) (r2:=row) (fun y hy h0=>MN (hne y hy h0)),hb]
  exact Li (by rw [I.len];exact hi)
theorem Uu {s:A7} {o:List Int} (hs:Steps s.graph o) (hl: ∀x∈o,IL s (s.graph.edges.getD x.toNat default)=false): ∀(post pre:List Int) (v:Nat) (row:List Bool),o=pre++post→OT s row pre→ ∃row',Oi s post v row=Lp.brk row'∧OT s row' o
 | [],pre,v,row,e,I=>⟨row,by rw [Oi],by rw [e,List.append_nil];exact I⟩
 |x::post,pre,v,row,e,I=>by
  rw [Y4,hl x (by rw [e];simp),cond_false]
  exact Uu hs hl post (pre++[x]) (v+1) _ (by rw [e];simp) (I.next hs e)
theorem Ti {s:A7} {o:List Int} (hs:Steps s.graph o) {f:Nat→Bool} {r1 r2:List Bool} (h1: ∀i:Nat,((i:Nat):Int)∈o→r1.getD i default=(f i||EL s r1 i)) (h2: ∀i:Nat,((i:Nat):Int)∈o→r2.getD i default=(f i||EL s r2 i)):
  ∀(post pre:List Int),o=pre++post→(∀i:Nat,((i:Nat):Int)∈pre→r1.getD i default=r2.getD i default)→ ∀i:Nat,((i:Nat):Int)∈o→r1.getD i default=r2.getD i default
 | [],pre,e,h,i,hi=>h i (by rw [e,List.append_nil] at hi;exact hi)
 |x::post,pre,e,h,i,hi=>by
  refine Ti hs h1 h2 post (pre++[x]) (by rw [e];simp) (fun j hj=> ?_) i hi
  rcases List.mem_append.1 hj with hj|hj
  ·exact h j hj
  ·obtain ⟨k,rfl,hk,_,hn⟩:=My hs e
   have hjk:j=k:=by simp only [List.mem_singleton] at hj;omega
   subst hjk
   rw [h1 j (by rw [e];simp),h2 j (by rw [e];simp),FR (r1:=r1) (r2:=r2)]
   intro y hy h0
   have:=hn _ (GO hy h0)
   rw [show H2 s.graph y=(((H2 s.graph y).toNat:Nat):Int) by omega] at this
   exact h _ this
theorem list_eq {a b:List Bool} {n:Nat} (ha:a.length=n) (hb:b.length=n) (h: ∀i,i<n→a.getD i default=b.getD i default):a=b:=by
 refine List.ext_getElem (by omega) fun i h1 h2=> ?_
 have:=h i (by omega)
 simpa [List.getD,h1,h2] using this
theorem Tg (s:A7):Lb s=D0 s:=by
 unfold Lb
 rw [GH,show Hb (⟨s.graph.edges,s.graph.pools,s.graph.defaults⟩:A3)=DQ s.graph from Gz s.graph]
 rcases Vy s with ⟨hm,e⟩|⟨hm,i,hi,hne,e⟩|⟨hm,h0,row',e,hl,hr⟩
 ·rw [e,hm];rfl
 ·obtain ⟨hs,hol,_⟩:=of_steps (S5 hm)
  have hp:=PJ hm hi
  have hlk:IL s (s.graph.edges.getD i default)=true:=by
   cases hq:IL s (s.graph.edges.getD i default)
   ·rw [hq] at hp;exact absurd (by unfold JN;rw [hp];rfl) hne
   ·rfl
  have hE:JN s i=1901:=by unfold JN;rw [hp,hlk];rfl
  rw [e,hm,hE,Rz s _ 0 _ ⟨_,NO hs hol hi,by rw [Int.toNat_natCast];exact hlk⟩];rfl
 ·obtain ⟨hs,hol,_⟩:=of_steps (S5 hm)
  have hlk: ∀i,i<s.graph.edges.length→IL s (s.graph.edges.getD i default)=false:=fun i hi=>by
   have hp:=PJ hm hi
   have h1:=h0 i hi
   unfold JN at h1
   rw [hp] at h1
   cases hq:IL s (s.graph.edges.getD i default)
   ·rfl
   ·rw [hq] at h1;exact absurd h1 (show ¬(1901:Int)=0 by decide)
  have hB: ∀i,i<s.graph.edges.length→PH s i=G1 s (s.graph.edges.getD i default):=fun i hi=>by
   unfold PH;rw [PJ hm hi,hlk i hi];rfl
  obtain ⟨r2,k1,k2⟩:=Uu hs (fun x hx=>hlk _ (SC hx).2) (DQ s.graph).1 [] 0 (List.replicate s.graph.edges.length false) rfl ⟨by simp,fun _ h=>by simp at h⟩
  rw [hm,k1,e]
  simp only [Bool.not_true,cond_false]
  rw [list_eq k2.len hl fun i hi=>Ti hs (f:=fun i=>G1 s (s.graph.edges.getD i default)) (r1:=r2) (r2:=row') k2.done (fun j hj=>by
   have hjl:j<s.graph.edges.length:=by have:=(SC hj).2;omega
   rw [hr j hjl,hB j hjl]) (DQ s.graph).1 [] rfl (fun _ h=>by simp at h) i (NO hs hol hi)]
theorem Nh {s:A7} (hz:s.sz≤1048576) (e:Int):LH s e=true:=by
 unfold LH
 rw [M8,XV hz,Tg,PU,show Jm s s=true from PY s,Ni]
 simp [GE]
theorem fnd_sz {fs:List A2} (hz:Eb A2.sz fs≤1048576) {k:Nat} (h:k<fs.length):(fs.getD k default).sz≤1048576:=by
 have hm:fs.getD k default∈fs:=by
  have:fs.getD k default=fs[k]:=by simp [List.getD,h]
  rw [this];exact List.getElem_mem h
 have:=Ia (sz:=A2.sz) hm
 omega
theorem KQ: ∀xs:List ByteArray,BP xs 1+1=Eb (fun s:ByteArray=>s.size+1) xs
 | []=>by simp [BP,Eb]
 |x::r=>by
  have ih:=KQ r
  simp only [BP,Eb,List.map_cons,List.sum_cons] at ih ⊢
  omega
theorem ED {e:A8} (hz:e.sz≤1048576):BP e.outs (⟨#[32]⟩:ByteArray).size≤281474976710656∧BP e.ins (⟨#[32]⟩:ByteArray).size≤281474976710656∧BP e.implicit (⟨#[32]⟩:ByteArray).size≤281474976710656:=by
 have h1:=KQ e.outs
 have h2:=KQ e.ins
 have h3:=KQ e.implicit
 have g1:=Bp e.outs
 have g2:=Bp e.ins
 have g3:=Bp e.implicit
 unfold A8.sz at hz;simp only at hz
 show BP e.outs 1≤_∧BP e.ins 1≤_∧BP e.implicit 1≤_
 omega
end
end Go.Lift
namespace Go.Lift
noncomputable section
open Go Go.RowKit
theorem MD {H:Type} {enc:TypeId×Value→H} {w:World} {spare:Nat→Bool} {held:Bool} {bk:DataW H→Nat} {μ:Mu} (hb:CD bk) (hμ: ∀g,¬μ.mut g):IB enc Go.Proofs.Tryz.prog w spare held bk μ 9 AV.s (fun s:ByteArray=>s.size+1):=IB.str hb (by kernel_rfl)
theorem LO {H:Type} {enc:TypeId×Value→H} {w:World} {spare:Nat→Bool} {held:Bool} {bk:DataW H→Nat} {μ:Mu} (hb:CD bk) (hμ: ∀g,¬μ.mut g):IB enc Go.Proofs.Tryz.prog w spare held bk μ 24 (Ag 1 AV.s) (Eb (fun s:ByteArray=>s.size+1)):=IB.slice hb hμ (e:=9) (by kernel_rfl) (by kernel_rfl) (fun a=>Or.inr ⟨(by intro fs h;cases h),rfl,rfl⟩) (MD hb hμ)
theorem Y3 {H:Type} {enc:TypeId×Value→H} {w:World} {spare:Nat→Bool} {held:Bool} {bk:DataW H→Nat} {μ:Mu} (hb:CD bk) (hμ: ∀g,¬μ.mut g):IB enc Go.Proofs.Tryz.prog w spare held bk μ 4 AV.b (fun _=>1):=IB.bool hb (by kernel_rfl)
theorem rdg_65 {H:Type} {enc:TypeId×Value→H} {w:World} {spare:Nat→Bool} {held:Bool} {bk:DataW H→Nat} {μ:Mu} (hb:CD bk) (hμ: ∀g,¬μ.mut g):IB enc Go.Proofs.Tryz.prog w spare held bk μ 65 A8.av A8.sz where
 rd fuel cs x h hbd:=by
  obtain ⟨xs,n,e,hl,hlen,hf⟩:=EE (t:=65) (by kernel_rfl) h
  have hn:(Nf Go.Proofs.Tryz.prog 65).size=7:=by kernel_rfl
  have hc:Go.Proofs.Tryz.prog.cellsOf 65=7:=by kernel_rfl
  rw [hn] at hlen;rw [hc] at hl
  match xs,hlen,e,hf with
  | [x0,x1,x2,x3,x4,x5,x6],_,e,hf=>
    have hag:=hb.agg [x0.1,x1.1,x2.1,x3.1,x4.1,x5.1,x6.1]
    simp only [List.map_cons,List.map_nil,List.sum_cons,List.sum_nil] at hag e
    rw [e] at hbd ⊢
    obtain ⟨y0,e0,r0⟩:=hf 0 0 24 1 (by kernel_rfl)
    cases e0
    obtain ⟨a0,c0,o0,s0⟩:=(LO hb hμ).rd _ _ _ r0 (by omega)
    obtain ⟨y1,e1,r1⟩:=hf 1 1 24 1 (by kernel_rfl)
    cases e1
    obtain ⟨a1,c1,o1,s1⟩:=(LO hb hμ).rd _ _ _ r1 (by omega)
    obtain ⟨y2,e2,r2⟩:=hf 2 2 24 1 (by kernel_rfl)
    cases e2
    obtain ⟨a2,c2,o2,s2⟩:=(LO hb hμ).rd _ _ _ r2 (by omega)
    obtain ⟨y3,e3,r3⟩:=hf 3 3 24 1 (by kernel_rfl)
    cases e3
    obtain ⟨a3,c3,o3,s3⟩:=(LO hb hμ).rd _ _ _ r3 (by omega)
    obtain ⟨y4,e4,r4⟩:=hf 4 4 9 1 (by kernel_rfl)
    cases e4
    obtain ⟨a4,c4,o4,s4⟩:=(MD hb hμ).rd _ _ _ r4 (by omega)
    obtain ⟨y5,e5,r5⟩:=hf 5 5 4 1 (by kernel_rfl)
    cases e5
    obtain ⟨a5,c5,o5,s5⟩:=(Y3 hb hμ).rd _ _ _ r5 (by omega)
    obtain ⟨y6,e6,r6⟩:=hf 6 6 9 1 (by kernel_rfl)
    cases e6
    obtain ⟨a6,c6,o6,s6⟩:=(MD hb hμ).rd _ _ _ r6 (by omega)
    refine ⟨⟨a0,a1,a2,a3,a4,a5,a6⟩,?_,?_,?_⟩
    ·have q:=(B6 (B6 (B6 (B6 (B6 (B6 (B6 (show Cy w μ [] (cs.take 0) by simp [Cy]) c0) c1) c2) c3) c4) c5) c6)
     rw [show cs.take (0+1+1+1+1+1+1+1)=cs from List.take_of_length_le (by omega)] at q
     exact q
    ·have q:=(B8 (B8 (B8 (B8 (B8 (B8 (B8 (show ∀u∈cs.take 0,u.oneCell'=true by simp) o0) o1) o2) o3) o4) o5) o6)
     rw [show cs.take (0+1+1+1+1+1+1+1)=cs from List.take_of_length_le (by omega)] at q
     exact q
    ·unfold A8.sz;simp only at*;omega
theorem rdg_22 {H:Type} {enc:TypeId×Value→H} {w:World} {spare:Nat→Bool} {held:Bool} {bk:DataW H→Nat} {μ:Mu} (hb:CD bk) (hμ: ∀g,¬μ.mut g):IB enc Go.Proofs.Tryz.prog w spare held bk μ 22 (Ag 7 A8.av) (Eb A8.sz):=IB.slice hb hμ (e:=65) (by kernel_rfl) (by kernel_rfl) (fun a=>Or.inl ⟨_,rfl,rfl⟩) (rdg_65 hb hμ)
theorem O3 {H:Type} {enc:TypeId×Value→H} {w:World} {spare:Nat→Bool} {held:Bool} {bk:DataW H→Nat} {μ:Mu} (hb:CD bk) (hμ: ∀g,¬μ.mut g):IB enc Go.Proofs.Tryz.prog w spare held bk μ 3 (AV.i .i64) (fun _=>1):=IB.int hb (by kernel_rfl)
theorem rdg_122 {H:Type} {enc:TypeId×Value→H} {w:World} {spare:Nat→Bool} {held:Bool} {bk:DataW H→Nat} {μ:Mu} (hb:CD bk) (hμ: ∀g,¬μ.mut g):IB enc Go.Proofs.Tryz.prog w spare held bk μ 122 AD.av AD.sz where
 rd fuel cs x h hbd:=by
  obtain ⟨xs,n,e,hl,hlen,hf⟩:=EE (t:=122) (by kernel_rfl) h
  have hn:(Nf Go.Proofs.Tryz.prog 122).size=2:=by kernel_rfl
  have hc:Go.Proofs.Tryz.prog.cellsOf 122=2:=by kernel_rfl
  rw [hn] at hlen;rw [hc] at hl
  match xs,hlen,e,hf with
  | [x0,x1],_,e,hf=>
    have hag:=hb.agg [x0.1,x1.1]
    simp only [List.map_cons,List.map_nil,List.sum_cons,List.sum_nil] at hag e
    rw [e] at hbd ⊢
    obtain ⟨y0,e0,r0⟩:=hf 0 0 9 1 (by kernel_rfl)
    cases e0
    obtain ⟨a0,c0,o0,s0⟩:=(MD hb hμ).rd _ _ _ r0 (by omega)
    obtain ⟨y1,e1,r1⟩:=hf 1 1 3 1 (by kernel_rfl)
    cases e1
    obtain ⟨a1,c1,o1,s1⟩:=(O3 hb hμ).rd _ _ _ r1 (by omega)
    refine ⟨⟨a0,a1⟩,?_,?_,?_⟩
    ·have q:=(B6 (B6 (show Cy w μ [] (cs.take 0) by simp [Cy]) c0) c1)
     rw [show cs.take (0+1+1)=cs from List.take_of_length_le (by omega)] at q
     exact q
    ·have q:=(B8 (B8 (show ∀u∈cs.take 0,u.oneCell'=true by simp) o0) o1)
     rw [show cs.take (0+1+1)=cs from List.take_of_length_le (by omega)] at q
     exact q
    ·unfold AD.sz;simp only at*;omega
theorem rdg_23 {H:Type} {enc:TypeId×Value→H} {w:World} {spare:Nat→Bool} {held:Bool} {bk:DataW H→Nat} {μ:Mu} (hb:CD bk) (hμ: ∀g,¬μ.mut g):IB enc Go.Proofs.Tryz.prog w spare held bk μ 23 (Ag 2 AD.av) (Eb AD.sz):=IB.slice hb hμ (e:=122) (by kernel_rfl) (by kernel_rfl) (fun a=>Or.inl ⟨_,rfl,rfl⟩) (rdg_122 hb hμ)
theorem rdg_26 {H:Type} {enc:TypeId×Value→H} {w:World} {spare:Nat→Bool} {held:Bool} {bk:DataW H→Nat} {μ:Mu} (hb:CD bk) (hμ: ∀g,¬μ.mut g):IB enc Go.Proofs.Tryz.prog w spare held bk μ 26 A3.av A3.sz where
 rd fuel cs x h hbd:=by
  obtain ⟨xs,n,e,hl,hlen,hf⟩:=EE (t:=26) (by kernel_rfl) h
  have hn:(Nf Go.Proofs.Tryz.prog 26).size=3:=by kernel_rfl
  have hc:Go.Proofs.Tryz.prog.cellsOf 26=3:=by kernel_rfl
  rw [hn] at hlen;rw [hc] at hl
  match xs,hlen,e,hf with
  | [x0,x1,x2],_,e,hf=>
    have hag:=hb.agg [x0.1,x1.1,x2.1]
    simp only [List.map_cons,List.map_nil,List.sum_cons,List.sum_nil] at hag e
    rw [e] at hbd ⊢
    obtain ⟨y0,e0,r0⟩:=hf 0 0 22 1 (by kernel_rfl)
    cases e0
    obtain ⟨a0,c0,o0,s0⟩:=(rdg_22 hb hμ).rd _ _ _ r0 (by omega)
    obtain ⟨y1,e1,r1⟩:=hf 1 1 23 1 (by kernel_rfl)
    cases e1
    obtain ⟨a1,c1,o1,s1⟩:=(rdg_23 hb hμ).rd _ _ _ r1 (by omega)
    obtain ⟨y2,e2,r2⟩:=hf 2 2 24 1 (by kernel_rfl)
    cases e2
    obtain ⟨a2,c2,o2,s2⟩:=(LO hb hμ).rd _ _ _ r2 (by omega)
    refine ⟨⟨a0,a1,a2⟩,?_,?_,?_⟩
    ·have q:=(B6 (B6 (B6 (show Cy w μ [] (cs.take 0) by simp [Cy]) c0) c1) c2)
     rw [show cs.take (0+1+1+1)=cs from List.take_of_length_le (by omega)] at q
     exact q
    ·have q:=(B8 (B8 (B8 (show ∀u∈cs.take 0,u.oneCell'=true by simp) o0) o1) o2)
     rw [show cs.take (0+1+1+1)=cs from List.take_of_length_le (by omega)] at q
     exact q
    ·unfold A3.sz;simp only at*;omega
theorem rdg_67 {H:Type} {enc:TypeId×Value→H} {w:World} {spare:Nat→Bool} {held:Bool} {bk:DataW H→Nat} {μ:Mu} (hb:CD bk) (hμ: ∀g,¬μ.mut g):IB enc Go.Proofs.Tryz.prog w spare held bk μ 67 Ae.av Ae.sz where
 rd fuel cs x h hbd:=by
  obtain ⟨xs,n,e,hl,hlen,hf⟩:=EE (t:=67) (by kernel_rfl) h
  have hn:(Nf Go.Proofs.Tryz.prog 67).size=3:=by kernel_rfl
  have hc:Go.Proofs.Tryz.prog.cellsOf 67=3:=by kernel_rfl
  rw [hn] at hlen;rw [hc] at hl
  match xs,hlen,e,hf with
  | [x0,x1,x2],_,e,hf=>
    have hag:=hb.agg [x0.1,x1.1,x2.1]
    simp only [List.map_cons,List.map_nil,List.sum_cons,List.sum_nil] at hag e
    rw [e] at hbd ⊢
    obtain ⟨y0,e0,r0⟩:=hf 0 0 9 1 (by kernel_rfl)
    cases e0
    obtain ⟨a0,c0,o0,s0⟩:=(MD hb hμ).rd _ _ _ r0 (by omega)
    obtain ⟨y1,e1,r1⟩:=hf 1 1 24 1 (by kernel_rfl)
    cases e1
    obtain ⟨a1,c1,o1,s1⟩:=(LO hb hμ).rd _ _ _ r1 (by omega)
    obtain ⟨y2,e2,r2⟩:=hf 2 2 4 1 (by kernel_rfl)
    cases e2
    obtain ⟨a2,c2,o2,s2⟩:=(Y3 hb hμ).rd _ _ _ r2 (by omega)
    refine ⟨⟨a0,a1,a2⟩,?_,?_,?_⟩
    ·have q:=(B6 (B6 (B6 (show Cy w μ [] (cs.take 0) by simp [Cy]) c0) c1) c2)
     rw [show cs.take (0+1+1+1)=cs from List.take_of_length_le (by omega)] at q
     exact q
    ·have q:=(B8 (B8 (B8 (show ∀u∈cs.take 0,u.oneCell'=true by simp) o0) o1) o2)
     rw [show cs.take (0+1+1+1)=cs from List.take_of_length_le (by omega)] at q
     exact q
    ·unfold Ae.sz;simp only at*;omega
theorem rdg_27 {H:Type} {enc:TypeId×Value→H} {w:World} {spare:Nat→Bool} {held:Bool} {bk:DataW H→Nat} {μ:Mu} (hb:CD bk) (hμ: ∀g,¬μ.mut g):IB enc Go.Proofs.Tryz.prog w spare held bk μ 27 (Ag 3 Ae.av) (Eb Ae.sz):=IB.slice hb hμ (e:=67) (by kernel_rfl) (by kernel_rfl) (fun a=>Or.inl ⟨_,rfl,rfl⟩) (rdg_67 hb hμ)
theorem rdg_85 {H:Type} {enc:TypeId×Value→H} {w:World} {spare:Nat→Bool} {held:Bool} {bk:DataW H→Nat} {μ:Mu} (hb:CD bk) (hμ: ∀g,¬μ.mut g):IB enc Go.Proofs.Tryz.prog w spare held bk μ 85 Ak.av Ak.sz where
 rd fuel cs x h hbd:=by
  obtain ⟨xs,n,e,hl,hlen,hf⟩:=EE (t:=85) (by kernel_rfl) h
  have hn:(Nf Go.Proofs.Tryz.prog 85).size=3:=by kernel_rfl
  have hc:Go.Proofs.Tryz.prog.cellsOf 85=3:=by kernel_rfl
  rw [hn] at hlen;rw [hc] at hl
  match xs,hlen,e,hf with
  | [x0,x1,x2],_,e,hf=>
    have hag:=hb.agg [x0.1,x1.1,x2.1]
    simp only [List.map_cons,List.map_nil,List.sum_cons,List.sum_nil] at hag e
    rw [e] at hbd ⊢
    obtain ⟨y0,e0,r0⟩:=hf 0 0 9 1 (by kernel_rfl)
    cases e0
    obtain ⟨a0,c0,o0,s0⟩:=(MD hb hμ).rd _ _ _ r0 (by omega)
    obtain ⟨y1,e1,r1⟩:=hf 1 1 3 1 (by kernel_rfl)
    cases e1
    obtain ⟨a1,c1,o1,s1⟩:=(O3 hb hμ).rd _ _ _ r1 (by omega)
    obtain ⟨y2,e2,r2⟩:=hf 2 2 3 1 (by kernel_rfl)
    cases e2
    obtain ⟨a2,c2,o2,s2⟩:=(O3 hb hμ).rd _ _ _ r2 (by omega)
    refine ⟨⟨a0,a1,a2⟩,?_,?_,?_⟩
    ·have q:=(B6 (B6 (B6 (show Cy w μ [] (cs.take 0) by simp [Cy]) c0) c1) c2)
     rw [show cs.take (0+1+1+1)=cs from List.take_of_length_le (by omega)] at q
     exact q
    ·have q:=(B8 (B8 (B8 (show ∀u∈cs.take 0,u.oneCell'=true by simp) o0) o1) o2)
     rw [show cs.take (0+1+1+1)=cs from List.take_of_length_le (by omega)] at q
     exact q
    ·unfold Ak.sz;simp only at*;omega
theorem rdg_28 {H:Type} {enc:TypeId×Value→H} {w:World} {spare:Nat→Bool} {held:Bool} {bk:DataW H→Nat} {μ:Mu} (hb:CD bk) (hμ: ∀g,¬μ.mut g):IB enc Go.Proofs.Tryz.prog w spare held bk μ 28 (Ag 3 Ak.av) (Eb Ak.sz):=IB.slice hb hμ (e:=85) (by kernel_rfl) (by kernel_rfl) (fun a=>Or.inl ⟨_,rfl,rfl⟩) (rdg_85 hb hμ)
theorem rdg_30 {H:Type} {enc:TypeId×Value→H} {w:World} {spare:Nat→Bool} {held:Bool} {bk:DataW H→Nat} {μ:Mu} (hb:CD bk) (hμ: ∀g,¬μ.mut g):IB enc Go.Proofs.Tryz.prog w spare held bk μ 30 Aj.av Aj.sz where
 rd fuel cs x h hbd:=by
  obtain ⟨xs,n,e,hl,hlen,hf⟩:=EE (t:=30) (by kernel_rfl) h
  have hn:(Nf Go.Proofs.Tryz.prog 30).size=2:=by kernel_rfl
  have hc:Go.Proofs.Tryz.prog.cellsOf 30=2:=by kernel_rfl
  rw [hn] at hlen;rw [hc] at hl
  match xs,hlen,e,hf with
  | [x0,x1],_,e,hf=>
    have hag:=hb.agg [x0.1,x1.1]
    simp only [List.map_cons,List.map_nil,List.sum_cons,List.sum_nil] at hag e
    rw [e] at hbd ⊢
    obtain ⟨y0,e0,r0⟩:=hf 0 0 3 1 (by kernel_rfl)
    cases e0
    obtain ⟨a0,c0,o0,s0⟩:=(O3 hb hμ).rd _ _ _ r0 (by omega)
    obtain ⟨y1,e1,r1⟩:=hf 1 1 28 1 (by kernel_rfl)
    cases e1
    obtain ⟨a1,c1,o1,s1⟩:=(rdg_28 hb hμ).rd _ _ _ r1 (by omega)
    refine ⟨⟨a0,a1⟩,?_,?_,?_⟩
    ·have q:=(B6 (B6 (show Cy w μ [] (cs.take 0) by simp [Cy]) c0) c1)
     rw [show cs.take (0+1+1)=cs from List.take_of_length_le (by omega)] at q
     exact q
    ·have q:=(B8 (B8 (show ∀u∈cs.take 0,u.oneCell'=true by simp) o0) o1)
     rw [show cs.take (0+1+1)=cs from List.take_of_length_le (by omega)] at q
     exact q
    ·unfold Aj.sz;simp only at*;omega
theorem rdg_56 {H:Type} {enc:TypeId×Value→H} {w:World} {spare:Nat→Bool} {held:Bool} {bk:DataW H→Nat} {μ:Mu} (hb:CD bk) (hμ: ∀g,¬μ.mut g):IB enc Go.Proofs.Tryz.prog w spare held bk μ 56 A6.av A6.sz where
 rd fuel cs x h hbd:=by
  obtain ⟨xs,n,e,hl,hlen,hf⟩:=EE (t:=56) (by kernel_rfl) h
  have hn:(Nf Go.Proofs.Tryz.prog 56).size=3:=by kernel_rfl
  have hc:Go.Proofs.Tryz.prog.cellsOf 56=3:=by kernel_rfl
  rw [hn] at hlen;rw [hc] at hl
  match xs,hlen,e,hf with
  | [x0,x1,x2],_,e,hf=>
    have hag:=hb.agg [x0.1,x1.1,x2.1]
    simp only [List.map_cons,List.map_nil,List.sum_cons,List.sum_nil] at hag e
    rw [e] at hbd ⊢
    obtain ⟨y0,e0,r0⟩:=hf 0 0 9 1 (by kernel_rfl)
    cases e0
    obtain ⟨a0,c0,o0,s0⟩:=(MD hb hμ).rd _ _ _ r0 (by omega)
    obtain ⟨y1,e1,r1⟩:=hf 1 1 3 1 (by kernel_rfl)
    cases e1
    obtain ⟨a1,c1,o1,s1⟩:=(O3 hb hμ).rd _ _ _ r1 (by omega)
    obtain ⟨y2,e2,r2⟩:=hf 2 2 9 1 (by kernel_rfl)
    cases e2
    obtain ⟨a2,c2,o2,s2⟩:=(MD hb hμ).rd _ _ _ r2 (by omega)
    refine ⟨⟨a0,a1,a2⟩,?_,?_,?_⟩
    ·have q:=(B6 (B6 (B6 (show Cy w μ [] (cs.take 0) by simp [Cy]) c0) c1) c2)
     rw [show cs.take (0+1+1+1)=cs from List.take_of_length_le (by omega)] at q
     exact q
    ·have q:=(B8 (B8 (B8 (show ∀u∈cs.take 0,u.oneCell'=true by simp) o0) o1) o2)
     rw [show cs.take (0+1+1+1)=cs from List.take_of_length_le (by omega)] at q
     exact q
    ·unfold A6.sz;simp only at*;omega
theorem rdg_31 {H:Type} {enc:TypeId×Value→H} {w:World} {spare:Nat→Bool} {held:Bool} {bk:DataW H→Nat} {μ:Mu} (hb:CD bk) (hμ: ∀g,¬μ.mut g):IB enc Go.Proofs.Tryz.prog w spare held bk μ 31 (Ag 3 A6.av) (Eb A6.sz):=IB.slice hb hμ (e:=56) (by kernel_rfl) (by kernel_rfl) (fun a=>Or.inl ⟨_,rfl,rfl⟩) (rdg_56 hb hμ)
theorem rdg_61 {H:Type} {enc:TypeId×Value→H} {w:World} {spare:Nat→Bool} {held:Bool} {bk:DataW H→Nat} {μ:Mu} (hb:CD bk) (hμ: ∀g,¬μ.mut g):IB enc Go.Proofs.Tryz.prog w spare held bk μ 61 A2.av A2.sz where
 rd fuel cs x h hbd:=by
  obtain ⟨xs,n,e,hl,hlen,hf⟩:=EE (t:=61) (by kernel_rfl) h
  have hn:(Nf Go.Proofs.Tryz.prog 61).size=3:=by kernel_rfl
  have hc:Go.Proofs.Tryz.prog.cellsOf 61=3:=by kernel_rfl
  rw [hn] at hlen;rw [hc] at hl
  match xs,hlen,e,hf with
  | [x0,x1,x2],_,e,hf=>
    have hag:=hb.agg [x0.1,x1.1,x2.1]
    simp only [List.map_cons,List.map_nil,List.sum_cons,List.sum_nil] at hag e
    rw [e] at hbd ⊢
    obtain ⟨y0,e0,r0⟩:=hf 0 0 9 1 (by kernel_rfl)
    cases e0
    obtain ⟨a0,c0,o0,s0⟩:=(MD hb hμ).rd _ _ _ r0 (by omega)
    obtain ⟨y1,e1,r1⟩:=hf 1 1 3 1 (by kernel_rfl)
    cases e1
    obtain ⟨a1,c1,o1,s1⟩:=(O3 hb hμ).rd _ _ _ r1 (by omega)
    obtain ⟨y2,e2,r2⟩:=hf 2 2 24 1 (by kernel_rfl)
    cases e2
    obtain ⟨a2,c2,o2,s2⟩:=(LO hb hμ).rd _ _ _ r2 (by omega)
    refine ⟨⟨a0,a1,a2⟩,?_,?_,?_⟩
    ·have q:=(B6 (B6 (B6 (show Cy w μ [] (cs.take 0) by simp [Cy]) c0) c1) c2)
     rw [show cs.take (0+1+1+1)=cs from List.take_of_length_le (by omega)] at q
     exact q
    ·have q:=(B8 (B8 (B8 (show ∀u∈cs.take 0,u.oneCell'=true by simp) o0) o1) o2)
     rw [show cs.take (0+1+1+1)=cs from List.take_of_length_le (by omega)] at q
     exact q
    ·unfold A2.sz;simp only at*;omega
theorem rdg_32 {H:Type} {enc:TypeId×Value→H} {w:World} {spare:Nat→Bool} {held:Bool} {bk:DataW H→Nat} {μ:Mu} (hb:CD bk) (hμ: ∀g,¬μ.mut g):IB enc Go.Proofs.Tryz.prog w spare held bk μ 32 (Ag 3 A2.av) (Eb A2.sz):=IB.slice hb hμ (e:=61) (by kernel_rfl) (by kernel_rfl) (fun a=>Or.inl ⟨_,rfl,rfl⟩) (rdg_61 hb hμ)
theorem rdg_33 {H:Type} {enc:TypeId×Value→H} {w:World} {spare:Nat→Bool} {held:Bool} {bk:DataW H→Nat} {μ:Mu} (hb:CD bk) (hμ: ∀g,¬μ.mut g):IB enc Go.Proofs.Tryz.prog w spare held bk μ 33 (Ag 1 (AV.i .i64)) (Eb (fun _=>1)):=IB.slice hb hμ (e:=3) (by kernel_rfl) (by kernel_rfl) (fun a=>Or.inr ⟨(by intro fs h;cases h),rfl,rfl⟩) (O3 hb hμ)
theorem rdg_35 {H:Type} {enc:TypeId×Value→H} {w:World} {spare:Nat→Bool} {held:Bool} {bk:DataW H→Nat} {μ:Mu} (hb:CD bk) (hμ: ∀g,¬μ.mut g):IB enc Go.Proofs.Tryz.prog w spare held bk μ 35 A7.av A7.sz where
 rd fuel cs x h hbd:=by
  obtain ⟨xs,n,e,hl,hlen,hf⟩:=EE (t:=35) (by kernel_rfl) h
  have hn:(Nf Go.Proofs.Tryz.prog 35).size=8:=by kernel_rfl
  have hc:Go.Proofs.Tryz.prog.cellsOf 35=11:=by kernel_rfl
  rw [hn] at hlen;rw [hc] at hl
  match xs,hlen,e,hf with
  | [x0,x1,x2,x3,x4,x5,x6,x7],_,e,hf=>
    have hag:=hb.agg [x0.1,x1.1,x2.1,x3.1,x4.1,x5.1,x6.1,x7.1]
    simp only [List.map_cons,List.map_nil,List.sum_cons,List.sum_nil] at hag e
    rw [e] at hbd ⊢
    obtain ⟨y0,e0,r0⟩:=hf 0 0 26 3 (by kernel_rfl)
    cases e0
    obtain ⟨a0,c0,o0,s0⟩:=(rdg_26 hb hμ).rd _ _ _ r0 (by omega)
    obtain ⟨y1,e1,r1⟩:=hf 1 3 27 1 (by kernel_rfl)
    cases e1
    obtain ⟨a1,c1,o1,s1⟩:=(rdg_27 hb hμ).rd _ _ _ r1 (by omega)
    obtain ⟨y2,e2,r2⟩:=hf 2 4 30 2 (by kernel_rfl)
    cases e2
    obtain ⟨a2,c2,o2,s2⟩:=(rdg_30 hb hμ).rd _ _ _ r2 (by omega)
    obtain ⟨y3,e3,r3⟩:=hf 3 6 31 1 (by kernel_rfl)
    cases e3
    obtain ⟨a3,c3,o3,s3⟩:=(rdg_31 hb hμ).rd _ _ _ r3 (by omega)
    obtain ⟨y4,e4,r4⟩:=hf 4 7 32 1 (by kernel_rfl)
    cases e4
    obtain ⟨a4,c4,o4,s4⟩:=(rdg_32 hb hμ).rd _ _ _ r4 (by omega)
    obtain ⟨y5,e5,r5⟩:=hf 5 8 3 1 (by kernel_rfl)
    cases e5
    obtain ⟨a5,c5,o5,s5⟩:=(O3 hb hμ).rd _ _ _ r5 (by omega)
    obtain ⟨y6,e6,r6⟩:=hf 6 9 4 1 (by kernel_rfl)
    cases e6
    obtain ⟨a6,c6,o6,s6⟩:=(Y3 hb hμ).rd _ _ _ r6 (by omega)
    obtain ⟨y7,e7,r7⟩:=hf 7 10 33 1 (by kernel_rfl)
    cases e7
    obtain ⟨a7,c7,o7,s7⟩:=(rdg_33 hb hμ).rd _ _ _ r7 (by omega)
    refine ⟨⟨a0,a1,a2,a3,a4,a5,a6,a7⟩,?_,?_,?_⟩
    ·have q:=(B6 (B6 (B6 (B6 (B6 (B6 (B6 (B6 (show Cy w μ [] (cs.take 0) by simp [Cy]) c0) c1) c2) c3) c4) c5) c6) c7)
     rw [show cs.take (0+3+1+2+1+1+1+1+1)=cs from List.take_of_length_le (by omega)] at q
     exact q
    ·have q:=(B8 (B8 (B8 (B8 (B8 (B8 (B8 (B8 (show ∀u∈cs.take 0,u.oneCell'=true by simp) o0) o1) o2) o3) o4) o5) o6) o7)
     rw [show cs.take (0+3+1+2+1+1+1+1+1)=cs from List.take_of_length_le (by omega)] at q
     exact q
    ·unfold A7.sz;simp only at*;omega
end
end Go.Lift
