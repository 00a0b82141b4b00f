/-
  Lemmas of this claim: a layer over the kit's calls, contracts of the functions that the law reaches, and the law's row. No condition of its own.
-/
import Derived.Test.YtjfhbchfhpgefaaGreatDoorLbDirtyForms
import Derived.Test.YtjfhbchfhpgefaaGreatDoorSaDirtyForms
set_option linter.unusedSimpArgs false
set_option linter.unusedVariables false
set_option linter.unusedSectionVars false
set_option maxRecDepth 20000
namespace Go.Lift
noncomputable section
open Go Go.RowKit
structure Ae where
 name:ByteArray
 content:Int
 time:Int
def Ae.av (d:Ae):AV:= .st [AV.s d.name,(AV.i .i64) d.content,(AV.i .i64) d.time]
def Ae.zero:Ae:=⟨(⟨#[]⟩:ByteArray),(0:Int),(0:Int)⟩
instance:Inhabited Ae:=⟨Ae.zero⟩
def Ae.sz (d:Ae):Nat:=(fun s:ByteArray=>s.size+1) d.name+(fun _=>1) d.content+(fun _=>1) d.time+1
structure B1 where
 outs:List ByteArray
 ins:List ByteArray
 implicit:List ByteArray
 order:List ByteArray
 command:ByteArray
 deps:Bool
 pool:ByteArray
def B1.av (d:B1):AV:= .st [(AY 1 AV.s) d.outs,(AY 1 AV.s) d.ins,(AY 1 AV.s) d.implicit,(AY 1 AV.s) d.order,AV.s d.command,AV.b d.deps,AV.s d.pool]
def B1.zero:B1:=⟨[],[],[],[],(⟨#[]⟩:ByteArray),false,(⟨#[]⟩:ByteArray)⟩
instance:Inhabited B1:=⟨B1.zero⟩
def B1.sz (d:B1):Nat:=(Kc (fun s:ByteArray=>s.size+1)) d.outs+(Kc (fun s:ByteArray=>s.size+1)) d.ins+(Kc (fun s:ByteArray=>s.size+1)) d.implicit+(Kc (fun s:ByteArray=>s.size+1)) d.order+(fun s:ByteArray=>s.size+1) d.command+(fun _=>1) d.deps+(fun s:ByteArray=>s.size+1) d.pool+1
theorem B1.sz_outs (d:B1):(Kc (fun s:ByteArray=>s.size+1)) d.outs≤d.sz:=by unfold B1.sz;omega
theorem B1.sz_ins (d:B1):(Kc (fun s:ByteArray=>s.size+1)) d.ins≤d.sz:=by unfold B1.sz;omega
theorem B1.sz_implicit (d:B1):(Kc (fun s:ByteArray=>s.size+1)) d.implicit≤d.sz:=by unfold B1.sz;omega
structure BZ where
 name:ByteArray
 depth:Int
def BZ.av (d:BZ):AV:= .st [AV.s d.name,(AV.i .i64) d.depth]
def BZ.zero:BZ:=⟨(⟨#[]⟩:ByteArray),(0:Int)⟩
instance:Inhabited BZ:=⟨BZ.zero⟩
def BZ.sz (d:BZ):Nat:=(fun s:ByteArray=>s.size+1) d.name+(fun _=>1) d.depth+1
structure AL where
 edges:List B1
 pools:List BZ
 defaults:List ByteArray
def AL.av (d:AL):AV:= .st [(AY 7 B1.av) d.edges,(AY 2 BZ.av) d.pools,(AY 1 AV.s) d.defaults]
def AL.zero:AL:=⟨[],[],[]⟩
instance:Inhabited AL:=⟨AL.zero⟩
def AL.sz (d:AL):Nat:=(Kc B1.sz) d.edges+(Kc BZ.sz) d.pools+(Kc (fun s:ByteArray=>s.size+1)) d.defaults+1
theorem AL.sz_edges (d:AL):(Kc B1.sz) d.edges≤d.sz:=by unfold AL.sz;omega
structure Bz where
 command:ByteArray
 reads:List ByteArray
 fails:Bool
def Bz.av (d:Bz):AV:= .st [AV.s d.command,(AY 1 AV.s) d.reads,AV.b d.fails]
def Bz.zero:Bz:=⟨(⟨#[]⟩:ByteArray),[],false⟩
instance:Inhabited Bz:=⟨Bz.zero⟩
def Bz.sz (d:Bz):Nat:=(fun s:ByteArray=>s.size+1) d.command+(Kc (fun s:ByteArray=>s.size+1)) d.reads+(fun _=>1) d.fails+1
structure Aa where
 out:ByteArray
 time:Int
 sign:ByteArray
def Aa.av (d:Aa):AV:= .st [AV.s d.out,(AV.i .i64) d.time,AV.s d.sign]
def Aa.zero:Aa:=⟨(⟨#[]⟩:ByteArray),(0:Int),(⟨#[]⟩:ByteArray)⟩
instance:Inhabited Aa:=⟨Aa.zero⟩
def Aa.sz (d:Aa):Nat:=(fun s:ByteArray=>s.size+1) d.out+(fun _=>1) d.time+(fun s:ByteArray=>s.size+1) d.sign+1
structure AG where
 out:ByteArray
 time:Int
 ins:List ByteArray
def AG.av (d:AG):AV:= .st [AV.s d.out,(AV.i .i64) d.time,(AY 1 AV.s) d.ins]
def AG.zero:AG:=⟨(⟨#[]⟩:ByteArray),(0:Int),[]⟩
instance:Inhabited AG:=⟨AG.zero⟩
def AG.sz (d:AG):Nat:=(fun s:ByteArray=>s.size+1) d.out+(fun _=>1) d.time+(Kc (fun s:ByteArray=>s.size+1)) d.ins+1
theorem AG.sz_ins (d:AG):(Kc (fun s:ByteArray=>s.size+1)) d.ins≤d.sz:=by unfold AG.sz;omega
structure AN where
 clock:Int
 files:List Ae
def AN.av (d:AN):AV:= .st [(AV.i .i64) d.clock,(AY 3 Ae.av) d.files]
def AN.zero:AN:=⟨(0:Int),[]⟩
instance:Inhabited AN:=⟨AN.zero⟩
def AN.sz (d:AN):Nat:=(fun _=>1) d.clock+(Kc Ae.sz) d.files+1
theorem AN.sz_files (d:AN):(Kc Ae.sz) d.files≤d.sz:=by unfold AN.sz;omega
theorem KX {d:AN} (h:lim d.av):lim ((AY 3 Ae.av) d.files):=by simp only [AN.av,lim,Hx] at h;exact h.2.1
structure Av where
 graph:AL
 actions:List Bz
 disk:AN
 log:List Aa
 deps:List AG
 jobs:Int
 going:Bool
 status:List Int
def Av.av (d:Av):AV:= .st [(AY 7 B1.av) d.graph.edges,(AY 2 BZ.av) d.graph.pools,(AY 1 AV.s) d.graph.defaults,(AY 3 Bz.av) d.actions,(AV.i .i64) d.disk.clock,(AY 3 Ae.av) d.disk.files,(AY 3 Aa.av) d.log,(AY 3 AG.av) d.deps,(AV.i .i64) d.jobs,AV.b d.going,(AY 1 (AV.i .i64)) d.status]
def Av.zero:Av:=⟨AL.zero,[],AN.zero,[],[],(0:Int),false,[]⟩
instance:Inhabited Av:=⟨Av.zero⟩
def Av.sz (d:Av):Nat:=AL.sz d.graph+(Kc Bz.sz) d.actions+AN.sz d.disk+(Kc Aa.sz) d.log+(Kc AG.sz) d.deps+(fun _=>1) d.jobs+(fun _=>1) d.going+(Kc (fun _=>1)) d.status+1
theorem Av.sz_graph (d:Av):AL.sz d.graph≤d.sz:=by unfold Av.sz;omega
theorem Av.sz_disk (d:Av):AN.sz d.disk≤d.sz:=by unfold Av.sz;omega
theorem Av.sz_log (d:Av):(Kc Aa.sz) d.log≤d.sz:=by unfold Av.sz;omega
theorem Av.sz_deps (d:Av):(Kc AG.sz) d.deps≤d.sz:=by unfold Av.sz;omega
structure Au where
 state:Av
 edge:B1
def Au.av (d:Au):AV:= .st [(ptA Av.av) d.state,(ptA B1.av) d.edge]
def Bf:Ae:=(⟨(⟨#[97,46,99]⟩:ByteArray),(1:Int),(1:Int)⟩:Ae)
def Bi:Ae:=(⟨(⟨#[98,46,99]⟩:ByteArray),(3:Int),(3:Int)⟩:Ae)
def Bh:Ae:=(⟨(⟨#[97,46,104]⟩:ByteArray),(2:Int),(2:Int)⟩:Ae)
def Kn:Aa:=(⟨(⟨#[]⟩:ByteArray),(0:Int),(⟨#[]⟩:ByteArray)⟩:Aa)
def Bg:Ae:=(⟨(⟨#[122,46,104]⟩:ByteArray),(4:Int),(4:Int)⟩:Ae)
def Cq:Bz:=(⟨(⟨#[99,99,32,97]⟩:ByteArray),[(⟨#[122,46,104]⟩:ByteArray)],false⟩:Bz)
def Pc:AG:=(⟨(⟨#[97,46,111]⟩:ByteArray),(5:Int),[(⟨#[122,46,104]⟩:ByteArray)]⟩:AG)
def Dw:Aa:=(⟨(⟨#[98,46,111]⟩:ByteArray),(7:Int),(⟨#[98,46,111,124,98,46,99,124,124,110,124,99,99,32,98]⟩:ByteArray)⟩:Aa)
def FO:Aa:=(⟨(⟨#[108,105,98]⟩:ByteArray),(8:Int),(⟨#[108,105,98,124,97,46,111,32,98,46,111,124,124,110,124,97,114]⟩:ByteArray)⟩:Aa)
def Ww:B1:=(⟨[(⟨#[108,105,98]⟩:ByteArray)],[(⟨#[97,46,111]⟩:ByteArray),(⟨#[98,46,111]⟩:ByteArray)],[],[],(⟨#[]⟩:ByteArray),false,(⟨#[]⟩:ByteArray)⟩:B1)
def CC:Aa:=(⟨(⟨#[97,46,111]⟩:ByteArray),(5:Int),(⟨#[97,46,111,32,97,46,100,124,97,46,99,124,97,46,104,124,100,124,99,99,32,97]⟩:ByteArray)⟩:Aa)
def CB:Aa:=(⟨(⟨#[97,46,100]⟩:ByteArray),(6:Int),(⟨#[97,46,111,32,97,46,100,124,97,46,99,124,97,46,104,124,100,124,99,99,32,97]⟩:ByteArray)⟩:Aa)
def SQ:B1:=(⟨[(⟨#[108,105,98]⟩:ByteArray)],[(⟨#[97,46,111]⟩:ByteArray),(⟨#[98,46,111]⟩:ByteArray)],[],[],(⟨#[97,114]⟩:ByteArray),false,(⟨#[]⟩:ByteArray)⟩:B1)
def Pe:B1:=(⟨[(⟨#[98,46,111]⟩:ByteArray)],[(⟨#[98,46,99]⟩:ByteArray)],[],[(⟨#[97,46,111]⟩:ByteArray)],(⟨#[99,99,32,98]⟩:ByteArray),false,(⟨#[116,119,111]⟩:ByteArray)⟩:B1)
def Pd:B1:=(⟨[(⟨#[97,46,111]⟩:ByteArray),(⟨#[97,46,100]⟩:ByteArray)],[(⟨#[97,46,99]⟩:ByteArray)],[(⟨#[97,46,104]⟩:ByteArray)],[],(⟨#[99,99,32,97]⟩:ByteArray),true,(⟨#[116,119,111]⟩:ByteArray)⟩:B1)
def SR:AN:=(⟨(4:Int),[Bf,Bh,Bi,Bg]⟩:AN)
def Hb:AL:=(⟨[Ww,Pd,Pe],[(⟨(⟨#[116,119,111]⟩:ByteArray),(2:Int)⟩:BZ)],[(⟨#[108,105,98]⟩:ByteArray)]⟩:AL)
def E4:AL:=(⟨[SQ,Pd,Pe],[(⟨(⟨#[116,119,111]⟩:ByteArray),(2:Int)⟩:BZ)],[(⟨#[108,105,98]⟩:ByteArray)]⟩:AL)
def BF:Av:=(⟨E4,[Cq],SR,[],[],(2:Int),false,[]⟩:Av)
def T9:List B1→Nat
 | []=>0
 |e::r=>e.outs.length+T9 r
def Rw (e:B1):Ea:=⟨⟨false,e.outs⟩,⟨false,e.ins⟩,⟨false,e.implicit⟩,⟨false,e.order⟩,e.command,e.deps,e.pool⟩
def pOf (p:BZ):Fd:=⟨p.name,p.depth⟩
def Nh (g:AL):BW:=⟨false,g.edges.map Rw,false,g.pools.map pOf,⟨false,g.defaults⟩⟩
def SZ (g:AL):Bool:=NG (Nh g)
def K3 (g:AL):Int:=Ld (Nh g)
def Pn (g:AL) (edge:Int):Nat:=(g.edges.getD edge.toNat default).ins.length+(g.edges.getD edge.toNat default).implicit.length+(g.edges.getD edge.toNat default).order.length
def IE (pi:ByteArray→Bool) (c:Int):List Ae→List Int→Option Ae→Bool
 | [],_,_=>true
 |f::r,ts,p=>(pi f.name&&decide (0≤f.content)&&decide (f.content≤2147483647)&&decide (1≤f.time)&&decide (f.time≤c)&& !(ts.any (fun t=>decide (t=f.time)))&&(match p with|none=>true|some q=>Op.bytesLess q.name.toList f.name.toList))&&IE pi c r (ts++[f.time]) (some f)
def Ha (pi:ByteArray→Bool) (d:AN):Bool:=IE pi d.clock d.files [] none&&decide (0≤d.clock)&&decide (d.clock≤1048576)&&decide (d.files.length≤64)
def Ds (xs:List ByteArray) (sep:ByteArray):ByteArray:=⟨(Lib.join (xs.map (·.data.toList)) sep.data.toList).toArray⟩
def JY (xs:List ByteArray):List ByteArray:=xs
def Km {α:Type} (p:α→Bool):List α→Int
 | []=> -1
 |x::xs=>if 0≤Km p xs then Km p xs+1 else if p x then 0 else -1
def BK (rs:List Aa) (out:ByteArray):Int:=Km (fun r=>decide (r.out=out)) rs
def B2 (fs:List AG) (out:ByteArray):Int:=Km (fun r=>decide (r.out=out)) fs
def dk1:AN:=⟨(5:Int),[⟨(⟨#[97,46,99]⟩:ByteArray),(1:Int),(1:Int)⟩,⟨(⟨#[97,46,104]⟩:ByteArray),(2:Int),(2:Int)⟩,⟨(⟨#[97,46,111]⟩:ByteArray),(0:Int),(5:Int)⟩,⟨(⟨#[98,46,99]⟩:ByteArray),(3:Int),(3:Int)⟩,⟨(⟨#[122,46,104]⟩:ByteArray),(4:Int),(4:Int)⟩]⟩
def dk2:AN:=⟨(6:Int),[⟨(⟨#[97,46,99]⟩:ByteArray),(1:Int),(1:Int)⟩,⟨(⟨#[97,46,100]⟩:ByteArray),(1:Int),(6:Int)⟩,⟨(⟨#[97,46,104]⟩:ByteArray),(2:Int),(2:Int)⟩,⟨(⟨#[97,46,111]⟩:ByteArray),(0:Int),(5:Int)⟩,⟨(⟨#[98,46,99]⟩:ByteArray),(3:Int),(3:Int)⟩,⟨(⟨#[122,46,104]⟩:ByteArray),(4:Int),(4:Int)⟩]⟩
def dk3:AN:=⟨(7:Int),[⟨(⟨#[97,46,99]⟩:ByteArray),(1:Int),(1:Int)⟩,⟨(⟨#[97,46,100]⟩:ByteArray),(1:Int),(6:Int)⟩,⟨(⟨#[97,46,104]⟩:ByteArray),(2:Int),(2:Int)⟩,⟨(⟨#[97,46,111]⟩:ByteArray),(0:Int),(5:Int)⟩,⟨(⟨#[98,46,99]⟩:ByteArray),(3:Int),(3:Int)⟩,⟨(⟨#[98,46,111]⟩:ByteArray),(2:Int),(7:Int)⟩,⟨(⟨#[122,46,104]⟩:ByteArray),(4:Int),(4:Int)⟩]⟩
def Um:AN:=⟨(8:Int),[⟨(⟨#[97,46,99]⟩:ByteArray),(1:Int),(1:Int)⟩,⟨(⟨#[97,46,100]⟩:ByteArray),(1:Int),(6:Int)⟩,⟨(⟨#[97,46,104]⟩:ByteArray),(2:Int),(2:Int)⟩,⟨(⟨#[97,46,111]⟩:ByteArray),(0:Int),(5:Int)⟩,⟨(⟨#[98,46,99]⟩:ByteArray),(3:Int),(3:Int)⟩,⟨(⟨#[98,46,111]⟩:ByteArray),(2:Int),(7:Int)⟩,⟨(⟨#[108,105,98]⟩:ByteArray),(3:Int),(8:Int)⟩,⟨(⟨#[122,46,104]⟩:ByteArray),(4:Int),(4:Int)⟩]⟩
def I9:List ByteArray→Nat→(List ByteArray)→Lp (List ByteArray) ((List ByteArray))
 | [],i,row=>Lp.brk row
 |x1::rest,i,row=>I9 rest (i+1) (row.set i ((⟨#[126]⟩:ByteArray)++(row.getD i default)))
def Uw (a:List ByteArray):List ByteArray:=
 (match I9 a 0 a with
 |Lp.ret r=>r
 |Lp.brk row'=>row')
def Lo:List Bool→Nat→(List Bool)→Lp (List Bool) ((List Bool))
 | [],i,row=>Lp.brk row
 |x1::rest,i,row=>Lo rest (i+1) (row.set i (!(row.getD i default)))
def Hy (s':ByteArray):Bool:=
 (decide ((CM s').2=(0:Int))&&decide ((CM s').1=s'))
def U1:List ByteArray→Nat→Lp (Bool) (Unit)
 | [],v9=>Lp.brk ()
 |x1::rest,v9=>(bif (!(Hy x1)) then Lp.ret false else U1 rest (v9+1))
def IW (ss:List ByteArray) (most':Int):Bool:=
 (match U1 ss 0 with
 |Lp.ret r=>r
 |Lp.brk ()=>decide (((ss.length:Nat):Int)≤most'))
def SY:List UInt8→Nat→Lp (Bool) (Unit)
 | [],v8=>Lp.brk ()
 |x1::rest,v8=>(bif decide ((x1.toNat:Int)<(32:Int)) then Lp.ret false else (bif decide ((126:Int)<(x1.toNat:Int)) then Lp.ret false else SY rest (v8+1)))
def Mt (s':ByteArray) (most':Int):Bool:=
 (match SY s'.data.toList 0 with
 |Lp.ret r=>r
 |Lp.brk ()=>decide (((s'.size:Nat):Int)≤most'))
def KQ (s':ByteArray):Bool:=
 ((!decide (s'=(⟨#[]⟩:ByteArray)))&&(Mt s' (256:Int)))
def Vi:List (List ByteArray)→Nat→Lp (Bool) (Unit)
 | [],v23=>Lp.brk ()
 |x1::rest,v23=>(bif (!(IW x1 (8:Int))) then Lp.ret false else Vi rest (v23+1))
def Qc (e:B1):Bool:=
 (match Vi [e.outs,e.ins,e.implicit,e.order] 0 with
 |Lp.ret r=>r
 |Lp.brk ()=>(decide ((0:Int)<((e.outs.length:Nat):Int))&&((KQ e.command)&&(decide (e.pool=(⟨#[]⟩:ByteArray))||(Ix e.pool)))))
def Oi:List B1→Nat→(List ByteArray)→Lp (List ByteArray) ((List ByteArray))
 | [],v11,out=>Lp.brk out
 |x1::rest,v11,out=>Oi rest (v11+1) (out++x1.outs)
def Gx (x':ByteArray):List ByteArray→Nat→Lp (Bool) (Unit)
 | [],i=>Lp.brk ()
 |x1::rest,i=>(bif decide (x1=x') then Lp.ret true else Gx x' rest (i+1))
def GP (xs:List ByteArray) (x':ByteArray):Bool:=
 (match Gx x' xs 0 with
 |Lp.ret r=>r
 |Lp.brk ()=>false)
def NE (c:Int):Bool:=
 (bif decide ((97:Int)≤c) then (decide (c≤(122:Int))||(decide ((48:Int)≤c)&&decide (c≤(57:Int)))) else (decide ((48:Int)≤c)&&decide (c≤(57:Int))))
def Vc:List UInt8→Nat→Lp (Bool) (Unit)
 | [],i=>Lp.brk ()
 |x1::rest,i=>(bif decide ((x1.toNat:Int)<(32:Int)) then Lp.ret false else (bif decide ((126:Int)<(x1.toNat:Int)) then Lp.ret false else Vc rest (i+1)))
def U2 (s':ByteArray) (least:Int) (most':Int):Bool:=
 (match Vc s'.data.toList 0 with
 |Lp.ret r=>r
 |Lp.brk ()=>(decide (least≤((s'.size:Nat):Int))&&decide (((s'.size:Nat):Int)≤most')))
def Of:List UInt8→Nat→Lp (Bool) (Unit)
 | [],i=>Lp.brk ()
 |x1::rest,i=>(bif (!(NE (x1.toNat:Int))) then (bif (!decide ((x1.toNat:Int)=(46:Int))) then (bif (!decide ((x1.toNat:Int)=(95:Int))) then (bif (!decide ((x1.toNat:Int)=(45:Int))) then (bif (!decide ((x1.toNat:Int)=(47:Int))) then Lp.ret false else Of rest (i+1)) else Of rest (i+1)) else Of rest (i+1)) else Of rest (i+1)) else Of rest (i+1))
def Ms (s':ByteArray):Bool:=
 (match Of s'.data.toList 0 with
 |Lp.ret r=>r
 |Lp.brk ()=>(decide ((1:Int)≤((s'.size:Nat):Int))&&decide (((s'.size:Nat):Int)≤(16:Int))))
def Pg (sign:ByteArray):List ByteArray→Nat→ByteArray→Lp (ByteArray) (ByteArray)
 | [],i,s'=>Lp.brk s'
 |x1::rest,i,s'=>(bif decide ((0:Int)<((i:Nat):Int)) then Pg sign rest (i+1) ((s'++sign)++x1) else Pg sign rest (i+1) (s'++x1))
def FQ (xs:List ByteArray) (sign:ByteArray):ByteArray:=
 (match Pg sign xs 0 (⟨#[]⟩:ByteArray) with
 |Lp.ret r=>r
 |Lp.brk sv'=>sv')
def NA (s':ByteArray) (sign:Int):Nat→(List ByteArray)→Nat→Nat→Lp (List ByteArray) ((List ByteArray))
 |0,out,from',i=>Lp.brk out
 |kf+1,out,from',i=>(bif decide (((i:Nat):Int)≤((s'.size:Nat):Int)) then (bif (decide (((i:Nat):Int)=((s'.size:Nat):Int))||decide (((s'.data.getD i 0).toNat:Int)=sign)) then NA s' sign kf (out++[(s'.extract from' i)]) (i+1) (i+1) else NA s' sign kf out from' (i+1)) else Lp.brk out)
def Lm (s':ByteArray) (sign:Int):List ByteArray:=
 (match NA s' sign (s'.size+1-0+1) [] 0 0 with
 |Lp.ret r=>r
 |Lp.brk out'=>out')
def NC:List ByteArray→Nat→(List ByteArray)→Lp (ByteArray×Int) ((List ByteArray))
 | [],i,kept=>Lp.brk kept
 |x1::rest,i,kept=>(bif decide (x1=(⟨#[]⟩:ByteArray)) then NC rest (i+1) kept else (bif decide (x1=(⟨#[46]⟩:ByteArray)) then NC rest (i+1) kept else (bif decide (x1=(⟨#[46,46]⟩:ByteArray)) then (bif decide (((kept.length:Nat):Int)=(0:Int)) then Lp.ret ((⟨#[]⟩:ByteArray),(200:Int)) else NC rest (i+1) (kept.take (kept.length-1))) else NC rest (i+1) (kept++[x1]))))
def MX (s':ByteArray):ByteArray×Int:=
 (bif (!(Ms s')) then ((⟨#[]⟩:ByteArray),(200:Int)) else (bif decide (((s'.data.getD 0 0).toNat:Int)=(47:Int)) then ((⟨#[]⟩:ByteArray),(200:Int)) else (match NC (Lm s' (47:Int)) 0 [] with
 |Lp.ret r=>r
 |Lp.brk kept'=>(bif decide (((kept'.length:Nat):Int)=(0:Int)) then ((⟨#[]⟩:ByteArray),(200:Int)) else ((FQ kept' (⟨#[47]⟩:ByteArray)),(0:Int))))))
def Kp (s':ByteArray):Bool:=
 (decide ((MX s').2=(0:Int))&&decide ((MX s').1=s'))
def m_ca:List ByteArray→Nat→Lp (Bool) (Unit)
 | [],i=>Lp.brk ()
 |x1::rest,i=>(bif (!(Kp x1)) then Lp.ret false else m_ca rest (i+1))
def Q8 (xs:List ByteArray):Bool:=
 (match m_ca xs 0 with
 |Lp.ret r=>r
 |Lp.brk ()=>decide (((xs.length:Nat):Int)≤(8:Int)))
def Ge (name:ByteArray):List BZ→Nat→Lp (Int) (Unit)
 | [],i=>Lp.brk ()
 |x1::rest,i=>(bif decide (x1.name=name) then Lp.ret ((i:Nat):Int) else Ge name rest (i+1))
def I1 (ps:List BZ) (name:ByteArray):Int:=
 (match Ge name ps 0 with
 |Lp.ret r=>r
 |Lp.brk ()=>(-1:Int))
def J8 (e:B1):Bool:=
 (decide ((0:Int)<((e.outs.length:Nat):Int))&&((Q8 e.outs)&&((Q8 e.ins)&&((Q8 e.implicit)&&((Q8 e.order)&&((U2 e.command (1:Int) (256:Int))&&(decide (e.pool=(⟨#[]⟩:ByteArray))||(Ms e.pool))))))))
def Vh (g:AL):List B1→Nat→Lp (Bool) (Unit)
 | [],i2=>Lp.brk ()
 |x2::rest,i2=>(bif (!(J8 x2)) then Lp.ret false else (bif (!decide (x2.pool=(⟨#[]⟩:ByteArray))) then (bif decide ((I1 g.pools x2.pool)<(0:Int)) then Lp.ret false else Vh g rest (i2+1)) else Vh g rest (i2+1)))
def Wy (g:AL):List BZ→Nat→Lp (Bool) (Unit)
 | [],i=>Lp.brk ()
 |x1::rest,i=>(bif (!(Ms x1.name)) then Lp.ret false else (bif decide (x1.depth<(1:Int)) then Lp.ret false else (bif decide ((8:Int)<x1.depth) then Lp.ret false else (bif (!decide ((I1 g.pools x1.name)=((i:Nat):Int))) then Lp.ret false else Wy g rest (i+1)))))
def Iw (g:AL):Bool:=
 (match Wy g g.pools 0 with
 |Lp.ret r=>r
 |Lp.brk ()=>(match Vh g g.edges 0 with
 |Lp.ret r=>r
 |Lp.brk ()=>(decide (((g.pools.length:Nat):Int)≤(4:Int))&&(decide (((g.edges.length:Nat):Int)≤(16:Int))&&(Q8 g.defaults)))))
def GF:List ByteArray→Nat→(List ByteArray)→Lp (Int) ((List ByteArray))
 | [],k,all2=>Lp.brk all2
 |x2::rest,k,all2=>(bif (GP all2 x2) then Lp.ret (901:Int) else GF rest (k+1) (all2++[x2]))
def GE:List B1→Nat→(List ByteArray)→Lp (Int) (Unit)
 | [],i,all=>Lp.brk ()
 |x1::rest,i,all=>(match GF x1.outs 0 all with
 |Lp.ret r=>Lp.ret r
 |Lp.brk all2'=>GE rest (i+1) all2')
def IX (g:AL):Int:=
 (bif (!(Iw g)) then (900:Int) else (match GE g.edges 0 [] with
 |Lp.ret r=>r
 |Lp.brk ()=>(0:Int)))
def Jy (name:ByteArray):List B1→Nat→Lp (Int) (Unit)
 | [],i=>Lp.brk ()
 |x1::rest,i=>(bif (GP x1.outs name) then Lp.ret ((i:Nat):Int) else Jy name rest (i+1))
def Vf (g:AL) (name:ByteArray):Int:=
 (match Jy name g.edges 0 with
 |Lp.ret r=>r
 |Lp.brk ()=>(-1:Int))
def Wz (g:AL):List ByteArray→Nat→(List Int)→Lp (List Int) ((List Int))
 | [],i,out=>Lp.brk out
 |x1::rest,i,out=>(bif decide ((0:Int)≤(Vf g x1)) then Wz g rest (i+1) (out++[(Vf g x1)]) else Wz g rest (i+1) out)
def SW (g:AL) (edge:Int):List Int:=
 (match Wz g (((g.edges.getD edge.toNat default).ins++(g.edges.getD edge.toNat default).implicit)++(g.edges.getD edge.toNat default).order) 0 [] with
 |Lp.ret r=>r
 |Lp.brk out'=>out')
def Vb (row:List Bool):List Int→Nat→Bool→Lp (List Int×Int) (Bool)
 | [],k,free=>Lp.brk free
 |x3::rest,k,free=>(bif free then Vb row rest (k+1) (row.getD x3.toNat default) else Vb row rest (k+1) false)
def Va (row:List Bool) (g:AL):Nat→Int→Int→Lp (List Int×Int) (Int)
 |0,next,i=>Lp.brk next
 |kf+1,next,i=>(bif decide ((0:Int)≤i) then (match Vb row (SW g i) 0 (!(row.getD i.toNat default)) with
 |Lp.ret r=>Lp.ret r
 |Lp.brk free'=>(bif free' then Va row g kf i (i-(1:Int)) else Va row g kf next (i-(1:Int)))) else Lp.brk next)
def GG (g:AL):Nat→(List Int)→(List Bool)→Lp (List Int×Int) ((List Int)×(List Bool))
 |0,out,row=>Lp.brk (out,row)
 |kf+1,out,row=>(bif decide (((out.length:Nat):Int)<((g.edges.length:Nat):Int)) then (match Va row g (((((g.edges.length:Nat):Int)-(1:Int))+1).toNat+1) (-1:Int) (((g.edges.length:Nat):Int)-(1:Int)) with
 |Lp.ret r=>Lp.ret r
 |Lp.brk next'=>(bif decide (next'<(0:Int)) then Lp.ret (([]:List Int),(1001:Int)) else GG g kf (out++[next']) (row.set next'.toNat true))) else Lp.brk (out,row))
def Gd (g:AL):List Int×Int:=
 (bif (!decide ((IX g)=(0:Int))) then (([]:List Int),(1000:Int)) else (match GG g (g.edges.length-0+1) [] (List.replicate g.edges.length false) with
 |Lp.ret r=>r
 |Lp.brk (out',row')=>(out',(0:Int))))
def Mv (b:List Int):List Int→Nat→Lp (Bool) (Unit)
 | [],i=>Lp.brk ()
 |x1::rest,i=>(bif (!decide (x1=(b.getD i default))) then Lp.ret false else Mv b rest (i+1))
def Vg (b:List Bool):List Bool→Nat→Lp (Bool) (Unit)
 | [],i=>Lp.brk ()
 |x1::rest,i=>(bif (!(x1==(b.getD i default))) then Lp.ret false else Vg b rest (i+1))
def RN (a:List Bool) (b:List Bool):Bool:=
 (!(!decide (((a.length:Nat):Int)=((b.length:Nat):Int)))&&(match Vg b a 0 with
 |Lp.ret r=>r
 |Lp.brk ()=>true))
def V5 (v:Int):List Int→Nat→Lp (Int) (Unit)
 | [],v8=>Lp.brk ()
 |x1::rest,v8=>(bif decide (v=x1) then Lp.ret ((v8:Nat):Int) else V5 v rest (v8+1))
def SV (s':List Int) (v:Int):Int:=
 (match V5 v s' 0 with
 |Lp.ret r=>r
 |Lp.brk ()=>(-1:Int))
def VF (s':List Int) (v:Int):Bool:=
 decide ((0:Int)≤(SV s' v))
def V8 (v:ByteArray):List ByteArray→Nat→Lp (Int) (Unit)
 | [],v8=>Lp.brk ()
 |x1::rest,v8=>(bif decide (v=x1) then Lp.ret ((v8:Nat):Int) else V8 v rest (v8+1))
def ST (s':List ByteArray) (v:ByteArray):Int:=
 (match V8 v s' 0 with
 |Lp.ret r=>r
 |Lp.brk ()=>(-1:Int))
def U0 (s':List ByteArray) (v:ByteArray):Bool:=
 decide ((0:Int)≤(ST s' v))
def m_s (f:B1→Bool):List B1→Nat→Lp (Int) (Unit)
 | [],v8=>Lp.brk ()
 |x1::rest,v8=>(bif (f x1) then Lp.ret ((v8:Nat):Int) else m_s f rest (v8+1))
def m_4 (s':List B1) (f:B1→Bool):Int:=
 (match m_s f s' 0 with
 |Lp.ret r=>r
 |Lp.brk ()=>(-1:Int))
def SX (e:B1) (name:ByteArray):Bool:=
 (U0 e.outs name)
def Gp (g:AL) (s':ByteArray):Int:=
 (m_4 g.edges (fun z0=>SX z0 s'))
def V9 (f:Int→Bool):List Int→Nat→Lp (Int) (Unit)
 | [],v8=>Lp.brk ()
 |x1::rest,v8=>(bif (f x1) then Lp.ret ((v8:Nat):Int) else V9 f rest (v8+1))
def SU (s':List Int) (f:Int→Bool):Int:=
 (match V9 f s' 0 with
 |Lp.ret r=>r
 |Lp.brk ()=>(-1:Int))
def VG (s':List Int) (f:Int→Bool):Bool:=
 decide ((0:Int)≤(SU s' f))
def I0 (n':Nat):List ByteArray:=
 (bif decide ((0:Int)<((n':Nat):Int)) then ((List.replicate n' (⟨#[]⟩:ByteArray)).take 0) else [])
def MV:List (List ByteArray)→Nat→(List ByteArray)→Lp (List ByteArray) ((List ByteArray))
 | [],v27,newslice=>Lp.brk newslice
 |x2::rest,v27,newslice=>MV rest (v27+1) (newslice++x2)
def Vj:List (List ByteArray)→Nat→Nat→Lp (List ByteArray) (Nat)
 | [],v11,size=>Lp.brk size
 |x1::rest,v11,size=>Vj rest (v11+1) (size+x1.length)
def EO (slices:List (List ByteArray)):List ByteArray:=
 (match Vj slices 0 0 with
 |Lp.ret r=>r
 |Lp.brk size'=>(match MV slices 0 ((List.replicate size' (⟨#[]⟩:ByteArray)).take 0) with
 |Lp.ret r=>r
 |Lp.brk newslice4'=>newslice4'))
def Q5 (g:AL):List ByteArray→Nat→(List Int)→Lp (List Int) ((List Int))
 | [],v31,out=>Lp.brk out
 |x1::rest,v31,out=>(bif decide ((0:Int)≤(Gp g x1)) then (bif (!(VF out (Gp g x1))) then Q5 g rest (v31+1) (out++[(Gp g x1)]) else Q5 g rest (v31+1) out) else Q5 g rest (v31+1) out)
def Jp (g:AL) (edge:Int):List Int:=
 (match Q5 g (EO [(g.edges.getD edge.toNat default).ins,(g.edges.getD edge.toNat default).implicit,(g.edges.getD edge.toNat default).order]) 0 [] with
 |Lp.ret r=>r
 |Lp.brk out'=>out')
def K4 (edge:Int) (out:List Int):Bool:=
 (VF out edge)
def Oh (edge:Int) (told:Int→Bool):Bool:=
 (!(told edge))
def Pj:List (List Int)→Nat→(List Int)→Lp (List Int×Int) (Bool×(List Int))
 | [],v38,cell2=>Lp.brk (false,cell2)
 |x3::rest,v38,cell2=>(bif (!(K4 ((v38:Nat):Int) cell2)) then (bif (!(VG x3 (fun z0=>Oh z0 (fun z0=>K4 z0 cell2)))) then Lp.brk (true,(cell2++[((v38:Nat):Int)])) else Pj rest (v38+1) cell2) else Pj rest (v38+1) cell2)
def Qb (g:AL) (row:List (List Int)):Nat→(List Int)→Lp (List Int×Int) ((List Int))
 |0,cell=>Lp.brk cell
 |kf+1,cell=>(bif decide (((cell.length:Nat):Int)<((g.edges.length:Nat):Int)) then (match Pj row 0 cell with
 |Lp.ret r=>Lp.ret r
 |Lp.brk (t',cell2')=>(bif t' then Qb g row kf cell2' else Lp.ret (([]:List Int),(1001:Int)))) else Lp.brk cell)
def Pi (g:AL):List (List Int)→Nat→(List (List Int))→Lp (List Int×Int) ((List (List Int)))
 | [],v20,row=>Lp.brk row
 |x1::rest,v20,row=>Pi g rest (v20+1) (row.set v20 (Jp g ((v20:Nat):Int)))
def J6 (g:AL):List Int×Int:=
 (bif (!decide ((K3 g)=(0:Int))) then (([]:List Int),(1000:Int)) else (match Pi g (List.replicate g.edges.length ([]:List Int)) 0 (List.replicate g.edges.length ([]:List Int)) with
 |Lp.ret r=>r
 |Lp.brk row'=>(match Qb g row' (g.edges.length-0+1) [] with
 |Lp.ret r=>r
 |Lp.brk cell3'=>(cell3',(0:Int)))))
def Iv (g:AL) (i3:Int):List Int→Nat→(List Bool)→Lp (List Bool×Int) ((List Bool))
 | [],k,row4=>Lp.brk row4
 |x4::rest,k,row4=>(bif (row4.getD x4.toNat default) then Iv g i3 rest (k+1) (row4.set x4.toNat true) else Iv g i3 rest (k+1) (row4.set x4.toNat (row4.getD ((((Gd g).1).getD i3.toNat default).toNat) default)))
def Ok (g:AL):Nat→Int→(List Bool)→Lp (List Bool×Int) ((List Bool))
 |0,i3,row3=>Lp.brk row3
 |kf+1,i3,row3=>(bif decide ((0:Int)≤i3) then (match Iv g i3 (SW (⟨g.edges,g.pools,g.defaults⟩:AL) (((Gd g).1).getD i3.toNat default)) 0 row3 with
 |Lp.ret r=>Lp.ret r
 |Lp.brk row4'=>Ok g kf (i3-(1:Int)) row4') else Lp.brk row3)
def Oj (g:AL):List ByteArray→Nat→(List Bool)→Lp (List Bool×Int) ((List Bool))
 | [],i2,row2=>Lp.brk row2
 |x2::rest,i2,row2=>(bif decide ((Vf (⟨g.edges,g.pools,g.defaults⟩:AL) x2)<(0:Int)) then Lp.ret (([]:List Bool),(2001:Int)) else Oj g rest (i2+1) (row2.set (Vf (⟨g.edges,g.pools,g.defaults⟩:AL) x2).toNat true))
def Cn (e:Int):Int:=
 e
def Ph (a:Bz):Bool:=
 ((!(KQ a.command))||(!(IW a.reads (8:Int))))
def m_q (f:Bz→Bool):List Bz→Nat→Lp (Int) (Unit)
 | [],v8=>Lp.brk ()
 |x1::rest,v8=>(bif (f x1) then Lp.ret ((v8:Nat):Int) else m_q f rest (v8+1))
def m_w (s':List Bz) (f:Bz→Bool):Int:=
 (match m_q f s' 0 with
 |Lp.ret r=>r
 |Lp.brk ()=>(-1:Int))
def m_m (s':List Bz) (f:Bz→Bool):Bool:=
 decide ((0:Int)≤(m_w s' f))
def Qa (as':List Bz):Bool:=
 (decide (((as'.length:Nat):Int)≤(16:Int))&&(!(m_m as' (fun z0=>Ph z0))))
def MR (x':Int):Bool:=
 (decide ((1:Int)≤x')&&decide (x'≤(1048576:Int)))
def M0 (r:Aa):Bool:=
 ((Hy r.out)&&((MR r.time)&&((!decide (r.sign=(⟨#[]⟩:ByteArray)))&&(Mt r.sign (2048:Int)))))
def Qd (r:Aa):Bool:=
 (!(M0 r))
def m_r (f:Aa→Bool):List Aa→Nat→Lp (Int) (Unit)
 | [],v8=>Lp.brk ()
 |x1::rest,v8=>(bif (f x1) then Lp.ret ((v8:Nat):Int) else m_r f rest (v8+1))
def m_x (s':List Aa) (f:Aa→Bool):Int:=
 (match m_r f s' 0 with
 |Lp.ret r=>r
 |Lp.brk ()=>(-1:Int))
def m_n (s':List Aa) (f:Aa→Bool):Bool:=
 decide ((0:Int)≤(m_x s' f))
def Ln (rs:List Aa):Bool:=
 (decide (((rs.length:Nat):Int)≤(256:Int))&&(!(m_n rs (fun z0=>Qd z0))))
def ND (f:AG):Bool:=
 ((Hy f.out)&&((MR f.time)&&(IW f.ins (8:Int))))
def RO (f:AG):Bool:=
 (!(ND f))
def m_u (f:AG→Bool):List AG→Nat→Lp (Int) (Unit)
 | [],v8=>Lp.brk ()
 |x1::rest,v8=>(bif (f x1) then Lp.ret ((v8:Nat):Int) else m_u f rest (v8+1))
def m_y (s':List AG) (f:AG→Bool):Int:=
 (match m_u f s' 0 with
 |Lp.ret r=>r
 |Lp.brk ()=>(-1:Int))
def m_o (s':List AG) (f:AG→Bool):Bool:=
 decide ((0:Int)≤(m_y s' f))
def MU (fs:List AG):Bool:=
 (decide (((fs.length:Nat):Int)≤(256:Int))&&(!(m_o fs (fun z0=>RO z0))))
def Q9 (x':Int):Bool:=
 (decide ((0:Int)≤x')&&decide (x'≤(2147483647:Int)))
def GN (s':Av):Bool:=
 (decide ((J6 s'.graph).2=(0:Int))&&((Qa s'.actions)&&((Ha Hy s'.disk)&&((Ln s'.log)&&(MU s'.deps)))))
def Mq (x':Int) (least:Int) (most':Int):Bool:=
 (decide (least≤x')&&decide (x'≤most'))
def m_bw:List Bz→Nat→Lp (Bool) (Unit)
 | [],i=>Lp.brk ()
 |x1::rest,i=>(bif (!(U2 x1.command (1:Int) (256:Int))) then Lp.ret false else (bif (!(Q8 x1.reads)) then Lp.ret false else m_bw rest (i+1)))
def GO (as':List Bz):Bool:=
 (match m_bw as' 0 with
 |Lp.ret r=>r
 |Lp.brk ()=>decide (((as'.length:Nat):Int)≤(16:Int)))
def Oe (i:Nat) (d:AN) (x1:Ae):Nat→Nat→Lp (Bool) (Unit)
 |0,k=>Lp.brk ()
 |kf+1,k=>(bif decide (((k:Nat):Int)<((i:Nat):Int)) then (bif decide ((d.files.getD k default).time=x1.time) then Lp.ret false else Oe i d x1 kf (k+1)) else Lp.brk ())
def Q4 (d:AN):List Ae→Nat→Lp (Bool) (Unit)
 | [],i=>Lp.brk ()
 |x1::rest,i=>(bif (!(Kp x1.name)) then Lp.ret false else (bif (!(Mq x1.content (0:Int) (2147483647:Int))) then Lp.ret false else (bif (!(Mq x1.time (1:Int) d.clock)) then Lp.ret false else (bif decide ((0:Int)<((i:Nat):Int)) then (bif (!Op.bytesLess ((d.files.getD (i-1) default).name).toList x1.name.toList) then Lp.ret false else (match Oe i d x1 (i-0+1) 0 with
 |Lp.ret r=>Lp.ret r
 |Lp.brk ()=>Q4 d rest (i+1))) else (match Oe i d x1 (i-0+1) 0 with
 |Lp.ret r=>Lp.ret r
 |Lp.brk ()=>Q4 d rest (i+1))))))
def L5 (d:AN):Bool:=
 (match Q4 d d.files 0 with
 |Lp.ret r=>r
 |Lp.brk ()=>((Mq d.clock (0:Int) (1048576:Int))&&decide (((d.files.length:Nat):Int)≤(64:Int))))
def Hc (r:Aa):Bool:=
 ((Kp r.out)&&((Mq r.time (1:Int) (1048576:Int))&&(U2 r.sign (1:Int) (2048:Int))))
def m_cc:List Aa→Nat→Lp (Bool) (Unit)
 | [],i=>Lp.brk ()
 |x1::rest,i=>(bif (!(Hc x1)) then Lp.ret false else m_cc rest (i+1))
def J7 (rs:List Aa):Bool:=
 (match m_cc rs 0 with
 |Lp.ret r=>r
 |Lp.brk ()=>decide (((rs.length:Nat):Int)≤(256:Int)))
def HM (f:AG):Bool:=
 ((Kp f.out)&&((Mq f.time (1:Int) (1048576:Int))&&(Q8 f.ins)))
def m_b8:List AG→Nat→Lp (Bool) (Unit)
 | [],i=>Lp.brk ()
 |x1::rest,i=>(bif (!(HM x1)) then Lp.ret false else m_b8 rest (i+1))
def Iu (fs:List AG):Bool:=
 (match m_b8 fs 0 with
 |Lp.ret r=>r
 |Lp.brk ()=>decide (((fs.length:Nat):Int)≤(256:Int)))
def HN (s':Av):Bool:=
 (decide ((Gd (⟨s'.graph.edges,s'.graph.pools,s'.graph.defaults⟩:AL)).2=(0:Int))&&((GO s'.actions)&&((L5 (⟨s'.disk.clock,s'.disk.files⟩:AN))&&((J7 s'.log)&&(Iu s'.deps)))))
def Mr (x':ByteArray):Bool:=
 (!decide (x'=x'))
def Q7 (x':ByteArray) (y:ByteArray):Int:=
 (bif (Mr x') then (bif (Mr y) then (0:Int) else (-1:Int)) else (bif (Mr y) then (1:Int) else (bif (Op.bytesLess x'.toList y.toList) then (-1:Int) else (bif (!(Op.bytesLess x'.toList y.toList||decide (x'=y))) then (1:Int) else (0:Int)))))
def Ko (f:Ae) (s':ByteArray):Int:=
 (Q7 f.name s')
def m_j (cmp:Ae→ByteArray→Int) (x':List Ae) (target:ByteArray):Nat→Int→Int→Lp (Int×Bool) (Int)
 |0,i,j=>Lp.brk i
 |kf+1,i,j=>(bif decide (i<j) then (bif decide ((cmp (x'.getD (IntKind.wrap .i64 (Int.fdiv (IntKind.wrap .u64 (IntKind.wrap .i64 (i+j))) (2^(min 1 IntKind.u64.bits)))).toNat default) target)<(0:Int)) then m_j cmp x' target kf (IntKind.wrap .i64 ((IntKind.wrap .i64 (Int.fdiv (IntKind.wrap .u64 (IntKind.wrap .i64 (i+j))) (2^(min 1 IntKind.u64.bits))))+(1:Int))) j else m_j cmp x' target kf i (IntKind.wrap .i64 (Int.fdiv (IntKind.wrap .u64 (IntKind.wrap .i64 (i+j))) (2^(min 1 IntKind.u64.bits))))) else Lp.brk i)
def Pk (x':List Ae) (target:ByteArray) (cmp:Ae→ByteArray→Int):Int×Bool:=
 (match m_j cmp x' target ((((x'.length:Nat):Int)-(0:Int)).toNat+1) (0:Int) ((x'.length:Nat):Int) with
 |Lp.ret r=>r
 |Lp.brk i'=>(bif decide (i'<((x'.length:Nat):Int)) then (i',decide ((cmp (x'.getD i'.toNat default) target)=(0:Int))) else (i',false)))
def Ll (d:AN) (s':ByteArray):Int×Bool:=
 ((Pk d.files s' (fun z0 z1=>Ko z0 z1)).1,(Pk d.files s' (fun z0 z1=>Ko z0 z1)).2)
def EN (d:AN) (s':ByteArray):Ae×Bool:=
 (bif (Ll d s').2 then (bif (Ha Hy d) then ((⟨(d.files.getD ((Ll d s').1).toNat default).name,(d.files.getD ((Ll d s').1).toNat default).content,(d.files.getD ((Ll d s').1).toNat default).time⟩:Ae),true) else ((⟨(⟨#[]⟩:ByteArray),(0:Int),(0:Int)⟩:Ae),false)) else ((⟨(⟨#[]⟩:ByteArray),(0:Int),(0:Int)⟩:Ae),false))
def MT (e:B1):ByteArray×Int:=
 (bif (!(Qc e)) then ((⟨#[]⟩:ByteArray),(1100:Int)) else ((Ds [(Ds e.outs (⟨#[32]⟩:ByteArray)),(Ds e.ins (⟨#[32]⟩:ByteArray)),(Ds e.implicit (⟨#[32]⟩:ByteArray)),(bif e.deps then (⟨#[100]⟩:ByteArray) else (⟨#[110]⟩:ByteArray)),e.command] (⟨#[124]⟩:ByteArray)),(0:Int)))
def FP (rs:List Aa) (out:ByteArray):Aa×Bool:=
 (bif decide ((BK rs out)<(0:Int)) then (Kn,false) else (bif (!(Ln rs)) then (Kn,false) else ((⟨(rs.getD (BK rs out).toNat default).out,(rs.getD (BK rs out).toNat default).time,(rs.getD (BK rs out).toNat default).sign⟩:Aa),true)))
def Od (f:AG):AG:=
 (⟨f.out,f.time,(JY f.ins)⟩:AG)
def M7 (fs:List AG) (out:ByteArray):AG×Bool:=
 (bif decide ((B2 fs out)<(0:Int)) then ((⟨(⟨#[]⟩:ByteArray),(0:Int),[]⟩:AG),false) else (bif (!(MU fs)) then ((⟨(⟨#[]⟩:ByteArray),(0:Int),[]⟩:AG),false) else ((⟨(Od (fs.getD (B2 fs out).toNat default)).out,(Od (fs.getD (B2 fs out).toNat default)).time,(Od (fs.getD (B2 fs out).toNat default)).ins⟩:AG),true)))
def Q6 (l:Au) (s':ByteArray):Bool:=
 ((!(EN l.state.disk s').2)&&decide ((Gp l.state.graph s')<(0:Int)))
def V6 (l:Au):List ByteArray→Nat→Int→Lp (Int) (Int)
 | [],v32,out=>Lp.brk out
 |x1::rest,v32,out=>(bif (!(EN l.state.disk x1).2) then Lp.ret (-1:Int) else (bif (!(FP l.state.log x1).2) then Lp.ret (-1:Int) else (bif (!decide (((FP l.state.log x1).1).sign=(MT l.edge).1)) then Lp.ret (-1:Int) else (bif (!decide (((FP l.state.log x1).1).time=((EN l.state.disk x1).1).time)) then Lp.ret (-1:Int) else V6 l rest (v32+1) (if ((EN l.state.disk x1).1).time<out then ((EN l.state.disk x1).1).time else out)))))
def NF (l:Au):Int:=
 (match V6 l l.edge.outs 0 l.state.disk.clock with
 |Lp.ret r=>r
 |Lp.brk out'=>out')
def TY (s':ByteArray) (l:Au) (time:Int):Bool:=
 ((!(EN l.state.disk s').2)||decide (time<((EN l.state.disk s').1).time))
def V7 (f:ByteArray→Bool):List ByteArray→Nat→Lp (Int) (Unit)
 | [],v8=>Lp.brk ()
 |x1::rest,v8=>(bif (f x1) then Lp.ret ((v8:Nat):Int) else V7 f rest (v8+1))
def TZ (s':List ByteArray) (f:ByteArray→Bool):Int:=
 (match V7 f s' 0 with
 |Lp.ret r=>r
 |Lp.brk ()=>(-1:Int))
def m_t (s':List ByteArray) (f:ByteArray→Bool):Bool:=
 decide ((0:Int)≤(TZ s' f))
def TX (l:Au) (ss:List ByteArray) (time:Int):Bool:=
 (m_t ss (fun z0=>TY z0 l time))
def NB (l:Au):Bool:=
 (decide ((NF l)<(0:Int))||((TX l l.edge.ins (NF l))||((TX l l.edge.implicit (NF l))||(!(!l.edge.deps)&&((!(M7 l.state.deps (l.edge.outs.getD 0 default)).2)||((!decide (((M7 l.state.deps (l.edge.outs.getD 0 default)).1).time=((EN l.state.disk (l.edge.outs.getD 0 default)).1).time))||(TX l (((M7 l.state.deps (l.edge.outs.getD 0 default)).1).ins) (NF l))))))))
def BJ (s':Av) (edge:Int):Bool×Int:=
 (bif (!(GN s')) then (false,(1900:Int)) else (bif decide (edge<(0:Int)) then (false,(1900:Int)) else (bif decide (((s'.graph.edges.length:Nat):Int)≤edge) then (false,(1900:Int)) else (bif (m_t (EO [(s'.graph.edges.getD edge.toNat default).ins,(s'.graph.edges.getD edge.toNat default).implicit,(s'.graph.edges.getD edge.toNat default).order]) (fun z0=>Q6 (⟨s',(s'.graph.edges.getD edge.toNat default)⟩:Au) z0)) then (false,(1901:Int)) else ((NB (⟨s',(s'.graph.edges.getD edge.toNat default)⟩:Au)),(0:Int))))))
def Og (s':Av) (x2:Int):List ByteArray→Nat→(List Bool)→Lp (List Bool×Int) ((List Bool))
 | [],v70,row3=>Lp.brk row3
 |x3::rest,v70,row3=>(bif decide ((0:Int)≤(Gp s'.graph x3)) then (bif (row3.getD ((Gp s'.graph x3).toNat) default) then Og s' x2 rest (v70+1) (row3.set x2.toNat true) else Og s' x2 rest (v70+1) row3) else Og s' x2 rest (v70+1) row3)
def Ve (s':Av):List Int→Nat→(List Bool)→Lp (List Bool×Int) ((List Bool))
 | [],v50,row2=>Lp.brk row2
 |x2::rest,v50,row2=>(match Og s' x2 (EO [(s'.graph.edges.getD x2.toNat default).ins,(s'.graph.edges.getD x2.toNat default).implicit]) 0 row2 with
 |Lp.ret r=>Lp.ret r
 |Lp.brk row4'=>Ve s' rest (v50+1) row4')
def Vd (s':Av):List Bool→Nat→(List Bool)→Lp (List Bool×Int) ((List Bool))
 | [],v25,row=>Lp.brk row
 |x1::rest,v25,row=>(bif (!decide ((BJ s' ((v25:Nat):Int)).2=(0:Int))) then Lp.ret (([]:List Bool),(BJ s' ((v25:Nat):Int)).2) else Vd s' rest (v25+1) (row.set v25 ((BJ s' ((v25:Nat):Int)).1)))
def Cp (s':Av):List Bool×Int:=
 (bif (!(GN s')) then (([]:List Bool),(1900:Int)) else (match Vd s' (List.replicate s'.graph.edges.length false) 0 (List.replicate s'.graph.edges.length false) with
 |Lp.ret r=>r
 |Lp.brk row'=>(match Ve s' ((J6 (⟨s'.graph.edges,s'.graph.pools,s'.graph.defaults⟩:AL)).1) 0 row' with
 |Lp.ret r=>r
 |Lp.brk row5'=>(row5',(0:Int)))))
def Pf (name:ByteArray) (content:Int) (d:AN):List Ae→Nat→Bool→(List Ae)→Lp (AN×Int) (Bool×(List Ae))
 | [],i,in',cell=>Lp.brk (in',cell)
 |x1::rest,i,in',cell=>(bif (!in') then (bif (!Op.bytesLess x1.name.toList name.toList) then (bif (!decide (x1.name=name)) then Pf name content d rest (i+1) true ((cell++[(⟨name,content,(IntKind.wrap .i64 (d.clock+(1:Int)))⟩:Ae)])++[x1]) else Pf name content d rest (i+1) true (cell++[(⟨name,content,(IntKind.wrap .i64 (d.clock+(1:Int)))⟩:Ae)])) else (bif (!decide (x1.name=name)) then Pf name content d rest (i+1) in' (cell++[x1]) else Pf name content d rest (i+1) in' cell)) else (bif (!decide (x1.name=name)) then Pf name content d rest (i+1) in' (cell++[x1]) else Pf name content d rest (i+1) in' cell))
def PV (d:AN) (name:ByteArray) (content:Int):AN×Int:=
 (bif (!(L5 d)) then ((⟨(0:Int),[]⟩:AN),(1200:Int)) else (bif (!(Kp name)) then ((⟨(0:Int),[]⟩:AN),(1200:Int)) else (bif (!(Mq content (0:Int) (2147483647:Int))) then ((⟨(0:Int),[]⟩:AN),(1200:Int)) else (match Pf name content d d.files 0 false [] with
 |Lp.ret r=>r
 |Lp.brk (inv',cell')=>(bif (!inv') then (bif decide ((1048576:Int)<(IntKind.wrap .i64 (d.clock+(1:Int)))) then ((⟨(0:Int),[]⟩:AN),(1201:Int)) else (bif decide ((64:Int)<(((cell'++[(⟨name,content,(IntKind.wrap .i64 (d.clock+(1:Int)))⟩:Ae)]).length:Nat):Int)) then ((⟨(0:Int),[]⟩:AN),(1201:Int)) else ((⟨(IntKind.wrap .i64 (d.clock+(1:Int))),(cell'++[(⟨name,content,(IntKind.wrap .i64 (d.clock+(1:Int)))⟩:Ae)])⟩:AN),(0:Int)))) else (bif decide ((1048576:Int)<(IntKind.wrap .i64 (d.clock+(1:Int)))) then ((⟨(0:Int),[]⟩:AN),(1201:Int)) else (bif decide ((64:Int)<((cell'.length:Nat):Int)) then ((⟨(0:Int),[]⟩:AN),(1201:Int)) else ((⟨(IntKind.wrap .i64 (d.clock+(1:Int))),cell'⟩:AN),(0:Int)))))))))
def M6:Av:=
 BF
def MW:Av:=
 (⟨E4,[Cq],(⟨(8:Int),Um.files⟩:AN),[CC,CB,Dw,FO],[Pc],(2:Int),false,[]⟩:Av)
def MS:Bool:=
 ((BJ BF (1:Int)).1&&(decide ((Cn ((BJ BF (1:Int)).2))=(0:Int))&&((RN ((Cp BF).1) [true,true,true])&&(decide ((Cn ((Cp BF).2))=(0:Int))&&(decide ((Cn ((BJ (⟨E4,[Cq],(⟨(4:Int),(([Bf,Bh,Bi,Bg].take [Bf,Bh,Bi,Bg].length).drop 1)⟩:AN),[],[],(2:Int),false,[]⟩:Av) (1:Int)).2))=(1901:Int))&&(decide ((Cn ((BJ BF (3:Int)).2))=(1900:Int))&&decide ((Cn ((Cp (⟨Hb,[Cq],(⟨(4:Int),(([Bf,Bh,Bi,Bg].take [Bf,Bh,Bi,Bg].length).drop 1)⟩:AN),[],[],(2:Int),false,[]⟩:Av)).2))=(1900:Int))))))))
def Cl:AN:=(⟨(8:Int),Um.files⟩:AN)
def AP:BZ:=(⟨(⟨#[116,119,111]⟩:ByteArray),(2:Int)⟩:BZ)
def Cy:Bz:=Cq
def Cx:AG:=Pc
def Al:Aa:=Dw
def Ak:Aa:=FO
def Aj:Aa:=CB
def Ac:Aa:=CC
def DS:B1:=SQ
def DR:B1:=Pe
def DQ:AL:=(⟨[DS,Pd,DR],[AP],[(⟨#[108,105,98]⟩:ByteArray)]⟩:AL)
def AF:Av:=(⟨DQ,[(⟨(⟨#[]⟩:ByteArray),[(⟨#[122,46,104]⟩:ByteArray)],false⟩:Bz)],Cl,[Ac,Aj,Al,Ak],[Cx],(2:Int),false,[]⟩:Av)
def AE:Av:=(⟨DQ,[Cy],Cl,[Ac,Aj,Al,Ak],[(⟨(⟨#[47,97]⟩:ByteArray),(5:Int),[(⟨#[122,46,104]⟩:ByteArray)]⟩:AG)],(2:Int),false,[]⟩:Av)
def A5:Av:=(⟨DQ,[Cy],Cl,[Ac,Aj,Al,Ak],[Cx],(2:Int),false,[]⟩:Av)
def AD:Av:=(⟨(⟨[DS,(⟨[(⟨#[97,46,111]⟩:ByteArray),(⟨#[97,46,100]⟩:ByteArray)],[(⟨#[103,111,110,101]⟩:ByteArray)],[(⟨#[97,46,104]⟩:ByteArray)],[],(⟨#[99,99,32,97]⟩:ByteArray),true,(⟨#[116,119,111]⟩:ByteArray)⟩:B1),DR],[AP],[(⟨#[108,105,98]⟩:ByteArray)]⟩:AL),[Cy],Cl,[Ac,Aj,Al,Ak],[Cx],(2:Int),false,[]⟩:Av)
def AC:Av:=(⟨(⟨[DS,(⟨[(⟨#[97,46,111]⟩:ByteArray),(⟨#[97,46,100]⟩:ByteArray)],[(⟨#[97,46,99]⟩:ByteArray)],[(⟨#[97,46,104]⟩:ByteArray)],[(⟨#[108,105,98]⟩:ByteArray)],(⟨#[99,99,32,97]⟩:ByteArray),true,(⟨#[116,119,111]⟩:ByteArray)⟩:B1),DR],[AP],[(⟨#[108,105,98]⟩:ByteArray)]⟩:AL),[Cy],Cl,[Ac,Aj,Al,Ak],[Cx],(2:Int),false,[]⟩:Av)
def AB:Av:=(⟨(⟨[DS,(⟨[(⟨#[97,46,111]⟩:ByteArray),(⟨#[97,46,100]⟩:ByteArray)],[(⟨#[97,46,99]⟩:ByteArray)],[(⟨#[97,46,104]⟩:ByteArray)],[(⟨#[103,111,110,101]⟩:ByteArray)],(⟨#[99,99,32,97]⟩:ByteArray),true,(⟨#[116,119,111]⟩:ByteArray)⟩:B1),DR],[AP],[(⟨#[108,105,98]⟩:ByteArray)]⟩:AL),[Cy],Cl,[Ac,Aj,Al,Ak],[Cx],(2:Int),false,[]⟩:Av)
def AA:Av:=(⟨(⟨[DS,(⟨[(⟨#[97,46,111]⟩:ByteArray),(⟨#[97,46,100]⟩:ByteArray)],[(⟨#[97,46,99]⟩:ByteArray)],[(⟨#[97,46,104]⟩:ByteArray),(⟨#[103,111,110,101]⟩:ByteArray)],[],(⟨#[99,99,32,97]⟩:ByteArray),true,(⟨#[116,119,111]⟩:ByteArray)⟩:B1),DR],[AP],[(⟨#[108,105,98]⟩:ByteArray)]⟩:AL),[Cy],Cl,[Ac,Aj,Al,Ak],[Cx],(2:Int),false,[]⟩:Av)
def Az (x':Int):Av:=(⟨DQ,[Cy],(⟨(IntKind.wrap .i64 (0-(IntKind.wrap .i64 ((1:Int)+(Ao .and .i64 x' (127:Int)))))),Um.files⟩:AN),[Ac,Aj,Al,Ak],[Cx],(2:Int),false,[]⟩:Av)
def Ax (x':Int):Av:=(⟨DQ,[Cy],Cl,(X4 [Ac,Aj,Al,Ak] 0 (fun d=>({d with time:=(IntKind.wrap .i64 ((1:Int)-(IntKind.wrap .i64 ((1:Int)+(Ao .and .i64 x' (127:Int))))))}:Aa))),[Cx],(2:Int),false,[]⟩:Av)
def Jw (which:Int) (x':Int):Bool:=
 (!(!MS)&&(bif decide (((IntKind.wrap .u64 which).tmod (8:Int))=(0:Int)) then ((!(BJ AC (1:Int)).1)&&(decide ((Cn ((BJ AC (1:Int)).2))=(1900:Int))&&(decide (((((Cp AC).1).length:Nat):Int)=(0:Int))&&(decide ((Cn ((Cp AC).2))=(1900:Int))&&decide ((Cn ((BJ A5 ([(IntKind.wrap .i64 (0-(IntKind.wrap .i64 ((1:Int)+(Ao .and .i64 x' (127:Int)))))),(IntKind.wrap .i64 ((2:Int)+(IntKind.wrap .i64 ((1:Int)+(Ao .and .i64 x' (127:Int))))))].getD ((Ao .and .i64 which (1:Int)).toNat) default)).2))=(1900:Int)))))) else (bif decide (((IntKind.wrap .u64 which).tmod (8:Int))=(1:Int)) then ((!(BJ AF (1:Int)).1)&&(decide ((Cn ((BJ AF (1:Int)).2))=(1900:Int))&&(decide (((((Cp AF).1).length:Nat):Int)=(0:Int))&&(decide ((Cn ((Cp AF).2))=(1900:Int))&&decide ((Cn ((BJ A5 ([(IntKind.wrap .i64 (0-(IntKind.wrap .i64 ((1:Int)+(Ao .and .i64 x' (127:Int)))))),(IntKind.wrap .i64 ((2:Int)+(IntKind.wrap .i64 ((1:Int)+(Ao .and .i64 x' (127:Int))))))].getD ((Ao .and .i64 which (1:Int)).toNat) default)).2))=(1900:Int)))))) else (bif decide (((IntKind.wrap .u64 which).tmod (8:Int))=(2:Int)) then ((!(BJ (Az x') (1:Int)).1)&&(decide ((Cn ((BJ (Az x') (1:Int)).2))=(1900:Int))&&(decide (((((Cp (Az x')).1).length:Nat):Int)=(0:Int))&&(decide ((Cn ((Cp (Az x')).2))=(1900:Int))&&decide ((Cn ((BJ A5 ([(IntKind.wrap .i64 (0-(IntKind.wrap .i64 ((1:Int)+(Ao .and .i64 x' (127:Int)))))),(IntKind.wrap .i64 ((2:Int)+(IntKind.wrap .i64 ((1:Int)+(Ao .and .i64 x' (127:Int))))))].getD ((Ao .and .i64 which (1:Int)).toNat) default)).2))=(1900:Int)))))) else (bif decide (((IntKind.wrap .u64 which).tmod (8:Int))=(3:Int)) then ((!(BJ (Ax x') (1:Int)).1)&&(decide ((Cn ((BJ (Ax x') (1:Int)).2))=(1900:Int))&&(decide (((((Cp (Ax x')).1).length:Nat):Int)=(0:Int))&&(decide ((Cn ((Cp (Ax x')).2))=(1900:Int))&&decide ((Cn ((BJ A5 ([(IntKind.wrap .i64 (0-(IntKind.wrap .i64 ((1:Int)+(Ao .and .i64 x' (127:Int)))))),(IntKind.wrap .i64 ((2:Int)+(IntKind.wrap .i64 ((1:Int)+(Ao .and .i64 x' (127:Int))))))].getD ((Ao .and .i64 which (1:Int)).toNat) default)).2))=(1900:Int)))))) else (bif decide (((IntKind.wrap .u64 which).tmod (8:Int))=(4:Int)) then ((!(BJ AE (1:Int)).1)&&(decide ((Cn ((BJ AE (1:Int)).2))=(1900:Int))&&(decide (((((Cp AE).1).length:Nat):Int)=(0:Int))&&(decide ((Cn ((Cp AE).2))=(1900:Int))&&decide ((Cn ((BJ A5 ([(IntKind.wrap .i64 (0-(IntKind.wrap .i64 ((1:Int)+(Ao .and .i64 x' (127:Int)))))),(IntKind.wrap .i64 ((2:Int)+(IntKind.wrap .i64 ((1:Int)+(Ao .and .i64 x' (127:Int))))))].getD ((Ao .and .i64 which (1:Int)).toNat) default)).2))=(1900:Int)))))) else (bif decide (((IntKind.wrap .u64 which).tmod (8:Int))=(5:Int)) then ((!(BJ AD (1:Int)).1)&&(decide ((Cn ((BJ AD (1:Int)).2))=(1901:Int))&&(decide (((((Cp AD).1).length:Nat):Int)=(0:Int))&&(decide ((Cn ((Cp AD).2))=(1901:Int))&&decide ((Cn ((BJ A5 ([(IntKind.wrap .i64 (0-(IntKind.wrap .i64 ((1:Int)+(Ao .and .i64 x' (127:Int)))))),(IntKind.wrap .i64 ((2:Int)+(IntKind.wrap .i64 ((1:Int)+(Ao .and .i64 x' (127:Int))))))].getD ((Ao .and .i64 which (1:Int)).toNat) default)).2))=(1900:Int)))))) else (bif decide (((IntKind.wrap .u64 which).tmod (8:Int))=(6:Int)) then ((!(BJ AA (1:Int)).1)&&(decide ((Cn ((BJ AA (1:Int)).2))=(1901:Int))&&(decide (((((Cp AA).1).length:Nat):Int)=(0:Int))&&(decide ((Cn ((Cp AA).2))=(1901:Int))&&decide ((Cn ((BJ A5 ([(IntKind.wrap .i64 (0-(IntKind.wrap .i64 ((1:Int)+(Ao .and .i64 x' (127:Int)))))),(IntKind.wrap .i64 ((2:Int)+(IntKind.wrap .i64 ((1:Int)+(Ao .and .i64 x' (127:Int))))))].getD ((Ao .and .i64 which (1:Int)).toNat) default)).2))=(1900:Int)))))) else ((!(BJ AB (1:Int)).1)&&(decide ((Cn ((BJ AB (1:Int)).2))=(1901:Int))&&(decide (((((Cp AB).1).length:Nat):Int)=(0:Int))&&(decide ((Cn ((Cp AB).2))=(1901:Int))&&decide ((Cn ((BJ A5 ([(IntKind.wrap .i64 (0-(IntKind.wrap .i64 ((1:Int)+(Ao .and .i64 x' (127:Int)))))),(IntKind.wrap .i64 ((2:Int)+(IntKind.wrap .i64 ((1:Int)+(Ao .and .i64 x' (127:Int))))))].getD ((Ao .and .i64 which (1:Int)).toNat) default)).2))=(1900:Int))))))))))))))
end
end Go.Lift
namespace Go.Lift
noncomputable section
open Go Go.RowKit
theorem JQ {α:Type} {sz:α→Nat} (h: ∀x,1≤sz x) (xs:List α):xs.length+1≤Kc sz xs:=by
 unfold Kc
 induction xs with
 |nil=>simp
 |cons x xs ih=>have:=h x;simp only [List.map_cons,List.sum_cons,List.length_cons];omega
theorem OA {α:Type} {sz:α→Nat} {x:α}: ∀ {xs:List α},x∈xs→sz x+1≤Kc sz xs
 | [],h=>by simp at h
 |y::ys,h=>by
  unfold Kc
  simp only [List.map_cons,List.sum_cons]
  rcases List.mem_cons.1 h with rfl|h
  ·omega
  ·have:=OA (sz:=sz) h;unfold Kc at this;omega
theorem X1 {α:Type} [Inhabited α] {sz:α→Nat} {xs:List α} {i:Nat} (h:i<xs.length):sz (xs.getD i default)+1≤Kc sz xs:=
 OA (List.mem_of_getElem? (getD_some h))
theorem Gi (xs:List ByteArray):xs.length+1≤Kc (fun s:ByteArray=>s.size+1) xs:=JQ (fun _=>Nat.le_add_left 1 _) xs
theorem B1.sz_one (e:B1):1≤e.sz:=by unfold B1.sz;omega
theorem Sj (d:B1):d.sz=Kc (fun s:ByteArray=>s.size+1) d.outs+Kc (fun s:ByteArray=>s.size+1) d.ins+Kc (fun s:ByteArray=>s.size+1) d.implicit+Kc (fun s:ByteArray=>s.size+1) d.order+(d.command.size+1)+1+(d.pool.size+1)+1:=rfl
theorem AL.sz_len (g:AL):g.edges.length≤g.sz:=Nat.le_trans (Nat.le_of_succ_le (JQ B1.sz_one g.edges)) g.sz_edges
theorem Vo (g:AL) (i:Int):Pn g i≤g.sz:=by
 unfold Pn
 by_cases h:i.toNat<g.edges.length
 ·have h1:=X1 (sz:=B1.sz) h
  have h2:=g.sz_edges
  generalize g.edges.getD i.toNat default=e at*
  have a:=Gi e.ins;have b:=Gi e.implicit;have c:=Gi e.order
  rw [Sj] at h1
  omega
 ·rw [List.getD_eq_getElem?_getD,List.getElem?_eq_none (by omega)]
  show (0+0+0:Nat)≤_
  omega
theorem QL: ∀es:List B1,T9 es≤Kc B1.sz es
 | []=>Nat.zero_le _
 |e::es=>by
  have:=QL es
  have a:=Gi e.outs;have b:=e.sz_outs
  unfold Kc at*
  simp only [T9,List.map_cons,List.sum_cons] at*
  omega
theorem WK (g:AL):T9 g.edges≤g.sz:=Nat.le_trans (QL _) g.sz_edges
theorem Tx (x m:Int) (h0:0≤m) (hm:m<4611686018427387904):0≤Ao .and .i64 x m∧Ao .and .i64 x m≤m:=by
 obtain ⟨n,rfl⟩: ∃n:Nat,m=((n:Nat):Int):=⟨m.toNat,by omega⟩
 have h:(BitVec.ofInt IntKind.i64.bits x&&&BitVec.ofInt IntKind.i64.bits ((n:Nat):Int)).toNat≤n:=by
  rw [BitVec.toNat_and]
  refine Nat.le_trans Nat.and_le_right ?_
  rw [BitVec.ofInt_natCast,BitVec.toNat_ofNat]
  exact Nat.mod_le _ _
 unfold Ao
 simp only
 rw [DY (by omega) (by omega)]
 omega
end
end Go.Lift
namespace Go.Lift
noncomputable section
open Go Go.RowKit
theorem Mo {α:Type} {p:α→Bool} {L:List α→Nat→Lp Bool Unit} (h0: ∀i,L [] i=Lp.brk ()) (h1: ∀x r i,L (x::r) i=bif !(p x) then Lp.ret false else L r (i+1)): ∀(l:List α) (i:Nat),L l i=if l.all p then Lp.brk () else Lp.ret false
 | [],i=>by rw [h0];rfl
 |x::r,i=>by
  rw [h1,Mo h0 h1 r (i+1),List.all_cons]
  cases p x<;>simp
theorem E7 (xs ys:List ByteArray) (k:Nat):DW (xs++ys) k=DW xs k+DW ys k:=by
 induction xs with
 |nil=>simp [DW]
 |cons x xs ih=>simp only [List.cons_append,DW,ih];omega
theorem GS (xs:List ByteArray) (n k:Nat):DW (xs.take n) k≤DW xs k:=by
 have:=E7 (xs.take n) (xs.drop n) k
 rw [List.take_append_drop] at this
 omega
theorem On (l:List UInt8) (i:Nat):Of l i=if l.all HI then Lp.brk () else Lp.ret false:=
 Mo (p:=HI) (fun _=>rfl) (fun x r i=>by
  rw [Of,UL]
  have e:NE (x.toNat:Int)=PF x.toNat:=by
   unfold NE PF
   cases decide ((97:Int)≤(x.toNat:Int))<;>cases decide ((x.toNat:Int)≤122)<;>rfl
  rw [e]
  generalize PF x.toNat=a
  generalize decide ((x.toNat:Int)=46)=b
  generalize decide ((x.toNat:Int)=95)=c
  generalize decide ((x.toNat:Int)=45)=d
  generalize decide ((x.toNat:Int)=47)=f
  cases a<;>cases b<;>cases c<;>cases d<;>cases f<;>rfl) l i
theorem GH (s:ByteArray):Ms s=Ix s:=by
 unfold Ms
 rw [On,T3]
 cases s.data.toList.all HI<;>rfl
theorem Ux {s:ByteArray} (h:Ix s=true):1≤s.size∧s.size≤16:=by
 rw [T3] at h
 simp only [Bool.and_eq_true,decide_eq_true_eq] at h
 omega
theorem NN {s:ByteArray} (h:Ms s=true):1≤s.size∧s.size≤16:=Ux (by rw [←GH];exact h)
theorem Oo {s:ByteArray} (h:(!(Ms s))=false):1≤s.size∧s.size≤16:=NN (by simpa using h)
def Lp.val {α:Type}:Lp α α→α
 | .ret a=>a
 | .brk a=>a
theorem LF (s:ByteArray) (c:Int): ∀(k:Nat) (out:List ByteArray) (f i:Nat),DW out 1≤f→f≤i→i≤s.size+1→DW (NA s c k out f i).val 1≤s.size+1
 |0,out,f,i,h1,h2,h3=>by simp only [NA,Lp.val];omega
 |k+1,out,f,i,h1,h2,h3=>by
  rw [NA]
  by_cases h:((i:Nat):Int)≤((s.size:Nat):Int)
  ·rw [decide_eq_true h,cond_true]
   cases (decide (((i:Nat):Int)=((s.size:Nat):Int))||decide (((s.data.getD i 0).toNat:Int)=c))
   ·exact LF s c k out f (i+1) h1 (by omega) (by omega)
   ·refine LF s c k _ (i+1) (i+1) ?_ (Nat.le_refl _) (by omega)
    rw [E7]
    simp only [DW,ByteArray.size_extract]
    omega
  ·rw [decide_eq_false h,cond_false]
   simp only [Lp.val];omega
theorem PG (s:ByteArray) (c:Int):DW (Lm s c) 1≤s.size+1:=by
 have:=LF s c (s.size+1-0+1) [] 0 0 (Nat.le_refl _) (Nat.le_refl _) (Nat.zero_le _)
 unfold Lm
 cases e:NA s c (s.size+1-0+1) [] 0 0<;>rw [e] at this<;>exact this
theorem U6 {s:ByteArray} {c:Int} {kept:List ByteArray} {n:Nat} (h:s.size≤16) (hk:DW kept 1+n≤DW (Lm s c) 1):DW kept (⟨#[47]⟩:ByteArray).size≤281474976710656:=by
 have:=PG s c
 show DW kept 1≤_
 omega
theorem QB: ∀(xs:List (List ByteArray)) (i n:Nat),Vj xs i n=Lp.brk (n+xs.flatten.length)
 | [],i,n=>by simp [Vj]
 |x::xs,i,n=>by rw [Vj,QB xs];simp [Nat.add_assoc]
theorem QC: ∀(xs:List (List ByteArray)) (i:Nat) (out:List ByteArray),MV xs i out=Lp.brk (out++xs.flatten)
 | [],i,n=>by simp [MV]
 |x::xs,i,n=>by rw [MV,QC xs];simp [List.append_assoc]
theorem LT (xs:List (List ByteArray)):EO xs=xs.flatten:=by
 simp only [EO,QB,QC,List.take_zero,List.nil_append]
theorem UO {g:AL} (h:(!decide ((K3 g)=(0:Int)))=false):g.edges.length≤16:=by
 have h1:K3 g=0:=by simpa using h
 unfold K3 Ld at h1
 split at h1
 ·simp at h1
 ·rename_i hm
  have hm':NG (Nh g)=true:=by simpa using hm
  simp only [NG,Bool.and_eq_true,decide_eq_true_eq,Nh,List.length_map] at hm'
  have:=hm'.2.1;omega
theorem Uu (f:B1→Bool): ∀(xs:List B1) (i:Nat),m_s f xs i=Lp.brk ()∨ ∃r:Nat,m_s f xs i=Lp.ret (r:Int)∧i≤r∧r<i+xs.length
 | [],i=>Or.inl rfl
 |x::xs,i=>by
  rw [m_s]
  cases f x
  ·simp only [cond_false]
   rcases Uu f xs (i+1) with h|⟨r,h,h1,h2⟩
   ·exact Or.inl h
   ·exact Or.inr ⟨r,h,by omega,by simp only [List.length_cons];omega⟩
  ·exact Or.inr ⟨i,rfl,Nat.le_refl _,by simp⟩
theorem T1 (g:AL) (s:ByteArray):Gp g s<(g.edges.length:Int)∧ -1≤Gp g s:=by
 unfold Gp m_4
 rcases Uu (fun z0=>SX z0 s) g.edges 0 with h|⟨r,h,h1,h2⟩
 ·rw [h];exact ⟨by show (-1:Int)<_;omega,Int.le_refl _⟩
 ·rw [h];exact ⟨by show (r:Int)<_;omega,by show (-1:Int)≤r;omega⟩
def inG (g:AL) (k:Int):Prop:=0≤k∧k.toNat<g.edges.length
theorem WD (g:AL): ∀(xs:List (List Int)) (i:Nat) (c:List Int),i+xs.length≤g.edges.length→(∀k∈c,inG g k)→ ∃t c',Pj xs i c=Lp.brk (t,c')∧(∀k∈c',inG g k)∧c'.length≤c.length+1
 | [],i,c,_,h=>⟨_,_,rfl,h,by omega⟩
 |x::xs,i,c,hl,h=>by
  simp only [List.length_cons] at hl
  rw [Pj]
  cases (!(K4 ((i:Nat):Int) c))
  ·exact WD g xs (i+1) c (by omega) h
  ·simp only [cond_true]
   cases (!(VG x (fun z0=>Oh z0 (fun z0=>K4 z0 c))))
   ·exact WD g xs (i+1) c (by omega) h
   ·refine ⟨_,_,rfl,?_,by simp⟩
    intro k hk
    rcases List.mem_append.1 hk with hk|hk
    ·exact h k hk
    ·rw [List.mem_singleton.1 hk];exact ⟨by omega,by omega⟩
theorem of_L2 (g:AL) (row:List (List Int)) (hr:row.length≤g.edges.length): ∀(f:Nat) (c:List Int),(∀k∈c,inG g k)→(∃c',Qb g row f c=Lp.brk c'∧(∀k∈c',inG g k)∧(c.length≤g.edges.length→c'.length≤g.edges.length))∨Qb g row f c=Lp.ret (([]:List Int),(1001:Int))
 |0,c,h=>Or.inl ⟨c,rfl,h,id⟩
 |f+1,c,h=>by
  rw [Qb]
  cases hd:decide (((c.length:Nat):Int)<((g.edges.length:Nat):Int))
  ·exact Or.inl ⟨c,rfl,h,id⟩
  ·have hd':=of_decide_eq_true hd
   obtain ⟨t,c',e,a,l⟩:=WD g row 0 c (by omega) h
   simp only [cond_true,e]
   cases t
   ·exact Or.inr rfl
   ·rcases of_L2 g row hr f c' a with ⟨c2,h1,h2,h3⟩|h1
    ·exact Or.inl ⟨c2,h1,h2,fun _=>h3 (by omega)⟩
    ·exact Or.inr h1
theorem of_L1 (g:AL): ∀(xs:List (List Int)) (i:Nat) (row:List (List Int)),∃row',Pi g xs i row=Lp.brk row'∧row'.length=row.length
 | [],i,row=>⟨_,rfl,rfl⟩
 |x::xs,i,row=>by
  rw [Pi]
  obtain ⟨r,e,a⟩:=of_L1 g xs (i+1) (row.set i (Jp g ((i:Nat):Int)))
  exact ⟨r,e,by simpa using a⟩
theorem of_mem {g:AL} {k:Int} (h:k∈(J6 g).1):0≤k∧k.toNat<g.edges.length:=by
 unfold J6 at h
 cases hc:(!decide ((K3 g)=(0:Int)))
 ·rw [hc] at h
  simp only [cond_false] at h
  obtain ⟨row,e,a⟩:=of_L1 g (List.replicate g.edges.length ([]:List Int)) 0 (List.replicate g.edges.length ([]:List Int))
  rw [e] at h
  simp only at h
  rcases of_L2 g row (by rw [a];simp) (g.edges.length-0+1) [] (by simp) with ⟨c,e2,b,_⟩|e2
  ·rw [e2] at h;exact b k h
  ·rw [e2] at h;simp at h
 ·rw [hc] at h;simp at h
end
end Go.Lift
namespace Go.Lift
noncomputable section
open Go Go.RowKit
theorem NS (c:UInt8): ∀l:List UInt8,CN c l≠ []
 | []=>by simp [CN]
 |b::l=>by
  rw [CN]
  split
  ·simp
  ·cases h:CN c l<;>simp
theorem MM (s:ByteArray) (f i:Nat):(s.extract f i).data.toList=(s.data.toList.take i).drop f:=by
 rw [ByteArray.data_extract,Array.toList_extract,List.extract_eq_take_drop,List.take_drop]
 by_cases h:f≤i
 ·rw [show f+(i-f)=i by omega]
 ·rw [show f+(i-f)=f by omega,List.drop_of_length_le (by simp;omega),List.drop_of_length_le (by simp;omega)]
theorem K8 (s:ByteArray): ∀(k:Nat) (out:List ByteArray) (f i:Nat),f≤i→i≤s.size→s.size+1-i<k→
  NA s 47 k out f i=Lp.brk (out++(match CN 47 (s.data.toList.drop i) with| []=>[]|p::r=>H2 ((s.data.toList.take i).drop f++p)::r.map H2))
 |0,_,_,_,_,_,h=>by omega
 |k+1,out,f,i,h1,h2,h3=>by
  have hl:=Gv s
  rw [NA,decide_eq_true (by omega),cond_true]
  by_cases hi:i=s.size
  ·subst hi
   rw [decide_eq_true rfl,Bool.true_or,cond_true]
   obtain ⟨k',rfl⟩: ∃k',k=k'+1:=⟨k-1,by omega⟩
   rw [NA,decide_eq_false (by omega),cond_false,List.drop_of_length_le (by omega)]
   simp only [CN,List.append_nil,List.map_nil]
   rw [←MM,LH]
  ·have hlt:i<s.data.toList.length:=by omega
   have hd:s.data.toList.drop i=s.data.getD i 0::s.data.toList.drop (i+1):=by
    rw [List.drop_eq_getElem_cons hlt]
    congr 1
    have:i<s.data.size:=by rw [←Array.length_toList];exact hlt
    simp only [Array.getD,this,dif_pos];simp
   have ht:s.data.toList.take (i+1)=s.data.toList.take i++[s.data.getD i 0]:=by
    rw [List.take_add_one,List.getElem?_eq_getElem hlt]
    have:i<s.data.size:=by rw [←Array.length_toList];exact hlt
    simp only [Array.getD,this,dif_pos];simp
   rw [decide_eq_false (by omega),Bool.false_or,hd,CN]
   by_cases hb:s.data.getD i 0=47
   ·rw [if_pos hb,decide_eq_true (by rw [hb];rfl),cond_true,K8 s k _ (i+1) (i+1) (Nat.le_refl _) (by omega) (by omega)]
    simp only [List.append_assoc,List.append_nil,List.singleton_append]
    rw [show H2 ((s.data.toList.take i).drop f)=s.extract f i from by rw [←MM];rfl]
    congr 3
    cases h:CN 47 (s.data.toList.drop (i+1)) with
    |nil=>exact absurd h (NS _ _)
    |cons p r=>simp only [List.map_cons];rw [List.drop_of_length_le (by simp;omega),List.nil_append]
   ·have hn: ¬((s.data.getD i 0).toNat:Int)=47:=fun h=>hb (by
      apply UInt8.toNat_inj.1;show _=47;omega)
    rw [if_neg hb,decide_eq_false hn,cond_false,K8 s k out f (i+1) (by omega) (by omega) (by omega)]
    congr 2
    cases h:CN 47 (s.data.toList.drop (i+1)) with
    |nil=>exact absurd h (NS _ _)
    |cons p r=>
     simp only
     rw [ht,List.drop_append_of_le_length (by simp;omega),List.append_assoc];rfl
theorem Qk (s:ByteArray):Lm s 47=(CN 47 s.data.toList).map H2:=by
 unfold Lm
 rw [K8 s _ [] 0 0 (Nat.le_refl _) (Nat.zero_le _) (by omega)]
 simp only [List.drop_zero,List.nil_append,List.take_zero]
 cases h:CN 47 s.data.toList with
 |nil=>exact absurd h (NS _ _)
 |cons p r=>rfl
theorem GB: ∀(ps:List ByteArray) (i:Nat) (kept:List ByteArray),NC ps i kept=match Lh ps kept with
  |none=>Lp.ret ((⟨#[]⟩:ByteArray),(200:Int))
  |some k=>Lp.brk k
 | [],i,kept=>rfl
 |p::ps,i,kept=>by
  rw [NC,Lh,LG]
  by_cases h1:p=⟨#[]⟩
  ·rw [decide_eq_true h1,cond_true,if_pos (Or.inl h1),GB ps];rfl
  ·rw [decide_eq_false h1,cond_false]
   by_cases h2:p=⟨#[46]⟩
   ·rw [decide_eq_true h2,cond_true,if_pos (Or.inr h2),GB ps];rfl
   ·rw [decide_eq_false h2,cond_false,if_neg (by rintro (h|h);exact h1 h;exact h2 h)]
    by_cases h3:p=⟨#[46,46]⟩
    ·rw [decide_eq_true h3,cond_true,if_neg (fun h=>h h3)]
     by_cases h4:kept=[]
     ·subst h4;rfl
     ·rw [decide_eq_false (by cases kept with
       |nil=>exact absurd rfl h4
       |cons a b=>simp only [List.length_cons];omega),cond_false,if_neg h4,GB ps,List.dropLast_eq_take];rfl
    ·rw [decide_eq_false h3,cond_false,if_pos h3,GB ps];rfl
theorem N7: ∀(xs:List ByteArray) (i:Nat) (acc:ByteArray),0<i→Pg ⟨#[47]⟩ xs i acc=Lp.brk (H2 (acc.data.toList++Lib.joinTail [47] (xs.map (·.data.toList))))
 | [],i,acc,_=>by
   rw [Pg];simp only [Lib.joinTail,List.map_nil,List.flatten_nil,List.append_nil];rfl
 |x::xs,i,acc,h=>by
  rw [Pg,decide_eq_true (by omega),cond_true,N7 xs (i+1) _ (by omega)]
  congr 2
  simp [Lib.joinTail]
theorem RX (k:ByteArray) (ks:List ByteArray):FQ (k::ks) ⟨#[47]⟩=SK (k::ks):=by
 unfold FQ SK
 rw [Pg,decide_eq_false (by omega),cond_false,N7 ks 1 _ (by omega)]
 simp only [List.map_cons,Lib.join_cons]
 show H2 _=_
 unfold H2
 congr 2
theorem N6 (s:ByteArray):MX s=CM s:=by
 unfold MX CM
 rw [GH]
 cases hm:Ix s
 ·simp
 ·have hz:=Ux hm
  have hl:=Gv s
  have hh:s.data.toList.head? =some (s.data.getD 0 0):=by
   cases hs:s.data.toList with
   |nil=>rw [hs] at hl;simp at hl;omega
   |cons a b=>
    have:0<s.data.size:=by show 0<s.size;omega
    simp only [Array.getD,this,dif_pos,List.head?_cons]
    have e:s.data.toList[0]? =some a:=by rw [hs];rfl
    rw [Array.getElem?_toList] at e
    rw [Array.getElem?_eq_getElem this] at e
    exact e.symm
  simp only [Bool.not_true,cond_false,Bool.true_eq_false,false_or,hh]
  by_cases hb:s.data.getD 0 0=47
  ·rw [decide_eq_true (by rw [hb];rfl),cond_true,if_pos (by rw [hb])]
  ·have hn: ¬((s.data.getD 0 0).toNat:Int)=47:=fun h=>hb (by
     apply UInt8.toNat_inj.1;show _=47;omega)
   rw [decide_eq_false hn,cond_false,if_neg (by simpa using hb),Qk,GB]
   cases Lh ((CN 47 s.data.toList).map H2) [] with
   |none=>rfl
   |some k=>
    cases k with
    |nil=>rfl
    |cons k ks=>
     simp only
     rw [decide_eq_false (by simp only [List.length_cons];omega),cond_false,RX]
theorem L0 (s:ByteArray):Kp s=TU s:=by
 unfold Kp TU;rw [N6]
theorem HV (xs:List ByteArray):Q8 xs=Mj ⟨false,xs⟩:=by
 unfold Q8 Mj
 rw [Mo (p:=TU) (L:=m_ca) (fun _=>rfl) (fun x r i=>by rw [m_ca,L0]) xs 0]
 cases xs.all TU<;>simp
theorem HW (l:List UInt8) (i:Nat):Vc l i=if l.all GQ then Lp.brk () else Lp.ret false:=
 Mo (p:=GQ) (L:=Vc) (fun _=>rfl) (fun x r i=>by
  rw [Vc]
  have e:GQ x=(!decide ((x.toNat:Int)<32)&& !decide ((126:Int)<(x.toNat:Int))):=by
   unfold GQ
   congr 1
   ·rw [←decide_not];congr 1;apply propext;omega
   ·rw [←decide_not];congr 1;apply propext;omega
  rw [e]
  cases decide ((x.toNat:Int)<32)<;>cases decide ((126:Int)<(x.toNat:Int))<;>rfl) l i
theorem Oq (s:ByteArray):U2 s 1 256=H9 s:=by
 unfold U2 H9 NL
 rw [HW]
 have e:decide ((1:Int)≤((s.size:Nat):Int))= !decide (s=⟨#[]⟩):=by
  rw [←decide_not];congr 1;apply propext
  constructor
  ·rintro h rfl;exact absurd h (by decide)
  ·intro h
   have:s.size≠0:=fun h0=>h (by
    apply Rm
    have:=Gv s
    rw [h0] at this
    rw [List.length_eq_zero_iff.1 this])
   omega
 cases s.data.toList.all GQ
 ·simp
 ·simp only [if_true,e,Bool.true_and]
theorem Om (e:B1):J8 e=HB (Rw e):=by
 unfold J8 HB Rw
 simp only [HV,Oq,GH,List.all_cons,List.all_nil,Bool.and_true]
 have h:decide ((0:Int)<((e.outs.length:Nat):Int))=decide (((e.outs.length:Nat):Int)>0):=rfl
 rw [h]
 generalize decide (((e.outs.length:Nat):Int)>0)=a
 generalize Mj ⟨false,e.outs⟩=b
 generalize Mj ⟨false,e.ins⟩=c
 generalize Mj ⟨false,e.implicit⟩=d
 generalize Mj ⟨false,e.order⟩=f
 cases a<;>cases b<;>cases c<;>cases d<;>cases f<;>simp
theorem TW {α:Type} {p:α→Bool} {L:List α→Nat→Lp Int Unit} (h0: ∀i,L [] i=Lp.brk ()) (h1: ∀x r i,L (x::r) i=bif p x then Lp.ret ((i:Nat):Int) else L r (i+1)): ∀(l:List α) (i:Nat),L l i=match l.findIdx? p with
  |some j=>Lp.ret (((i+j:Nat)):Int)
  |none=>Lp.brk ()
 | [],i=>by rw [h0];rfl
 |x::r,i=>by
  rw [h1,TW h0 h1 r (i+1),List.findIdx?_cons]
  cases p x
  ·simp only [cond_false,Bool.false_eq_true,if_false]
   cases r.findIdx? p with
   |none=>rfl
   |some j=>simp only [Option.map_some];congr 2;omega
  ·rfl
theorem Wr {α β:Type} (f:α→β) (p:β→Bool) (q:α→Bool) (h: ∀x,p (f x)=q x) (xs:List α):KO p (xs.map f)=KO q xs:=by
 unfold KO
 rw [List.findIdx?_map]
 have:p∘f=q:=funext h
 rw [this]
theorem Ly (g:AL) (name:ByteArray):I1 g.pools name=Iy (Nh g) name:=by
 unfold I1 Iy
 rw [TW (p:=fun p:BZ=>decide (p.name=name)) (L:=Ge name) (fun _=>rfl) (fun x r i=>by rw [Ge]) g.pools 0]
 rw [show (Nh g).pools=g.pools.map pOf from rfl,Wr pOf _ (fun p=>decide (p.name=name)) (fun x=>rfl)]
 unfold KO
 cases g.pools.findIdx? (fun p=>decide (p.name=name)) with
 |none=>rfl
 |some j=>simp
theorem OL {α β:Type} (f:α→β) (p:Nat→β→Bool) (q:Nat→α→Bool) (h: ∀i x,p i (f x)=q i x): ∀(i:Nat) (xs:List α),HH p i (xs.map f)=HH q i xs
 |_,[]=>rfl
 |i,x::xs=>by simp only [List.map_cons,HH,h,OL f p q h (i+1) xs]
theorem QI {α:Type} {p:Nat→α→Bool} {L:List α→Nat→Lp Bool Unit} (h0: ∀i,L [] i=Lp.brk ()) (h1: ∀x r i,L (x::r) i=bif !(p i x) then Lp.ret false else L r (i+1)): ∀(l:List α) (i:Nat),L l i=if HH p i l then Lp.brk () else Lp.ret false
 | [],i=>by rw [h0];rfl
 |x::r,i=>by
  rw [h1,QI h0 h1 r (i+1),HH]
  cases p i x<;>simp
def N5 (g:AL) (k:Nat) (p:BZ):Bool:=Mx (Nh g) k (pOf p)
theorem M1 (g:AL) (l:List BZ) (i:Nat):Wy g l i=if HH (N5 g) i l then Lp.brk () else Lp.ret false:=
 QI (p:=N5 g) (L:=Wy g) (fun _=>rfl) (fun x r i=>by
  rw [Wy,GH,Ly]
  have e:N5 g i x=(Ix x.name&& !decide (x.depth<1)&& !decide ((8:Int)<x.depth)&&decide (Iy (Nh g) x.name=((i:Nat):Int))):=rfl
  rw [e]
  cases Ix x.name<;>cases decide (x.depth<1)<;>cases decide ((8:Int)<x.depth)<;>cases decide (Iy (Nh g) x.name=((i:Nat):Int))<;>rfl) l i
theorem M2 (g:AL) (l:List B1) (i:Nat):Vh g l i=if l.all (fun e=>GL (Nh g) (Rw e)) then Lp.brk () else Lp.ret false:=
 Mo (p:=fun e=>GL (Nh g) (Rw e)) (L:=Vh g) (fun _=>rfl) (fun x r i=>by
  rw [Vh,Om,Ly]
  have e:GL (Nh g) (Rw x)=(HB (Rw x)&&(decide (x.pool=(⟨#[]⟩:ByteArray))|| !decide (Iy (Nh g) x.pool<0))):=rfl
  rw [e]
  cases HB (Rw x)<;>cases decide (x.pool=(⟨#[]⟩:ByteArray))<;>cases decide (Iy (Nh g) x.pool<0)<;>rfl) l i
theorem KA (g:AL):Iw g=SZ g:=by
 unfold Iw SZ NG K6
 rw [M1,M2,HV]
 rw [show (Nh g).edges=g.edges.map Rw from rfl,show (Nh g).pools=g.pools.map pOf from rfl,List.all_map,List.length_map,List.length_map,OL pOf _ (N5 g) (fun _ _=>rfl)]
 rw [show (Nh g).defaults=⟨false,g.defaults⟩ from rfl]
 rw [show (GL (Nh g)∘Rw)=(fun e=>GL (Nh g) (Rw e)) from rfl]
 cases HH (N5 g) 0 g.pools<;>cases g.edges.all (fun e=>GL (Nh g) (Rw e))<;>simp
 cases decide (((g.pools.length:Nat):Int)≤4)<;>cases decide (((g.edges.length:Nat):Int)≤16)<;>simp
theorem JN (xs:List ByteArray) (x:ByteArray):(x∈xs→GP xs x=true)∧(x∉xs→GP xs x=false):=by
 have h: ∀(l:List ByteArray) (i:Nat),(x∈l→Gx x l i=Lp.ret true)∧(x∉l→Gx x l i=Lp.brk ()):=by
  intro l;induction l with
  |nil=>intro i;exact ⟨fun h=>by simp at h,fun _=>rfl⟩
  |cons y l ih=>
   intro i
   rw [Gx]
   by_cases hy:y=x
   ·subst hy;rw [decide_eq_true rfl,cond_true];exact ⟨fun _=>rfl,fun h=>absurd (List.mem_cons_self) h⟩
   ·rw [decide_eq_false hy,cond_false]
    refine ⟨fun h=>(ih (i+1)).1 ?_,fun h=>(ih (i+1)).2 fun h2=>h (List.mem_cons_of_mem _ h2)⟩
    rcases List.mem_cons.1 h with h|h
    ·exact absurd h.symm hy
    ·exact h
 unfold GP
 exact ⟨fun hx=>by rw [(h xs 0).1 hx],fun hx=>by rw [(h xs 0).2 hx]⟩
theorem Kz: ∀(l:List ByteArray) (k:Nat) (acc:List ByteArray),acc.Nodup→GF l k acc=if (acc++l).Nodup then Lp.brk (acc++l) else Lp.ret 901
 | [],k,acc,h=>by rw [List.append_nil,if_pos h];rfl
 |x::l,k,acc,h=>by
  rw [GF]
  by_cases hx:x∈acc
  ·rw [(JN acc x).1 hx,cond_true,if_neg]
   intro hn
   rw [List.nodup_append] at hn
   exact hn.2.2 x hx x (by simp) rfl
  ·rw [(JN acc x).2 hx,cond_false,Kz l (k+1) (acc++[x]) (by
    rw [List.nodup_append]
    exact ⟨h,by simp,fun a ha b hb=>by simp only [List.mem_singleton] at hb;subst hb;rintro rfl;exact hx ha⟩),List.append_assoc,List.singleton_append]
theorem HU: ∀(es:List B1) (i:Nat) (acc:List ByteArray),acc.Nodup→GE es i acc=if (acc++es.flatMap (·.outs)).Nodup then Lp.brk () else Lp.ret 901
 | [],i,acc,h=>by rw [List.flatMap_nil,List.append_nil,if_pos h];rfl
 |e::es,i,acc,h=>by
  rw [GE,Kz _ _ _ h,List.flatMap_cons,←List.append_assoc]
  by_cases hn:(acc++e.outs).Nodup
  ·rw [if_pos hn]
   simp only
   rw [HU es (i+1) _ hn]
  ·rw [if_neg hn]
   simp only
   rw [if_neg]
   intro h2
   rw [List.nodup_append] at h2
   exact hn h2.1
theorem Ma (g:AL):IX g=K3 g:=by
 unfold IX K3 Ld
 rw [KA]
 show _=if SZ g=false then _ else _
 cases SZ g
 ·rfl
 ·rw [HU _ _ _ List.nodup_nil,List.nil_append]
  have e:EM (Nh g).edges=g.edges.flatMap (·.outs):=by
   unfold EM
   rw [show (Nh g).edges=g.edges.map Rw from rfl,List.flatMap_map];rfl
  rw [e]
  have hd:=Mn ((g.edges.flatMap (·.outs)).map fun x=>x.data.toList)
  have hn:((g.edges.flatMap (·.outs)).map fun x=>x.data.toList).Nodup↔(g.edges.flatMap (·.outs)).Nodup:=by
   constructor
   ·intro h;exact List.Pairwise.of_map (fun x:ByteArray=>x.data.toList) (fun a b hh hab=>hh (by rw [hab])) h
   ·intro h;exact List.Pairwise.map _ (fun a b hab hh=>hab (Rm hh)) h
  by_cases h:(g.edges.flatMap (·.outs)).Nodup
  ·rw [if_pos h]
   have:K1 ((g.edges.flatMap (·.outs)).map fun x=>x.data.toList)=false:=by
    cases hh:K1 ((g.edges.flatMap (·.outs)).map fun x=>x.data.toList)
    ·rfl
    ·exact absurd (hn.2 h) (hd.1 hh)
   rw [this];rfl
  ·rw [if_neg h]
   have:K1 ((g.edges.flatMap (·.outs)).map fun x=>x.data.toList)=true:=hd.2 (fun hh=>h (hn.1 hh))
   rw [this];rfl
end
end Go.Lift
namespace Go.Lift
noncomputable section
open Go Go.RowKit
def T4 (g:AL) (n:ByteArray):Int:=KO (fun e=>Lib.containsS e.outs n) g.edges
theorem mkD_in (g:AL) (x:ByteArray):T4 g x= -1∨ ∃i e,T4 g x=((i:Nat):Int)∧g.edges[i]? =some e∧x∈e.outs:=by
 unfold T4 KO
 cases h:g.edges.findIdx? (fun e=>Lib.containsS e.outs x) with
 |none=>exact Or.inl rfl
 |some i=>
  obtain ⟨hi,h2,_⟩:=List.findIdx?_eq_some_iff_getElem.1 h
  exact Or.inr ⟨i,g.edges[i],rfl,List.getElem?_eq_getElem hi,(Lib.containsS_iff _ _).1 h2⟩
end
end Go.Lift
namespace Go.Lift
noncomputable section
open Go Go.RowKit
theorem TE (g:AL):K3 g=if SZ g=false then 900 else if (g.edges.flatMap (·.outs)).Nodup then 0 else 901:=by
 rw [←Ma]
 unfold IX
 rw [KA]
 cases SZ g
 ·rfl
 ·rw [HU _ _ _ List.nodup_nil,List.nil_append]
  by_cases h:(g.edges.flatMap (·.outs)).Nodup
  ·rw [if_pos h,if_pos h];rfl
  ·rw [if_neg h,if_neg h];rfl
end
end Go.Lift
namespace Go.Lift
noncomputable section
open Go Go.RowKit
theorem Jv {α:Type} {p:α→Bool} {L:List α→Nat→Lp Int Unit} (h0: ∀i,L [] i=Lp.brk ()) (h1: ∀x r i,L (x::r) i=bif p x then Lp.ret ((i:Nat):Int) else L r (i+1)) (l:List α):
  (match L l 0 with|Lp.ret r=>r|Lp.brk ()=>(-1:Int))=KO p l:=by
 rw [TW h0 h1 l 0];unfold KO
 cases l.findIdx? p with
 |none=>rfl
 |some j=>simp
theorem GV {α:Type} (p:α→Bool) (l:List α):decide ((0:Int)≤KO p l)=l.any p:=by
 unfold KO
 cases h:l.findIdx? p with
 |none=>
  have:=List.findIdx?_eq_none_iff.1 h
  rw [show l.any p=false from by simpa using this];rfl
 |some j=>
  obtain ⟨hj,h2,_⟩:=List.findIdx?_eq_some_iff_getElem.1 h
  rw [List.any_eq_true.2 ⟨l[j],List.getElem_mem hj,h2⟩]
  simp
theorem Rr (xs:List ByteArray) (v:ByteArray):U0 xs v=Lib.containsS xs v:=by
 unfold U0 ST
 refine (congrArg (fun z=>decide ((0:Int)≤z)) (Jv (p:=fun y=>decide (v=y)) (fun _=>rfl) (fun _ _ _=>rfl) xs)).trans ?_
 rw [GV]
 cases hc:Lib.containsS xs v
 ·rw [List.any_eq_false]
  intro y hy e
  have:v=y:=by simpa using e
  subst this
  rw [(Lib.containsS_iff _ _).2 hy] at hc;cases hc
 ·exact List.any_eq_true.2 ⟨v,(Lib.containsS_iff _ _).1 hc,by simp⟩
theorem MI (xs:List Int) (v:Int):VF xs v=xs.contains v:=by
 unfold VF SV
 refine (congrArg (fun z=>decide ((0:Int)≤z)) (Jv (p:=fun y=>decide (v=y)) (fun _=>rfl) (fun _ _ _=>rfl) xs)).trans ?_
 rw [GV]
 rw [Bool.eq_iff_iff];simp
theorem Nu (xs:List Int) (f:Int→Bool):VG xs f=xs.any f:=by
 unfold VG SU
 exact (congrArg (fun z=>decide ((0:Int)≤z)) (Jv (p:=f) (fun _=>rfl) (fun _ _ _=>rfl) xs)).trans (GV _ _)
theorem Vk (g:AL) (x:ByteArray):Gp g x=T4 g x:=by
 unfold Gp m_4 T4
 refine (Jv (p:=fun e=>SX e x) (fun _=>rfl) (fun _ _ _=>rfl) g.edges).trans ?_
 congr 1;funext e;exact Rr e.outs x
theorem has_str (xs:List ByteArray) (x:ByteArray):GP xs x=Lib.containsS xs x:=by
 cases hc:Lib.containsS xs x
 ·exact (JN xs x).2 fun h=>by rw [(Lib.containsS_iff _ _).2 h] at hc;cases hc
 ·exact (JN xs x).1 ((Lib.containsS_iff _ _).1 hc)
theorem T0 (g:AL) (x:ByteArray):Vf g x=T4 g x:=by
 unfold Vf T4
 refine (Jv (p:=fun e=>GP e.outs x) (fun _=>rfl) (fun _ _ _=>rfl) g.edges).trans ?_
 congr 1;funext e;exact has_str e.outs x
def RJ (g:AL) (e:Int):List ByteArray:=(g.edges.getD e.toNat default).ins++((g.edges.getD e.toNat default).implicit++(g.edges.getD e.toNat default).order)
theorem IY (g:AL): ∀(xs:List ByteArray) (i:Nat) (out:List Int),∃out',Q5 g xs i out=Lp.brk out'∧ ∀k,k∈out'↔k∈out∨(0≤k∧ ∃x∈xs,T4 g x=k)
 | [],i,out=>⟨out,rfl,fun k=>by simp⟩
 |x::xs,i,out=>by
  rw [Q5,Vk,MI]
  by_cases h1:0≤T4 g x
  ·by_cases h2:T4 g x∈out
   ·obtain ⟨o,e1,e2⟩:=IY g xs (i+1) out
    refine ⟨o,by simp [h1,h2,e1],fun k=> ?_⟩
    rw [e2]
    constructor
    ·rintro (h|⟨h,y,hy,e⟩)
     ·exact Or.inl h
     ·exact Or.inr ⟨h,y,by simp [hy],e⟩
    ·rintro (h|⟨h,y,hy,e⟩)
     ·exact Or.inl h
     ·rcases List.mem_cons.1 hy with rfl|hy
      ·subst e;exact Or.inl h2
      ·exact Or.inr ⟨h,y,hy,e⟩
   ·obtain ⟨o,e1,e2⟩:=IY g xs (i+1) (out++[T4 g x])
    refine ⟨o,by simp [h1,h2,e1],fun k=> ?_⟩
    rw [e2,List.mem_append,List.mem_singleton]
    constructor
    ·rintro ((h|h)|⟨h,y,hy,e⟩)
     ·exact Or.inl h
     ·subst h;exact Or.inr ⟨h1,x,by simp,rfl⟩
     ·exact Or.inr ⟨h,y,by simp [hy],e⟩
    ·rintro (h|⟨h,y,hy,e⟩)
     ·exact Or.inl (Or.inl h)
     ·rcases List.mem_cons.1 hy with rfl|hy
      ·exact Or.inl (Or.inr e.symm)
      ·exact Or.inr ⟨h,y,hy,e⟩
  ·obtain ⟨o,e1,e2⟩:=IY g xs (i+1) out
   refine ⟨o,by simp [h1,e1],fun k=> ?_⟩
   rw [e2]
   constructor
   ·rintro (h|⟨h,y,hy,e⟩)
    ·exact Or.inl h
    ·exact Or.inr ⟨h,y,by simp [hy],e⟩
   ·rintro (h|⟨h,y,hy,e⟩)
    ·exact Or.inl h
    ·rcases List.mem_cons.1 hy with rfl|hy
     ·omega
     ·exact Or.inr ⟨h,y,hy,e⟩
theorem Vp (g:AL) (e k:Int):k∈Jp g e↔0≤k∧ ∃x∈RJ g e,T4 g x=k:=by
 unfold Jp
 rw [LT]
 obtain ⟨o,e1,e2⟩:=IY g ([(g.edges.getD e.toNat default).ins,(g.edges.getD e.toNat default).implicit,(g.edges.getD e.toNat default).order].flatten) 0 []
 rw [e1]
 show k∈o↔_
 rw [e2]
 simp [RJ]
theorem K9 (g:AL): ∀(xs:List ByteArray) (i:Nat) (out:List Int),∃out',Wz g xs i out=Lp.brk out'∧ ∀k,k∈out'↔k∈out∨(0≤k∧ ∃x∈xs,T4 g x=k)
 | [],i,out=>⟨out,rfl,fun k=>by simp⟩
 |x::xs,i,out=>by
  rw [Wz,T0]
  by_cases h1:0≤T4 g x
  ·obtain ⟨o,e1,e2⟩:=K9 g xs (i+1) (out++[T4 g x])
   refine ⟨o,by simp [h1,e1],fun k=> ?_⟩
   rw [e2,List.mem_append,List.mem_singleton]
   constructor
   ·rintro ((h|h)|⟨h,y,hy,e⟩)
    ·exact Or.inl h
    ·subst h;exact Or.inr ⟨h1,x,by simp,rfl⟩
    ·exact Or.inr ⟨h,y,by simp [hy],e⟩
   ·rintro (h|⟨h,y,hy,e⟩)
    ·exact Or.inl (Or.inl h)
    ·rcases List.mem_cons.1 hy with rfl|hy
     ·exact Or.inl (Or.inr e.symm)
     ·exact Or.inr ⟨h,y,hy,e⟩
  ·obtain ⟨o,e1,e2⟩:=K9 g xs (i+1) out
   refine ⟨o,by simp [h1,e1],fun k=> ?_⟩
   rw [e2]
   constructor
   ·rintro (h|⟨h,y,hy,e⟩)
    ·exact Or.inl h
    ·exact Or.inr ⟨h,y,by simp [hy],e⟩
   ·rintro (h|⟨h,y,hy,e⟩)
    ·exact Or.inl h
    ·rcases List.mem_cons.1 hy with rfl|hy
     ·omega
     ·exact Or.inr ⟨h,y,hy,e⟩
theorem PA (g:AL) (e k:Int):k∈SW g e↔0≤k∧ ∃x∈RJ g e,T4 g x=k:=by
 unfold SW
 obtain ⟨o,e1,e2⟩:=K9 g (((g.edges.getD e.toNat default).ins++(g.edges.getD e.toNat default).implicit)++(g.edges.getD e.toNat default).order) 0 []
 rw [e1]
 show k∈o↔_
 rw [e2]
 simp [RJ]
theorem Po (g:AL) (e k:Int):k∈Jp g e↔k∈SW g e:=by rw [Vp,PA]
theorem mkD_lt (g:AL) (x:ByteArray):T4 g x<(g.edges.length:Int):=by
 rcases mkD_in g x with h|⟨i,e,h,he,_⟩
 ·rw [h];omega
 ·rw [h];have:=(List.getElem?_eq_some_iff.1 he).1;omega
theorem PB {g:AL} {e k:Int} (h:k∈SW g e):0≤k∧k.toNat<g.edges.length:=by
 obtain ⟨h0,x,_,e1⟩:=(PA g e k).1 h
 have:=mkD_lt g x
 omega
def KZ (g:AL) (out:List Int) (i:Nat):Bool:= !(out.contains ((i:Nat):Int))&&(Jp g ((i:Nat):Int)).all fun k=>out.contains k
def O0 (g:AL) (out:List Int):Option Nat:=(List.range g.edges.length).find? (KZ g out)
def Ol (g:AL):Nat→List Int→Option (List Int)
 |0,out=>some out
 |f+1,out=>match O0 g out with
  |some i=>Ol g f (out++[((i:Nat):Int)])
  |none=>none
theorem T7 (g:AL) (c:List Int): ∀(l i:Nat),Pj ((List.range' i l).map fun i=>Jp g ((i:Nat):Int)) i c=match (List.range' i l).find? (KZ g c) with
  |some j=>Lp.brk (true,c++[((j:Nat):Int)])
  |none=>Lp.brk (false,c)
 |0,i=>rfl
 |l+1,i=>by
  rw [List.range'_succ,List.map_cons,Pj,T7 g c l (i+1),List.find?_cons]
  have e:(!(K4 ((i:Nat):Int) c)&& !(VG (Jp g ((i:Nat):Int)) (fun z0=>Oh z0 (fun z0=>K4 z0 c))))=KZ g c i:=by
   unfold KZ K4 Oh
   rw [Nu]
   simp only [MI]
   congr 1
   rw [Bool.eq_iff_iff];simp
  rw [←e]
  cases (!(K4 ((i:Nat):Int) c))<;>cases (!(VG (Jp g ((i:Nat):Int)) (fun z0=>Oh z0 (fun z0=>K4 z0 c))))<;>rfl
theorem T5 (g:AL): ∀(xs:List (List Int)) (i:Nat) (row:List (List Int)),i+xs.length≤row.length→ ∃row',Pi g xs i row=Lp.brk row'∧row'.length=row.length∧ ∀j,row'[j]? =if i≤j∧j<i+xs.length then some (Jp g ((j:Nat):Int)) else row[j]?
 | [],i,row,h=>⟨row,rfl,rfl,fun j=>by rw [if_neg (by simp)]⟩
 |x::xs,i,row,h=>by
  simp only [List.length_cons] at h
  obtain ⟨r,e1,e2,e3⟩:=T5 g xs (i+1) (row.set i (Jp g ((i:Nat):Int))) (by simp;omega)
  refine ⟨r,by rw [Pi];exact e1,by simpa using e2,fun j=> ?_⟩
  rw [e3,List.getElem?_set,List.length_cons]
  by_cases h1:i=j
  ·subst h1;rw [if_neg (by omega),if_pos rfl]
   have:i<row.length:=by omega
   simp [this]
  ·rw [if_neg h1]
   by_cases h2:i+1≤j∧j<i+1+xs.length
   ·rw [if_pos h2,if_pos (by omega)]
   ·rw [if_neg h2,if_neg (by omega)]
theorem of_rows (g:AL):Pi g (List.replicate g.edges.length ([]:List Int)) 0 (List.replicate g.edges.length ([]:List Int))=Lp.brk ((List.range' 0 g.edges.length).map fun i=>Jp g ((i:Nat):Int)):=by
 obtain ⟨r,e1,e2,e3⟩:=T5 g (List.replicate g.edges.length ([]:List Int)) 0 (List.replicate g.edges.length ([]:List Int)) (by simp)
 rw [e1];congr 1
 apply List.ext_getElem?
 intro j
 rw [e3,List.getElem?_map]
 simp only [List.length_replicate] at e2 ⊢
 by_cases h:j<g.edges.length
 ·rw [if_pos ⟨Nat.zero_le _,by omega⟩,List.getElem?_range' h];simp
 ·rw [if_neg (by omega),List.getElem?_eq_none (by simp;omega),List.getElem?_eq_none (by simp;omega)];rfl
theorem T6 (g:AL): ∀(f:Nat) (c:List Int),c.length≤g.edges.length→g.edges.length-c.length<f→Qb g ((List.range' 0 g.edges.length).map fun i=>Jp g ((i:Nat):Int)) f c=match Ol g (g.edges.length-c.length) c with
  |some o=>Lp.brk o
  |none=>Lp.ret (([]:List Int),(1001:Int))
 |0,c,h1,h2=>by omega
 |f+1,c,h1,h2=>by
  rw [Qb]
  by_cases h:c.length<g.edges.length
  ·rw [decide_eq_true (by omega),cond_true,T7,←List.range_eq_range']
   rw [show g.edges.length-c.length=(g.edges.length-(c.length+1))+1 by omega,Ol]
   show (match (match O0 g c with|some j=>Lp.brk (true,c++[((j:Nat):Int)])|none=>Lp.brk (false,c):Lp (List Int×Int) (Bool×List Int)) with|Lp.ret r=>Lp.ret r|Lp.brk (t',c')=>_)=_
   cases hn:O0 g c with
   |none=>rfl
   |some j=>
    simp only [cond_true]
    have:=T6 g f (c++[((j:Nat):Int)]) (by simp;omega) (by simp;omega)
    rw [List.length_append,List.length_singleton,←List.range_eq_range'] at this
    exact this
  ·rw [decide_eq_false (by omega),cond_false,show g.edges.length-c.length=0 by omega];rfl
theorem WE (g:AL):J6 g=if K3 g=0 then (match Ol g g.edges.length [] with|some o=>(o,(0:Int))|none=>(([]:List Int),(1001:Int))) else (([]:List Int),(1000:Int)):=by
 unfold J6
 by_cases h:K3 g=0
 ·rw [if_pos h,decide_eq_true h]
  simp only [Bool.not_true,cond_false]
  rw [of_rows]
  simp only []
  rw [T6 g _ [] (Nat.zero_le _) (by simp)]
  simp only [List.length_nil,Nat.sub_zero]
  cases Ol g g.edges.length []<;>rfl
 ·rw [if_neg h,decide_eq_false h];rfl
inductive Steps (g:AL):List Int→Prop
 |nil:Steps g []
 |snoc {out:List Int} {i:Nat} (h:Steps g out) (hn:O0 g out=some i):Steps g (out++[((i:Nat):Int)])
theorem Pq (g:AL): ∀(f:Nat) (out o:List Int),Steps g out→Ol g f out=some o→Steps g o∧o.length=out.length+f∧ ∃r,o=out++r
 |0,out,o,h,e=>by simp only [Ol,Option.some.injEq] at e;subst e;exact ⟨h,rfl,[],by simp⟩
 |f+1,out,o,h,e=>by
  simp only [Ol] at e
  split at e
  ·rename_i i hi
   obtain ⟨h1,h2,r,h3⟩:=Pq g f _ o (h.snoc hi) e
   exact ⟨h1,by rw [h2];simp;omega,[((i:Nat):Int)]++r,by rw [h3];simp⟩
  ·cases e
theorem of_steps {g:AL} (h:(J6 g).2=0):Steps g (J6 g).1∧(J6 g).1.length=g.edges.length∧K3 g=0:=by
 rw [WE] at h ⊢
 split at h<;>rename_i hc
 ·rw [if_pos hc]
  cases ho:Ol g g.edges.length [] with
  |none=>rw [ho] at h;simp at h
  |some o=>
   obtain ⟨h1,h2,_⟩:=Pq g _ _ _ .nil ho
   exact ⟨h1,by simpa using h2,hc⟩
 ·simp at h
theorem U3 {g:AL} {out:List Int} {i:Nat} (h:O0 g out=some i):i<g.edges.length∧KZ g out i=true∧ ∀k,k<i→KZ g out k=false:=by
 unfold O0 at h
 have h1:=List.mem_of_find?_eq_some h
 refine ⟨by simpa using h1,List.find?_some h,fun k hk=> ?_⟩
 have:=List.find?_range_eq_some.1 h
 simpa using this.2.2 k hk
end
end Go.Lift
namespace Go.Lift
noncomputable section
open Go Go.RowKit
end
end Go.Lift
namespace Go.Lift
noncomputable section
open Go Go.RowKit
def UV (n:Nat) (out:List Int):List Bool:=(List.range n).map fun k=>out.contains ((k:Nat):Int)
theorem RC {n k:Nat} (out:List Int) (h:k<n):(UV n out).getD k default=out.contains ((k:Nat):Int):=by
 unfold UV
 rw [List.getD_eq_getElem?_getD,List.getElem?_map,List.getElem?_range h];rfl
theorem flR_nil (n:Nat):UV n []=List.replicate n false:=by
 apply List.ext_getElem?
 intro i
 unfold UV
 rw [List.getElem?_map,List.getElem?_replicate]
 by_cases h:i<n
 ·rw [List.getElem?_range h,if_pos h];rfl
 ·rw [List.getElem?_eq_none (by simp;omega),if_neg h];rfl
theorem flR_set {n i:Nat} (out:List Int) (h:i<n):(UV n out).set i true=UV n (out++[((i:Nat):Int)]):=by
 apply List.ext_getElem?
 intro k
 unfold UV
 rw [List.getElem?_set,List.getElem?_map,List.getElem?_map]
 by_cases hk:k<n
 ·rw [List.getElem?_range hk]
  simp only [List.length_map,List.length_range,Option.map_some]
  by_cases e:i=k
  ·subst e;rw [if_pos rfl,if_pos h];simp
  ·rw [if_neg e];congr 1;rw [Bool.eq_iff_iff];simp;omega
 ·rw [List.getElem?_eq_none (by simp;omega)]
  rw [if_neg (by omega)];rfl
theorem ro_key (g:AL) (out:List Int) (e:Int):(SW g e).all (fun k:Int=>(UV g.edges.length out).getD k.toNat default)=(Jp g e).all fun k=>out.contains k:=by
 rw [Bool.eq_iff_iff,List.all_eq_true,List.all_eq_true]
 constructor
 ·intro h k hk
  have hk':=(Po g e k).1 hk
  have h1:=h k hk'
  obtain ⟨m1,m2⟩:=PB hk'
  rw [RC out m2,show ((k.toNat:Nat):Int)=k by omega] at h1
  exact h1
 ·intro h k hk
  have h1:=h k ((Po g e k).2 hk)
  obtain ⟨m1,m2⟩:=PB hk
  rw [RC out m2,show ((k.toNat:Nat):Int)=k by omega]
  exact h1
theorem WU (row:List Bool): ∀(xs:List Int) (k:Nat) (b:Bool),Vb row xs k b=Lp.brk (b&&xs.all fun k=>row.getD k.toNat default)
 | [],k,b=>by simp [Vb]
 |x::r,k,b=>by
  rw [Vb]
  cases b
  ·rw [cond_false,WU row r];rfl
  ·rw [cond_true,WU row r,List.all_cons];rfl
theorem ro_L2 (g:AL) (out:List Int): ∀(j f:Nat) (next i:Int),i+1=((j:Nat):Int)→j≤g.edges.length→j<f→
  Va (UV g.edges.length out) g f next i=Lp.brk (match (List.range j).find? (KZ g out) with|some k=>((k:Nat):Int)|none=>next)
 |0,0,_,_,_,_,hf=>by omega
 |0,f+1,next,i,hi,hl,hf=>by
  rw [Va,decide_eq_false (by omega),cond_false];rfl
 |j+1,0,_,_,_,_,hf=>by omega
 |j+1,f+1,next,i,hi,hl,hf=>by
  obtain rfl:i=((j:Nat):Int):=by omega
  rw [Va,decide_eq_true (by omega),cond_true,WU]
  have hfr:(!(UV g.edges.length out).getD ((j:Nat):Int).toNat default&&(SW g ((j:Nat):Int)).all fun k=>(UV g.edges.length out).getD k.toNat default)=KZ g out j:=by
   rw [ro_key,Int.toNat_natCast,RC out (by omega)];rfl
  rw [hfr]
  have ih:=fun nx=>ro_L2 g out j f nx (((j:Nat):Int)-1) (by omega) (by omega) (by omega)
  rw [List.range_succ,List.find?_append]
  cases hp:KZ g out j
  ·simp only [cond_false]
   rw [ih]
   cases (List.range j).find? (KZ g out)<;>simp [hp]
  ·simp only [cond_true]
   rw [ih]
   cases (List.range j).find? (KZ g out)<;>simp [hp]
theorem ro_L1 (g:AL): ∀(f:Nat) (c:List Int),c.length≤g.edges.length→g.edges.length-c.length<f→GG g f c (UV g.edges.length c)=match Ol g (g.edges.length-c.length) c with
  |some o=>Lp.brk (o,UV g.edges.length o)
  |none=>Lp.ret (([]:List Int),(1001:Int))
 |0,c,h1,h2=>by omega
 |f+1,c,h1,h2=>by
  rw [GG]
  by_cases h:c.length<g.edges.length
  ·rw [decide_eq_true (by omega),cond_true,ro_L2 g c g.edges.length _ _ _ (by omega) (Nat.le_refl _) (by omega)]
   rw [show g.edges.length-c.length=(g.edges.length-(c.length+1))+1 by omega,Ol]
   have hnp:(List.range g.edges.length).find? (KZ g c)=O0 g c:=rfl
   simp only [hnp]
   cases hn:O0 g c with
   |none=>rfl
   |some j=>
    have hj:=(U3 hn).1
    simp only []
    rw [decide_eq_false (by omega),cond_false,Int.toNat_natCast,flR_set c hj]
    have:=ro_L1 g f (c++[((j:Nat):Int)]) (by simp;omega) (by simp;omega)
    rw [List.length_append,List.length_singleton] at this
    exact this
  ·rw [decide_eq_false (by omega),cond_false,show g.edges.length-c.length=0 by omega];rfl
theorem Qj (g:AL):Gd g=J6 g:=by
 rw [WE]
 unfold Gd
 rw [Ma]
 by_cases h:K3 g=0
 ·rw [if_pos h,decide_eq_true h]
  simp only [Bool.not_true,cond_false]
  rw [←flR_nil,ro_L1 g _ [] (Nat.zero_le _) (by simp)]
  simp only [List.length_nil,Nat.sub_zero]
  cases Ol g g.edges.length []<;>rfl
 ·rw [if_neg h,decide_eq_false h];rfl
end
end Go.Lift
namespace Go.Lift
noncomputable section
open Go Go.RowKit
theorem VW (xs:List ByteArray):IW xs 8=(xs.all (fun s=>Hy s)&&decide (((xs.length:Nat):Int)≤8)):=by
 unfold IW
 rw [Mo (L:=U1) (p:=fun s=>Hy s) (fun _=>rfl) (fun _ _ _=>rfl)]
 cases xs.all (fun s=>Hy s)<;>rfl
end
end Go.Lift
namespace Go.Lift
noncomputable section
open Go Go.RowKit
end
end Go.Lift
namespace Go.Lift
noncomputable section
open Go Go.RowKit
theorem may_of {g:AL} (h:K3 g=0):SZ g=true:=by
 rw [TE] at h
 cases hm:SZ g
 ·rw [hm] at h;simp at h
 ·rfl
theorem edge_ok {g:AL} (h:K3 g=0) {e:B1} (he:e∈g.edges):HB (Rw e)=true:=by
 have h0:((g.edges.map Rw).all (GL (Nh g))&&(decide (((g.edges.map Rw).length:Int)≤16)&&K6 (Nh g)&&Mj (Nh g).defaults))=true:=may_of h
 rw [Bool.and_eq_true,List.all_eq_true] at h0
 have:=h0.1 (Rw e) (List.mem_map_of_mem he)
 unfold GL at this
 rw [Bool.and_eq_true] at this
 exact this.1
theorem WL {g:AL} (h:K3 g=0) {e:B1} (he:e∈g.edges):0<e.outs.length:=by
 have:=edge_ok h he
 unfold HB at this
 simp only [Bool.and_eq_true,decide_eq_true_eq] at this
 have h2:=this.2.1
 have:(Rw e).outs.xs=e.outs:=rfl
 rw [this] at h2;omega
theorem QM (s:ByteArray):Hy s=TU s:=by
 unfold Hy TU;rfl
theorem Tb (xs:List ByteArray):Q8 xs=IW xs 8:=by
 rw [HV,VW]
 unfold Mj
 have:(fun s=>Hy s)=TU:=funext QM
 rw [this]
end
end Go.Lift
namespace Go.Lift
noncomputable section
open Go Go.RowKit
end
end Go.Lift
namespace Go.Lift
noncomputable section
open Go Go.RowKit
theorem AG.sz_one (e:AG):1≤e.sz:=by unfold AG.sz;omega
theorem Ae.sz_one (e:Ae):1≤e.sz:=by unfold Ae.sz;omega
theorem Aa.sz_one (e:Aa):1≤e.sz:=by unfold Aa.sz;omega
end
end Go.Lift
namespace Go.Lift
noncomputable section
open Go Go.RowKit
theorem Mp {α:Type} {p:α→Bool} {L:List α→Nat→Lp Bool Unit} (h0: ∀i,L [] i=Lp.brk ()) (h1: ∀x r i,L (x::r) i=bif !(p x) then Lp.ret false else L r (i+1)) (l:List α) (c:Bool):
  (match L l 0 with|Lp.ret r=>r|Lp.brk ()=>c)=(l.all p&&c):=by
 rw [Mo h0 h1 l 0]
 cases l.all p<;>rfl
theorem QN (s:ByteArray) (most:Int):U2 s 1 most=(!decide (s=(⟨#[]⟩:ByteArray))&&Mt s most):=by
 have hL: ∀(l:List UInt8) (i:Nat),SY l i=if l.all GQ then Lp.brk () else Lp.ret false:=by
  intro l i
  rw [←HW l i]
  induction l generalizing i with
  |nil=>rfl
  |cons x r ih=>rw [SY,Vc,ih]
 unfold U2 Mt
 rw [HW,hL]
 have e:decide ((1:Int)≤((s.size:Nat):Int))= !decide (s=(⟨#[]⟩:ByteArray)):=by
  rw [←decide_not];congr 1;apply propext
  constructor
  ·rintro h rfl;exact absurd h (by decide)
  ·intro h
   have:s.size≠0:=fun h0=>h (by
    apply Rm
    have:=Gv s
    rw [h0] at this
    rw [List.length_eq_zero_iff.1 this])
   omega
 cases s.data.toList.all GQ
 ·simp
 ·simp only [if_true,e]
theorem Rl {α:Type} (p:α→Bool) (l:List α):(!l.any fun x=> !(p x))=l.all p:=by
 induction l with
 |nil=>rfl
 |cons x r ih=>rw [List.any_cons,List.all_cons,←ih];cases p x<;>rfl
theorem Ob (xs:List Bz) (f:Bz→Bool):m_m xs f=xs.any f:=by
 unfold m_m
 rw [show m_w xs f=KO f xs from Jv (p:=f) (L:=m_q f) (fun _=>rfl) (fun x r i=>by rw [m_q]) xs]
 exact GV f xs
theorem KY (xs:List Aa) (f:Aa→Bool):m_n xs f=xs.any f:=by
 unfold m_n
 rw [show m_x xs f=KO f xs from Jv (p:=f) (L:=m_r f) (fun _=>rfl) (fun x r i=>by rw [m_r]) xs]
 exact GV f xs
theorem OU (xs:List AG) (f:AG→Bool):m_o xs f=xs.any f:=by
 unfold m_o
 rw [show m_y xs f=KO f xs from Jv (p:=f) (L:=m_u f) (fun _=>rfl) (fun x r i=>by rw [m_u]) xs]
 exact GV f xs
theorem Mw (s:ByteArray):Kp s=Hy s:=by rw [L0,QM]
theorem PX (xs:List Bz):GO xs=Qa xs:=by
 unfold Qa
 rw [show GO xs=(xs.all (fun a:Bz=>KQ a.command&&IW a.reads 8)&&decide (((xs.length:Nat):Int)≤(16:Int))) from Mp (p:=fun a:Bz=>KQ a.command&&IW a.reads 8) (L:=m_bw) (fun _=>rfl) (fun x r i=>by
  rw [m_bw,QN,Tb,show (!decide (x.command=(⟨#[]⟩:ByteArray))&&Mt x.command 256)=KQ x.command from rfl]
  cases KQ x.command<;>cases IW x.reads 8<;>rfl) xs _,Ob]
 have:(fun z0:Bz=>Ph z0)=fun a=> !(KQ a.command&&IW a.reads 8):=by
  funext a;unfold Ph;cases KQ a.command<;>cases IW a.reads 8<;>rfl
 rw [this,Rl,Bool.and_comm]
theorem RW (r:Aa):Hc r=M0 r:=by
 unfold Hc M0
 rw [Mw,QN];rfl
theorem V3 (xs:List Aa):J7 xs=Ln xs:=by
 unfold Ln
 rw [show J7 xs=(xs.all M0&&decide (((xs.length:Nat):Int)≤(256:Int))) from Mp (p:=M0) (L:=m_cc) (fun _=>rfl) (fun x r i=>by
  rw [m_cc,RW]) xs _,KY]
 have:(fun z0:Aa=>Qd z0)=fun r=> !(M0 r):=rfl
 rw [this,Rl,Bool.and_comm]
theorem SF (f:AG):HM f=ND f:=by
 unfold HM ND
 rw [Mw,Tb];rfl
theorem TJ (xs:List AG):Iu xs=MU xs:=by
 unfold MU
 rw [show Iu xs=(xs.all ND&&decide (((xs.length:Nat):Int)≤(256:Int))) from Mp (p:=ND) (L:=m_b8) (fun _=>rfl) (fun x r i=>by
  rw [m_b8,SF]) xs _,OU]
 have:(fun z0:AG=>RO z0)=fun r=> !(ND r):=rfl
 rw [this,Rl,Bool.and_comm]
theorem Ul (d:AN) (x:Ae) (i:Nat): ∀(j k f:Nat),k+j=i→i≤d.files.length→j<f→Oe i d x f k=if ((d.files.take i).drop k).any (fun y=>decide (y.time=x.time))=true then Lp.ret false else Lp.brk ()
 |0,k,0,_,_,hf=>absurd hf (by omega)
 |0,k,f+1,hk,hi,_=>by
  rw [Oe,decide_eq_false (by omega),List.drop_eq_nil_of_le (by simp;omega)];rfl
 |j+1,k,0,_,_,hf=>absurd hf (by omega)
 |j+1,k,f+1,hk,hi,hf=>by
  rw [Oe,decide_eq_true (by omega),cond_true,Ul d x i j (k+1) f (by omega) hi (by omega)]
  have hk2:k<(d.files.take i).length:=by simp;omega
  rw [List.drop_eq_getElem_cons hk2,List.any_cons]
  have e:d.files.getD k default=(d.files.take i)[k]:=by simp [show k<d.files.length by omega]
  rw [e]
  cases decide ((d.files.take i)[k].time=x.time)<;>rfl
theorem Uk (d:AN): ∀(rest pre:List Ae),d.files=pre++rest→Q4 d rest pre.length=if IE Hy d.clock rest (pre.map Ae.time) pre.getLast? =true then Lp.brk () else Lp.ret false
 | [],pre,_=>by rw [Q4];rfl
 |x::rest,pre,h=>by
  have hl:pre.length<d.files.length:=by rw [h];simp
  have ht:d.files.take pre.length=pre:=by rw [h];simp
  have h2:=Ul d x pre.length pre.length 0 (pre.length-0+1) (by omega) (by omega) (by omega)
  rw [ht,List.drop_zero] at h2
  have ih:=Uk d rest (pre++[x]) (by rw [h];simp)
  rw [List.length_append,List.length_singleton,List.map_append,List.map_singleton,List.getLast?_concat] at ih
  have ha:(pre.map Ae.time).any (fun t=>decide (t=x.time))=pre.any (fun y=>decide (y.time=x.time)):=by rw [List.any_map];rfl
  rw [Q4,h2,ih,Mw]
  unfold Mq
  have hp0:pre=[]∨ ∃p y,pre=p++[y]:=by
   rcases List.eq_nil_or_concat pre with q|⟨p,y,q⟩
   ·exact Or.inl q
   ·exact Or.inr ⟨p,y,by simpa using q⟩
  rcases hp0 with rfl|⟨p,y,rfl⟩
  ·rw [decide_eq_false (show ¬((0:Int)<((([]:List Ae).length:Nat):Int)) by simp),cond_false]
   rw [List.getLast?_nil,IE.eq_2,ha]
   generalize IE Hy d.clock rest (([]:List Ae).map Ae.time++[x.time]) (some x)=D
   simp only [List.any_nil]
   cases Hy x.name<;>cases decide ((0:Int)≤x.content)<;>cases decide (x.content≤2147483647)<;>cases decide ((1:Int)≤x.time)<;>cases decide (x.time≤d.clock)<;>cases D<;>rfl
  ·have hg:d.files.getD ((p++[y]).length-1) default=y:=by rw [h];simp
   rw [hg,decide_eq_true (show (0:Int)<(((p++[y]).length:Nat):Int) by simp),cond_true,List.getLast?_concat,IE.eq_3,ha]
   generalize IE Hy d.clock rest ((p++[y]).map Ae.time++[x.time]) (some x)=D
   cases Hy x.name<;>cases decide ((0:Int)≤x.content)<;>cases decide (x.content≤2147483647)<;>cases decide ((1:Int)≤x.time)<;>cases decide (x.time≤d.clock)<;>cases Op.bytesLess y.name.toList x.name.toList<;>cases (p++[y]).any (fun y=>decide (y.time=x.time))<;>cases D<;>rfl
theorem TK (d:AN):L5 d=Ha Hy d:=by
 unfold L5 Ha
 have:=Uk d d.files [] rfl
 rw [List.length_nil] at this
 rw [this]
 unfold Mq
 simp only [List.map_nil,List.getLast?_nil]
 have e:decide (((d.files.length:Nat):Int)≤(64:Int))=decide (d.files.length≤64):=by simp;omega
 rw [e]
 cases IE Hy d.clock d.files [] none<;>simp [Bool.and_assoc]
theorem O1 (s:Av):HN s=GN s:=by
 unfold HN GN
 rw [PX,V3,TJ,show L5 (⟨s.disk.clock,s.disk.files⟩:AN)=Ha Hy s.disk from TK s.disk,show Gd (⟨s.graph.edges,s.graph.pools,s.graph.defaults⟩:AL)=J6 s.graph from Qj s.graph]
theorem QZ {e:Int} {n:Nat} (hn:n≤281474976710656):Mq e 0 (IntKind.wrap .i64 (((n:Nat):Int)-(1:Int)))=(decide (0≤e)&&decide (e<((n:Nat):Int))):=by
 unfold Mq
 rw [DY (by omega) (by omega)]
 congr 1
 exact decide_eq_decide.2 (by omega)
end
end Go.Lift
namespace Go.Lift
noncomputable section
open Go Go.RowKit
def M5 (d:AN):Bool:=
 (decide ((0:Int)≤d.clock)&&(decide (d.clock≤(1048576:Int))&&decide (((d.files.length:Nat):Int)≤(64:Int))))
def FN (d:AN) (ts:List Int) (x:Ae) (i:Nat):Bool:=
 (!(!(Hy x.name))&&(!(!(Q9 x.content))&&(!(decide (x.time<(1:Int)))&&(!(decide (d.clock<x.time))&&(!(ts.any (fun t=>decide (t=x.time)))&&(!(decide ((0:Int)<((i:Nat):Int)))||(!(!Op.bytesLess ((d.files.getD (i-1) default).name).toList x.name.toList))))))))
theorem NT {α:Type} {l:List α} {i:Nat} {x:α} (h:l[i]? =some x):l.take (i+1)=l.take i++[x]:=by
 rw [List.take_add_one,h];rfl
theorem UQ {d:AN} {ts:List Int} {x:Ae} {i:Nat} (h:FN d ts x i=true):ts.any (fun t=>decide (t=x.time))=false:=by
 unfold FN at h
 simp only [Bool.and_eq_true,Bool.not_eq_true',Bool.not_not] at h
 exact h.2.2.2.2.1
theorem Wb (d:AN):(true&&decide (0≤d.clock)&&decide (d.clock≤1048576)&&decide (d.files.length≤64))=M5 d:=by
 unfold M5
 have e:decide (((d.files.length:Nat):Int)≤(64:Int))=decide (d.files.length≤64):=decide_eq_decide.2 (by omega)
 rw [e]
 cases decide ((0:Int)≤d.clock)<;>cases decide (d.clock≤(1048576:Int))<;>simp
theorem UR {d:AN} {i:Nat} {x:Ae} (hx:d.files[i]? =some x):
  IE Hy d.clock (d.files.drop i) ((d.files.take i).map Ae.time) (d.files.take i).getLast? =
   (FN d ((d.files.take i).map Ae.time) x i&&IE Hy d.clock (d.files.drop (i+1)) ((d.files.take (i+1)).map Ae.time) (d.files.take (i+1)).getLast?):=by
 have hl:i<d.files.length:=(List.getElem?_eq_some_iff.1 hx).1
 have h1:d.files.drop i=x::d.files.drop (i+1):=BO hx
 rw [h1,NT hx,List.map_append,List.map_singleton,List.getLast?_concat]
 have a1:decide ((1:Int)≤x.time)= !(decide (x.time<(1:Int))):=by rw [←decide_not];exact decide_eq_decide.2 (by omega)
 have a2:decide (x.time≤d.clock)= !(decide (d.clock<x.time)):=by rw [←decide_not];exact decide_eq_decide.2 (by omega)
 have hd:Q9 x.content=(decide ((0:Int)≤x.content)&&decide (x.content≤(2147483647:Int))):=rfl
 cases i with
 |zero=>
  simp only [List.take_zero,List.map_nil,List.getLast?_nil,List.nil_append]
  rw [IE.eq_2]
  simp only [List.nil_append]
  generalize IE Hy d.clock (d.files.drop (0+1)) [x.time] (some x)=D
  unfold FN
  rw [hd,a1,a2,show decide ((0:Int)<((0:Nat):Int))=false from rfl]
  simp only [List.any_nil,List.nil_append]
  cases Hy x.name<;>cases decide ((0:Int)≤x.content)<;>cases decide (x.content≤(2147483647:Int))<;>cases decide (x.time<(1:Int))<;>cases decide (d.clock<x.time)<;>cases D<;>rfl
 |succ j=>
  have hj:d.files[j]? =some d.files[j]:=List.getElem?_eq_getElem (by omega)
  have hg:d.files.getD (j+1-1) default=d.files[j]:=by simp [show j<d.files.length by omega]
  have hla:(d.files.take (j+1)).getLast? =some d.files[j]:=by rw [NT hj,List.getLast?_concat]
  rw [hla,IE.eq_3]
  generalize IE Hy d.clock (d.files.drop (j+1+1)) ((d.files.take (j+1)).map Ae.time++[x.time]) (some x)=D
  unfold FN
  rw [hd,a1,a2,hg,show decide ((0:Int)<((j+1:Nat):Int))=true from decide_eq_true (by omega)]
  cases Hy x.name<;>cases decide ((0:Int)≤x.content)<;>cases decide (x.content≤(2147483647:Int))<;>cases decide (x.time<(1:Int))<;>cases decide (d.clock<x.time)<;>cases ((d.files.take (j+1)).map Ae.time).any (fun t=>decide (t=x.time))<;>cases Op.bytesLess d.files[j].name.toList x.name.toList<;>cases D<;>rfl
end
end Go.Lift
namespace Go.Lift
noncomputable section
open Go Go.RowKit
end
end Go.Lift
namespace Go.Lift
noncomputable section
open Go Go.RowKit
theorem W0 {i j:Int} {n:Nat} (h0:0≤i) (h:i<j) (h2:j≤((n:Nat):Int)) (hn:n≤1048576):
  IntKind.wrap .i64 (i+j)=i+j∧i≤IntKind.wrap .i64 (Int.fdiv (IntKind.wrap .u64 (IntKind.wrap .i64 (i+j))) (2^(min 1 IntKind.u64.bits)))∧IntKind.wrap .i64 (Int.fdiv (IntKind.wrap .u64 (IntKind.wrap .i64 (i+j))) (2^(min 1 IntKind.u64.bits)))<j∧
  IntKind.wrap .i64 (IntKind.wrap .i64 (Int.fdiv (IntKind.wrap .u64 (IntKind.wrap .i64 (i+j))) (2^(min 1 IntKind.u64.bits)))+1)=IntKind.wrap .i64 (Int.fdiv (IntKind.wrap .u64 (IntKind.wrap .i64 (i+j))) (2^(min 1 IntKind.u64.bits)))+1:=by
 have e1:IntKind.wrap .i64 (i+j)=i+j:=DY (by omega) (by omega)
 have e2:IntKind.wrap .u64 (i+j)=i+j:=by
  unfold IntKind.wrap;simp only [IntKind.signed];first|(simp;omega)|omega|exact Int.emod_eq_of_lt (by omega) (by show _<(2:Int)^64;omega)
 have e3:Int.fdiv (i+j) (2^(min 1 IntKind.u64.bits))=(i+j) /2:=by
  show Int.fdiv (i+j) 2=(i+j) /2
  exact Int.fdiv_eq_ediv_of_nonneg _ (by decide)
 rw [e1,e2,e3]
 have e4:IntKind.wrap .i64 ((i+j) /2)=(i+j) /2:=DY (by omega) (by omega)
 rw [e4]
 have e5:IntKind.wrap .i64 ((i+j) /2+1)=(i+j) /2+1:=DY (by omega) (by omega)
 exact ⟨rfl,by omega,by omega,e5⟩
theorem VZ (cmp:Ae→ByteArray→Int) (xs:List Ae) (t:ByteArray) (hn:xs.length≤1048576): ∀(f:Nat) (i j:Int),0≤i→i≤j→j≤((xs.length:Nat):Int)→ ∃k,m_j cmp xs t f i j=Lp.brk k∧0≤k∧k≤((xs.length:Nat):Int)
 |0,i,j,h0,h1,h2=>⟨i,by rw [m_j],h0,by omega⟩
 |f+1,i,j,h0,h1,h2=>by
  rw [m_j]
  by_cases h:i<j
  ·rw [decide_eq_true h]
   obtain ⟨m1,m2,m3,m4⟩:=W0 h0 h h2 hn
   rw [m4]
   generalize IntKind.wrap .i64 (Int.fdiv (IntKind.wrap .u64 (IntKind.wrap .i64 (i+j))) (2^(min 1 IntKind.u64.bits)))=m at*
   cases decide ((cmp (xs.getD m.toNat default) t)<(0:Int))
   ·exact VZ cmp xs t hn f i m h0 (by omega) (by omega)
   ·exact VZ cmp xs t hn f (m+1) j (by omega) (by omega) h2
  ·rw [decide_eq_false h];exact ⟨i,rfl,h0,by omega⟩
theorem WP {d:AN} {s:ByteArray} (hz:d.sz≤1048576) (h:(Ll d s).2=true):0≤(Ll d s).1∧(Ll d s).1.toNat<d.files.length:=by
 have hl:=JQ Ae.sz_one d.files
 have hl2:=d.sz_files
 unfold Ll Pk at h ⊢
 obtain ⟨k,e,h0,h1⟩:=VZ (fun z0 z1=>Ko z0 z1) d.files s (by omega) ((((d.files.length:Nat):Int)-(0:Int)).toNat+1) 0 ((d.files.length:Nat):Int) (Int.le_refl _) (by omega) (Int.le_refl _)
 rw [e] at h ⊢
 dsimp only at h ⊢
 by_cases hk:k<((d.files.length:Nat):Int)
 ·rw [decide_eq_true hk];show 0≤k∧k.toNat<_;omega
 ·rw [decide_eq_false hk] at h;cases h
theorem NZ (sep:List UInt8) (hs:sep.length=1): ∀r:List ByteArray,(Lib.joinTail sep (r.map (·.data.toList))).length=(r.map fun s:ByteArray=>s.size+1).sum
 | []=>by simp [Lib.joinTail]
 |x::r=>by
  have ih:=NZ sep hs r
  simp only [Lib.joinTail,List.map_cons,List.flatten_cons,List.length_append,List.sum_cons] at ih ⊢
  rw [ih,hs]
  have:x.data.toList.length=x.size:=by rw [Array.length_toList];rfl
  omega
theorem MO (xs:List ByteArray) (sep:ByteArray) (hs:sep.data.toList.length=1):(Ds xs sep).size≤Kc (fun s:ByteArray=>s.size+1) xs:=by
 show (Lib.join (xs.map (·.data.toList)) sep.data.toList).toArray.size≤_
 rw [List.size_toArray]
 cases xs with
 |nil=>simp [Lib.join_nil,Kc]
 |cons x r=>
  rw [List.map_cons,Lib.join_cons,List.length_append,NZ _ hs r]
  have:x.data.toList.length=x.size:=by rw [Array.length_toList];rfl
  simp only [Kc,List.map_cons,List.sum_cons]
  omega
theorem Tl {e:B1} (hz:e.sz≤1048576):(Ds e.outs ⟨#[32]⟩).size≤1048576∧(Ds e.ins ⟨#[32]⟩).size≤1048576∧(Ds e.implicit ⟨#[32]⟩).size≤1048576∧e.command.size≤1048576:=by
 have h1:=MO e.outs ⟨#[32]⟩ rfl
 have h2:=MO e.ins ⟨#[32]⟩ rfl
 have h3:=MO e.implicit ⟨#[32]⟩ rfl
 unfold B1.sz at hz
 simp only at hz
 refine ⟨by omega,by omega,by omega,by omega⟩
theorem signs5 {e:B1} (hz:e.sz≤1048576):(Ds [Ds e.outs (⟨#[32]⟩:ByteArray),Ds e.ins (⟨#[32]⟩:ByteArray),Ds e.implicit (⟨#[32]⟩:ByteArray),(bif e.deps then (⟨#[100]⟩:ByteArray) else (⟨#[110]⟩:ByteArray)),e.command] (⟨#[124]⟩:ByteArray)).size≤140737488355328:=by
 obtain ⟨h1,h2,h3,h4⟩:=Tl hz
 refine Nat.le_trans (MO _ _ rfl) ?_
 have h5:(bif e.deps then (⟨#[100]⟩:ByteArray) else (⟨#[110]⟩:ByteArray)).size≤1:=by cases e.deps<;>decide
 simp only [Kc,List.map_cons,List.map_nil,List.sum_cons,List.sum_nil]
 omega
theorem Vs {s:Av} {edge:Int} (hz:s.sz≤1048576) (h1:(!(HN s))=false) (h2:(!(Mq edge (0:Int) (IntKind.wrap .i64 (((s.graph.edges.length:Nat):Int)-(1:Int)))))=false):
  0≤edge∧edge.toNat<s.graph.edges.length∧(s.graph.edges.getD edge.toNat default).sz≤1048576∧0<(s.graph.edges.getD edge.toNat default).outs.length:=by
 have hgl:=Nat.le_trans s.graph.sz_len (Nat.le_trans s.sz_graph hz)
 rw [QZ (by omega)] at h2
 simp only [Bool.not_eq_false',Bool.and_eq_true,decide_eq_true_eq] at h2
 have hlt:edge.toNat<s.graph.edges.length:=by omega
 have hd:GN s=true:=by rw [←O1];simpa using h1
 unfold GN at hd
 simp only [Bool.and_eq_true,decide_eq_true_eq] at hd
 have hc:K3 s.graph=0:=by
  rcases Decidable.em (K3 s.graph=0) with q|q
  ·exact q
  ·have:=hd.1;rw [WE,if_neg q] at this;exact absurd this (by decide)
 have hm:s.graph.edges.getD edge.toNat default∈s.graph.edges:=by
  have:s.graph.edges.getD edge.toNat default=s.graph.edges[edge.toNat]:=by simp [List.getD,hlt]
  rw [this];exact List.getElem_mem hlt
 have hs:=OA (sz:=B1.sz) hm
 have:=s.graph.sz_edges
 have:=s.sz_graph
 exact ⟨h2.1,hlt,by omega,WL hc hm⟩
theorem Pb {α:Type} (p:α→Bool): ∀xs:List α,-1≤Km p xs∧Km p xs<((xs.length:Nat):Int)
 | []=>by simp [Km]
 |x::xs=>by
  have ih:=Pb p xs
  simp only [Km,List.length_cons]
  split
  ·omega
  ·split<;>omega
theorem SS (rs:List Aa) (out:ByteArray): -1≤BK rs out∧BK rs out<((rs.length:Nat):Int):=Pb _ rs
theorem Le (fs:List AG) (out:ByteArray): -1≤B2 fs out∧B2 fs out<((fs.length:Nat):Int):=Pb _ fs
theorem OW {fs:List AG} {out:ByteArray} (hz:Kc AG.sz fs≤1048576) (h:0≤B2 fs out):(fs.getD (B2 fs out).toNat default).sz≤1048576:=by
 have hl:=(Le fs out).2
 have hlt:(B2 fs out).toNat<fs.length:=by omega
 have hm:fs.getD (B2 fs out).toNat default∈fs:=by
  have:fs.getD (B2 fs out).toNat default=fs[(B2 fs out).toNat]:=by simp [List.getD,hlt]
  rw [this];exact List.getElem_mem hlt
 have:=OA (sz:=AG.sz) hm
 omega
theorem Fj {s:Av} {edge:Int} (hz:s.sz≤1048576) (h1:(!(GN s))=false) (h2:decide (edge<(0:Int))=false) (h3:decide (((s.graph.edges.length:Nat):Int)≤edge)=false):
  0≤edge∧edge.toNat<s.graph.edges.length∧(s.graph.edges.getD edge.toNat default).sz≤1048576∧0<(s.graph.edges.getD edge.toNat default).outs.length:=by
 have hgl:=Nat.le_trans s.graph.sz_len (Nat.le_trans s.sz_graph hz)
 have h2':=of_decide_eq_false h2
 have h3':=of_decide_eq_false h3
 refine Vs hz (by rw [O1];exact h1) ?_
 rw [QZ (by omega),decide_eq_true (by omega:0≤edge),decide_eq_true (by omega:edge<((s.graph.edges.length:Nat):Int))];rfl
theorem TH {s:Av} {x:Int} (hz:s.sz≤1048576) (h1:(!(GN s))=false) (hx:x∈(J6 (⟨s.graph.edges,s.graph.pools,s.graph.defaults⟩:AL)).1):
  0≤x∧x.toNat<s.graph.edges.length∧(s.graph.edges.getD x.toNat default).sz≤1048576∧(s.graph.edges.getD x.toNat default).ins.length+(s.graph.edges.getD x.toNat default).implicit.length≤1048576:=by
 obtain ⟨h0,hlt⟩:=of_mem (g:=s.graph) hx
 obtain ⟨_,_,h3,_⟩:=Fj (edge:=x) hz h1 (decide_eq_false (by omega)) (decide_eq_false (by omega))
 refine ⟨h0,hlt,h3,?_⟩
 have hr1:=Gi (s.graph.edges.getD x.toNat default).ins
 have hr2:=Gi (s.graph.edges.getD x.toNat default).implicit
 generalize s.graph.edges.getD x.toNat default=e at*
 unfold B1.sz at h3;simp only at h3;omega
theorem Ps {s:Av} {edge:Int} (hz:s.sz≤1048576) (h1:(!(GN s))=false) (h2:decide (edge<(0:Int))=false) (h3:decide (((s.graph.edges.length:Nat):Int)≤edge)=false):
  (s.graph.edges.getD edge.toNat default).ins.length+(s.graph.edges.getD edge.toNat default).implicit.length+(s.graph.edges.getD edge.toNat default).order.length≤1048576:=by
 obtain ⟨_,_,h3,_⟩:=Fj hz h1 h2 h3
 have hr1:=Gi (s.graph.edges.getD edge.toNat default).ins
 have hr2:=Gi (s.graph.edges.getD edge.toNat default).implicit
 have hr3:=Gi (s.graph.edges.getD edge.toNat default).order
 generalize s.graph.edges.getD edge.toNat default=e at*
 unfold B1.sz at h3;simp only at h3;omega
theorem U5 {s:Av} {edge:Int} (hz:s.sz≤1048576) (h1:(!(GN s))=false) (h2:decide (edge<(0:Int))=false) (h3:decide (((s.graph.edges.length:Nat):Int)≤edge)=false):
  0≤edge∧edge.toNat<s.graph.edges.length∧(EO [(s.graph.edges.getD edge.toNat default).ins,(s.graph.edges.getD edge.toNat default).implicit,(s.graph.edges.getD edge.toNat default).order]).length≤1048576:=by
 obtain ⟨h4,h5,_,_⟩:=Fj hz h1 h2 h3
 refine ⟨h4,h5,?_⟩
 have:=Ps hz h1 h2 h3
 rw [LT]
 simp only [List.flatten_cons,List.flatten_nil,List.append_nil,List.length_append];omega
end
end Go.Lift
namespace Go.Lift
noncomputable section
open Go Go.RowKit
theorem Nz:MS=true:=by
 simp only [MS,Cn]
 kernel_rfl
end
end Go.Lift
namespace Go.Lift
noncomputable section
open Go Go.RowKit
end
end Go.Lift
namespace Go.Lift
noncomputable section
open Go Go.RowKit
end
end Go.Lift
namespace Go.Lift
noncomputable section
open Go Go.RowKit
theorem btF {c:Bool} {a b:Bool} (ha:a=true) (hb:b=true):(bif c then a else b)=true:=by cases c<;>assumption
theorem fB {s t:Av} {e k:Int} (h1:BJ s 1=(false,k)) (h2:Cp s=([],k)) (h3:BJ t e=(false,1900)):
  ((!(BJ s (1:Int)).1)&&(decide ((Cn ((BJ s (1:Int)).2))=k)&&(decide (((((Cp s).1).length:Nat):Int)=(0:Int))&&(decide ((Cn ((Cp s).2))=k)&&decide ((Cn ((BJ t e).2))=(1900:Int))))))=true:=by
 rw [h1,h2,h3];simp [Cn]
theorem Pt {s:Av} (h:GN s=false) (e:Int):BJ s e=(false,1900):=by unfold BJ;rw [h];rfl
theorem ON {s:Av} (h:GN s=false):Cp s=([],1900):=by unfold Cp;rw [h];rfl
theorem QK {s:Av} (h:s.disk.clock<0):GN s=false:=by
 unfold GN
 have:Ha Hy s.disk=false:=by unfold Ha;rw [decide_eq_false (by omega: ¬0≤s.disk.clock)];simp
 rw [this];simp
theorem Uy {s:Av} {r:Aa} {rs:List Aa} (h:s.log=r::rs) (ht:r.time<1):GN s=false:=by
 have:Ln s.log=false:=by
  rw [h];unfold Ln;rw [KY]
  have:Qd r=true:=by
   show (!(M0 r))=true
   unfold M0 MR
   rw [decide_eq_false (by omega: ¬1≤r.time)];cases Hy r.out<;>rfl
  rw [List.any_cons,this];simp
 unfold GN
 rw [this];simp
theorem JB {s:Av} {e:Int} (h:e<0∨((s.graph.edges.length:Nat):Int)≤e):BJ s e=(false,1900):=by
 unfold BJ
 rcases h with h|h
 ·rw [decide_eq_true h];cases GN s<;>rfl
 ·rw [decide_eq_true h];cases GN s<;>cases decide (e<0)<;>rfl
theorem Wl (x:Int):0≤Ao .and .i64 x (127:Int)∧Ao .and .i64 x (127:Int)≤127:=by have:=Tx x 127 (by decide) (by decide);omega
theorem Lf (w x:Int):[(IntKind.wrap .i64 (0-(IntKind.wrap .i64 ((1:Int)+(Ao .and .i64 x (127:Int)))))),(IntKind.wrap .i64 ((2:Int)+(IntKind.wrap .i64 ((1:Int)+(Ao .and .i64 x (127:Int))))))].getD ((Ao .and .i64 w (1:Int)).toNat) default<0∨((3:Nat):Int)≤ [(IntKind.wrap .i64 (0-(IntKind.wrap .i64 ((1:Int)+(Ao .and .i64 x (127:Int)))))),(IntKind.wrap .i64 ((2:Int)+(IntKind.wrap .i64 ((1:Int)+(Ao .and .i64 x (127:Int))))))].getD ((Ao .and .i64 w (1:Int)).toNat) default:=by
 have h1:=Tx w 1 (by decide) (by decide)
 have h2:=Wl x
 generalize Ao .and .i64 x (127:Int)=y at*
 have e1:IntKind.wrap .i64 ((1:Int)+y)=1+y:=DY (by omega) (by omega)
 rw [e1]
 have e2:IntKind.wrap .i64 (0-(1+y))=0-(1+y):=DY (by omega) (by omega)
 have e3:IntKind.wrap .i64 (2+(1+y))=2+(1+y):=DY (by omega) (by omega)
 rw [e2,e3]
 generalize Ao .and .i64 w (1:Int)=z at*
 have hz:z=0∨z=1:=by omega
 rcases hz with rfl|rfl
 ·left;show 0-(1+y)<0;omega
 ·right;show ((3:Nat):Int)≤2+(1+y);omega
theorem Wk (x:Int):(IntKind.wrap .i64 (0-(IntKind.wrap .i64 ((1:Int)+(Ao .and .i64 x (127:Int))))))<0:=by
 have h2:=Wl x
 generalize Ao .and .i64 x (127:Int)=y at*
 have e1:IntKind.wrap .i64 ((1:Int)+y)=1+y:=DY (by omega) (by omega)
 rw [e1,DY (by omega) (by omega)];omega
theorem Wn (x:Int):(IntKind.wrap .i64 ((1:Int)-(IntKind.wrap .i64 ((1:Int)+(Ao .and .i64 x (127:Int))))))<1:=by
 have h2:=Wl x
 generalize Ao .and .i64 x (127:Int)=y at*
 have e1:IntKind.wrap .i64 ((1:Int)+y)=1+y:=DY (by omega) (by omega)
 rw [e1,DY (by omega) (by omega)];omega
theorem L4 (w x:Int):Jw w x=true:=by
 unfold Jw
 rw [Nz,show (!(!true))=true from rfl,Bool.true_and]
 refine btF (fB ?_ ?_ (JB (Lf w x)))<|btF (fB ?_ ?_ (JB (Lf w x)))<|btF (fB (Pt (QK (Wk x)) _) (ON (QK (Wk x))) (JB (Lf w x)))<|btF (fB (Pt (Uy rfl (Wn x)) _) (ON (Uy rfl (Wn x))) (JB (Lf w x)))<|btF (fB ?_ ?_ (JB (Lf w x)))<|btF (fB ?_ ?_ (JB (Lf w x)))<|btF (fB ?_ ?_ (JB (Lf w x)))<|fB ?_ ?_ (JB (Lf w x))
 all_goals kernel_rfl
end
end Go.Lift
namespace Go.Lift
noncomputable section
open Go Go.RowKit
end
end Go.Lift
