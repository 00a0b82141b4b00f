/-
  Lemmas of this claim: a layer over the kit's calls, contracts of the functions that the law reaches, and the law's row. No condition of its own.
-/
import Derived.Test.YtjfhbchfhpgefaaGreatDoorLbDirtyDown
import Derived.Test.YtjfhbchfhpgefaaGreatDoorSaDirtyDown
set_option linter.unusedSimpArgs false
set_option linter.unusedVariables false
set_option linter.unusedSectionVars false
set_option maxRecDepth 20000
namespace Go.Lift
noncomputable section
open Go Go.RowKit
structure A3 where
 name:ByteArray
 content:Int
 time:Int
def A3.av (d:A3):AV:= .st [AV.s d.name,(AV.i .i64) d.content,(AV.i .i64) d.time]
def A3.zero:A3:=⟨(⟨#[]⟩:ByteArray),(0:Int),(0:Int)⟩
instance:Inhabited A3:=⟨A3.zero⟩
def A3.sz (d:A3):Nat:=(fun s:ByteArray=>s.size+1) d.name+(fun _=>1) d.content+(fun _=>1) d.time+1
structure At where
 outs:List ByteArray
 ins:List ByteArray
 implicit:List ByteArray
 order:List ByteArray
 command:ByteArray
 deps:Bool
 pool:ByteArray
def At.av (d:At):AV:= .st [(Ao 1 AV.s) d.outs,(Ao 1 AV.s) d.ins,(Ao 1 AV.s) d.implicit,(Ao 1 AV.s) d.order,AV.s d.command,AV.b d.deps,AV.s d.pool]
def At.zero:At:=⟨[],[],[],[],(⟨#[]⟩:ByteArray),false,(⟨#[]⟩:ByteArray)⟩
instance:Inhabited At:=⟨At.zero⟩
def At.sz (d:At):Nat:=(I2 (fun s:ByteArray=>s.size+1)) d.outs+(I2 (fun s:ByteArray=>s.size+1)) d.ins+(I2 (fun s:ByteArray=>s.size+1)) d.implicit+(I2 (fun s:ByteArray=>s.size+1)) d.order+(fun s:ByteArray=>s.size+1) d.command+(fun _=>1) d.deps+(fun s:ByteArray=>s.size+1) d.pool+1
theorem At.sz_outs (d:At):(I2 (fun s:ByteArray=>s.size+1)) d.outs≤d.sz:=by unfold At.sz;omega
theorem At.sz_ins (d:At):(I2 (fun s:ByteArray=>s.size+1)) d.ins≤d.sz:=by unfold At.sz;omega
theorem At.sz_implicit (d:At):(I2 (fun s:ByteArray=>s.size+1)) d.implicit≤d.sz:=by unfold At.sz;omega
structure BM where
 name:ByteArray
 depth:Int
def BM.av (d:BM):AV:= .st [AV.s d.name,(AV.i .i64) d.depth]
def BM.zero:BM:=⟨(⟨#[]⟩:ByteArray),(0:Int)⟩
instance:Inhabited BM:=⟨BM.zero⟩
def BM.sz (d:BM):Nat:=(fun s:ByteArray=>s.size+1) d.name+(fun _=>1) d.depth+1
structure Al where
 edges:List At
 pools:List BM
 defaults:List ByteArray
def Al.av (d:Al):AV:= .st [(Ao 7 At.av) d.edges,(Ao 2 BM.av) d.pools,(Ao 1 AV.s) d.defaults]
def Al.zero:Al:=⟨[],[],[]⟩
instance:Inhabited Al:=⟨Al.zero⟩
def Al.sz (d:Al):Nat:=(I2 At.sz) d.edges+(I2 BM.sz) d.pools+(I2 (fun s:ByteArray=>s.size+1)) d.defaults+1
theorem Al.sz_edges (d:Al):(I2 At.sz) d.edges≤d.sz:=by unfold Al.sz;omega
structure AJ where
 command:ByteArray
 reads:List ByteArray
 fails:Bool
def AJ.av (d:AJ):AV:= .st [AV.s d.command,(Ao 1 AV.s) d.reads,AV.b d.fails]
def AJ.zero:AJ:=⟨(⟨#[]⟩:ByteArray),[],false⟩
instance:Inhabited AJ:=⟨AJ.zero⟩
def AJ.sz (d:AJ):Nat:=(fun s:ByteArray=>s.size+1) d.command+(I2 (fun s:ByteArray=>s.size+1)) d.reads+(fun _=>1) d.fails+1
structure A8 where
 out:ByteArray
 time:Int
 sign:ByteArray
def A8.av (d:A8):AV:= .st [AV.s d.out,(AV.i .i64) d.time,AV.s d.sign]
def A8.zero:A8:=⟨(⟨#[]⟩:ByteArray),(0:Int),(⟨#[]⟩:ByteArray)⟩
instance:Inhabited A8:=⟨A8.zero⟩
def A8.sz (d:A8):Nat:=(fun s:ByteArray=>s.size+1) d.out+(fun _=>1) d.time+(fun s:ByteArray=>s.size+1) d.sign+1
structure Ah where
 out:ByteArray
 time:Int
 ins:List ByteArray
def Ah.av (d:Ah):AV:= .st [AV.s d.out,(AV.i .i64) d.time,(Ao 1 AV.s) d.ins]
def Ah.zero:Ah:=⟨(⟨#[]⟩:ByteArray),(0:Int),[]⟩
instance:Inhabited Ah:=⟨Ah.zero⟩
def Ah.sz (d:Ah):Nat:=(fun s:ByteArray=>s.size+1) d.out+(fun _=>1) d.time+(I2 (fun s:ByteArray=>s.size+1)) d.ins+1
theorem Ah.sz_ins (d:Ah):(I2 (fun s:ByteArray=>s.size+1)) d.ins≤d.sz:=by unfold Ah.sz;omega
structure Ag where
 clock:Int
 files:List A3
def Ag.av (d:Ag):AV:= .st [(AV.i .i64) d.clock,(Ao 3 A3.av) d.files]
def Ag.zero:Ag:=⟨(0:Int),[]⟩
instance:Inhabited Ag:=⟨Ag.zero⟩
def Ag.sz (d:Ag):Nat:=(fun _=>1) d.clock+(I2 A3.sz) d.files+1
theorem Ag.sz_files (d:Ag):(I2 A3.sz) d.files≤d.sz:=by unfold Ag.sz;omega
theorem IW {d:Ag} (h:lim d.av):lim ((Ao 3 A3.av) d.files):=by simp only [Ag.av,lim,FJ] at h;exact h.2.1
structure Ak where
 graph:Al
 actions:List AJ
 disk:Ag
 log:List A8
 deps:List Ah
 jobs:Int
 going:Bool
 status:List Int
def Ak.av (d:Ak):AV:= .st [(Ao 7 At.av) d.graph.edges,(Ao 2 BM.av) d.graph.pools,(Ao 1 AV.s) d.graph.defaults,(Ao 3 AJ.av) d.actions,(AV.i .i64) d.disk.clock,(Ao 3 A3.av) d.disk.files,(Ao 3 A8.av) d.log,(Ao 3 Ah.av) d.deps,(AV.i .i64) d.jobs,AV.b d.going,(Ao 1 (AV.i .i64)) d.status]
def Ak.zero:Ak:=⟨Al.zero,[],Ag.zero,[],[],(0:Int),false,[]⟩
instance:Inhabited Ak:=⟨Ak.zero⟩
def Ak.sz (d:Ak):Nat:=Al.sz d.graph+(I2 AJ.sz) d.actions+Ag.sz d.disk+(I2 A8.sz) d.log+(I2 Ah.sz) d.deps+(fun _=>1) d.jobs+(fun _=>1) d.going+(I2 (fun _=>1)) d.status+1
theorem Ak.sz_graph (d:Ak):Al.sz d.graph≤d.sz:=by unfold Ak.sz;omega
theorem Ak.sz_disk (d:Ak):Ag.sz d.disk≤d.sz:=by unfold Ak.sz;omega
theorem Ak.sz_log (d:Ak):(I2 A8.sz) d.log≤d.sz:=by unfold Ak.sz;omega
theorem Ak.sz_deps (d:Ak):(I2 Ah.sz) d.deps≤d.sz:=by unfold Ak.sz;omega
structure Aa where
 state:Ak
 edge:At
def Aa.av (d:Aa):AV:= .st [(ptA Ak.av) d.state,(ptA At.av) d.edge]
def AC:A3:=(⟨(⟨#[97,46,99]⟩:ByteArray),(1:Int),(1:Int)⟩:A3)
def AF:A3:=(⟨(⟨#[98,46,99]⟩:ByteArray),(3:Int),(3:Int)⟩:A3)
def AE:A3:=(⟨(⟨#[97,46,104]⟩:ByteArray),(2:Int),(2:Int)⟩:A3)
def Id:A8:=(⟨(⟨#[]⟩:ByteArray),(0:Int),(⟨#[]⟩:ByteArray)⟩:A8)
def AD:A3:=(⟨(⟨#[122,46,104]⟩:ByteArray),(4:Int),(4:Int)⟩:A3)
def BN:AJ:=(⟨(⟨#[99,99,32,97]⟩:ByteArray),[(⟨#[122,46,104]⟩:ByteArray)],false⟩:AJ)
def QL:Ah:=(⟨(⟨#[97,46,111]⟩:ByteArray),(5:Int),[(⟨#[122,46,104]⟩:ByteArray)]⟩:Ah)
def Cb:A8:=(⟨(⟨#[98,46,111]⟩:ByteArray),(7:Int),(⟨#[98,46,111,124,98,46,99,124,124,110,124,99,99,32,98]⟩:ByteArray)⟩:A8)
def Dv:A8:=(⟨(⟨#[108,105,98]⟩:ByteArray),(8:Int),(⟨#[108,105,98,124,97,46,111,32,98,46,111,124,124,110,124,97,114]⟩:ByteArray)⟩:A8)
def UL:At:=(⟨[(⟨#[108,105,98]⟩:ByteArray)],[(⟨#[97,46,111]⟩:ByteArray),(⟨#[98,46,111]⟩:ByteArray)],[],[],(⟨#[]⟩:ByteArray),false,(⟨#[]⟩:ByteArray)⟩:At)
def Bu:A8:=(⟨(⟨#[97,46,111]⟩:ByteArray),(5:Int),(⟨#[97,46,111,32,97,46,100,124,97,46,99,124,97,46,104,124,100,124,99,99,32,97]⟩:ByteArray)⟩:A8)
def Bt:A8:=(⟨(⟨#[97,46,100]⟩:ByteArray),(6:Int),(⟨#[97,46,111,32,97,46,100,124,97,46,99,124,97,46,104,124,100,124,99,99,32,97]⟩:ByteArray)⟩:A8)
def UM:At:=(⟨[(⟨#[108,105,98]⟩:ByteArray)],[(⟨#[97,46,111]⟩:ByteArray),(⟨#[98,46,111]⟩:ByteArray)],[],[],(⟨#[97,114]⟩:ByteArray),false,(⟨#[]⟩:ByteArray)⟩:At)
def QN:At:=(⟨[(⟨#[98,46,111]⟩:ByteArray)],[(⟨#[98,46,99]⟩:ByteArray)],[],[(⟨#[97,46,111]⟩:ByteArray)],(⟨#[99,99,32,98]⟩:ByteArray),false,(⟨#[116,119,111]⟩:ByteArray)⟩:At)
def QM:At:=(⟨[(⟨#[97,46,111]⟩:ByteArray),(⟨#[97,46,100]⟩:ByteArray)],[(⟨#[97,46,99]⟩:ByteArray)],[(⟨#[97,46,104]⟩:ByteArray)],[],(⟨#[99,99,32,97]⟩:ByteArray),true,(⟨#[116,119,111]⟩:ByteArray)⟩:At)
def UN:Ag:=(⟨(4:Int),[AC,AE,AF,AD]⟩:Ag)
def Fl:Al:=(⟨[UL,QM,QN],[(⟨(⟨#[116,119,111]⟩:ByteArray),(2:Int)⟩:BM)],[(⟨#[108,105,98]⟩:ByteArray)]⟩:Al)
def CO:Al:=(⟨[UM,QM,QN],[(⟨(⟨#[116,119,111]⟩:ByteArray),(2:Int)⟩:BM)],[(⟨#[108,105,98]⟩:ByteArray)]⟩:Al)
def AN:Ak:=(⟨CO,[BN],UN,[],[],(2:Int),false,[]⟩:Ak)
def Rf:List At→Nat
 | []=>0
 |e::r=>e.outs.length+Rf r
def Pn (e:At):CD:=⟨⟨false,e.outs⟩,⟨false,e.ins⟩,⟨false,e.implicit⟩,⟨false,e.order⟩,e.command,e.deps,e.pool⟩
def pOf (p:BM):Dh:=⟨p.name,p.depth⟩
def Le (g:Al):B4:=⟨false,g.edges.map Pn,false,g.pools.map pOf,⟨false,g.defaults⟩⟩
def QW (g:Al):Bool:=LE (Le g)
def HT (g:Al):Int:=Jb (Le g)
def Ni (g:Al) (edge:Int):Nat:=(g.edges.getD edge.toNat default).ins.length+(g.edges.getD edge.toNat default).implicit.length+(g.edges.getD edge.toNat default).order.length
def Fk (pi:ByteArray→Bool) (c:Int):List A3→List Int→Option A3→Bool
 | [],_,_=>true
 |f::r,ts,p=>(pi f.name&&decide (0≤f.content)&&decide (f.content≤2147483647)&&decide (1≤f.time)&&decide (f.time≤c)&& !(ts.any (fun t=>decide (t=f.time)))&&(match p with|none=>true|some q=>Op.bytesLess q.name.toList f.name.toList))&&Fk pi c r (ts++[f.time]) (some f)
def Du (pi:ByteArray→Bool) (d:Ag):Bool:=Fk pi d.clock d.files [] none&&decide (0≤d.clock)&&decide (d.clock≤1048576)&&decide (d.files.length≤64)
def Ce (xs:List ByteArray) (sep:ByteArray):ByteArray:=⟨(Lib.join (xs.map (·.data.toList)) sep.data.toList).toArray⟩
def HO (xs:List ByteArray):List ByteArray:=xs
def Ic {α:Type} (p:α→Bool):List α→Int
 | []=> -1
 |x::xs=>if 0≤Ic p xs then Ic p xs+1 else if p x then 0 else -1
def AR (rs:List A8) (out:ByteArray):Int:=Ic (fun r=>decide (r.out=out)) rs
def Au (fs:List Ah) (out:ByteArray):Int:=Ic (fun r=>decide (r.out=out)) fs
def dk1:Ag:=⟨(5:Int),[⟨(⟨#[97,46,99]⟩:ByteArray),(1:Int),(1:Int)⟩,⟨(⟨#[97,46,104]⟩:ByteArray),(2:Int),(2:Int)⟩,⟨(⟨#[97,46,111]⟩:ByteArray),(0:Int),(5:Int)⟩,⟨(⟨#[98,46,99]⟩:ByteArray),(3:Int),(3:Int)⟩,⟨(⟨#[122,46,104]⟩:ByteArray),(4:Int),(4:Int)⟩]⟩
def dk2:Ag:=⟨(6:Int),[⟨(⟨#[97,46,99]⟩:ByteArray),(1:Int),(1:Int)⟩,⟨(⟨#[97,46,100]⟩:ByteArray),(1:Int),(6:Int)⟩,⟨(⟨#[97,46,104]⟩:ByteArray),(2:Int),(2:Int)⟩,⟨(⟨#[97,46,111]⟩:ByteArray),(0:Int),(5:Int)⟩,⟨(⟨#[98,46,99]⟩:ByteArray),(3:Int),(3:Int)⟩,⟨(⟨#[122,46,104]⟩:ByteArray),(4:Int),(4:Int)⟩]⟩
def dk3:Ag:=⟨(7:Int),[⟨(⟨#[97,46,99]⟩:ByteArray),(1:Int),(1:Int)⟩,⟨(⟨#[97,46,100]⟩:ByteArray),(1:Int),(6:Int)⟩,⟨(⟨#[97,46,104]⟩:ByteArray),(2:Int),(2:Int)⟩,⟨(⟨#[97,46,111]⟩:ByteArray),(0:Int),(5:Int)⟩,⟨(⟨#[98,46,99]⟩:ByteArray),(3:Int),(3:Int)⟩,⟨(⟨#[98,46,111]⟩:ByteArray),(2:Int),(7:Int)⟩,⟨(⟨#[122,46,104]⟩:ByteArray),(4:Int),(4:Int)⟩]⟩
def Pk:Ag:=⟨(8:Int),[⟨(⟨#[97,46,99]⟩:ByteArray),(1:Int),(1:Int)⟩,⟨(⟨#[97,46,100]⟩:ByteArray),(1:Int),(6:Int)⟩,⟨(⟨#[97,46,104]⟩:ByteArray),(2:Int),(2:Int)⟩,⟨(⟨#[97,46,111]⟩:ByteArray),(0:Int),(5:Int)⟩,⟨(⟨#[98,46,99]⟩:ByteArray),(3:Int),(3:Int)⟩,⟨(⟨#[98,46,111]⟩:ByteArray),(2:Int),(7:Int)⟩,⟨(⟨#[108,105,98]⟩:ByteArray),(3:Int),(8:Int)⟩,⟨(⟨#[122,46,104]⟩:ByteArray),(4:Int),(4:Int)⟩]⟩
def Gm:List ByteArray→Nat→(List ByteArray)→Lp (List ByteArray) ((List ByteArray))
 | [],i,row=>Lp.brk row
 |x1::rest,i,row=>Gm rest (i+1) (row.set i ((⟨#[126]⟩:ByteArray)++(row.getD i default)))
def SI (a:List ByteArray):List ByteArray:=
 (match Gm a 0 a with
 |Lp.ret r=>r
 |Lp.brk row'=>row')
def Jj:List Bool→Nat→(List Bool)→Lp (List Bool) ((List Bool))
 | [],i,row=>Lp.brk row
 |x1::rest,i,row=>Jj rest (i+1) (row.set i (!(row.getD i default)))
def EZ (s':ByteArray):Bool:=
 (decide ((BH s').2=(0:Int))&&decide ((BH s').1=s'))
def S6:List ByteArray→Nat→Lp (Bool) (Unit)
 | [],v9=>Lp.brk ()
 |x1::rest,v9=>(bif (!(EZ x1)) then Lp.ret false else S6 rest (v9+1))
def GQ (ss:List ByteArray) (most':Int):Bool:=
 (match S6 ss 0 with
 |Lp.ret r=>r
 |Lp.brk ()=>decide (((ss.length:Nat):Int)≤most'))
def QV:List UInt8→Nat→Lp (Bool) (Unit)
 | [],v8=>Lp.brk ()
 |x1::rest,v8=>(bif decide ((x1.toNat:Int)<(32:Int)) then Lp.ret false else (bif decide ((126:Int)<(x1.toNat:Int)) then Lp.ret false else QV rest (v8+1)))
def Ks (s':ByteArray) (most':Int):Bool:=
 (match QV s'.data.toList 0 with
 |Lp.ret r=>r
 |Lp.brk ()=>decide (((s'.size:Nat):Int)≤most'))
def IL (s':ByteArray):Bool:=
 ((!decide (s'=(⟨#[]⟩:ByteArray)))&&(Ks s' (256:Int)))
def To:List (List ByteArray)→Nat→Lp (Bool) (Unit)
 | [],v23=>Lp.brk ()
 |x1::rest,v23=>(bif (!(GQ x1 (8:Int))) then Lp.ret false else To rest (v23+1))
def Oa (e:At):Bool:=
 (match To [e.outs,e.ins,e.implicit,e.order] 0 with
 |Lp.ret r=>r
 |Lp.brk ()=>(decide ((0:Int)<((e.outs.length:Nat):Int))&&((IL e.command)&&(decide (e.pool=(⟨#[]⟩:ByteArray))||(GC e.pool)))))
def Me:List At→Nat→(List ByteArray)→Lp (List ByteArray) ((List ByteArray))
 | [],v11,out=>Lp.brk out
 |x1::rest,v11,out=>Me rest (v11+1) (out++x1.outs)
def Ey (x':ByteArray):List ByteArray→Nat→Lp (Bool) (Unit)
 | [],i=>Lp.brk ()
 |x1::rest,i=>(bif decide (x1=x') then Lp.ret true else Ey x' rest (i+1))
def EM (xs:List ByteArray) (x':ByteArray):Bool:=
 (match Ey x' xs 0 with
 |Lp.ret r=>r
 |Lp.brk ()=>false)
def LD (c:Int):Bool:=
 (bif decide ((97:Int)≤c) then (decide (c≤(122:Int))||(decide ((48:Int)≤c)&&decide (c≤(57:Int)))) else (decide ((48:Int)≤c)&&decide (c≤(57:Int))))
def Tr:List UInt8→Nat→Lp (Bool) (Unit)
 | [],i=>Lp.brk ()
 |x1::rest,i=>(bif decide ((x1.toNat:Int)<(32:Int)) then Lp.ret false else (bif decide ((126:Int)<(x1.toNat:Int)) then Lp.ret false else Tr rest (i+1)))
def S7 (s':ByteArray) (least:Int) (most':Int):Bool:=
 (match Tr s'.data.toList 0 with
 |Lp.ret r=>r
 |Lp.brk ()=>(decide (least≤((s'.size:Nat):Int))&&decide (((s'.size:Nat):Int)≤most')))
def Ma:List UInt8→Nat→Lp (Bool) (Unit)
 | [],i=>Lp.brk ()
 |x1::rest,i=>(bif (!(LD (x1.toNat:Int))) then (bif (!decide ((x1.toNat:Int)=(46:Int))) then (bif (!decide ((x1.toNat:Int)=(95:Int))) then (bif (!decide ((x1.toNat:Int)=(45:Int))) then (bif (!decide ((x1.toNat:Int)=(47:Int))) then Lp.ret false else Ma rest (i+1)) else Ma rest (i+1)) else Ma rest (i+1)) else Ma rest (i+1)) else Ma rest (i+1))
def Kp (s':ByteArray):Bool:=
 (match Ma s'.data.toList 0 with
 |Lp.ret r=>r
 |Lp.brk ()=>(decide ((1:Int)≤((s'.size:Nat):Int))&&decide (((s'.size:Nat):Int)≤(16:Int))))
def Na (sign:ByteArray):List ByteArray→Nat→ByteArray→Lp (ByteArray) (ByteArray)
 | [],i,s'=>Lp.brk s'
 |x1::rest,i,s'=>(bif decide ((0:Int)<((i:Nat):Int)) then Na sign rest (i+1) ((s'++sign)++x1) else Na sign rest (i+1) (s'++x1))
def E2 (xs:List ByteArray) (sign:ByteArray):ByteArray:=
 (match Na sign xs 0 (⟨#[]⟩:ByteArray) with
 |Lp.ret r=>r
 |Lp.brk sv'=>sv')
def Ly (s':ByteArray) (sign:Int):Nat→(List ByteArray)→Nat→Nat→Lp (List ByteArray) ((List ByteArray))
 |0,out,from',i=>Lp.brk out
 |kf+1,out,from',i=>(bif decide (((i:Nat):Int)≤((s'.size:Nat):Int)) then (bif (decide (((i:Nat):Int)=((s'.size:Nat):Int))||decide (((s'.data.getD i 0).toNat:Int)=sign)) then Ly s' sign kf (out++[(s'.extract from' i)]) (i+1) (i+1) else Ly s' sign kf out from' (i+1)) else Lp.brk out)
def Ji (s':ByteArray) (sign:Int):List ByteArray:=
 (match Ly s' sign (s'.size+1-0+1) [] 0 0 with
 |Lp.ret r=>r
 |Lp.brk out'=>out')
def LA:List ByteArray→Nat→(List ByteArray)→Lp (ByteArray×Int) ((List ByteArray))
 | [],i,kept=>Lp.brk kept
 |x1::rest,i,kept=>(bif decide (x1=(⟨#[]⟩:ByteArray)) then LA rest (i+1) kept else (bif decide (x1=(⟨#[46]⟩:ByteArray)) then LA rest (i+1) kept else (bif decide (x1=(⟨#[46,46]⟩:ByteArray)) then (bif decide (((kept.length:Nat):Int)=(0:Int)) then Lp.ret ((⟨#[]⟩:ByteArray),(200:Int)) else LA rest (i+1) (kept.take (kept.length-1))) else LA rest (i+1) (kept++[x1]))))
def KW (s':ByteArray):ByteArray×Int:=
 (bif (!(Kp s')) then ((⟨#[]⟩:ByteArray),(200:Int)) else (bif decide (((s'.data.getD 0 0).toNat:Int)=(47:Int)) then ((⟨#[]⟩:ByteArray),(200:Int)) else (match LA (Ji s' (47:Int)) 0 [] with
 |Lp.ret r=>r
 |Lp.brk kept'=>(bif decide (((kept'.length:Nat):Int)=(0:Int)) then ((⟨#[]⟩:ByteArray),(200:Int)) else ((E2 kept' (⟨#[47]⟩:ByteArray)),(0:Int))))))
def Ie (s':ByteArray):Bool:=
 (decide ((KW s').2=(0:Int))&&decide ((KW s').1=s'))
def m_cc:List ByteArray→Nat→Lp (Bool) (Unit)
 | [],i=>Lp.brk ()
 |x1::rest,i=>(bif (!(Ie x1)) then Lp.ret false else m_cc rest (i+1))
def O6 (xs:List ByteArray):Bool:=
 (match m_cc xs 0 with
 |Lp.ret r=>r
 |Lp.brk ()=>decide (((xs.length:Nat):Int)≤(8:Int)))
def Eg (name:ByteArray):List BM→Nat→Lp (Int) (Unit)
 | [],i=>Lp.brk ()
 |x1::rest,i=>(bif decide (x1.name=name) then Lp.ret ((i:Nat):Int) else Eg name rest (i+1))
def Gd (ps:List BM) (name:ByteArray):Int:=
 (match Eg name ps 0 with
 |Lp.ret r=>r
 |Lp.brk ()=>(-1:Int))
def H2 (e:At):Bool:=
 (decide ((0:Int)<((e.outs.length:Nat):Int))&&((O6 e.outs)&&((O6 e.ins)&&((O6 e.implicit)&&((O6 e.order)&&((S7 e.command (1:Int) (256:Int))&&(decide (e.pool=(⟨#[]⟩:ByteArray))||(Kp e.pool))))))))
def Tt (g:Al):List At→Nat→Lp (Bool) (Unit)
 | [],i2=>Lp.brk ()
 |x2::rest,i2=>(bif (!(H2 x2)) then Lp.ret false else (bif (!decide (x2.pool=(⟨#[]⟩:ByteArray))) then (bif decide ((Gd g.pools x2.pool)<(0:Int)) then Lp.ret false else Tt g rest (i2+1)) else Tt g rest (i2+1)))
def UP (g:Al):List BM→Nat→Lp (Bool) (Unit)
 | [],i=>Lp.brk ()
 |x1::rest,i=>(bif (!(Kp x1.name)) then Lp.ret false else (bif decide (x1.depth<(1:Int)) then Lp.ret false else (bif decide ((8:Int)<x1.depth) then Lp.ret false else (bif (!decide ((Gd g.pools x1.name)=((i:Nat):Int))) then Lp.ret false else UP g rest (i+1)))))
def GB (g:Al):Bool:=
 (match UP g g.pools 0 with
 |Lp.ret r=>r
 |Lp.brk ()=>(match Tt g g.edges 0 with
 |Lp.ret r=>r
 |Lp.brk ()=>(decide (((g.pools.length:Nat):Int)≤(4:Int))&&(decide (((g.edges.length:Nat):Int)≤(16:Int))&&(O6 g.defaults)))))
def EE:List ByteArray→Nat→(List ByteArray)→Lp (Int) ((List ByteArray))
 | [],k,all2=>Lp.brk all2
 |x2::rest,k,all2=>(bif (EM all2 x2) then Lp.ret (901:Int) else EE rest (k+1) (all2++[x2]))
def ED:List At→Nat→(List ByteArray)→Lp (Int) (Unit)
 | [],i,all=>Lp.brk ()
 |x1::rest,i,all=>(match EE x1.outs 0 all with
 |Lp.ret r=>Lp.ret r
 |Lp.brk all2'=>ED rest (i+1) all2')
def GR (g:Al):Int:=
 (bif (!(GB g)) then (900:Int) else (match ED g.edges 0 [] with
 |Lp.ret r=>r
 |Lp.brk ()=>(0:Int)))
def Hp (name:ByteArray):List At→Nat→Lp (Int) (Unit)
 | [],i=>Lp.brk ()
 |x1::rest,i=>(bif (EM x1.outs name) then Lp.ret ((i:Nat):Int) else Hp name rest (i+1))
def Tv (g:Al) (name:ByteArray):Int:=
 (match Hp name g.edges 0 with
 |Lp.ret r=>r
 |Lp.brk ()=>(-1:Int))
def UQ (g:Al):List ByteArray→Nat→(List Int)→Lp (List Int) ((List Int))
 | [],i,out=>Lp.brk out
 |x1::rest,i,out=>(bif decide ((0:Int)≤(Tv g x1)) then UQ g rest (i+1) (out++[(Tv g x1)]) else UQ g rest (i+1) out)
def QT (g:Al) (edge:Int):List Int:=
 (match UQ g (((g.edges.getD edge.toNat default).ins++(g.edges.getD edge.toNat default).implicit)++(g.edges.getD edge.toNat default).order) 0 [] with
 |Lp.ret r=>r
 |Lp.brk out'=>out')
def Tq (row:List Bool):List Int→Nat→Bool→Lp (List Int×Int) (Bool)
 | [],k,free=>Lp.brk free
 |x3::rest,k,free=>(bif free then Tq row rest (k+1) (row.getD x3.toNat default) else Tq row rest (k+1) false)
def Tp (row:List Bool) (g:Al):Nat→Int→Int→Lp (List Int×Int) (Int)
 |0,next,i=>Lp.brk next
 |kf+1,next,i=>(bif decide ((0:Int)≤i) then (match Tq row (QT g i) 0 (!(row.getD i.toNat default)) with
 |Lp.ret r=>Lp.ret r
 |Lp.brk free'=>(bif free' then Tp row g kf i (i-(1:Int)) else Tp row g kf next (i-(1:Int)))) else Lp.brk next)
def EF (g:Al):Nat→(List Int)→(List Bool)→Lp (List Int×Int) ((List Int)×(List Bool))
 |0,out,row=>Lp.brk (out,row)
 |kf+1,out,row=>(bif decide (((out.length:Nat):Int)<((g.edges.length:Nat):Int)) then (match Tp row g (((((g.edges.length:Nat):Int)-(1:Int))+1).toNat+1) (-1:Int) (((g.edges.length:Nat):Int)-(1:Int)) with
 |Lp.ret r=>Lp.ret r
 |Lp.brk next'=>(bif decide (next'<(0:Int)) then Lp.ret (([]:List Int),(1001:Int)) else EF g kf (out++[next']) (row.set next'.toNat true))) else Lp.brk (out,row))
def Ef (g:Al):List Int×Int:=
 (bif (!decide ((GR g)=(0:Int))) then (([]:List Int),(1000:Int)) else (match EF g (g.edges.length-0+1) [] (List.replicate g.edges.length false) with
 |Lp.ret r=>r
 |Lp.brk (out',row')=>(out',(0:Int))))
def Kt (b:List Int):List Int→Nat→Lp (Bool) (Unit)
 | [],i=>Lp.brk ()
 |x1::rest,i=>(bif (!decide (x1=(b.getD i default))) then Lp.ret false else Kt b rest (i+1))
def Ts (b:List Bool):List Bool→Nat→Lp (Bool) (Unit)
 | [],i=>Lp.brk ()
 |x1::rest,i=>(bif (!(x1==(b.getD i default))) then Lp.ret false else Ts b rest (i+1))
def Lx (a:List Bool) (b:List Bool):Bool:=
 (!(!decide (((a.length:Nat):Int)=((b.length:Nat):Int)))&&(match Ts b a 0 with
 |Lp.ret r=>r
 |Lp.brk ()=>true))
def Tk (v:Int):List Int→Nat→Lp (Int) (Unit)
 | [],v8=>Lp.brk ()
 |x1::rest,v8=>(bif decide (v=x1) then Lp.ret ((v8:Nat):Int) else Tk v rest (v8+1))
def QQ (s':List Int) (v:Int):Int:=
 (match Tk v s' 0 with
 |Lp.ret r=>r
 |Lp.brk ()=>(-1:Int))
def TX (s':List Int) (v:Int):Bool:=
 decide ((0:Int)≤(QQ s' v))
def Tm (v:ByteArray):List ByteArray→Nat→Lp (Int) (Unit)
 | [],v8=>Lp.brk ()
 |x1::rest,v8=>(bif decide (v=x1) then Lp.ret ((v8:Nat):Int) else Tm v rest (v8+1))
def QR (s':List ByteArray) (v:ByteArray):Int:=
 (match Tm v s' 0 with
 |Lp.ret r=>r
 |Lp.brk ()=>(-1:Int))
def S5 (s':List ByteArray) (v:ByteArray):Bool:=
 decide ((0:Int)≤(QR s' v))
def m_u (f:At→Bool):List At→Nat→Lp (Int) (Unit)
 | [],v8=>Lp.brk ()
 |x1::rest,v8=>(bif (f x1) then Lp.ret ((v8:Nat):Int) else m_u f rest (v8+1))
def m_7 (s':List At) (f:At→Bool):Int:=
 (match m_u f s' 0 with
 |Lp.ret r=>r
 |Lp.brk ()=>(-1:Int))
def QU (e:At) (name:ByteArray):Bool:=
 (S5 e.outs name)
def Ep (g:Al) (s':ByteArray):Int:=
 (m_7 g.edges (fun z0=>QU z0 s'))
def Tn (f:Int→Bool):List Int→Nat→Lp (Int) (Unit)
 | [],v8=>Lp.brk ()
 |x1::rest,v8=>(bif (f x1) then Lp.ret ((v8:Nat):Int) else Tn f rest (v8+1))
def QS (s':List Int) (f:Int→Bool):Int:=
 (match Tn f s' 0 with
 |Lp.ret r=>r
 |Lp.brk ()=>(-1:Int))
def TY (s':List Int) (f:Int→Bool):Bool:=
 decide ((0:Int)≤(QS s' f))
def Gc (n':Nat):List ByteArray:=
 (bif decide ((0:Int)<((n':Nat):Int)) then ((List.replicate n' (⟨#[]⟩:ByteArray)).take 0) else [])
def KV:List (List ByteArray)→Nat→(List ByteArray)→Lp (List ByteArray) ((List ByteArray))
 | [],v27,newslice=>Lp.brk newslice
 |x2::rest,v27,newslice=>KV rest (v27+1) (newslice++x2)
def Tw:List (List ByteArray)→Nat→Nat→Lp (List ByteArray) (Nat)
 | [],v11,size=>Lp.brk size
 |x1::rest,v11,size=>Tw rest (v11+1) (size+x1.length)
def D4 (slices:List (List ByteArray)):List ByteArray:=
 (match Tw slices 0 0 with
 |Lp.ret r=>r
 |Lp.brk size'=>(match KV slices 0 ((List.replicate size' (⟨#[]⟩:ByteArray)).take 0) with
 |Lp.ret r=>r
 |Lp.brk newslice4'=>newslice4'))
def O5 (g:Al):List ByteArray→Nat→(List Int)→Lp (List Int) ((List Int))
 | [],v31,out=>Lp.brk out
 |x1::rest,v31,out=>(bif decide ((0:Int)≤(Ep g x1)) then (bif (!(TX out (Ep g x1))) then O5 g rest (v31+1) (out++[(Ep g x1)]) else O5 g rest (v31+1) out) else O5 g rest (v31+1) out)
def Hj (g:Al) (edge:Int):List Int:=
 (match O5 g (D4 [(g.edges.getD edge.toNat default).ins,(g.edges.getD edge.toNat default).implicit,(g.edges.getD edge.toNat default).order]) 0 [] with
 |Lp.ret r=>r
 |Lp.brk out'=>out')
def HU (edge:Int) (out:List Int):Bool:=
 (TX out edge)
def Md (edge:Int) (told:Int→Bool):Bool:=
 (!(told edge))
def Nf:List (List Int)→Nat→(List Int)→Lp (List Int×Int) (Bool×(List Int))
 | [],v38,cell2=>Lp.brk (false,cell2)
 |x3::rest,v38,cell2=>(bif (!(HU ((v38:Nat):Int) cell2)) then (bif (!(TY x3 (fun z0=>Md z0 (fun z0=>HU z0 cell2)))) then Lp.brk (true,(cell2++[((v38:Nat):Int)])) else Nf rest (v38+1) cell2) else Nf rest (v38+1) cell2)
def O9 (g:Al) (row:List (List Int)):Nat→(List Int)→Lp (List Int×Int) ((List Int))
 |0,cell=>Lp.brk cell
 |kf+1,cell=>(bif decide (((cell.length:Nat):Int)<((g.edges.length:Nat):Int)) then (match Nf row 0 cell with
 |Lp.ret r=>Lp.ret r
 |Lp.brk (t',cell2')=>(bif t' then O9 g row kf cell2' else Lp.ret (([]:List Int),(1001:Int)))) else Lp.brk cell)
def Ne (g:Al):List (List Int)→Nat→(List (List Int))→Lp (List Int×Int) ((List (List Int)))
 | [],v20,row=>Lp.brk row
 |x1::rest,v20,row=>Ne g rest (v20+1) (row.set v20 (Hj g ((v20:Nat):Int)))
def GX (g:Al):List Int×Int:=
 (bif (!decide ((HT g)=(0:Int))) then (([]:List Int),(1000:Int)) else (match Ne g (List.replicate g.edges.length ([]:List Int)) 0 (List.replicate g.edges.length ([]:List Int)) with
 |Lp.ret r=>r
 |Lp.brk row'=>(match O9 g row' (g.edges.length-0+1) [] with
 |Lp.ret r=>r
 |Lp.brk cell3'=>(cell3',(0:Int)))))
def GA (g:Al) (i3:Int):List Int→Nat→(List Bool)→Lp (List Bool×Int) ((List Bool))
 | [],k,row4=>Lp.brk row4
 |x4::rest,k,row4=>(bif (row4.getD x4.toNat default) then GA g i3 rest (k+1) (row4.set x4.toNat true) else GA g i3 rest (k+1) (row4.set x4.toNat (row4.getD ((((Ef g).1).getD i3.toNat default).toNat) default)))
def Mg (g:Al):Nat→Int→(List Bool)→Lp (List Bool×Int) ((List Bool))
 |0,i3,row3=>Lp.brk row3
 |kf+1,i3,row3=>(bif decide ((0:Int)≤i3) then (match GA g i3 (QT (⟨g.edges,g.pools,g.defaults⟩:Al) (((Ef g).1).getD i3.toNat default)) 0 row3 with
 |Lp.ret r=>Lp.ret r
 |Lp.brk row4'=>Mg g kf (i3-(1:Int)) row4') else Lp.brk row3)
def Mf (g:Al):List ByteArray→Nat→(List Bool)→Lp (List Bool×Int) ((List Bool))
 | [],i2,row2=>Lp.brk row2
 |x2::rest,i2,row2=>(bif decide ((Tv (⟨g.edges,g.pools,g.defaults⟩:Al) x2)<(0:Int)) then Lp.ret (([]:List Bool),(2001:Int)) else Mf g rest (i2+1) (row2.set (Tv (⟨g.edges,g.pools,g.defaults⟩:Al) x2).toNat true))
def DG (e:Int):Int:=
 e
def Nc (a:AJ):Bool:=
 ((!(IL a.command))||(!(GQ a.reads (8:Int))))
def m_s (f:AJ→Bool):List AJ→Nat→Lp (Int) (Unit)
 | [],v8=>Lp.brk ()
 |x1::rest,v8=>(bif (f x1) then Lp.ret ((v8:Nat):Int) else m_s f rest (v8+1))
def m_y (s':List AJ) (f:AJ→Bool):Int:=
 (match m_s f s' 0 with
 |Lp.ret r=>r
 |Lp.brk ()=>(-1:Int))
def m_n (s':List AJ) (f:AJ→Bool):Bool:=
 decide ((0:Int)≤(m_y s' f))
def O8 (as':List AJ):Bool:=
 (decide (((as'.length:Nat):Int)≤(16:Int))&&(!(m_n as' (fun z0=>Nc z0))))
def LB (x':Int):Bool:=
 (decide ((1:Int)≤x')&&decide (x'≤(1048576:Int)))
def KT (r:A8):Bool:=
 ((EZ r.out)&&((LB r.time)&&((!decide (r.sign=(⟨#[]⟩:ByteArray)))&&(Ks r.sign (2048:Int)))))
def PE (r:A8):Bool:=
 (!(KT r))
def m_t (f:A8→Bool):List A8→Nat→Lp (Int) (Unit)
 | [],v8=>Lp.brk ()
 |x1::rest,v8=>(bif (f x1) then Lp.ret ((v8:Nat):Int) else m_t f rest (v8+1))
def m_z (s':List A8) (f:A8→Bool):Int:=
 (match m_t f s' 0 with
 |Lp.ret r=>r
 |Lp.brk ()=>(-1:Int))
def m_o (s':List A8) (f:A8→Bool):Bool:=
 decide ((0:Int)≤(m_z s' f))
def Kr (rs:List A8):Bool:=
 (decide (((rs.length:Nat):Int)≤(256:Int))&&(!(m_o rs (fun z0=>PE z0))))
def LC (f:Ah):Bool:=
 ((EZ f.out)&&((LB f.time)&&(GQ f.ins (8:Int))))
def PF (f:Ah):Bool:=
 (!(LC f))
def m_v (f:Ah→Bool):List Ah→Nat→Lp (Int) (Unit)
 | [],v8=>Lp.brk ()
 |x1::rest,v8=>(bif (f x1) then Lp.ret ((v8:Nat):Int) else m_v f rest (v8+1))
def m_1 (s':List Ah) (f:Ah→Bool):Int:=
 (match m_v f s' 0 with
 |Lp.ret r=>r
 |Lp.brk ()=>(-1:Int))
def m_q (s':List Ah) (f:Ah→Bool):Bool:=
 decide ((0:Int)≤(m_1 s' f))
def KU (fs:List Ah):Bool:=
 (decide (((fs.length:Nat):Int)≤(256:Int))&&(!(m_q fs (fun z0=>PF z0))))
def O7 (x':Int):Bool:=
 (decide ((0:Int)≤x')&&decide (x'≤(2147483647:Int)))
def EK (s':Ak):Bool:=
 (decide ((GX s'.graph).2=(0:Int))&&((O8 s'.actions)&&((Du EZ s'.disk)&&((Kr s'.log)&&(KU s'.deps)))))
def JY (x':Int) (least:Int) (most':Int):Bool:=
 (decide (least≤x')&&decide (x'≤most'))
def m_bz:List AJ→Nat→Lp (Bool) (Unit)
 | [],i=>Lp.brk ()
 |x1::rest,i=>(bif (!(S7 x1.command (1:Int) (256:Int))) then Lp.ret false else (bif (!(O6 x1.reads)) then Lp.ret false else m_bz rest (i+1)))
def EL (as':List AJ):Bool:=
 (match m_bz as' 0 with
 |Lp.ret r=>r
 |Lp.brk ()=>decide (((as'.length:Nat):Int)≤(16:Int)))
def Mc (i:Nat) (d:Ag) (x1:A3):Nat→Nat→Lp (Bool) (Unit)
 |0,k=>Lp.brk ()
 |kf+1,k=>(bif decide (((k:Nat):Int)<((i:Nat):Int)) then (bif decide ((d.files.getD k default).time=x1.time) then Lp.ret false else Mc i d x1 kf (k+1)) else Lp.brk ())
def O3 (d:Ag):List A3→Nat→Lp (Bool) (Unit)
 | [],i=>Lp.brk ()
 |x1::rest,i=>(bif (!(Ie x1.name)) then Lp.ret false else (bif (!(JY x1.content (0:Int) (2147483647:Int))) then Lp.ret false else (bif (!(JY x1.time (1:Int) d.clock)) then Lp.ret false else (bif decide ((0:Int)<((i:Nat):Int)) then (bif (!Op.bytesLess ((d.files.getD (i-1) default).name).toList x1.name.toList) then Lp.ret false else (match Mc i d x1 (i-0+1) 0 with
 |Lp.ret r=>Lp.ret r
 |Lp.brk ()=>O3 d rest (i+1))) else (match Mc i d x1 (i-0+1) 0 with
 |Lp.ret r=>Lp.ret r
 |Lp.brk ()=>O3 d rest (i+1))))))
def J2 (d:Ag):Bool:=
 (match O3 d d.files 0 with
 |Lp.ret r=>r
 |Lp.brk ()=>((JY d.clock (0:Int) (1048576:Int))&&decide (((d.files.length:Nat):Int)≤(64:Int))))
def Fm (r:A8):Bool:=
 ((Ie r.out)&&((JY r.time (1:Int) (1048576:Int))&&(S7 r.sign (1:Int) (2048:Int))))
def m_ce:List A8→Nat→Lp (Bool) (Unit)
 | [],i=>Lp.brk ()
 |x1::rest,i=>(bif (!(Fm x1)) then Lp.ret false else m_ce rest (i+1))
def H1 (rs:List A8):Bool:=
 (match m_ce rs 0 with
 |Lp.ret r=>r
 |Lp.brk ()=>decide (((rs.length:Nat):Int)≤(256:Int)))
def FX (f:Ah):Bool:=
 ((Ie f.out)&&((JY f.time (1:Int) (1048576:Int))&&(O6 f.ins)))
def m_ca:List Ah→Nat→Lp (Bool) (Unit)
 | [],i=>Lp.brk ()
 |x1::rest,i=>(bif (!(FX x1)) then Lp.ret false else m_ca rest (i+1))
def Gz (fs:List Ah):Bool:=
 (match m_ca fs 0 with
 |Lp.ret r=>r
 |Lp.brk ()=>decide (((fs.length:Nat):Int)≤(256:Int)))
def FY (s':Ak):Bool:=
 (decide ((Ef (⟨s'.graph.edges,s'.graph.pools,s'.graph.defaults⟩:Al)).2=(0:Int))&&((EL s'.actions)&&((J2 (⟨s'.disk.clock,s'.disk.files⟩:Ag))&&((H1 s'.log)&&(Gz s'.deps)))))
def Kq (x':ByteArray):Bool:=
 (!decide (x'=x'))
def O4 (x':ByteArray) (y:ByteArray):Int:=
 (bif (Kq x') then (bif (Kq y) then (0:Int) else (-1:Int)) else (bif (Kq y) then (1:Int) else (bif (Op.bytesLess x'.toList y.toList) then (-1:Int) else (bif (!(Op.bytesLess x'.toList y.toList||decide (x'=y))) then (1:Int) else (0:Int)))))
def Gl (f:A3) (s':ByteArray):Int:=
 (O4 f.name s')
def SH (cmp:A3→ByteArray→Int) (x':List A3) (target:ByteArray):Nat→Int→Int→Lp (Int×Bool) (Int)
 |0,i,j=>Lp.brk i
 |kf+1,i,j=>(bif decide (i<j) then (bif decide ((cmp (x'.getD (IntKind.wrap .i64 (Int.fdiv (IntKind.wrap .u64 (IntKind.wrap .i64 (i+j))) (2^(min 1 IntKind.u64.bits)))).toNat default) target)<(0:Int)) then SH cmp x' target kf (IntKind.wrap .i64 ((IntKind.wrap .i64 (Int.fdiv (IntKind.wrap .u64 (IntKind.wrap .i64 (i+j))) (2^(min 1 IntKind.u64.bits))))+(1:Int))) j else SH cmp x' target kf i (IntKind.wrap .i64 (Int.fdiv (IntKind.wrap .u64 (IntKind.wrap .i64 (i+j))) (2^(min 1 IntKind.u64.bits))))) else Lp.brk i)
def Mv (x':List A3) (target:ByteArray) (cmp:A3→ByteArray→Int):Int×Bool:=
 (match SH cmp x' target ((((x'.length:Nat):Int)-(0:Int)).toNat+1) (0:Int) ((x'.length:Nat):Int) with
 |Lp.ret r=>r
 |Lp.brk i'=>(bif decide (i'<((x'.length:Nat):Int)) then (i',decide ((cmp (x'.getD i'.toNat default) target)=(0:Int))) else (i',false)))
def Iw (d:Ag) (s':ByteArray):Int×Bool:=
 ((Mv d.files s' (fun z0 z1=>Gl z0 z1)).1,(Mv d.files s' (fun z0 z1=>Gl z0 z1)).2)
def CK (d:Ag) (s':ByteArray):A3×Bool:=
 (bif (Iw d s').2 then (bif (Du EZ d) then ((⟨(d.files.getD ((Iw d s').1).toNat default).name,(d.files.getD ((Iw d s').1).toNat default).content,(d.files.getD ((Iw d s').1).toNat default).time⟩:A3),true) else ((⟨(⟨#[]⟩:ByteArray),(0:Int),(0:Int)⟩:A3),false)) else ((⟨(⟨#[]⟩:ByteArray),(0:Int),(0:Int)⟩:A3),false))
def KR (e:At):ByteArray×Int:=
 (bif (!(Oa e)) then ((⟨#[]⟩:ByteArray),(1100:Int)) else ((Ce [(Ce e.outs (⟨#[32]⟩:ByteArray)),(Ce e.ins (⟨#[32]⟩:ByteArray)),(Ce e.implicit (⟨#[32]⟩:ByteArray)),(bif e.deps then (⟨#[100]⟩:ByteArray) else (⟨#[110]⟩:ByteArray)),e.command] (⟨#[124]⟩:ByteArray)),(0:Int)))
def E1 (rs:List A8) (out:ByteArray):A8×Bool:=
 (bif decide ((AR rs out)<(0:Int)) then (Id,false) else (bif (!(Kr rs)) then (Id,false) else ((⟨(rs.getD (AR rs out).toNat default).out,(rs.getD (AR rs out).toNat default).time,(rs.getD (AR rs out).toNat default).sign⟩:A8),true)))
def Gw (f:Ah):Ah:=
 (⟨f.out,f.time,(HO f.ins)⟩:Ah)
def K6 (fs:List Ah) (out:ByteArray):Ah×Bool:=
 (bif decide ((Au fs out)<(0:Int)) then ((⟨(⟨#[]⟩:ByteArray),(0:Int),[]⟩:Ah),false) else (bif (!(KU fs)) then ((⟨(⟨#[]⟩:ByteArray),(0:Int),[]⟩:Ah),false) else ((⟨(Gw (fs.getD (Au fs out).toNat default)).out,(Gw (fs.getD (Au fs out).toNat default)).time,(Gw (fs.getD (Au fs out).toNat default)).ins⟩:Ah),true)))
def Lz (l:Aa) (s':ByteArray):Bool:=
 ((!(CK l.state.disk s').2)&&decide ((Ep l.state.graph s')<(0:Int)))
def Mb (l:Aa):List ByteArray→Nat→Int→Lp (Int) (Int)
 | [],v32,out=>Lp.brk out
 |x1::rest,v32,out=>(bif (!(CK l.state.disk x1).2) then Lp.ret (-1:Int) else (bif (!(E1 l.state.log x1).2) then Lp.ret (-1:Int) else (bif (!decide (((E1 l.state.log x1).1).sign=(KR l.edge).1)) then Lp.ret (-1:Int) else (bif (!decide (((E1 l.state.log x1).1).time=((CK l.state.disk x1).1).time)) then Lp.ret (-1:Int) else Mb l rest (v32+1) (if ((CK l.state.disk x1).1).time<out then ((CK l.state.disk x1).1).time else out)))))
def Ky (l:Aa):Int:=
 (match Mb l l.edge.outs 0 l.state.disk.clock with
 |Lp.ret r=>r
 |Lp.brk out'=>out')
def PD (s':ByteArray) (l:Aa) (time:Int):Bool:=
 ((!(CK l.state.disk s').2)||decide (time<((CK l.state.disk s').1).time))
def Tl (f:ByteArray→Bool):List ByteArray→Nat→Lp (Int) (Unit)
 | [],v8=>Lp.brk ()
 |x1::rest,v8=>(bif (f x1) then Lp.ret ((v8:Nat):Int) else Tl f rest (v8+1))
def S4 (s':List ByteArray) (f:ByteArray→Bool):Int:=
 (match Tl f s' 0 with
 |Lp.ret r=>r
 |Lp.brk ()=>(-1:Int))
def UR (s':List ByteArray) (f:ByteArray→Bool):Bool:=
 decide ((0:Int)≤(S4 s' f))
def Q5 (l:Aa) (ss:List ByteArray) (time:Int):Bool:=
 (UR ss (fun z0=>PD z0 l time))
def QP (l:Aa):Bool:=
 (decide ((Ky l)<(0:Int))||((Q5 l l.edge.ins (Ky l))||((Q5 l l.edge.implicit (Ky l))||(!(!l.edge.deps)&&((!(K6 l.state.deps (l.edge.outs.getD 0 default)).2)||((!decide (((K6 l.state.deps (l.edge.outs.getD 0 default)).1).time=((CK l.state.disk (l.edge.outs.getD 0 default)).1).time))||(Q5 l (((K6 l.state.deps (l.edge.outs.getD 0 default)).1).ins) (Ky l))))))))
def DC (s':Ak) (edge:Int):Bool×Int:=
 (bif (!(EK s')) then (false,(1900:Int)) else (bif decide (edge<(0:Int)) then (false,(1900:Int)) else (bif decide (((s'.graph.edges.length:Nat):Int)≤edge) then (false,(1900:Int)) else (bif (UR (D4 [(s'.graph.edges.getD edge.toNat default).ins,(s'.graph.edges.getD edge.toNat default).implicit,(s'.graph.edges.getD edge.toNat default).order]) (fun z0=>Lz (⟨s',(s'.graph.edges.getD edge.toNat default)⟩:Aa) z0)) then (false,(1901:Int)) else ((QP (⟨s',(s'.graph.edges.getD edge.toNat default)⟩:Aa)),(0:Int))))))
def IM (s':Ak) (x2:Int):List ByteArray→Nat→(List Bool)→Lp (List Bool×Int) ((List Bool))
 | [],v70,row3=>Lp.brk row3
 |x3::rest,v70,row3=>(bif decide ((0:Int)≤(Ep s'.graph x3)) then (bif (row3.getD ((Ep s'.graph x3).toNat) default) then IM s' x2 rest (v70+1) (row3.set x2.toNat true) else IM s' x2 rest (v70+1) row3) else IM s' x2 rest (v70+1) row3)
def KQ (s':Ak):List Int→Nat→(List Bool)→Lp (List Bool×Int) ((List Bool))
 | [],v50,row2=>Lp.brk row2
 |x2::rest,v50,row2=>(match IM s' x2 (D4 [(s'.graph.edges.getD x2.toNat default).ins,(s'.graph.edges.getD x2.toNat default).implicit]) 0 row2 with
 |Lp.ret r=>Lp.ret r
 |Lp.brk row4'=>KQ s' rest (v50+1) row4')
def PG (s':Ak):List Bool→Nat→(List Bool)→Lp (List Bool×Int) ((List Bool))
 | [],v25,row=>Lp.brk row
 |x1::rest,v25,row=>(bif (!decide ((DC s' ((v25:Nat):Int)).2=(0:Int))) then Lp.ret (([]:List Bool),(DC s' ((v25:Nat):Int)).2) else PG s' rest (v25+1) (row.set v25 ((DC s' ((v25:Nat):Int)).1)))
def Es (s':Ak):List Bool×Int:=
 (bif (!(EK s')) then (([]:List Bool),(1900:Int)) else (match PG s' (List.replicate s'.graph.edges.length false) 0 (List.replicate s'.graph.edges.length false) with
 |Lp.ret r=>r
 |Lp.brk row'=>(match KQ s' ((GX (⟨s'.graph.edges,s'.graph.pools,s'.graph.defaults⟩:Al)).1) 0 row' with
 |Lp.ret r=>r
 |Lp.brk row5'=>(row5',(0:Int)))))
def N9 (name:ByteArray) (content:Int) (d:Ag):List A3→Nat→Bool→(List A3)→Lp (Ag×Int) (Bool×(List A3))
 | [],i,in',cell=>Lp.brk (in',cell)
 |x1::rest,i,in',cell=>(bif (!in') then (bif (!Op.bytesLess x1.name.toList name.toList) then (bif (!decide (x1.name=name)) then N9 name content d rest (i+1) true ((cell++[(⟨name,content,(IntKind.wrap .i64 (d.clock+(1:Int)))⟩:A3)])++[x1]) else N9 name content d rest (i+1) true (cell++[(⟨name,content,(IntKind.wrap .i64 (d.clock+(1:Int)))⟩:A3)])) else (bif (!decide (x1.name=name)) then N9 name content d rest (i+1) in' (cell++[x1]) else N9 name content d rest (i+1) in' cell)) else (bif (!decide (x1.name=name)) then N9 name content d rest (i+1) in' (cell++[x1]) else N9 name content d rest (i+1) in' cell))
def HV (d:Ag) (name:ByteArray) (content:Int):Ag×Int:=
 (bif (!(J2 d)) then ((⟨(0:Int),[]⟩:Ag),(1200:Int)) else (bif (!(Ie name)) then ((⟨(0:Int),[]⟩:Ag),(1200:Int)) else (bif (!(JY content (0:Int) (2147483647:Int))) then ((⟨(0:Int),[]⟩:Ag),(1200:Int)) else (match N9 name content d d.files 0 false [] with
 |Lp.ret r=>r
 |Lp.brk (inv',cell')=>(bif (!inv') then (bif decide ((1048576:Int)<(IntKind.wrap .i64 (d.clock+(1:Int)))) then ((⟨(0:Int),[]⟩:Ag),(1201:Int)) else (bif decide ((64:Int)<(((cell'++[(⟨name,content,(IntKind.wrap .i64 (d.clock+(1:Int)))⟩:A3)]).length:Nat):Int)) then ((⟨(0:Int),[]⟩:Ag),(1201:Int)) else ((⟨(IntKind.wrap .i64 (d.clock+(1:Int))),(cell'++[(⟨name,content,(IntKind.wrap .i64 (d.clock+(1:Int)))⟩:A3)])⟩:Ag),(0:Int)))) else (bif decide ((1048576:Int)<(IntKind.wrap .i64 (d.clock+(1:Int)))) then ((⟨(0:Int),[]⟩:Ag),(1201:Int)) else (bif decide ((64:Int)<((cell'.length:Nat):Int)) then ((⟨(0:Int),[]⟩:Ag),(1201:Int)) else ((⟨(IntKind.wrap .i64 (d.clock+(1:Int))),cell'⟩:Ag),(0:Int)))))))))
def Gx:Ak:=
 AN
def CP:Ak:=
 (⟨(⟨Gx.graph.edges,Gx.graph.pools,Gx.graph.defaults⟩:Al),Gx.actions,(⟨(8:Int),Pk.files⟩:Ag),[Bu,Bt,Cb,Dv],[QL],Gx.jobs,Gx.going,[]⟩:Ak)
def KS:Bool:=
 ((DC AN (1:Int)).1&&(decide ((DG ((DC AN (1:Int)).2))=(0:Int))&&((Lx ((Es AN).1) [true,true,true])&&(decide ((DG ((Es AN).2))=(0:Int))&&(decide ((DG ((DC (⟨CO,[BN],(⟨(4:Int),(([AC,AE,AF,AD].take [AC,AE,AF,AD].length).drop 1)⟩:Ag),[],[],(2:Int),false,[]⟩:Ak) (1:Int)).2))=(1901:Int))&&(decide ((DG ((DC AN (3:Int)).2))=(1900:Int))&&decide ((DG ((Es (⟨Fl,[BN],(⟨(4:Int),(([AC,AE,AF,AD].take [AC,AE,AF,AD].length).drop 1)⟩:Ag),[],[],(2:Int),false,[]⟩:Ak)).2))=(1900:Int))))))))
def dz (which:Int):Int:=(IntKind.wrap .i64 ((IntKind.wrap .u64 which).tmod (6:Int)))
def dc (x':Int):Int:=K3 .and .i64 x' (255:Int)
def K5 (z:Int):ByteArray:=[(⟨#[97,46,99]⟩:ByteArray),(⟨#[98,46,99]⟩:ByteArray),(⟨#[122,46,104]⟩:ByteArray),(⟨#[108,105,98]⟩:ByteArray),(⟨#[97,46,104]⟩:ByteArray),(⟨#[110,111,110,101]⟩:ByteArray)].getD z.toNat default
def Q4 (z:Int):List Bool:=[[true,true,false],[true,false,true],[true,true,false],[true,false,false],[true,true,false],[false,false,false]].getD z.toNat default
def Ls (which x':Int):Ak:=(⟨(⟨CP.graph.edges,CP.graph.pools,CP.graph.defaults⟩:Al),CP.actions,(⟨((HV (⟨CP.disk.clock,CP.disk.files⟩:Ag) (K5 (dz which)) (dc x')).1).clock,((HV (⟨CP.disk.clock,CP.disk.files⟩:Ag) (K5 (dz which)) (dc x')).1).files⟩:Ag),CP.log,CP.deps,CP.jobs,CP.going,CP.status⟩:Ak)
theorem Qx (w:Int):0≤dz w∧dz w<6∧dz w≤5:=by
 have h0:0≤IntKind.wrap .u64 w:=by
  unfold IntKind.wrap;simp only [IntKind.signed];first|(simp;omega)|omega|exact Int.emod_nonneg _ (by decide)
 unfold dz
 rw [Int.tmod_eq_emod_of_nonneg h0,E8 (by omega) (by omega)];omega
def Tu (which:Int) (x':Int):Bool:=
 (!(!KS)&&(decide ((DG ((Es (Ls which x')).2))=(0:Int))&&(Lx ((Es (Ls which x')).1) (Q4 (dz which)))))
end
end Go.Lift
namespace Go.Lift
noncomputable section
open Go Go.RowKit
theorem HE {α:Type} {sz:α→Nat} (h: ∀x,1≤sz x) (xs:List α):xs.length+1≤I2 sz xs:=by
 unfold I2
 induction xs with
 |nil=>simp
 |cons x xs ih=>have:=h x;simp only [List.map_cons,List.sum_cons,List.length_cons];omega
theorem Mx {α:Type} {sz:α→Nat} {x:α}: ∀ {xs:List α},x∈xs→sz x+1≤I2 sz xs
 | [],h=>by simp at h
 |y::ys,h=>by
  unfold I2
  simp only [List.map_cons,List.sum_cons]
  rcases List.mem_cons.1 h with rfl|h
  ·omega
  ·have:=Mx (sz:=sz) h;unfold I2 at this;omega
theorem Vk {α:Type} [Inhabited α] {sz:α→Nat} {xs:List α} {i:Nat} (h:i<xs.length):sz (xs.getD i default)+1≤I2 sz xs:=
 Mx (List.mem_of_getElem? (getD_some h))
theorem Ek (xs:List ByteArray):xs.length+1≤I2 (fun s:ByteArray=>s.size+1) xs:=HE (fun _=>Nat.le_add_left 1 _) xs
theorem At.sz_one (e:At):1≤e.sz:=by unfold At.sz;omega
theorem Qd (d:At):d.sz=I2 (fun s:ByteArray=>s.size+1) d.outs+I2 (fun s:ByteArray=>s.size+1) d.ins+I2 (fun s:ByteArray=>s.size+1) d.implicit+I2 (fun s:ByteArray=>s.size+1) d.order+(d.command.size+1)+1+(d.pool.size+1)+1:=rfl
theorem Al.sz_len (g:Al):g.edges.length≤g.sz:=Nat.le_trans (Nat.le_of_succ_le (HE At.sz_one g.edges)) g.sz_edges
theorem TB (g:Al) (i:Int):Ni g i≤g.sz:=by
 unfold Ni
 by_cases h:i.toNat<g.edges.length
 ·have h1:=Vk (sz:=At.sz) h
  have h2:=g.sz_edges
  generalize g.edges.getD i.toNat default=e at*
  have a:=Ek e.ins;have b:=Ek e.implicit;have c:=Ek e.order
  rw [Qd] at h1
  omega
 ·rw [List.getD_eq_getElem?_getD,List.getElem?_eq_none (by omega)]
  show (0+0+0:Nat)≤_
  omega
theorem OL: ∀es:List At,Rf es≤I2 At.sz es
 | []=>Nat.zero_le _
 |e::es=>by
  have:=OL es
  have a:=Ek e.outs;have b:=e.sz_outs
  unfold I2 at*
  simp only [Rf,List.map_cons,List.sum_cons] at*
  omega
theorem V2 (g:Al):Rf g.edges≤g.sz:=Nat.le_trans (OL _) g.sz_edges
theorem and_le (x m:Int) (h0:0≤m) (hm:m<4611686018427387904):0≤K3 .and .i64 x m∧K3 .and .i64 x m≤m:=by
 obtain ⟨n,rfl⟩: ∃n:Nat,m=((n:Nat):Int):=⟨m.toNat,by omega⟩
 have h:(BitVec.ofInt IntKind.i64.bits x&&&BitVec.ofInt IntKind.i64.bits ((n:Nat):Int)).toNat≤n:=by
  rw [BitVec.toNat_and]
  refine Nat.le_trans Nat.and_le_right ?_
  rw [BitVec.ofInt_natCast,BitVec.toNat_ofNat]
  exact Nat.mod_le _ _
 unfold K3
 simp only
 rw [E8 (by omega) (by omega)]
 omega
end
end Go.Lift
namespace Go.Lift
noncomputable section
open Go Go.RowKit
theorem Kn {α:Type} {p:α→Bool} {L:List α→Nat→Lp Bool Unit} (h0: ∀i,L [] i=Lp.brk ()) (h1: ∀x r i,L (x::r) i=bif !(p x) then Lp.ret false else L r (i+1)): ∀(l:List α) (i:Nat),L l i=if l.all p then Lp.brk () else Lp.ret false
 | [],i=>by rw [h0];rfl
 |x::r,i=>by
  rw [h1,Kn h0 h1 r (i+1),List.all_cons]
  cases p x<;>simp
theorem CB (xs ys:List ByteArray) (k:Nat):Cu (xs++ys) k=Cu xs k+Cu ys k:=by
 induction xs with
 |nil=>simp [Cu]
 |cons x xs ih=>simp only [List.cons_append,Cu,ih];omega
theorem EP (xs:List ByteArray) (n k:Nat):Cu (xs.take n) k≤Cu xs k:=by
 have:=CB (xs.take n) (xs.drop n) k
 rw [List.take_append_drop] at this
 omega
theorem Mj (l:List UInt8) (i:Nat):Ma l i=if l.all FS then Lp.brk () else Lp.ret false:=
 Kn (p:=FS) (fun _=>rfl) (fun x r i=>by
  rw [Ma,SY]
  have e:LD (x.toNat:Int)=NE x.toNat:=by
   unfold LD NE
   cases decide ((97:Int)≤(x.toNat:Int))<;>cases decide ((x.toNat:Int)≤122)<;>rfl
  rw [e]
  generalize NE x.toNat=a
  generalize decide ((x.toNat:Int)=46)=b
  generalize decide ((x.toNat:Int)=95)=c
  generalize decide ((x.toNat:Int)=45)=d
  generalize decide ((x.toNat:Int)=47)=f
  cases a<;>cases b<;>cases c<;>cases d<;>cases f<;>rfl) l i
theorem EG (s:ByteArray):Kp s=GC s:=by
 unfold Kp
 rw [Mj,R8]
 cases s.data.toList.all FS<;>rfl
theorem SJ {s:ByteArray} (h:GC s=true):1≤s.size∧s.size≤16:=by
 rw [R8] at h
 simp only [Bool.and_eq_true,decide_eq_true_eq] at h
 omega
theorem LL {s:ByteArray} (h:Kp s=true):1≤s.size∧s.size≤16:=SJ (by rw [←EG];exact h)
theorem Mk {s:ByteArray} (h:(!(Kp s))=false):1≤s.size∧s.size≤16:=LL (by simpa using h)
def Lp.val {α:Type}:Lp α α→α
 | .ret a=>a
 | .brk a=>a
theorem JA (s:ByteArray) (c:Int): ∀(k:Nat) (out:List ByteArray) (f i:Nat),Cu out 1≤f→f≤i→i≤s.size+1→Cu (Ly s c k out f i).val 1≤s.size+1
 |0,out,f,i,h1,h2,h3=>by simp only [Ly,Lp.val];omega
 |k+1,out,f,i,h1,h2,h3=>by
  rw [Ly]
  by_cases h:((i:Nat):Int)≤((s.size:Nat):Int)
  ·rw [decide_eq_true h,cond_true]
   cases (decide (((i:Nat):Int)=((s.size:Nat):Int))||decide (((s.data.getD i 0).toNat:Int)=c))
   ·exact JA s c k out f (i+1) h1 (by omega) (by omega)
   ·refine JA s c k _ (i+1) (i+1) ?_ (Nat.le_refl _) (by omega)
    rw [CB]
    simp only [Cu,ByteArray.size_extract]
    omega
  ·rw [decide_eq_false h,cond_false]
   simp only [Lp.val];omega
theorem NF (s:ByteArray) (c:Int):Cu (Ji s c) 1≤s.size+1:=by
 have:=JA s c (s.size+1-0+1) [] 0 0 (Nat.le_refl _) (Nat.le_refl _) (Nat.zero_le _)
 unfold Ji
 cases e:Ly s c (s.size+1-0+1) [] 0 0<;>rw [e] at this<;>exact this
theorem Sd {s:ByteArray} {c:Int} {kept:List ByteArray} {n:Nat} (h:s.size≤16) (hk:Cu kept 1+n≤Cu (Ji s c) 1):Cu kept (⟨#[47]⟩:ByteArray).size≤281474976710656:=by
 have:=NF s c
 show Cu kept 1≤_
 omega
theorem OB: ∀(xs:List (List ByteArray)) (i n:Nat),Tw xs i n=Lp.brk (n+xs.flatten.length)
 | [],i,n=>by simp [Tw]
 |x::xs,i,n=>by rw [Tw,OB xs];simp [Nat.add_assoc]
theorem OC: ∀(xs:List (List ByteArray)) (i:Nat) (out:List ByteArray),KV xs i out=Lp.brk (out++xs.flatten)
 | [],i,n=>by simp [KV]
 |x::xs,i,n=>by rw [KV,OC xs];simp [List.append_assoc]
theorem JQ (xs:List (List ByteArray)):D4 xs=xs.flatten:=by
 simp only [D4,OB,OC,List.take_zero,List.nil_append]
theorem T1 {g:Al} (h:(!decide ((HT g)=(0:Int)))=false):g.edges.length≤16:=by
 have h1:HT g=0:=by simpa using h
 unfold HT Jb at h1
 split at h1
 ·simp at h1
 ·rename_i hm
  have hm':LE (Le g)=true:=by simpa using hm
  simp only [LE,Bool.and_eq_true,decide_eq_true_eq,Le,List.length_map] at hm'
  have:=hm'.2.1;omega
theorem SF (f:At→Bool): ∀(xs:List At) (i:Nat),m_u f xs i=Lp.brk ()∨ ∃r:Nat,m_u f xs i=Lp.ret (r:Int)∧i≤r∧r<i+xs.length
 | [],i=>Or.inl rfl
 |x::xs,i=>by
  rw [m_u]
  cases f x
  ·simp only [cond_false]
   rcases SF f xs (i+1) with h|⟨r,h,h1,h2⟩
   ·exact Or.inl h
   ·exact Or.inr ⟨r,h,by omega,by simp only [List.length_cons];omega⟩
  ·exact Or.inr ⟨i,rfl,Nat.le_refl _,by simp⟩
theorem QY (g:Al) (s:ByteArray):Ep g s<(g.edges.length:Int)∧ -1≤Ep g s:=by
 unfold Ep m_7
 rcases SF (fun z0=>QU z0 s) g.edges 0 with h|⟨r,h,h1,h2⟩
 ·rw [h];exact ⟨by show (-1:Int)<_;omega,Int.le_refl _⟩
 ·rw [h];exact ⟨by show (r:Int)<_;omega,by show (-1:Int)≤r;omega⟩
def inG (g:Al) (k:Int):Prop:=0≤k∧k.toNat<g.edges.length
theorem UV (g:Al): ∀(xs:List (List Int)) (i:Nat) (c:List Int),i+xs.length≤g.edges.length→(∀k∈c,inG g k)→ ∃t c',Nf xs i c=Lp.brk (t,c')∧(∀k∈c',inG g k)∧c'.length≤c.length+1
 | [],i,c,_,h=>⟨_,_,rfl,h,by omega⟩
 |x::xs,i,c,hl,h=>by
  simp only [List.length_cons] at hl
  rw [Nf]
  cases (!(HU ((i:Nat):Int) c))
  ·exact UV g xs (i+1) c (by omega) h
  ·simp only [cond_true]
   cases (!(TY x (fun z0=>Md z0 (fun z0=>HU z0 c))))
   ·exact UV g xs (i+1) c (by omega) h
   ·refine ⟨_,_,rfl,?_,by simp⟩
    intro k hk
    rcases List.mem_append.1 hk with hk|hk
    ·exact h k hk
    ·rw [List.mem_singleton.1 hk];exact ⟨by omega,by omega⟩
theorem of_L2 (g:Al) (row:List (List Int)) (hr:row.length≤g.edges.length): ∀(f:Nat) (c:List Int),(∀k∈c,inG g k)→(∃c',O9 g row f c=Lp.brk c'∧(∀k∈c',inG g k)∧(c.length≤g.edges.length→c'.length≤g.edges.length))∨O9 g row f c=Lp.ret (([]:List Int),(1001:Int))
 |0,c,h=>Or.inl ⟨c,rfl,h,id⟩
 |f+1,c,h=>by
  rw [O9]
  cases hd:decide (((c.length:Nat):Int)<((g.edges.length:Nat):Int))
  ·exact Or.inl ⟨c,rfl,h,id⟩
  ·have hd':=of_decide_eq_true hd
   obtain ⟨t,c',e,a,l⟩:=UV g row 0 c (by omega) h
   simp only [cond_true,e]
   cases t
   ·exact Or.inr rfl
   ·rcases of_L2 g row hr f c' a with ⟨c2,h1,h2,h3⟩|h1
    ·exact Or.inl ⟨c2,h1,h2,fun _=>h3 (by omega)⟩
    ·exact Or.inr h1
theorem of_L1 (g:Al): ∀(xs:List (List Int)) (i:Nat) (row:List (List Int)),∃row',Ne g xs i row=Lp.brk row'∧row'.length=row.length
 | [],i,row=>⟨_,rfl,rfl⟩
 |x::xs,i,row=>by
  rw [Ne]
  obtain ⟨r,e,a⟩:=of_L1 g xs (i+1) (row.set i (Hj g ((i:Nat):Int)))
  exact ⟨r,e,by simpa using a⟩
theorem of_mem {g:Al} {k:Int} (h:k∈(GX g).1):0≤k∧k.toNat<g.edges.length:=by
 unfold GX at h
 cases hc:(!decide ((HT g)=(0:Int)))
 ·rw [hc] at h
  simp only [cond_false] at h
  obtain ⟨row,e,a⟩:=of_L1 g (List.replicate g.edges.length ([]:List Int)) 0 (List.replicate g.edges.length ([]:List Int))
  rw [e] at h
  simp only at h
  rcases of_L2 g row (by rw [a];simp) (g.edges.length-0+1) [] (by simp) with ⟨c,e2,b,_⟩|e2
  ·rw [e2] at h;exact b k h
  ·rw [e2] at h;simp at h
 ·rw [hc] at h;simp at h
end
end Go.Lift
namespace Go.Lift
noncomputable section
open Go Go.RowKit
theorem LP (c:UInt8): ∀l:List UInt8,BI c l≠ []
 | []=>by simp [BI]
 |b::l=>by
  rw [BI]
  split
  ·simp
  ·cases h:BI c l<;>simp
theorem KK (s:ByteArray) (f i:Nat):(s.extract f i).data.toList=(s.data.toList.take i).drop f:=by
 rw [ByteArray.data_extract,Array.toList_extract,List.extract_eq_take_drop,List.take_drop]
 by_cases h:f≤i
 ·rw [show f+(i-f)=i by omega]
 ·rw [show f+(i-f)=f by omega,List.drop_of_length_le (by simp;omega),List.drop_of_length_le (by simp;omega)]
theorem HZ (s:ByteArray): ∀(k:Nat) (out:List ByteArray) (f i:Nat),f≤i→i≤s.size→s.size+1-i<k→
  Ly s 47 k out f i=Lp.brk (out++(match BI 47 (s.data.toList.drop i) with| []=>[]|p::r=>Fa ((s.data.toList.take i).drop f++p)::r.map Fa))
 |0,_,_,_,_,_,h=>by omega
 |k+1,out,f,i,h1,h2,h3=>by
  have hl:=Ew s
  rw [Ly,decide_eq_true (by omega),cond_true]
  by_cases hi:i=s.size
  ·subst hi
   rw [decide_eq_true rfl,Bool.true_or,cond_true]
   obtain ⟨k',rfl⟩: ∃k',k=k'+1:=⟨k-1,by omega⟩
   rw [Ly,decide_eq_false (by omega),cond_false,List.drop_of_length_le (by omega)]
   simp only [BI,List.append_nil,List.map_nil]
   rw [←KK,JC]
  ·have hlt:i<s.data.toList.length:=by omega
   have hd:s.data.toList.drop i=s.data.getD i 0::s.data.toList.drop (i+1):=by
    rw [List.drop_eq_getElem_cons hlt]
    congr 1
    have:i<s.data.size:=by rw [←Array.length_toList];exact hlt
    simp only [Array.getD,this,dif_pos];simp
   have ht:s.data.toList.take (i+1)=s.data.toList.take i++[s.data.getD i 0]:=by
    rw [List.take_add_one,List.getElem?_eq_getElem hlt]
    have:i<s.data.size:=by rw [←Array.length_toList];exact hlt
    simp only [Array.getD,this,dif_pos];simp
   rw [decide_eq_false (by omega),Bool.false_or,hd,BI]
   by_cases hb:s.data.getD i 0=47
   ·rw [if_pos hb,decide_eq_true (by rw [hb];rfl),cond_true,HZ s k _ (i+1) (i+1) (Nat.le_refl _) (by omega) (by omega)]
    simp only [List.append_assoc,List.append_nil,List.singleton_append]
    rw [show Fa ((s.data.toList.take i).drop f)=s.extract f i from by rw [←KK];rfl]
    congr 3
    cases h:BI 47 (s.data.toList.drop (i+1)) with
    |nil=>exact absurd h (LP _ _)
    |cons p r=>simp only [List.map_cons];rw [List.drop_of_length_le (by simp;omega),List.nil_append]
   ·have hn: ¬((s.data.getD i 0).toNat:Int)=47:=fun h=>hb (by
      apply UInt8.toNat_inj.1;show _=47;omega)
    rw [if_neg hb,decide_eq_false hn,cond_false,HZ s k out f (i+1) (by omega) (by omega) (by omega)]
    congr 2
    cases h:BI 47 (s.data.toList.drop (i+1)) with
    |nil=>exact absurd h (LP _ _)
    |cons p r=>
     simp only
     rw [ht,List.drop_append_of_le_length (by simp;omega),List.append_assoc];rfl
theorem Oh (s:ByteArray):Ji s 47=(BI 47 s.data.toList).map Fa:=by
 unfold Ji
 rw [HZ s _ [] 0 0 (Nat.le_refl _) (Nat.zero_le _) (by omega)]
 simp only [List.drop_zero,List.nil_append,List.take_zero]
 cases h:BI 47 s.data.toList with
 |nil=>exact absurd h (LP _ _)
 |cons p r=>rfl
theorem EB: ∀(ps:List ByteArray) (i:Nat) (kept:List ByteArray),LA ps i kept=match Je ps kept with
  |none=>Lp.ret ((⟨#[]⟩:ByteArray),(200:Int))
  |some k=>Lp.brk k
 | [],i,kept=>rfl
 |p::ps,i,kept=>by
  rw [LA,Je,JB]
  by_cases h1:p=⟨#[]⟩
  ·rw [decide_eq_true h1,cond_true,if_pos (Or.inl h1),EB ps];rfl
  ·rw [decide_eq_false h1,cond_false]
   by_cases h2:p=⟨#[46]⟩
   ·rw [decide_eq_true h2,cond_true,if_pos (Or.inr h2),EB ps];rfl
   ·rw [decide_eq_false h2,cond_false,if_neg (by rintro (h|h);exact h1 h;exact h2 h)]
    by_cases h3:p=⟨#[46,46]⟩
    ·rw [decide_eq_true h3,cond_true,if_neg (fun h=>h h3)]
     by_cases h4:kept=[]
     ·subst h4;rfl
     ·rw [decide_eq_false (by cases kept with
       |nil=>exact absurd rfl h4
       |cons a b=>simp only [List.length_cons];omega),cond_false,if_neg h4,EB ps,List.dropLast_eq_take];rfl
    ·rw [decide_eq_false h3,cond_false,if_pos h3,EB ps];rfl
theorem L5: ∀(xs:List ByteArray) (i:Nat) (acc:ByteArray),0<i→Na ⟨#[47]⟩ xs i acc=Lp.brk (Fa (acc.data.toList++Lib.joinTail [47] (xs.map (·.data.toList))))
 | [],i,acc,_=>by
   rw [Na];simp only [Lib.joinTail,List.map_nil,List.flatten_nil,List.append_nil];rfl
 |x::xs,i,acc,h=>by
  rw [Na,decide_eq_true (by omega),cond_true,L5 xs (i+1) _ (by omega)]
  congr 2
  simp [Lib.joinTail]
theorem PQ (k:ByteArray) (ks:List ByteArray):E2 (k::ks) ⟨#[47]⟩=QF (k::ks):=by
 unfold E2 QF
 rw [Na,decide_eq_false (by omega),cond_false,L5 ks 1 _ (by omega)]
 simp only [List.map_cons,Lib.join_cons]
 show Fa _=_
 unfold Fa
 congr 2
theorem L4 (s:ByteArray):KW s=BH s:=by
 unfold KW BH
 rw [EG]
 cases hm:GC s
 ·simp
 ·have hz:=SJ hm
  have hl:=Ew s
  have hh:s.data.toList.head? =some (s.data.getD 0 0):=by
   cases hs:s.data.toList with
   |nil=>rw [hs] at hl;simp at hl;omega
   |cons a b=>
    have:0<s.data.size:=by show 0<s.size;omega
    simp only [Array.getD,this,dif_pos,List.head?_cons]
    have e:s.data.toList[0]? =some a:=by rw [hs];rfl
    rw [Array.getElem?_toList] at e
    rw [Array.getElem?_eq_getElem this] at e
    exact e.symm
  simp only [Bool.not_true,cond_false,Bool.true_eq_false,false_or,hh]
  by_cases hb:s.data.getD 0 0=47
  ·rw [decide_eq_true (by rw [hb];rfl),cond_true,if_pos (by rw [hb])]
  ·have hn: ¬((s.data.getD 0 0).toNat:Int)=47:=fun h=>hb (by
     apply UInt8.toNat_inj.1;show _=47;omega)
   rw [decide_eq_false hn,cond_false,if_neg (by simpa using hb),Oh,EB]
   cases Je ((BI 47 s.data.toList).map Fa) [] with
   |none=>rfl
   |some k=>
    cases k with
    |nil=>rfl
    |cons k ks=>
     simp only
     rw [decide_eq_false (by simp only [List.length_cons];omega),cond_false,PQ]
theorem IY (s:ByteArray):Ie s=S1 s:=by
 unfold Ie S1;rw [L4]
theorem G6 (xs:List ByteArray):O6 xs=Ki ⟨false,xs⟩:=by
 unfold O6 Ki
 rw [Kn (p:=S1) (L:=m_cc) (fun _=>rfl) (fun x r i=>by rw [m_cc,IY]) xs 0]
 cases xs.all S1<;>simp
theorem G7 (l:List UInt8) (i:Nat):Tr l i=if l.all EN then Lp.brk () else Lp.ret false:=
 Kn (p:=EN) (L:=Tr) (fun _=>rfl) (fun x r i=>by
  rw [Tr]
  have e:EN x=(!decide ((x.toNat:Int)<32)&& !decide ((126:Int)<(x.toNat:Int))):=by
   unfold EN
   congr 1
   ·rw [←decide_not];congr 1;apply propext;omega
   ·rw [←decide_not];congr 1;apply propext;omega
  rw [e]
  cases decide ((x.toNat:Int)<32)<;>cases decide ((126:Int)<(x.toNat:Int))<;>rfl) l i
theorem Ml (s:ByteArray):S7 s 1 256=Fj s:=by
 unfold S7 Fj LJ
 rw [G7]
 have e:decide ((1:Int)≤((s.size:Nat):Int))= !decide (s=⟨#[]⟩):=by
  rw [←decide_not];congr 1;apply propext
  constructor
  ·rintro h rfl;exact absurd h (by decide)
  ·intro h
   have:s.size≠0:=fun h0=>h (by
    apply Pd
    have:=Ew s
    rw [h0] at this
    rw [List.length_eq_zero_iff.1 this])
   omega
 cases s.data.toList.all EN
 ·simp
 ·simp only [if_true,e,Bool.true_and]
theorem Mi (e:At):H2 e=FL (Pn e):=by
 unfold H2 FL Pn
 simp only [G6,Ml,EG,List.all_cons,List.all_nil,Bool.and_true]
 have h:decide ((0:Int)<((e.outs.length:Nat):Int))=decide (((e.outs.length:Nat):Int)>0):=rfl
 rw [h]
 generalize decide (((e.outs.length:Nat):Int)>0)=a
 generalize Ki ⟨false,e.outs⟩=b
 generalize Ki ⟨false,e.ins⟩=c
 generalize Ki ⟨false,e.implicit⟩=d
 generalize Ki ⟨false,e.order⟩=f
 cases a<;>cases b<;>cases c<;>cases d<;>cases f<;>simp
theorem S3 {α:Type} {p:α→Bool} {L:List α→Nat→Lp Int Unit} (h0: ∀i,L [] i=Lp.brk ()) (h1: ∀x r i,L (x::r) i=bif p x then Lp.ret ((i:Nat):Int) else L r (i+1)): ∀(l:List α) (i:Nat),L l i=match l.findIdx? p with
  |some j=>Lp.ret (((i+j:Nat)):Int)
  |none=>Lp.brk ()
 | [],i=>by rw [h0];rfl
 |x::r,i=>by
  rw [h1,S3 h0 h1 r (i+1),List.findIdx?_cons]
  cases p x
  ·simp only [cond_false,Bool.false_eq_true,if_false]
   cases r.findIdx? p with
   |none=>rfl
   |some j=>simp only [Option.map_some];congr 2;omega
  ·rfl
theorem UG {α β:Type} (f:α→β) (p:β→Bool) (q:α→Bool) (h: ∀x,p (f x)=q x) (xs:List α):IJ p (xs.map f)=IJ q xs:=by
 unfold IJ
 rw [List.findIdx?_map]
 have:p∘f=q:=funext h
 rw [this]
theorem Js (g:Al) (name:ByteArray):Gd g.pools name=GD (Le g) name:=by
 unfold Gd GD
 rw [S3 (p:=fun p:BM=>decide (p.name=name)) (L:=Eg name) (fun _=>rfl) (fun x r i=>by rw [Eg]) g.pools 0]
 rw [show (Le g).pools=g.pools.map pOf from rfl,UG pOf _ (fun p=>decide (p.name=name)) (fun x=>rfl)]
 unfold IJ
 cases g.pools.findIdx? (fun p=>decide (p.name=name)) with
 |none=>rfl
 |some j=>simp
theorem MH {α β:Type} (f:α→β) (p:Nat→β→Bool) (q:Nat→α→Bool) (h: ∀i x,p i (f x)=q i x): ∀(i:Nat) (xs:List α),FR p i (xs.map f)=FR q i xs
 |_,[]=>rfl
 |i,x::xs=>by simp only [List.map_cons,FR,h,MH f p q h (i+1) xs]
theorem OJ {α:Type} {p:Nat→α→Bool} {L:List α→Nat→Lp Bool Unit} (h0: ∀i,L [] i=Lp.brk ()) (h1: ∀x r i,L (x::r) i=bif !(p i x) then Lp.ret false else L r (i+1)): ∀(l:List α) (i:Nat),L l i=if FR p i l then Lp.brk () else Lp.ret false
 | [],i=>by rw [h0];rfl
 |x::r,i=>by
  rw [h1,OJ h0 h1 r (i+1),FR]
  cases p i x<;>simp
def L3 (g:Al) (k:Nat) (p:BM):Bool:=Kv (Le g) k (pOf p)
theorem JZ (g:Al) (l:List BM) (i:Nat):UP g l i=if FR (L3 g) i l then Lp.brk () else Lp.ret false:=
 OJ (p:=L3 g) (L:=UP g) (fun _=>rfl) (fun x r i=>by
  rw [UP,EG,Js]
  have e:L3 g i x=(GC x.name&& !decide (x.depth<1)&& !decide ((8:Int)<x.depth)&&decide (GD (Le g) x.name=((i:Nat):Int))):=rfl
  rw [e]
  cases GC x.name<;>cases decide (x.depth<1)<;>cases decide ((8:Int)<x.depth)<;>cases decide (GD (Le g) x.name=((i:Nat):Int))<;>rfl) l i
theorem K0 (g:Al) (l:List At) (i:Nat):Tt g l i=if l.all (fun e=>EJ (Le g) (Pn e)) then Lp.brk () else Lp.ret false:=
 Kn (p:=fun e=>EJ (Le g) (Pn e)) (L:=Tt g) (fun _=>rfl) (fun x r i=>by
  rw [Tt,Mi,Js]
  have e:EJ (Le g) (Pn x)=(FL (Pn x)&&(decide (x.pool=(⟨#[]⟩:ByteArray))|| !decide (GD (Le g) x.pool<0))):=rfl
  rw [e]
  cases FL (Pn x)<;>cases decide (x.pool=(⟨#[]⟩:ByteArray))<;>cases decide (GD (Le g) x.pool<0)<;>rfl) l i
theorem Ir (g:Al):GB g=QW g:=by
 unfold GB QW LE HX
 rw [JZ,K0,G6]
 rw [show (Le g).edges=g.edges.map Pn from rfl,show (Le g).pools=g.pools.map pOf from rfl,List.all_map,List.length_map,List.length_map,MH pOf _ (L3 g) (fun _ _=>rfl)]
 rw [show (Le g).defaults=⟨false,g.defaults⟩ from rfl]
 rw [show (EJ (Le g)∘Pn)=(fun e=>EJ (Le g) (Pn e)) from rfl]
 cases FR (L3 g) 0 g.pools<;>cases g.edges.all (fun e=>EJ (Le g) (Pn e))<;>simp
 cases decide (((g.pools.length:Nat):Int)≤4)<;>cases decide (((g.edges.length:Nat):Int)≤16)<;>simp
theorem HB (xs:List ByteArray) (x:ByteArray):(x∈xs→EM xs x=true)∧(x∉xs→EM xs x=false):=by
 have h: ∀(l:List ByteArray) (i:Nat),(x∈l→Ey x l i=Lp.ret true)∧(x∉l→Ey x l i=Lp.brk ()):=by
  intro l;induction l with
  |nil=>intro i;exact ⟨fun h=>by simp at h,fun _=>rfl⟩
  |cons y l ih=>
   intro i
   rw [Ey]
   by_cases hy:y=x
   ·subst hy;rw [decide_eq_true rfl,cond_true];exact ⟨fun _=>rfl,fun h=>absurd (List.mem_cons_self) h⟩
   ·rw [decide_eq_false hy,cond_false]
    refine ⟨fun h=>(ih (i+1)).1 ?_,fun h=>(ih (i+1)).2 fun h2=>h (List.mem_cons_of_mem _ h2)⟩
    rcases List.mem_cons.1 h with h|h
    ·exact absurd h.symm hy
    ·exact h
 unfold EM
 exact ⟨fun hx=>by rw [(h xs 0).1 hx],fun hx=>by rw [(h xs 0).2 hx]⟩
theorem Iq: ∀(l:List ByteArray) (k:Nat) (acc:List ByteArray),acc.Nodup→EE l k acc=if (acc++l).Nodup then Lp.brk (acc++l) else Lp.ret 901
 | [],k,acc,h=>by rw [List.append_nil,if_pos h];rfl
 |x::l,k,acc,h=>by
  rw [EE]
  by_cases hx:x∈acc
  ·rw [(HB acc x).1 hx,cond_true,if_neg]
   intro hn
   rw [List.nodup_append] at hn
   exact hn.2.2 x hx x (by simp) rfl
  ·rw [(HB acc x).2 hx,cond_false,Iq l (k+1) (acc++[x]) (by
    rw [List.nodup_append]
    exact ⟨h,by simp,fun a ha b hb=>by simp only [List.mem_singleton] at hb;subst hb;rintro rfl;exact hx ha⟩),List.append_assoc,List.singleton_append]
theorem G5: ∀(es:List At) (i:Nat) (acc:List ByteArray),acc.Nodup→ED es i acc=if (acc++es.flatMap (·.outs)).Nodup then Lp.brk () else Lp.ret 901
 | [],i,acc,h=>by rw [List.flatMap_nil,List.append_nil,if_pos h];rfl
 |e::es,i,acc,h=>by
  rw [ED,Iq _ _ _ h,List.flatMap_cons,←List.append_assoc]
  by_cases hn:(acc++e.outs).Nodup
  ·rw [if_pos hn]
   simp only
   rw [G5 es (i+1) _ hn]
  ·rw [if_neg hn]
   simp only
   rw [if_neg]
   intro h2
   rw [List.nodup_append] at h2
   exact hn h2.1
theorem K9 (g:Al):GR g=HT g:=by
 unfold GR HT Jb
 rw [Ir]
 show _=if QW g=false then _ else _
 cases QW g
 ·rfl
 ·rw [G5 _ _ _ List.nodup_nil,List.nil_append]
  have e:D3 (Le g).edges=g.edges.flatMap (·.outs):=by
   unfold D3
   rw [show (Le g).edges=g.edges.map Pn from rfl,List.flatMap_map];rfl
  rw [e]
  have hd:=Km ((g.edges.flatMap (·.outs)).map fun x=>x.data.toList)
  have hn:((g.edges.flatMap (·.outs)).map fun x=>x.data.toList).Nodup↔(g.edges.flatMap (·.outs)).Nodup:=by
   constructor
   ·intro h;exact List.Pairwise.of_map (fun x:ByteArray=>x.data.toList) (fun a b hh hab=>hh (by rw [hab])) h
   ·intro h;exact List.Pairwise.map _ (fun a b hab hh=>hab (Pd hh)) h
  by_cases h:(g.edges.flatMap (·.outs)).Nodup
  ·rw [if_pos h]
   have:HR ((g.edges.flatMap (·.outs)).map fun x=>x.data.toList)=false:=by
    cases hh:HR ((g.edges.flatMap (·.outs)).map fun x=>x.data.toList)
    ·rfl
    ·exact absurd (hn.2 h) (hd.1 hh)
   rw [this];rfl
  ·rw [if_neg h]
   have:HR ((g.edges.flatMap (·.outs)).map fun x=>x.data.toList)=true:=hd.2 (fun hh=>h (hn.1 hh))
   rw [this];rfl
end
end Go.Lift
namespace Go.Lift
noncomputable section
open Go Go.RowKit
def R9 (g:Al) (n:ByteArray):Int:=IJ (fun e=>Lib.containsS e.outs n) g.edges
theorem mkD_in (g:Al) (x:ByteArray):R9 g x= -1∨ ∃i e,R9 g x=((i:Nat):Int)∧g.edges[i]? =some e∧x∈e.outs:=by
 unfold R9 IJ
 cases h:g.edges.findIdx? (fun e=>Lib.containsS e.outs x) with
 |none=>exact Or.inl rfl
 |some i=>
  obtain ⟨hi,h2,_⟩:=List.findIdx?_eq_some_iff_getElem.1 h
  exact Or.inr ⟨i,g.edges[i],rfl,List.getElem?_eq_getElem hi,(Lib.containsS_iff _ _).1 h2⟩
end
end Go.Lift
namespace Go.Lift
noncomputable section
open Go Go.RowKit
theorem RM (g:Al):HT g=if QW g=false then 900 else if (g.edges.flatMap (·.outs)).Nodup then 0 else 901:=by
 rw [←K9]
 unfold GR
 rw [Ir]
 cases QW g
 ·rfl
 ·rw [G5 _ _ _ List.nodup_nil,List.nil_append]
  by_cases h:(g.edges.flatMap (·.outs)).Nodup
  ·rw [if_pos h,if_pos h];rfl
  ·rw [if_neg h,if_neg h];rfl
end
end Go.Lift
namespace Go.Lift
noncomputable section
open Go Go.RowKit
theorem Ho {α:Type} {p:α→Bool} {L:List α→Nat→Lp Int Unit} (h0: ∀i,L [] i=Lp.brk ()) (h1: ∀x r i,L (x::r) i=bif p x then Lp.ret ((i:Nat):Int) else L r (i+1)) (l:List α):
  (match L l 0 with|Lp.ret r=>r|Lp.brk ()=>(-1:Int))=IJ p l:=by
 rw [S3 h0 h1 l 0];unfold IJ
 cases l.findIdx? p with
 |none=>rfl
 |some j=>simp
theorem ES {α:Type} (p:α→Bool) (l:List α):decide ((0:Int)≤IJ p l)=l.any p:=by
 unfold IJ
 cases h:l.findIdx? p with
 |none=>
  have:=List.findIdx?_eq_none_iff.1 h
  rw [show l.any p=false from by simpa using this];rfl
 |some j=>
  obtain ⟨hj,h2,_⟩:=List.findIdx?_eq_some_iff_getElem.1 h
  rw [List.any_eq_true.2 ⟨l[j],List.getElem_mem hj,h2⟩]
  simp
theorem Pi (xs:List ByteArray) (v:ByteArray):S5 xs v=Lib.containsS xs v:=by
 unfold S5 QR
 refine (congrArg (fun z=>decide ((0:Int)≤z)) (Ho (p:=fun y=>decide (v=y)) (fun _=>rfl) (fun _ _ _=>rfl) xs)).trans ?_
 rw [ES]
 cases hc:Lib.containsS xs v
 ·rw [List.any_eq_false]
  intro y hy e
  have:v=y:=by simpa using e
  subst this
  rw [(Lib.containsS_iff _ _).2 hy] at hc;cases hc
 ·exact List.any_eq_true.2 ⟨v,(Lib.containsS_iff _ _).1 hc,by simp⟩
theorem KG (xs:List Int) (v:Int):TX xs v=xs.contains v:=by
 unfold TX QQ
 refine (congrArg (fun z=>decide ((0:Int)≤z)) (Ho (p:=fun y=>decide (v=y)) (fun _=>rfl) (fun _ _ _=>rfl) xs)).trans ?_
 rw [ES]
 rw [Bool.eq_iff_iff];simp
theorem Lr (xs:List Int) (f:Int→Bool):TY xs f=xs.any f:=by
 unfold TY QS
 exact (congrArg (fun z=>decide ((0:Int)≤z)) (Ho (p:=f) (fun _=>rfl) (fun _ _ _=>rfl) xs)).trans (ES _ _)
theorem Tx (g:Al) (x:ByteArray):Ep g x=R9 g x:=by
 unfold Ep m_7 R9
 refine (Ho (p:=fun e=>QU e x) (fun _=>rfl) (fun _ _ _=>rfl) g.edges).trans ?_
 congr 1;funext e;exact Pi e.outs x
theorem has_str (xs:List ByteArray) (x:ByteArray):EM xs x=Lib.containsS xs x:=by
 cases hc:Lib.containsS xs x
 ·exact (HB xs x).2 fun h=>by rw [(Lib.containsS_iff _ _).2 h] at hc;cases hc
 ·exact (HB xs x).1 ((Lib.containsS_iff _ _).1 hc)
theorem QX (g:Al) (x:ByteArray):Tv g x=R9 g x:=by
 unfold Tv R9
 refine (Ho (p:=fun e=>EM e.outs x) (fun _=>rfl) (fun _ _ _=>rfl) g.edges).trans ?_
 congr 1;funext e;exact has_str e.outs x
def Pz (g:Al) (e:Int):List ByteArray:=(g.edges.getD e.toNat default).ins++((g.edges.getD e.toNat default).implicit++(g.edges.getD e.toNat default).order)
theorem GS (g:Al): ∀(xs:List ByteArray) (i:Nat) (out:List Int),∃out',O5 g xs i out=Lp.brk out'∧ ∀k,k∈out'↔k∈out∨(0≤k∧ ∃x∈xs,R9 g x=k)
 | [],i,out=>⟨out,rfl,fun k=>by simp⟩
 |x::xs,i,out=>by
  rw [O5,Tx,KG]
  by_cases h1:0≤R9 g x
  ·by_cases h2:R9 g x∈out
   ·obtain ⟨o,e1,e2⟩:=GS g xs (i+1) out
    refine ⟨o,by simp [h1,h2,e1],fun k=> ?_⟩
    rw [e2]
    constructor
    ·rintro (h|⟨h,y,hy,e⟩)
     ·exact Or.inl h
     ·exact Or.inr ⟨h,y,by simp [hy],e⟩
    ·rintro (h|⟨h,y,hy,e⟩)
     ·exact Or.inl h
     ·rcases List.mem_cons.1 hy with rfl|hy
      ·subst e;exact Or.inl h2
      ·exact Or.inr ⟨h,y,hy,e⟩
   ·obtain ⟨o,e1,e2⟩:=GS g xs (i+1) (out++[R9 g x])
    refine ⟨o,by simp [h1,h2,e1],fun k=> ?_⟩
    rw [e2,List.mem_append,List.mem_singleton]
    constructor
    ·rintro ((h|h)|⟨h,y,hy,e⟩)
     ·exact Or.inl h
     ·subst h;exact Or.inr ⟨h1,x,by simp,rfl⟩
     ·exact Or.inr ⟨h,y,by simp [hy],e⟩
    ·rintro (h|⟨h,y,hy,e⟩)
     ·exact Or.inl (Or.inl h)
     ·rcases List.mem_cons.1 hy with rfl|hy
      ·exact Or.inl (Or.inr e.symm)
      ·exact Or.inr ⟨h,y,hy,e⟩
  ·obtain ⟨o,e1,e2⟩:=GS g xs (i+1) out
   refine ⟨o,by simp [h1,e1],fun k=> ?_⟩
   rw [e2]
   constructor
   ·rintro (h|⟨h,y,hy,e⟩)
    ·exact Or.inl h
    ·exact Or.inr ⟨h,y,by simp [hy],e⟩
   ·rintro (h|⟨h,y,hy,e⟩)
    ·exact Or.inl h
    ·rcases List.mem_cons.1 hy with rfl|hy
     ·omega
     ·exact Or.inr ⟨h,y,hy,e⟩
theorem TC (g:Al) (e k:Int):k∈Hj g e↔0≤k∧ ∃x∈Pz g e,R9 g x=k:=by
 unfold Hj
 rw [JQ]
 obtain ⟨o,e1,e2⟩:=GS g ([(g.edges.getD e.toNat default).ins,(g.edges.getD e.toNat default).implicit,(g.edges.getD e.toNat default).order].flatten) 0 []
 rw [e1]
 show k∈o↔_
 rw [e2]
 simp [Pz]
theorem I0 (g:Al): ∀(xs:List ByteArray) (i:Nat) (out:List Int),∃out',UQ g xs i out=Lp.brk out'∧ ∀k,k∈out'↔k∈out∨(0≤k∧ ∃x∈xs,R9 g x=k)
 | [],i,out=>⟨out,rfl,fun k=>by simp⟩
 |x::xs,i,out=>by
  rw [UQ,QX]
  by_cases h1:0≤R9 g x
  ·obtain ⟨o,e1,e2⟩:=I0 g xs (i+1) (out++[R9 g x])
   refine ⟨o,by simp [h1,e1],fun k=> ?_⟩
   rw [e2,List.mem_append,List.mem_singleton]
   constructor
   ·rintro ((h|h)|⟨h,y,hy,e⟩)
    ·exact Or.inl h
    ·subst h;exact Or.inr ⟨h1,x,by simp,rfl⟩
    ·exact Or.inr ⟨h,y,by simp [hy],e⟩
   ·rintro (h|⟨h,y,hy,e⟩)
    ·exact Or.inl (Or.inl h)
    ·rcases List.mem_cons.1 hy with rfl|hy
     ·exact Or.inl (Or.inr e.symm)
     ·exact Or.inr ⟨h,y,hy,e⟩
  ·obtain ⟨o,e1,e2⟩:=I0 g xs (i+1) out
   refine ⟨o,by simp [h1,e1],fun k=> ?_⟩
   rw [e2]
   constructor
   ·rintro (h|⟨h,y,hy,e⟩)
    ·exact Or.inl h
    ·exact Or.inr ⟨h,y,by simp [hy],e⟩
   ·rintro (h|⟨h,y,hy,e⟩)
    ·exact Or.inl h
    ·rcases List.mem_cons.1 hy with rfl|hy
     ·omega
     ·exact Or.inr ⟨h,y,hy,e⟩
theorem Nz (g:Al) (e k:Int):k∈QT g e↔0≤k∧ ∃x∈Pz g e,R9 g x=k:=by
 unfold QT
 obtain ⟨o,e1,e2⟩:=I0 g (((g.edges.getD e.toNat default).ins++(g.edges.getD e.toNat default).implicit)++(g.edges.getD e.toNat default).order) 0 []
 rw [e1]
 show k∈o↔_
 rw [e2]
 simp [Pz]
theorem Nj (g:Al) (e k:Int):k∈Hj g e↔k∈QT g e:=by rw [TC,Nz]
theorem mkD_lt (g:Al) (x:ByteArray):R9 g x<(g.edges.length:Int):=by
 rcases mkD_in g x with h|⟨i,e,h,he,_⟩
 ·rw [h];omega
 ·rw [h];have:=(List.getElem?_eq_some_iff.1 he).1;omega
theorem NA {g:Al} {e k:Int} (h:k∈QT g e):0≤k∧k.toNat<g.edges.length:=by
 obtain ⟨h0,x,_,e1⟩:=(Nz g e k).1 h
 have:=mkD_lt g x
 omega
def IX (g:Al) (out:List Int) (i:Nat):Bool:= !(out.contains ((i:Nat):Int))&&(Hj g ((i:Nat):Int)).all fun k=>out.contains k
def LW (g:Al) (out:List Int):Option Nat:=(List.range g.edges.length).find? (IX g out)
def Mh (g:Al):Nat→List Int→Option (List Int)
 |0,out=>some out
 |f+1,out=>match LW g out with
  |some i=>Mh g f (out++[((i:Nat):Int)])
  |none=>none
theorem Rc (g:Al) (c:List Int): ∀(l i:Nat),Nf ((List.range' i l).map fun i=>Hj g ((i:Nat):Int)) i c=match (List.range' i l).find? (IX g c) with
  |some j=>Lp.brk (true,c++[((j:Nat):Int)])
  |none=>Lp.brk (false,c)
 |0,i=>rfl
 |l+1,i=>by
  rw [List.range'_succ,List.map_cons,Nf,Rc g c l (i+1),List.find?_cons]
  have e:(!(HU ((i:Nat):Int) c)&& !(TY (Hj g ((i:Nat):Int)) (fun z0=>Md z0 (fun z0=>HU z0 c))))=IX g c i:=by
   unfold IX HU Md
   rw [Lr]
   simp only [KG]
   congr 1
   rw [Bool.eq_iff_iff];simp
  rw [←e]
  cases (!(HU ((i:Nat):Int) c))<;>cases (!(TY (Hj g ((i:Nat):Int)) (fun z0=>Md z0 (fun z0=>HU z0 c))))<;>rfl
theorem Ra (g:Al): ∀(xs:List (List Int)) (i:Nat) (row:List (List Int)),i+xs.length≤row.length→ ∃row',Ne g xs i row=Lp.brk row'∧row'.length=row.length∧ ∀j,row'[j]? =if i≤j∧j<i+xs.length then some (Hj g ((j:Nat):Int)) else row[j]?
 | [],i,row,h=>⟨row,rfl,rfl,fun j=>by rw [if_neg (by simp)]⟩
 |x::xs,i,row,h=>by
  simp only [List.length_cons] at h
  obtain ⟨r,e1,e2,e3⟩:=Ra g xs (i+1) (row.set i (Hj g ((i:Nat):Int))) (by simp;omega)
  refine ⟨r,by rw [Ne];exact e1,by simpa using e2,fun j=> ?_⟩
  rw [e3,List.getElem?_set,List.length_cons]
  by_cases h1:i=j
  ·subst h1;rw [if_neg (by omega),if_pos rfl]
   have:i<row.length:=by omega
   simp [this]
  ·rw [if_neg h1]
   by_cases h2:i+1≤j∧j<i+1+xs.length
   ·rw [if_pos h2,if_pos (by omega)]
   ·rw [if_neg h2,if_neg (by omega)]
theorem of_rows (g:Al):Ne g (List.replicate g.edges.length ([]:List Int)) 0 (List.replicate g.edges.length ([]:List Int))=Lp.brk ((List.range' 0 g.edges.length).map fun i=>Hj g ((i:Nat):Int)):=by
 obtain ⟨r,e1,e2,e3⟩:=Ra g (List.replicate g.edges.length ([]:List Int)) 0 (List.replicate g.edges.length ([]:List Int)) (by simp)
 rw [e1];congr 1
 apply List.ext_getElem?
 intro j
 rw [e3,List.getElem?_map]
 simp only [List.length_replicate] at e2 ⊢
 by_cases h:j<g.edges.length
 ·rw [if_pos ⟨Nat.zero_le _,by omega⟩,List.getElem?_range' h];simp
 ·rw [if_neg (by omega),List.getElem?_eq_none (by simp;omega),List.getElem?_eq_none (by simp;omega)];rfl
theorem Rb (g:Al): ∀(f:Nat) (c:List Int),c.length≤g.edges.length→g.edges.length-c.length<f→O9 g ((List.range' 0 g.edges.length).map fun i=>Hj g ((i:Nat):Int)) f c=match Mh g (g.edges.length-c.length) c with
  |some o=>Lp.brk o
  |none=>Lp.ret (([]:List Int),(1001:Int))
 |0,c,h1,h2=>by omega
 |f+1,c,h1,h2=>by
  rw [O9]
  by_cases h:c.length<g.edges.length
  ·rw [decide_eq_true (by omega),cond_true,Rc,←List.range_eq_range']
   rw [show g.edges.length-c.length=(g.edges.length-(c.length+1))+1 by omega,Mh]
   show (match (match LW g c with|some j=>Lp.brk (true,c++[((j:Nat):Int)])|none=>Lp.brk (false,c):Lp (List Int×Int) (Bool×List Int)) with|Lp.ret r=>Lp.ret r|Lp.brk (t',c')=>_)=_
   cases hn:LW g c with
   |none=>rfl
   |some j=>
    simp only [cond_true]
    have:=Rb g f (c++[((j:Nat):Int)]) (by simp;omega) (by simp;omega)
    rw [List.length_append,List.length_singleton,←List.range_eq_range'] at this
    exact this
  ·rw [decide_eq_false (by omega),cond_false,show g.edges.length-c.length=0 by omega];rfl
theorem UW (g:Al):GX g=if HT g=0 then (match Mh g g.edges.length [] with|some o=>(o,(0:Int))|none=>(([]:List Int),(1001:Int))) else (([]:List Int),(1000:Int)):=by
 unfold GX
 by_cases h:HT g=0
 ·rw [if_pos h,decide_eq_true h]
  simp only [Bool.not_true,cond_false]
  rw [of_rows]
  simp only []
  rw [Rb g _ [] (Nat.zero_le _) (by simp)]
  simp only [List.length_nil,Nat.sub_zero]
  cases Mh g g.edges.length []<;>rfl
 ·rw [if_neg h,decide_eq_false h];rfl
inductive Steps (g:Al):List Int→Prop
 |nil:Steps g []
 |snoc {out:List Int} {i:Nat} (h:Steps g out) (hn:LW g out=some i):Steps g (out++[((i:Nat):Int)])
theorem Nq (g:Al): ∀(f:Nat) (out o:List Int),Steps g out→Mh g f out=some o→Steps g o∧o.length=out.length+f∧ ∃r,o=out++r
 |0,out,o,h,e=>by simp only [Mh,Option.some.injEq] at e;subst e;exact ⟨h,rfl,[],by simp⟩
 |f+1,out,o,h,e=>by
  simp only [Mh] at e
  split at e
  ·rename_i i hi
   obtain ⟨h1,h2,r,h3⟩:=Nq g f _ o (h.snoc hi) e
   exact ⟨h1,by rw [h2];simp;omega,[((i:Nat):Int)]++r,by rw [h3];simp⟩
  ·cases e
theorem of_steps {g:Al} (h:(GX g).2=0):Steps g (GX g).1∧(GX g).1.length=g.edges.length∧HT g=0:=by
 rw [UW] at h ⊢
 split at h<;>rename_i hc
 ·rw [if_pos hc]
  cases ho:Mh g g.edges.length [] with
  |none=>rw [ho] at h;simp at h
  |some o=>
   obtain ⟨h1,h2,_⟩:=Nq g _ _ _ .nil ho
   exact ⟨h1,by simpa using h2,hc⟩
 ·simp at h
theorem S9 {g:Al} {out:List Int} {i:Nat} (h:LW g out=some i):i<g.edges.length∧IX g out i=true∧ ∀k,k<i→IX g out k=false:=by
 unfold LW at h
 have h1:=List.mem_of_find?_eq_some h
 refine ⟨by simpa using h1,List.find?_some h,fun k hk=> ?_⟩
 have:=List.find?_range_eq_some.1 h
 simpa using this.2.2 k hk
end
end Go.Lift
namespace Go.Lift
noncomputable section
open Go Go.RowKit
end
end Go.Lift
namespace Go.Lift
noncomputable section
open Go Go.RowKit
def Ta (n:Nat) (out:List Int):List Bool:=(List.range n).map fun k=>out.contains ((k:Nat):Int)
theorem Pr {n k:Nat} (out:List Int) (h:k<n):(Ta n out).getD k default=out.contains ((k:Nat):Int):=by
 unfold Ta
 rw [List.getD_eq_getElem?_getD,List.getElem?_map,List.getElem?_range h];rfl
theorem flR_nil (n:Nat):Ta n []=List.replicate n false:=by
 apply List.ext_getElem?
 intro i
 unfold Ta
 rw [List.getElem?_map,List.getElem?_replicate]
 by_cases h:i<n
 ·rw [List.getElem?_range h,if_pos h];rfl
 ·rw [List.getElem?_eq_none (by simp;omega),if_neg h];rfl
theorem flR_set {n i:Nat} (out:List Int) (h:i<n):(Ta n out).set i true=Ta n (out++[((i:Nat):Int)]):=by
 apply List.ext_getElem?
 intro k
 unfold Ta
 rw [List.getElem?_set,List.getElem?_map,List.getElem?_map]
 by_cases hk:k<n
 ·rw [List.getElem?_range hk]
  simp only [List.length_map,List.length_range,Option.map_some]
  by_cases e:i=k
  ·subst e;rw [if_pos rfl,if_pos h];simp
  ·rw [if_neg e];congr 1;rw [Bool.eq_iff_iff];simp;omega
 ·rw [List.getElem?_eq_none (by simp;omega)]
  rw [if_neg (by omega)];rfl
theorem ro_key (g:Al) (out:List Int) (e:Int):(QT g e).all (fun k:Int=>(Ta g.edges.length out).getD k.toNat default)=(Hj g e).all fun k=>out.contains k:=by
 rw [Bool.eq_iff_iff,List.all_eq_true,List.all_eq_true]
 constructor
 ·intro h k hk
  have hk':=(Nj g e k).1 hk
  have h1:=h k hk'
  obtain ⟨m1,m2⟩:=NA hk'
  rw [Pr out m2,show ((k.toNat:Nat):Int)=k by omega] at h1
  exact h1
 ·intro h k hk
  have h1:=h k ((Nj g e k).2 hk)
  obtain ⟨m1,m2⟩:=NA hk
  rw [Pr out m2,show ((k.toNat:Nat):Int)=k by omega]
  exact h1
theorem Vd (row:List Bool): ∀(xs:List Int) (k:Nat) (b:Bool),Tq row xs k b=Lp.brk (b&&xs.all fun k=>row.getD k.toNat default)
 | [],k,b=>by simp [Tq]
 |x::r,k,b=>by
  rw [Tq]
  cases b
  ·rw [cond_false,Vd row r];rfl
  ·rw [cond_true,Vd row r,List.all_cons];rfl
theorem ro_L2 (g:Al) (out:List Int): ∀(j f:Nat) (next i:Int),i+1=((j:Nat):Int)→j≤g.edges.length→j<f→
  Tp (Ta g.edges.length out) g f next i=Lp.brk (match (List.range j).find? (IX g out) with|some k=>((k:Nat):Int)|none=>next)
 |0,0,_,_,_,_,hf=>by omega
 |0,f+1,next,i,hi,hl,hf=>by
  rw [Tp,decide_eq_false (by omega),cond_false];rfl
 |j+1,0,_,_,_,_,hf=>by omega
 |j+1,f+1,next,i,hi,hl,hf=>by
  obtain rfl:i=((j:Nat):Int):=by omega
  rw [Tp,decide_eq_true (by omega),cond_true,Vd]
  have hfr:(!(Ta g.edges.length out).getD ((j:Nat):Int).toNat default&&(QT g ((j:Nat):Int)).all fun k=>(Ta g.edges.length out).getD k.toNat default)=IX g out j:=by
   rw [ro_key,Int.toNat_natCast,Pr out (by omega)];rfl
  rw [hfr]
  have ih:=fun nx=>ro_L2 g out j f nx (((j:Nat):Int)-1) (by omega) (by omega) (by omega)
  rw [List.range_succ,List.find?_append]
  cases hp:IX g out j
  ·simp only [cond_false]
   rw [ih]
   cases (List.range j).find? (IX g out)<;>simp [hp]
  ·simp only [cond_true]
   rw [ih]
   cases (List.range j).find? (IX g out)<;>simp [hp]
theorem ro_L1 (g:Al): ∀(f:Nat) (c:List Int),c.length≤g.edges.length→g.edges.length-c.length<f→EF g f c (Ta g.edges.length c)=match Mh g (g.edges.length-c.length) c with
  |some o=>Lp.brk (o,Ta g.edges.length o)
  |none=>Lp.ret (([]:List Int),(1001:Int))
 |0,c,h1,h2=>by omega
 |f+1,c,h1,h2=>by
  rw [EF]
  by_cases h:c.length<g.edges.length
  ·rw [decide_eq_true (by omega),cond_true,ro_L2 g c g.edges.length _ _ _ (by omega) (Nat.le_refl _) (by omega)]
   rw [show g.edges.length-c.length=(g.edges.length-(c.length+1))+1 by omega,Mh]
   have hnp:(List.range g.edges.length).find? (IX g c)=LW g c:=rfl
   simp only [hnp]
   cases hn:LW g c with
   |none=>rfl
   |some j=>
    have hj:=(S9 hn).1
    simp only []
    rw [decide_eq_false (by omega),cond_false,Int.toNat_natCast,flR_set c hj]
    have:=ro_L1 g f (c++[((j:Nat):Int)]) (by simp;omega) (by simp;omega)
    rw [List.length_append,List.length_singleton] at this
    exact this
  ·rw [decide_eq_false (by omega),cond_false,show g.edges.length-c.length=0 by omega];rfl
theorem Og (g:Al):Ef g=GX g:=by
 rw [UW]
 unfold Ef
 rw [K9]
 by_cases h:HT g=0
 ·rw [if_pos h,decide_eq_true h]
  simp only [Bool.not_true,cond_false]
  rw [←flR_nil,ro_L1 g _ [] (Nat.zero_le _) (by simp)]
  simp only [List.length_nil,Nat.sub_zero]
  cases Mh g g.edges.length []<;>rfl
 ·rw [if_neg h,decide_eq_false h];rfl
end
end Go.Lift
namespace Go.Lift
noncomputable section
open Go Go.RowKit
theorem Ue (xs:List ByteArray):GQ xs 8=(xs.all (fun s=>EZ s)&&decide (((xs.length:Nat):Int)≤8)):=by
 unfold GQ
 rw [Kn (L:=S6) (p:=fun s=>EZ s) (fun _=>rfl) (fun _ _ _=>rfl)]
 cases xs.all (fun s=>EZ s)<;>rfl
end
end Go.Lift
namespace Go.Lift
noncomputable section
open Go Go.RowKit
end
end Go.Lift
namespace Go.Lift
noncomputable section
open Go Go.RowKit
theorem may_of {g:Al} (h:HT g=0):QW g=true:=by
 rw [RM] at h
 cases hm:QW g
 ·rw [hm] at h;simp at h
 ·rfl
theorem edge_ok {g:Al} (h:HT g=0) {e:At} (he:e∈g.edges):FL (Pn e)=true:=by
 have h0:((g.edges.map Pn).all (EJ (Le g))&&(decide (((g.edges.map Pn).length:Int)≤16)&&HX (Le g)&&Ki (Le g).defaults))=true:=may_of h
 rw [Bool.and_eq_true,List.all_eq_true] at h0
 have:=h0.1 (Pn e) (List.mem_map_of_mem he)
 unfold EJ at this
 rw [Bool.and_eq_true] at this
 exact this.1
theorem V3 {g:Al} (h:HT g=0) {e:At} (he:e∈g.edges):0<e.outs.length:=by
 have:=edge_ok h he
 unfold FL at this
 simp only [Bool.and_eq_true,decide_eq_true_eq] at this
 have h2:=this.2.1
 have:(Pn e).outs.xs=e.outs:=rfl
 rw [this] at h2;omega
theorem OM (s:ByteArray):EZ s=S1 s:=by
 unfold EZ S1;rfl
theorem Rj (xs:List ByteArray):O6 xs=GQ xs 8:=by
 rw [G6,Ue]
 unfold Ki
 have:(fun s=>EZ s)=S1:=funext OM
 rw [this]
end
end Go.Lift
namespace Go.Lift
noncomputable section
open Go Go.RowKit
end
end Go.Lift
namespace Go.Lift
noncomputable section
open Go Go.RowKit
theorem Ah.sz_one (e:Ah):1≤e.sz:=by unfold Ah.sz;omega
theorem A3.sz_one (e:A3):1≤e.sz:=by unfold A3.sz;omega
theorem A8.sz_one (e:A8):1≤e.sz:=by unfold A8.sz;omega
end
end Go.Lift
namespace Go.Lift
noncomputable section
open Go Go.RowKit
theorem Ko {α:Type} {p:α→Bool} {L:List α→Nat→Lp Bool Unit} (h0: ∀i,L [] i=Lp.brk ()) (h1: ∀x r i,L (x::r) i=bif !(p x) then Lp.ret false else L r (i+1)) (l:List α) (c:Bool):
  (match L l 0 with|Lp.ret r=>r|Lp.brk ()=>c)=(l.all p&&c):=by
 rw [Kn h0 h1 l 0]
 cases l.all p<;>rfl
theorem ON (s:ByteArray) (most:Int):S7 s 1 most=(!decide (s=(⟨#[]⟩:ByteArray))&&Ks s most):=by
 have hL: ∀(l:List UInt8) (i:Nat),QV l i=if l.all EN then Lp.brk () else Lp.ret false:=by
  intro l i
  rw [←G7 l i]
  induction l generalizing i with
  |nil=>rfl
  |cons x r ih=>rw [QV,Tr,ih]
 unfold S7 Ks
 rw [G7,hL]
 have e:decide ((1:Int)≤((s.size:Nat):Int))= !decide (s=(⟨#[]⟩:ByteArray)):=by
  rw [←decide_not];congr 1;apply propext
  constructor
  ·rintro h rfl;exact absurd h (by decide)
  ·intro h
   have:s.size≠0:=fun h0=>h (by
    apply Pd
    have:=Ew s
    rw [h0] at this
    rw [List.length_eq_zero_iff.1 this])
   omega
 cases s.data.toList.all EN
 ·simp
 ·simp only [if_true,e]
theorem Pc {α:Type} (p:α→Bool) (l:List α):(!l.any fun x=> !(p x))=l.all p:=by
 induction l with
 |nil=>rfl
 |cons x r ih=>rw [List.any_cons,List.all_cons,←ih];cases p x<;>rfl
theorem M6 (xs:List AJ) (f:AJ→Bool):m_n xs f=xs.any f:=by
 unfold m_n
 rw [show m_y xs f=IJ f xs from Ho (p:=f) (L:=m_s f) (fun _=>rfl) (fun x r i=>by rw [m_s]) xs]
 exact ES f xs
theorem M7 (xs:List A8) (f:A8→Bool):m_o xs f=xs.any f:=by
 unfold m_o
 rw [show m_z xs f=IJ f xs from Ho (p:=f) (L:=m_t f) (fun _=>rfl) (fun x r i=>by rw [m_t]) xs]
 exact ES f xs
theorem MQ (xs:List Ah) (f:Ah→Bool):m_q xs f=xs.any f:=by
 unfold m_q
 rw [show m_1 xs f=IJ f xs from Ho (p:=f) (L:=m_v f) (fun _=>rfl) (fun x r i=>by rw [m_v]) xs]
 exact ES f xs
theorem Ku (s:ByteArray):Ie s=EZ s:=by rw [IY,OM]
theorem NW (xs:List AJ):EL xs=O8 xs:=by
 unfold O8
 rw [show EL xs=(xs.all (fun a:AJ=>IL a.command&&GQ a.reads 8)&&decide (((xs.length:Nat):Int)≤(16:Int))) from Ko (p:=fun a:AJ=>IL a.command&&GQ a.reads 8) (L:=m_bz) (fun _=>rfl) (fun x r i=>by
  rw [m_bz,ON,Rj,show (!decide (x.command=(⟨#[]⟩:ByteArray))&&Ks x.command 256)=IL x.command from rfl]
  cases IL x.command<;>cases GQ x.reads 8<;>rfl) xs _,M6]
 have:(fun z0:AJ=>Nc z0)=fun a=> !(IL a.command&&GQ a.reads 8):=by
  funext a;unfold Nc;cases IL a.command<;>cases GQ a.reads 8<;>rfl
 rw [this,Pc,Bool.and_comm]
theorem PP (r:A8):Fm r=KT r:=by
 unfold Fm KT
 rw [Ku,ON];rfl
theorem Ti (xs:List A8):H1 xs=Kr xs:=by
 unfold Kr
 rw [show H1 xs=(xs.all KT&&decide (((xs.length:Nat):Int)≤(256:Int))) from Ko (p:=KT) (L:=m_ce) (fun _=>rfl) (fun x r i=>by
  rw [m_ce,PP]) xs _,M7]
 have:(fun z0:A8=>PE z0)=fun r=> !(KT r):=rfl
 rw [this,Pc,Bool.and_comm]
theorem QA (f:Ah):FX f=LC f:=by
 unfold FX LC
 rw [Ku,Rj];rfl
theorem RQ (xs:List Ah):Gz xs=KU xs:=by
 unfold KU
 rw [show Gz xs=(xs.all LC&&decide (((xs.length:Nat):Int)≤(256:Int))) from Ko (p:=LC) (L:=m_ca) (fun _=>rfl) (fun x r i=>by
  rw [m_ca,QA]) xs _,MQ]
 have:(fun z0:Ah=>PF z0)=fun r=> !(LC r):=rfl
 rw [this,Pc,Bool.and_comm]
theorem Sx (d:Ag) (x:A3) (i:Nat): ∀(j k f:Nat),k+j=i→i≤d.files.length→j<f→Mc i d x f k=if ((d.files.take i).drop k).any (fun y=>decide (y.time=x.time))=true then Lp.ret false else Lp.brk ()
 |0,k,0,_,_,hf=>absurd hf (by omega)
 |0,k,f+1,hk,hi,_=>by
  rw [Mc,decide_eq_false (by omega),List.drop_eq_nil_of_le (by simp;omega)];rfl
 |j+1,k,0,_,_,hf=>absurd hf (by omega)
 |j+1,k,f+1,hk,hi,hf=>by
  rw [Mc,decide_eq_true (by omega),cond_true,Sx d x i j (k+1) f (by omega) hi (by omega)]
  have hk2:k<(d.files.take i).length:=by simp;omega
  rw [List.drop_eq_getElem_cons hk2,List.any_cons]
  have e:d.files.getD k default=(d.files.take i)[k]:=by simp [show k<d.files.length by omega]
  rw [e]
  cases decide ((d.files.take i)[k].time=x.time)<;>rfl
theorem Sw (d:Ag): ∀(rest pre:List A3),d.files=pre++rest→O3 d rest pre.length=if Fk EZ d.clock rest (pre.map A3.time) pre.getLast? =true then Lp.brk () else Lp.ret false
 | [],pre,_=>by rw [O3];rfl
 |x::rest,pre,h=>by
  have hl:pre.length<d.files.length:=by rw [h];simp
  have ht:d.files.take pre.length=pre:=by rw [h];simp
  have h2:=Sx d x pre.length pre.length 0 (pre.length-0+1) (by omega) (by omega) (by omega)
  rw [ht,List.drop_zero] at h2
  have ih:=Sw d rest (pre++[x]) (by rw [h];simp)
  rw [List.length_append,List.length_singleton,List.map_append,List.map_singleton,List.getLast?_concat] at ih
  have ha:(pre.map A3.time).any (fun t=>decide (t=x.time))=pre.any (fun y=>decide (y.time=x.time)):=by rw [List.any_map];rfl
  rw [O3,h2,ih,Ku]
  unfold JY
  have hp0:pre=[]∨ ∃p y,pre=p++[y]:=by
   rcases List.eq_nil_or_concat pre with q|⟨p,y,q⟩
   ·exact Or.inl q
   ·exact Or.inr ⟨p,y,by simpa using q⟩
  rcases hp0 with rfl|⟨p,y,rfl⟩
  ·rw [decide_eq_false (show ¬((0:Int)<((([]:List A3).length:Nat):Int)) by simp),cond_false]
   rw [List.getLast?_nil,Fk.eq_2,ha]
   generalize Fk EZ d.clock rest (([]:List A3).map A3.time++[x.time]) (some x)=D
   simp only [List.any_nil]
   cases EZ x.name<;>cases decide ((0:Int)≤x.content)<;>cases decide (x.content≤2147483647)<;>cases decide ((1:Int)≤x.time)<;>cases decide (x.time≤d.clock)<;>cases D<;>rfl
  ·have hg:d.files.getD ((p++[y]).length-1) default=y:=by rw [h];simp
   rw [hg,decide_eq_true (show (0:Int)<(((p++[y]).length:Nat):Int) by simp),cond_true,List.getLast?_concat,Fk.eq_3,ha]
   generalize Fk EZ d.clock rest ((p++[y]).map A3.time++[x.time]) (some x)=D
   cases EZ x.name<;>cases decide ((0:Int)≤x.content)<;>cases decide (x.content≤2147483647)<;>cases decide ((1:Int)≤x.time)<;>cases decide (x.time≤d.clock)<;>cases Op.bytesLess y.name.toList x.name.toList<;>cases (p++[y]).any (fun y=>decide (y.time=x.time))<;>cases D<;>rfl
theorem RR (d:Ag):J2 d=Du EZ d:=by
 unfold J2 Du
 have:=Sw d d.files [] rfl
 rw [List.length_nil] at this
 rw [this]
 unfold JY
 simp only [List.map_nil,List.getLast?_nil]
 have e:decide (((d.files.length:Nat):Int)≤(64:Int))=decide (d.files.length≤64):=by simp;omega
 rw [e]
 cases Fk EZ d.clock d.files [] none<;>simp [Bool.and_assoc]
theorem LX (s:Ak):FY s=EK s:=by
 unfold FY EK
 rw [NW,Ti,RQ,show J2 (⟨s.disk.clock,s.disk.files⟩:Ag)=Du EZ s.disk from RR s.disk,show Ef (⟨s.graph.edges,s.graph.pools,s.graph.defaults⟩:Al)=GX s.graph from Og s.graph]
theorem OZ {e:Int} {n:Nat} (hn:n≤281474976710656):JY e 0 (IntKind.wrap .i64 (((n:Nat):Int)-(1:Int)))=(decide (0≤e)&&decide (e<((n:Nat):Int))):=by
 unfold JY
 rw [E8 (by omega) (by omega)]
 congr 1
 exact decide_eq_decide.2 (by omega)
end
end Go.Lift
namespace Go.Lift
noncomputable section
open Go Go.RowKit
def K4 (d:Ag):Bool:=
 (decide ((0:Int)≤d.clock)&&(decide (d.clock≤(1048576:Int))&&decide (((d.files.length:Nat):Int)≤(64:Int))))
def DZ (d:Ag) (ts:List Int) (x:A3) (i:Nat):Bool:=
 (!(!(EZ x.name))&&(!(!(O7 x.content))&&(!(decide (x.time<(1:Int)))&&(!(decide (d.clock<x.time))&&(!(ts.any (fun t=>decide (t=x.time)))&&(!(decide ((0:Int)<((i:Nat):Int)))||(!(!Op.bytesLess ((d.files.getD (i-1) default).name).toList x.name.toList))))))))
theorem LQ {α:Type} {l:List α} {i:Nat} {x:α} (h:l[i]? =some x):l.take (i+1)=l.take i++[x]:=by
 rw [List.take_add_one,h];rfl
theorem T5 {d:Ag} {ts:List Int} {x:A3} {i:Nat} (h:DZ d ts x i=true):ts.any (fun t=>decide (t=x.time))=false:=by
 unfold DZ at h
 simp only [Bool.and_eq_true,Bool.not_eq_true',Bool.not_not] at h
 exact h.2.2.2.2.1
theorem Ut (d:Ag):(true&&decide (0≤d.clock)&&decide (d.clock≤1048576)&&decide (d.files.length≤64))=K4 d:=by
 unfold K4
 have e:decide (((d.files.length:Nat):Int)≤(64:Int))=decide (d.files.length≤64):=decide_eq_decide.2 (by omega)
 rw [e]
 cases decide ((0:Int)≤d.clock)<;>cases decide (d.clock≤(1048576:Int))<;>simp
theorem T6 {d:Ag} {i:Nat} {x:A3} (hx:d.files[i]? =some x):
  Fk EZ d.clock (d.files.drop i) ((d.files.take i).map A3.time) (d.files.take i).getLast? =
   (DZ d ((d.files.take i).map A3.time) x i&&Fk EZ d.clock (d.files.drop (i+1)) ((d.files.take (i+1)).map A3.time) (d.files.take (i+1)).getLast?):=by
 have hl:i<d.files.length:=(List.getElem?_eq_some_iff.1 hx).1
 have h1:d.files.drop i=x::d.files.drop (i+1):=AY hx
 rw [h1,LQ hx,List.map_append,List.map_singleton,List.getLast?_concat]
 have a1:decide ((1:Int)≤x.time)= !(decide (x.time<(1:Int))):=by rw [←decide_not];exact decide_eq_decide.2 (by omega)
 have a2:decide (x.time≤d.clock)= !(decide (d.clock<x.time)):=by rw [←decide_not];exact decide_eq_decide.2 (by omega)
 have hd:O7 x.content=(decide ((0:Int)≤x.content)&&decide (x.content≤(2147483647:Int))):=rfl
 cases i with
 |zero=>
  simp only [List.take_zero,List.map_nil,List.getLast?_nil,List.nil_append]
  rw [Fk.eq_2]
  simp only [List.nil_append]
  generalize Fk EZ d.clock (d.files.drop (0+1)) [x.time] (some x)=D
  unfold DZ
  rw [hd,a1,a2,show decide ((0:Int)<((0:Nat):Int))=false from rfl]
  simp only [List.any_nil,List.nil_append]
  cases EZ x.name<;>cases decide ((0:Int)≤x.content)<;>cases decide (x.content≤(2147483647:Int))<;>cases decide (x.time<(1:Int))<;>cases decide (d.clock<x.time)<;>cases D<;>rfl
 |succ j=>
  have hj:d.files[j]? =some d.files[j]:=List.getElem?_eq_getElem (by omega)
  have hg:d.files.getD (j+1-1) default=d.files[j]:=by simp [show j<d.files.length by omega]
  have hla:(d.files.take (j+1)).getLast? =some d.files[j]:=by rw [LQ hj,List.getLast?_concat]
  rw [hla,Fk.eq_3]
  generalize Fk EZ d.clock (d.files.drop (j+1+1)) ((d.files.take (j+1)).map A3.time++[x.time]) (some x)=D
  unfold DZ
  rw [hd,a1,a2,hg,show decide ((0:Int)<((j+1:Nat):Int))=true from decide_eq_true (by omega)]
  cases EZ x.name<;>cases decide ((0:Int)≤x.content)<;>cases decide (x.content≤(2147483647:Int))<;>cases decide (x.time<(1:Int))<;>cases decide (d.clock<x.time)<;>cases ((d.files.take (j+1)).map A3.time).any (fun t=>decide (t=x.time))<;>cases Op.bytesLess d.files[j].name.toList x.name.toList<;>cases D<;>rfl
end
end Go.Lift
namespace Go.Lift
noncomputable section
open Go Go.RowKit
end
end Go.Lift
namespace Go.Lift
noncomputable section
open Go Go.RowKit
theorem Uj {i j:Int} {n:Nat} (h0:0≤i) (h:i<j) (h2:j≤((n:Nat):Int)) (hn:n≤1048576):
  IntKind.wrap .i64 (i+j)=i+j∧i≤IntKind.wrap .i64 (Int.fdiv (IntKind.wrap .u64 (IntKind.wrap .i64 (i+j))) (2^(min 1 IntKind.u64.bits)))∧IntKind.wrap .i64 (Int.fdiv (IntKind.wrap .u64 (IntKind.wrap .i64 (i+j))) (2^(min 1 IntKind.u64.bits)))<j∧
  IntKind.wrap .i64 (IntKind.wrap .i64 (Int.fdiv (IntKind.wrap .u64 (IntKind.wrap .i64 (i+j))) (2^(min 1 IntKind.u64.bits)))+1)=IntKind.wrap .i64 (Int.fdiv (IntKind.wrap .u64 (IntKind.wrap .i64 (i+j))) (2^(min 1 IntKind.u64.bits)))+1:=by
 have e1:IntKind.wrap .i64 (i+j)=i+j:=E8 (by omega) (by omega)
 have e2:IntKind.wrap .u64 (i+j)=i+j:=by
  unfold IntKind.wrap;simp only [IntKind.signed];first|(simp;omega)|omega|exact Int.emod_eq_of_lt (by omega) (by show _<(2:Int)^64;omega)
 have e3:Int.fdiv (i+j) (2^(min 1 IntKind.u64.bits))=(i+j) /2:=by
  show Int.fdiv (i+j) 2=(i+j) /2
  exact Int.fdiv_eq_ediv_of_nonneg _ (by decide)
 rw [e1,e2,e3]
 have e4:IntKind.wrap .i64 ((i+j) /2)=(i+j) /2:=E8 (by omega) (by omega)
 rw [e4]
 have e5:IntKind.wrap .i64 ((i+j) /2+1)=(i+j) /2+1:=E8 (by omega) (by omega)
 exact ⟨rfl,by omega,by omega,e5⟩
theorem Ui (cmp:A3→ByteArray→Int) (xs:List A3) (t:ByteArray) (hn:xs.length≤1048576): ∀(f:Nat) (i j:Int),0≤i→i≤j→j≤((xs.length:Nat):Int)→ ∃k,SH cmp xs t f i j=Lp.brk k∧0≤k∧k≤((xs.length:Nat):Int)
 |0,i,j,h0,h1,h2=>⟨i,by rw [SH],h0,by omega⟩
 |f+1,i,j,h0,h1,h2=>by
  rw [SH]
  by_cases h:i<j
  ·rw [decide_eq_true h]
   obtain ⟨m1,m2,m3,m4⟩:=Uj h0 h h2 hn
   rw [m4]
   generalize IntKind.wrap .i64 (Int.fdiv (IntKind.wrap .u64 (IntKind.wrap .i64 (i+j))) (2^(min 1 IntKind.u64.bits)))=m at*
   cases decide ((cmp (xs.getD m.toNat default) t)<(0:Int))
   ·exact Ui cmp xs t hn f i m h0 (by omega) (by omega)
   ·exact Ui cmp xs t hn f (m+1) j (by omega) (by omega) h2
  ·rw [decide_eq_false h];exact ⟨i,rfl,h0,by omega⟩
theorem V8 {d:Ag} {s:ByteArray} (hz:d.sz≤1048576) (h:(Iw d s).2=true):0≤(Iw d s).1∧(Iw d s).1.toNat<d.files.length:=by
 have hl:=HE A3.sz_one d.files
 have hl2:=d.sz_files
 unfold Iw Mv at h ⊢
 obtain ⟨k,e,h0,h1⟩:=Ui (fun z0 z1=>Gl z0 z1) d.files s (by omega) ((((d.files.length:Nat):Int)-(0:Int)).toNat+1) 0 ((d.files.length:Nat):Int) (Int.le_refl _) (by omega) (Int.le_refl _)
 rw [e] at h ⊢
 dsimp only at h ⊢
 by_cases hk:k<((d.files.length:Nat):Int)
 ·rw [decide_eq_true hk];show 0≤k∧k.toNat<_;omega
 ·rw [decide_eq_false hk] at h;cases h
theorem LV (sep:List UInt8) (hs:sep.length=1): ∀r:List ByteArray,(Lib.joinTail sep (r.map (·.data.toList))).length=(r.map fun s:ByteArray=>s.size+1).sum
 | []=>by simp [Lib.joinTail]
 |x::r=>by
  have ih:=LV sep hs r
  simp only [Lib.joinTail,List.map_cons,List.flatten_cons,List.length_append,List.sum_cons] at ih ⊢
  rw [ih,hs]
  have:x.data.toList.length=x.size:=by rw [Array.length_toList];rfl
  omega
theorem KN (xs:List ByteArray) (sep:ByteArray) (hs:sep.data.toList.length=1):(Ce xs sep).size≤I2 (fun s:ByteArray=>s.size+1) xs:=by
 show (Lib.join (xs.map (·.data.toList)) sep.data.toList).toArray.size≤_
 rw [List.size_toArray]
 cases xs with
 |nil=>simp [Lib.join_nil,I2]
 |cons x r=>
  rw [List.map_cons,Lib.join_cons,List.length_append,LV _ hs r]
  have:x.data.toList.length=x.size:=by rw [Array.length_toList];rfl
  simp only [I2,List.map_cons,List.sum_cons]
  omega
theorem Ru {e:At} (hz:e.sz≤1048576):(Ce e.outs ⟨#[32]⟩).size≤1048576∧(Ce e.ins ⟨#[32]⟩).size≤1048576∧(Ce e.implicit ⟨#[32]⟩).size≤1048576∧e.command.size≤1048576:=by
 have h1:=KN e.outs ⟨#[32]⟩ rfl
 have h2:=KN e.ins ⟨#[32]⟩ rfl
 have h3:=KN e.implicit ⟨#[32]⟩ rfl
 unfold At.sz at hz
 simp only at hz
 refine ⟨by omega,by omega,by omega,by omega⟩
theorem signs5 {e:At} (hz:e.sz≤1048576):(Ce [Ce e.outs (⟨#[32]⟩:ByteArray),Ce e.ins (⟨#[32]⟩:ByteArray),Ce e.implicit (⟨#[32]⟩:ByteArray),(bif e.deps then (⟨#[100]⟩:ByteArray) else (⟨#[110]⟩:ByteArray)),e.command] (⟨#[124]⟩:ByteArray)).size≤140737488355328:=by
 obtain ⟨h1,h2,h3,h4⟩:=Ru hz
 refine Nat.le_trans (KN _ _ rfl) ?_
 have h5:(bif e.deps then (⟨#[100]⟩:ByteArray) else (⟨#[110]⟩:ByteArray)).size≤1:=by cases e.deps<;>decide
 simp only [I2,List.map_cons,List.map_nil,List.sum_cons,List.sum_nil]
 omega
theorem TJ {s:Ak} {edge:Int} (hz:s.sz≤1048576) (h1:(!(FY s))=false) (h2:(!(JY edge (0:Int) (IntKind.wrap .i64 (((s.graph.edges.length:Nat):Int)-(1:Int)))))=false):
  0≤edge∧edge.toNat<s.graph.edges.length∧(s.graph.edges.getD edge.toNat default).sz≤1048576∧0<(s.graph.edges.getD edge.toNat default).outs.length:=by
 have hgl:=Nat.le_trans s.graph.sz_len (Nat.le_trans s.sz_graph hz)
 rw [OZ (by omega)] at h2
 simp only [Bool.not_eq_false',Bool.and_eq_true,decide_eq_true_eq] at h2
 have hlt:edge.toNat<s.graph.edges.length:=by omega
 have hd:EK s=true:=by rw [←LX];simpa using h1
 unfold EK at hd
 simp only [Bool.and_eq_true,decide_eq_true_eq] at hd
 have hc:HT s.graph=0:=by
  rcases Decidable.em (HT s.graph=0) with q|q
  ·exact q
  ·have:=hd.1;rw [UW,if_neg q] at this;exact absurd this (by decide)
 have hm:s.graph.edges.getD edge.toNat default∈s.graph.edges:=by
  have:s.graph.edges.getD edge.toNat default=s.graph.edges[edge.toNat]:=by simp [List.getD,hlt]
  rw [this];exact List.getElem_mem hlt
 have hs:=Mx (sz:=At.sz) hm
 have:=s.graph.sz_edges
 have:=s.sz_graph
 exact ⟨h2.1,hlt,by omega,V3 hc hm⟩
theorem N8 {α:Type} (p:α→Bool): ∀xs:List α,-1≤Ic p xs∧Ic p xs<((xs.length:Nat):Int)
 | []=>by simp [Ic]
 |x::xs=>by
  have ih:=N8 p xs
  simp only [Ic,List.length_cons]
  split
  ·omega
  ·split<;>omega
theorem QO (rs:List A8) (out:ByteArray): -1≤AR rs out∧AR rs out<((rs.length:Nat):Int):=N8 _ rs
theorem Jc (fs:List Ah) (out:ByteArray): -1≤Au fs out∧Au fs out<((fs.length:Nat):Int):=N8 _ fs
theorem MS {fs:List Ah} {out:ByteArray} (hz:I2 Ah.sz fs≤1048576) (h:0≤Au fs out):(fs.getD (Au fs out).toNat default).sz≤1048576:=by
 have hl:=(Jc fs out).2
 have hlt:(Au fs out).toNat<fs.length:=by omega
 have hm:fs.getD (Au fs out).toNat default∈fs:=by
  have:fs.getD (Au fs out).toNat default=fs[(Au fs out).toNat]:=by simp [List.getD,hlt]
  rw [this];exact List.getElem_mem hlt
 have:=Mx (sz:=Ah.sz) hm
 omega
theorem Do {s:Ak} {edge:Int} (hz:s.sz≤1048576) (h1:(!(EK s))=false) (h2:decide (edge<(0:Int))=false) (h3:decide (((s.graph.edges.length:Nat):Int)≤edge)=false):
  0≤edge∧edge.toNat<s.graph.edges.length∧(s.graph.edges.getD edge.toNat default).sz≤1048576∧0<(s.graph.edges.getD edge.toNat default).outs.length:=by
 have hgl:=Nat.le_trans s.graph.sz_len (Nat.le_trans s.sz_graph hz)
 have h2':=of_decide_eq_false h2
 have h3':=of_decide_eq_false h3
 refine TJ hz (by rw [LX];exact h1) ?_
 rw [OZ (by omega),decide_eq_true (by omega:0≤edge),decide_eq_true (by omega:edge<((s.graph.edges.length:Nat):Int))];rfl
theorem RP {s:Ak} {x:Int} (hz:s.sz≤1048576) (h1:(!(EK s))=false) (hx:x∈(GX (⟨s.graph.edges,s.graph.pools,s.graph.defaults⟩:Al)).1):
  0≤x∧x.toNat<s.graph.edges.length∧(s.graph.edges.getD x.toNat default).sz≤1048576∧(s.graph.edges.getD x.toNat default).ins.length+(s.graph.edges.getD x.toNat default).implicit.length≤1048576:=by
 obtain ⟨h0,hlt⟩:=of_mem (g:=s.graph) hx
 obtain ⟨_,_,h3,_⟩:=Do (edge:=x) hz h1 (decide_eq_false (by omega)) (decide_eq_false (by omega))
 refine ⟨h0,hlt,h3,?_⟩
 have hr1:=Ek (s.graph.edges.getD x.toNat default).ins
 have hr2:=Ek (s.graph.edges.getD x.toNat default).implicit
 generalize s.graph.edges.getD x.toNat default=e at*
 unfold At.sz at h3;simp only at h3;omega
theorem Ns {s:Ak} {edge:Int} (hz:s.sz≤1048576) (h1:(!(EK s))=false) (h2:decide (edge<(0:Int))=false) (h3:decide (((s.graph.edges.length:Nat):Int)≤edge)=false):
  (s.graph.edges.getD edge.toNat default).ins.length+(s.graph.edges.getD edge.toNat default).implicit.length+(s.graph.edges.getD edge.toNat default).order.length≤1048576:=by
 obtain ⟨_,_,h3,_⟩:=Do hz h1 h2 h3
 have hr1:=Ek (s.graph.edges.getD edge.toNat default).ins
 have hr2:=Ek (s.graph.edges.getD edge.toNat default).implicit
 have hr3:=Ek (s.graph.edges.getD edge.toNat default).order
 generalize s.graph.edges.getD edge.toNat default=e at*
 unfold At.sz at h3;simp only at h3;omega
theorem Sb {s:Ak} {edge:Int} (hz:s.sz≤1048576) (h1:(!(EK s))=false) (h2:decide (edge<(0:Int))=false) (h3:decide (((s.graph.edges.length:Nat):Int)≤edge)=false):
  0≤edge∧edge.toNat<s.graph.edges.length∧(D4 [(s.graph.edges.getD edge.toNat default).ins,(s.graph.edges.getD edge.toNat default).implicit,(s.graph.edges.getD edge.toNat default).order]).length≤1048576:=by
 obtain ⟨h4,h5,_,_⟩:=Do hz h1 h2 h3
 refine ⟨h4,h5,?_⟩
 have:=Ns hz h1 h2 h3
 rw [JQ]
 simp only [List.flatten_cons,List.flatten_nil,List.append_nil,List.length_append];omega
end
end Go.Lift
namespace Go.Lift
noncomputable section
open Go Go.RowKit
theorem Lw:KS=true:=by
 simp only [KS,DG]
 kernel_rfl
end
end Go.Lift
namespace Go.Lift
noncomputable section
open Go Go.RowKit
end
end Go.Lift
namespace Go.Lift
noncomputable section
open Go Go.RowKit
def NU (f:A3):Prop:=0≤f.content∧f.content≤2147483647
def PJ (f:A3):A3:=⟨f.name,0,f.time⟩
def Lf (s:Ak):Ak:=⟨s.graph,s.actions,⟨s.disk.clock,s.disk.files.map PJ⟩,s.log,s.deps,s.jobs,s.going,s.status⟩
theorem MT (pi:ByteArray→Bool) (c:Int): ∀(fs:List A3) (ts:List Int) (p:Option A3),(∀f∈fs,NU f)→Fk pi c fs ts p=Fk pi c (fs.map PJ) ts (p.map PJ)
 | [],ts,p,_=>by cases p<;>rfl
 |f::r,ts,p,h=>by
  obtain ⟨h1,h2⟩:=h f (by simp)
  simp only [List.map_cons,Fk]
  rw [decide_eq_true h1,decide_eq_true h2,MT pi c r _ _ (fun g hg=>h g (by simp [hg])),show decide (0≤(PJ f).content)=true from rfl,show decide ((PJ f).content≤2147483647)=true from rfl]
  cases p<;>rfl
theorem may_nc {s:Ak} (h: ∀f∈s.disk.files,NU f):EK s=EK (Lf s):=by
 have e:Du EZ s.disk=Du EZ (Lf s).disk:=by
  unfold Du
  rw [MT _ _ _ _ _ h]
  show _=(_&&decide ((s.disk.files.map PJ).length≤64))
  rw [List.length_map];rfl
 unfold EK
 rw [e];rfl
def Ri (s':Ak) (edge:Int):Bool×Int:=
 (bif decide (edge<(0:Int)) then (false,(1900:Int)) else (bif decide (((s'.graph.edges.length:Nat):Int)≤edge) then (false,(1900:Int)) else (bif (UR (D4 [(s'.graph.edges.getD edge.toNat default).ins,(s'.graph.edges.getD edge.toNat default).implicit,(s'.graph.edges.getD edge.toNat default).order]) (fun z0=>Lz (⟨s',(s'.graph.edges.getD edge.toNat default)⟩:Aa) z0)) then (false,(1901:Int)) else ((QP (⟨s',(s'.graph.edges.getD edge.toNat default)⟩:Aa)),(0:Int)))))
theorem own_may {s:Ak} (h:EK s=true) (e:Int):DC s e=Ri s e:=by
 unfold DC Ri;rw [h];rfl
def Ff (s:Ak):List Bool→Nat→List Bool→Lp (List Bool×Int) (List Bool)
 | [],_,row=>Lp.brk row
 |_::rest,v,row=>(bif (!decide ((Ri s ((v:Nat):Int)).2=(0:Int))) then Lp.ret (([]:List Bool),(Ri s ((v:Nat):Int)).2) else Ff s rest (v+1) (row.set v (Ri s ((v:Nat):Int)).1))
theorem MI {s:Ak} (h:EK s=true): ∀(xs:List Bool) (v:Nat) (row:List Bool),PG s xs v row=Ff s xs v row
 | [],v,row=>by rw [PG,Ff]
 |x::xs,v,row=>by rw [PG,Ff,own_may h,MI h xs]
def allM (s':Ak):List Bool×Int:=(match Ff s' (List.replicate s'.graph.edges.length false) 0 (List.replicate s'.graph.edges.length false) with
 |Lp.ret r=>r
 |Lp.brk row'=>(match KQ s' ((GX (⟨s'.graph.edges,s'.graph.pools,s'.graph.defaults⟩:Al)).1) 0 row' with
 |Lp.ret r=>r
 |Lp.brk row5'=>(row5',(0:Int))))
theorem Ss {s:Ak} (h:EK s=true):Es s=allM s:=by
 unfold Es allM;rw [h,MI h];rfl
def ncD (d:Ag):Ag:=⟨d.clock,d.files.map PJ⟩
theorem Py (fs:List A3) (k:Nat):(fs.map PJ).getD k default=PJ (fs.getD k default):=by
 simp only [List.getD,List.getElem?_map]
 cases fs[k]? <;>rfl
theorem Ug (fs:List A3) (t:ByteArray): ∀(k:Nat) (i j:Int),SH (fun z0 z1=>Gl z0 z1) (fs.map PJ) t k i j=SH (fun z0 z1=>Gl z0 z1) fs t k i j
 |0,i,j=>by rw [SH,SH]
 |k+1,i,j=>by
  have hp: ∀f:A3,Gl (PJ f) t=Gl f t:=fun _=>rfl
  simp only [SH,Py,hp,Ug fs t k]
theorem V7 (d:Ag) (n:ByteArray):Iw (ncD d) n=Iw d n:=by
 have hp: ∀f:A3,Gl (PJ f) n=Gl f n:=fun _=>rfl
 unfold Iw Mv ncD
 simp only [List.length_map,Ug,Py,hp]
theorem dmay_nc {d:Ag} (h: ∀f∈d.files,NU f):Du EZ (ncD d)=Du EZ d:=by
 unfold Du
 rw [MT _ _ _ _ _ h]
 show (_&&decide ((d.files.map PJ).length≤64))=_
 rw [List.length_map];rfl
theorem Ms {d:Ag} (h: ∀f∈d.files,NU f) (n:ByteArray):CK (ncD d) n=(PJ (CK d n).1,(CK d n).2):=by
 unfold CK
 rw [V7,dmay_nc h]
 show (bif (Iw d n).2 then (bif Du EZ d then ((⟨((d.files.map PJ).getD _ default).name,((d.files.map PJ).getD _ default).content,((d.files.map PJ).getD _ default).time⟩:A3),true) else _) else _)=_
 rw [Py]
 cases (Iw d n).2
 ·rfl
 ·cases Du EZ d<;>rfl
theorem S8 {s:Ak} (h: ∀f∈s.disk.files,NU f) (e:At) (n:ByteArray):Lz ⟨Lf s,e⟩ n=Lz ⟨s,e⟩ n:=by
 show (!(CK (ncD s.disk) n).2&&_)=_
 rw [Ms h];rfl
theorem TE {s:Ak} (h: ∀f∈s.disk.files,NU f) (e:At) (n:ByteArray) (t:Int):PD n ⟨Lf s,e⟩ t=PD n ⟨s,e⟩ t:=by
 show (!(CK (ncD s.disk) n).2||decide (t<((CK (ncD s.disk) n).1).time))=_
 rw [Ms h];rfl
theorem Nl {s:Ak} (h: ∀f∈s.disk.files,NU f) (e:At) (ss:List ByteArray) (t:Int):Q5 ⟨Lf s,e⟩ ss t=Q5 ⟨s,e⟩ ss t:=by
 unfold Q5
 simp only [TE h]
theorem Np {s:Ak} (h: ∀f∈s.disk.files,NU f) (e:At): ∀(xs:List ByteArray) (v:Nat) (o:Int),Mb ⟨Lf s,e⟩ xs v o=Mb ⟨s,e⟩ xs v o
 | [],v,o=>by rw [Mb,Mb]
 |x::xs,v,o=>by
  have e1:(⟨Lf s,e⟩:Aa).state.disk=ncD s.disk:=rfl
  have e2: ∀f:A3,(PJ f).time=f.time:=fun _=>rfl
  have e3:(⟨Lf s,e⟩:Aa).state.log=s.log:=rfl
  have e4:(⟨Lf s,e⟩:Aa).edge=e:=rfl
  rw [Mb,Mb]
  rw [e1,e3,e4,Ms h,e2,Np h e xs]
theorem TF {s:Ak} (h: ∀f∈s.disk.files,NU f) (e:At):Ky ⟨Lf s,e⟩=Ky ⟨s,e⟩:=by
 unfold Ky
 rw [Np h];rfl
theorem Us {s:Ak} (h: ∀f∈s.disk.files,NU f) (e:At):QP ⟨Lf s,e⟩=QP ⟨s,e⟩:=by
 have e1:(⟨Lf s,e⟩:Aa).state.disk=ncD s.disk:=rfl
 have e2: ∀f:A3,(PJ f).time=f.time:=fun _=>rfl
 unfold QP
 rw [e1,Ms h,TF h,Nl h,Nl h,Nl h,e2];rfl
theorem own_nc {s:Ak} (h: ∀f∈s.disk.files,NU f) (i:Int):Ri (Lf s) i=Ri s i:=by
 unfold Ri
 simp only [S8 h,Us h];rfl
theorem Sr {s:Ak} (h: ∀f∈s.disk.files,NU f): ∀(xs:List Bool) (v:Nat) (row:List Bool),Ff (Lf s) xs v row=Ff s xs v row
 | [],v,row=>by rw [Ff,Ff]
 |x::xs,v,row=>by rw [Ff,Ff,own_nc h,Sr h xs]
theorem So (s:Ak): ∀(xs:List Int) (v:Nat) (row:List Bool),KQ (Lf s) xs v row=KQ s xs v row
 | [],v,row=>by rw [KQ,KQ]
 |x::xs,v,row=>by
  have h3: ∀(ys:List ByteArray) (v:Nat) (row:List Bool),IM (Lf s) x ys v row=IM s x ys v row:=by
   intro ys
   induction ys with
   |nil=>intro v row;rw [IM,IM]
   |cons y ys ih=>intro v row;rw [IM,IM,ih,ih];rfl
  rw [KQ,KQ,h3]
  show (match IM s x _ 0 row with|Lp.ret r=>_|Lp.brk row4'=>KQ (Lf s) xs (v+1) row4')=_
  simp only [So s xs];rfl
theorem all_nc {s:Ak} (h: ∀f∈s.disk.files,NU f):Es (Lf s)=Es s:=by
 have hm:=may_nc h
 cases e:EK s with
 |false=>
  have e':EK (Lf s)=false:=by rw [←hm];exact e
  unfold Es;rw [e,e'];rfl
 |true=>
  rw [Ss e,Ss (by rw [←hm];exact e)]
  unfold allM
  rw [Sr h]
  simp only [So];rfl
theorem ok_set {fs:List A3} {i:Nat} {x:A3} (h: ∀f∈fs,NU f) (hx:NU x): ∀f∈fs.set i x,NU f:=fun f hf=>(List.mem_or_eq_of_mem_set hf).elim (h f) (fun e=>e ▸ hx)
theorem ok_ins {fs:List A3} {i:Nat} {x:A3} (h: ∀f∈fs,NU f) (hx:NU x): ∀f∈fs.take i++x::fs.drop i,NU f:=fun f hf=>by
 rcases List.mem_append.1 hf with q|q
 ·exact h f (List.mem_of_mem_take q)
 ·rcases List.mem_cons.1 q with q|q
  ·exact q ▸ hx
  ·exact h f (List.mem_of_mem_drop q)
theorem ok_dk: ∀f∈Pk.files,NU f:=by unfold NU;decide
theorem dc_ok (x:Int):0≤dc x∧dc x≤2147483647:=by have:=and_le x 255 (by decide) (by decide);unfold dc;omega
theorem upTo_c {c:Int} (h:0≤c∧c≤2147483647):JY c (0:Int) (2147483647:Int)=true:=by
 unfold JY;rw [decide_eq_true h.1,decide_eq_true h.2];rfl
def ddF (z:Int) (c:Int):List A3:=match z.toNat with
 |0=>Pk.files.set 0 ⟨K5 0,c,9⟩
 |1=>Pk.files.set 4 ⟨K5 1,c,9⟩
 |2=>Pk.files.set 7 ⟨K5 2,c,9⟩
 |3=>Pk.files.set 6 ⟨K5 3,c,9⟩
 |4=>Pk.files.set 2 ⟨K5 4,c,9⟩
 |_=>Pk.files.take 7++⟨K5 5,c,9⟩::Pk.files.drop 7
def T3 (z c:Int):Ak:=⟨CP.graph,CP.actions,⟨9,ddF z c⟩,CP.log,CP.deps,CP.jobs,CP.going,CP.status⟩
theorem P2 {z:Int} (h:0≤z∧z<6∧z≤5):z=0∨z=1∨z=2∨z=3∨z=4∨z=5:=by omega
theorem dd_put {z c:Int} (hz:0≤z∧z<6∧z≤5) (hc:0≤c∧c≤2147483647):(HV (⟨CP.disk.clock,CP.disk.files⟩:Ag) (K5 z) c).1=⟨9,ddF z c⟩:=by
 unfold HV
 rw [upTo_c hc]
 rcases P2 hz with rfl|rfl|rfl|rfl|rfl|rfl<;>kernel_rfl
theorem dn_eq (w x:Int):Ls w x=T3 (dz w) (dc x):=by
 unfold Ls T3;rw [dd_put (Qx w) (dc_ok x)]
theorem dd_ok {z c:Int} (hz:0≤z∧z<6∧z≤5) (hc:0≤c∧c≤2147483647): ∀f∈(T3 z c).disk.files,NU f:=by
 rcases P2 hz with rfl|rfl|rfl|rfl|rfl|rfl
 iterate 5 exact ok_set ok_dk hc
 exact ok_ins ok_dk hc
theorem dn_sz (w x:Int):(Ls w x).sz≤1048576:=by
 rw [dn_eq]
 rcases P2 (Qx w) with h|h|h|h|h|h<;>rw [h]<;>exact Nat.le_of_ble_eq_true (by kernel_rfl)
theorem dd_nc {z:Int} (c:Int) (hz:0≤z∧z<6∧z≤5):Lf (T3 z c)=Lf (T3 z 0):=by
 rcases P2 hz with rfl|rfl|rfl|rfl|rfl|rfl<;>kernel_rfl
theorem dd0:Es (Lf (T3 0 0))=(Q4 0,0):=by kernel_rfl
theorem dd1:Es (Lf (T3 1 0))=(Q4 1,0):=by kernel_rfl
theorem dd2:Es (Lf (T3 2 0))=(Q4 2,0):=by kernel_rfl
theorem dd3:Es (Lf (T3 3 0))=(Q4 3,0):=by kernel_rfl
theorem dd4:Es (Lf (T3 4 0))=(Q4 4,0):=by kernel_rfl
theorem dd5:Es (Lf (T3 5 0))=(Q4 5,0):=by kernel_rfl
theorem T4 {z:Int} (hz:0≤z∧z<6∧z≤5):Es (Lf (T3 z 0))=(Q4 z,0):=by
 rcases P2 hz with rfl|rfl|rfl|rfl|rfl|rfl
 exact dd0
 exact dd1
 exact dd2
 exact dd3
 exact dd4
 exact dd5
theorem dd_all {z c:Int} (hz:0≤z∧z<6∧z≤5) (hc:0≤c∧c≤2147483647):Es (T3 z c)=(Q4 z,0):=by
 rw [←all_nc (dd_ok hz hc),dd_nc c hz,T4 hz]
theorem Jg (w x:Int):Tu w x=true:=by
 unfold Tu
 rw [Lw,dn_eq,dd_all (Qx w) (dc_ok x)]
 rcases P2 (Qx w) with h|h|h|h|h|h<;>rw [h]<;>kernel_rfl
end
end Go.Lift
namespace Go.Lift
noncomputable section
open Go Go.RowKit
theorem bt {c:Bool} {a b:Bool} (ha:a=true) (hb:b=true):(bif c then a else b)=true:=by cases c<;>assumption
end
end Go.Lift
namespace Go.Lift
noncomputable section
open Go Go.RowKit
def nl (a b:ByteArray):Prop:=Op.bytesLess a.toList b.toList=true
end
end Go.Lift
namespace Go.Lift
noncomputable section
open Go Go.RowKit
end
end Go.Lift
namespace Go.Lift
noncomputable section
open Go Go.RowKit
end
end Go.Lift
