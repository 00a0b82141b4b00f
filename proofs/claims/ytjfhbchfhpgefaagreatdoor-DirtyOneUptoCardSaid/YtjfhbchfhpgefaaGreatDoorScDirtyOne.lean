/-
  Lemmas of this claim: a layer over the kit's calls, contracts of the functions that the law reaches, and the law's row. No condition of its own.
-/
import Derived.Test.YtjfhbchfhpgefaaGreatDoorLbDirtyOne
import Derived.Test.YtjfhbchfhpgefaaGreatDoorSaDirtyOne
set_option linter.unusedSimpArgs false
set_option linter.unusedVariables false
set_option linter.unusedSectionVars false
set_option maxRecDepth 20000
namespace Go.Lift
noncomputable section
open Go Go.RowKit
structure A3 where
 name:ByteArray
 content:Int
 time:Int
def A3.av (d:A3):AV:= .st [AV.s d.name,(AV.i .i64) d.content,(AV.i .i64) d.time]
def A3.zero:A3:=⟨(⟨#[]⟩:ByteArray),(0:Int),(0:Int)⟩
instance:Inhabited A3:=⟨A3.zero⟩
def A3.sz (d:A3):Nat:=(fun s:ByteArray=>s.size+1) d.name+(fun _=>1) d.content+(fun _=>1) d.time+1
structure AB where
 outs:List ByteArray
 ins:List ByteArray
 implicit:List ByteArray
 order:List ByteArray
 command:ByteArray
 deps:Bool
 pool:ByteArray
def AB.av (d:AB):AV:= .st [(Az 1 AV.s) d.outs,(Az 1 AV.s) d.ins,(Az 1 AV.s) d.implicit,(Az 1 AV.s) d.order,AV.s d.command,AV.b d.deps,AV.s d.pool]
def AB.zero:AB:=⟨[],[],[],[],(⟨#[]⟩:ByteArray),false,(⟨#[]⟩:ByteArray)⟩
instance:Inhabited AB:=⟨AB.zero⟩
def AB.sz (d:AB):Nat:=(Kn (fun s:ByteArray=>s.size+1)) d.outs+(Kn (fun s:ByteArray=>s.size+1)) d.ins+(Kn (fun s:ByteArray=>s.size+1)) d.implicit+(Kn (fun s:ByteArray=>s.size+1)) d.order+(fun s:ByteArray=>s.size+1) d.command+(fun _=>1) d.deps+(fun s:ByteArray=>s.size+1) d.pool+1
theorem AB.sz_outs (d:AB):(Kn (fun s:ByteArray=>s.size+1)) d.outs≤d.sz:=by unfold AB.sz;omega
theorem AB.sz_ins (d:AB):(Kn (fun s:ByteArray=>s.size+1)) d.ins≤d.sz:=by unfold AB.sz;omega
theorem AB.sz_implicit (d:AB):(Kn (fun s:ByteArray=>s.size+1)) d.implicit≤d.sz:=by unfold AB.sz;omega
structure Cp where
 name:ByteArray
 depth:Int
def Cp.av (d:Cp):AV:= .st [AV.s d.name,(AV.i .i64) d.depth]
def Cp.zero:Cp:=⟨(⟨#[]⟩:ByteArray),(0:Int)⟩
instance:Inhabited Cp:=⟨Cp.zero⟩
def Cp.sz (d:Cp):Nat:=(fun s:ByteArray=>s.size+1) d.name+(fun _=>1) d.depth+1
structure Av where
 edges:List AB
 pools:List Cp
 defaults:List ByteArray
def Av.av (d:Av):AV:= .st [(Az 7 AB.av) d.edges,(Az 2 Cp.av) d.pools,(Az 1 AV.s) d.defaults]
def Av.zero:Av:=⟨[],[],[]⟩
instance:Inhabited Av:=⟨Av.zero⟩
def Av.sz (d:Av):Nat:=(Kn AB.sz) d.edges+(Kn Cp.sz) d.pools+(Kn (fun s:ByteArray=>s.size+1)) d.defaults+1
theorem Av.sz_edges (d:Av):(Kn AB.sz) d.edges≤d.sz:=by unfold Av.sz;omega
structure B0 where
 command:ByteArray
 reads:List ByteArray
 fails:Bool
def B0.av (d:B0):AV:= .st [AV.s d.command,(Az 1 AV.s) d.reads,AV.b d.fails]
def B0.zero:B0:=⟨(⟨#[]⟩:ByteArray),[],false⟩
instance:Inhabited B0:=⟨B0.zero⟩
def B0.sz (d:B0):Nat:=(fun s:ByteArray=>s.size+1) d.command+(Kn (fun s:ByteArray=>s.size+1)) d.reads+(fun _=>1) d.fails+1
structure Ae where
 out:ByteArray
 time:Int
 sign:ByteArray
def Ae.av (d:Ae):AV:= .st [AV.s d.out,(AV.i .i64) d.time,AV.s d.sign]
def Ae.zero:Ae:=⟨(⟨#[]⟩:ByteArray),(0:Int),(⟨#[]⟩:ByteArray)⟩
instance:Inhabited Ae:=⟨Ae.zero⟩
def Ae.sz (d:Ae):Nat:=(fun s:ByteArray=>s.size+1) d.out+(fun _=>1) d.time+(fun s:ByteArray=>s.size+1) d.sign+1
structure As where
 out:ByteArray
 time:Int
 ins:List ByteArray
def As.av (d:As):AV:= .st [AV.s d.out,(AV.i .i64) d.time,(Az 1 AV.s) d.ins]
def As.zero:As:=⟨(⟨#[]⟩:ByteArray),(0:Int),[]⟩
instance:Inhabited As:=⟨As.zero⟩
def As.sz (d:As):Nat:=(fun s:ByteArray=>s.size+1) d.out+(fun _=>1) d.time+(Kn (fun s:ByteArray=>s.size+1)) d.ins+1
theorem As.sz_ins (d:As):(Kn (fun s:ByteArray=>s.size+1)) d.ins≤d.sz:=by unfold As.sz;omega
structure Aj where
 clock:Int
 files:List A3
def Aj.av (d:Aj):AV:= .st [(AV.i .i64) d.clock,(Az 3 A3.av) d.files]
def Aj.zero:Aj:=⟨(0:Int),[]⟩
instance:Inhabited Aj:=⟨Aj.zero⟩
def Aj.sz (d:Aj):Nat:=(fun _=>1) d.clock+(Kn A3.sz) d.files+1
theorem Aj.sz_files (d:Aj):(Kn A3.sz) d.files≤d.sz:=by unfold Aj.sz;omega
theorem I4 {d:Aj} (h:lim d.av):lim ((Az 3 A3.av) d.files):=by simp only [Aj.av,lim,Hh] at h;exact h.2.1
structure Ak where
 graph:Av
 actions:List B0
 disk:Aj
 log:List Ae
 deps:List As
 jobs:Int
 going:Bool
 status:List Int
def Ak.av (d:Ak):AV:= .st [(Az 7 AB.av) d.graph.edges,(Az 2 Cp.av) d.graph.pools,(Az 1 AV.s) d.graph.defaults,(Az 3 B0.av) d.actions,(AV.i .i64) d.disk.clock,(Az 3 A3.av) d.disk.files,(Az 3 Ae.av) d.log,(Az 3 As.av) d.deps,(AV.i .i64) d.jobs,AV.b d.going,(Az 1 (AV.i .i64)) d.status]
def Ak.zero:Ak:=⟨Av.zero,[],Aj.zero,[],[],(0:Int),false,[]⟩
instance:Inhabited Ak:=⟨Ak.zero⟩
def Ak.sz (d:Ak):Nat:=Av.sz d.graph+(Kn B0.sz) d.actions+Aj.sz d.disk+(Kn Ae.sz) d.log+(Kn As.sz) d.deps+(fun _=>1) d.jobs+(fun _=>1) d.going+(Kn (fun _=>1)) d.status+1
theorem Ak.sz_graph (d:Ak):Av.sz d.graph≤d.sz:=by unfold Ak.sz;omega
theorem Ak.sz_disk (d:Ak):Aj.sz d.disk≤d.sz:=by unfold Ak.sz;omega
theorem Ak.sz_log (d:Ak):(Kn Ae.sz) d.log≤d.sz:=by unfold Ak.sz;omega
theorem Ak.sz_deps (d:Ak):(Kn As.sz) d.deps≤d.sz:=by unfold Ak.sz;omega
structure Al where
 state:Ak
 edge:AB
def Al.av (d:Al):AV:= .st [(ptA Ak.av) d.state,(ptA AB.av) d.edge]
def AQ:A3:=(⟨(⟨#[97,46,99]⟩:ByteArray),(1:Int),(1:Int)⟩:A3)
def AW:A3:=(⟨(⟨#[98,46,99]⟩:ByteArray),(3:Int),(3:Int)⟩:A3)
def AU:A3:=(⟨(⟨#[97,46,104]⟩:ByteArray),(2:Int),(2:Int)⟩:A3)
def Kz:Ae:=(⟨(⟨#[]⟩:ByteArray),(0:Int),(⟨#[]⟩:ByteArray)⟩:Ae)
def AR:A3:=(⟨(⟨#[122,46,104]⟩:ByteArray),(4:Int),(4:Int)⟩:A3)
def Cq:B0:=(⟨(⟨#[99,99,32,97]⟩:ByteArray),[(⟨#[122,46,104]⟩:ByteArray)],false⟩:B0)
def Pp:As:=(⟨(⟨#[97,46,111]⟩:ByteArray),(5:Int),[(⟨#[122,46,104]⟩:ByteArray)]⟩:As)
def D5:Ae:=(⟨(⟨#[98,46,111]⟩:ByteArray),(7:Int),(⟨#[98,46,111,124,98,46,99,124,124,110,124,99,99,32,98]⟩:ByteArray)⟩:Ae)
def Fl:Ae:=(⟨(⟨#[108,105,98]⟩:ByteArray),(8:Int),(⟨#[108,105,98,124,97,46,111,32,98,46,111,124,124,110,124,97,114]⟩:ByteArray)⟩:Ae)
def WZ:AB:=(⟨[(⟨#[108,105,98]⟩:ByteArray)],[(⟨#[97,46,111]⟩:ByteArray),(⟨#[98,46,111]⟩:ByteArray)],[],[],(⟨#[]⟩:ByteArray),false,(⟨#[]⟩:ByteArray)⟩:AB)
def Ca:Ae:=(⟨(⟨#[97,46,111]⟩:ByteArray),(5:Int),(⟨#[97,46,111,32,97,46,100,124,97,46,99,124,97,46,104,124,100,124,99,99,32,97]⟩:ByteArray)⟩:Ae)
def C9:Ae:=(⟨(⟨#[97,46,100]⟩:ByteArray),(6:Int),(⟨#[97,46,111,32,97,46,100,124,97,46,99,124,97,46,104,124,100,124,99,99,32,97]⟩:ByteArray)⟩:Ae)
def X0:AB:=(⟨[(⟨#[108,105,98]⟩:ByteArray)],[(⟨#[97,46,111]⟩:ByteArray),(⟨#[98,46,111]⟩:ByteArray)],[],[],(⟨#[97,114]⟩:ByteArray),false,(⟨#[]⟩:ByteArray)⟩:AB)
def Tf:AB:=(⟨[(⟨#[98,46,111]⟩:ByteArray)],[(⟨#[98,46,99]⟩:ByteArray)],[],[(⟨#[97,46,111]⟩:ByteArray)],(⟨#[99,99,32,98]⟩:ByteArray),false,(⟨#[116,119,111]⟩:ByteArray)⟩:AB)
def Te:AB:=(⟨[(⟨#[97,46,111]⟩:ByteArray),(⟨#[97,46,100]⟩:ByteArray)],[(⟨#[97,46,99]⟩:ByteArray)],[(⟨#[97,46,104]⟩:ByteArray)],[],(⟨#[99,99,32,97]⟩:ByteArray),true,(⟨#[116,119,111]⟩:ByteArray)⟩:AB)
def X1:Aj:=(⟨(4:Int),[AQ,AU,AW,AR]⟩:Aj)
def GS:Av:=(⟨[WZ,Te,Tf],[(⟨(⟨#[116,119,111]⟩:ByteArray),(2:Int)⟩:Cp)],[(⟨#[108,105,98]⟩:ByteArray)]⟩:Av)
def DZ:Av:=(⟨[X0,Te,Tf],[(⟨(⟨#[116,119,111]⟩:ByteArray),(2:Int)⟩:Cp)],[(⟨#[108,105,98]⟩:ByteArray)]⟩:Av)
def B3:Ak:=(⟨DZ,[Cq],X1,[],[],(2:Int),false,[]⟩:Ak)
def TA:List AB→Nat
 | []=>0
 |e::r=>e.outs.length+TA r
def RL (e:AB):Dw:=⟨⟨false,e.outs⟩,⟨false,e.ins⟩,⟨false,e.implicit⟩,⟨false,e.order⟩,e.command,e.deps,e.pool⟩
def pOf (p:Cp):Eo:=⟨p.name,p.depth⟩
def Ns (g:Av):BA:=⟨false,g.edges.map RL,false,g.pools.map pOf,⟨false,g.defaults⟩⟩
def Tp (g:Av):Bool:=NP (Ns g)
def Kg (g:Av):Int:=Ll (Ns g)
def Py (g:Av) (edge:Int):Nat:=(g.edges.getD edge.toNat default).ins.length+(g.edges.getD edge.toNat default).implicit.length+(g.edges.getD edge.toNat default).order.length
def GR (pi:ByteArray→Bool) (c:Int):List A3→List Int→Option A3→Bool
 | [],_,_=>true
 |f::r,ts,p=>(pi f.name&&decide (0≤f.content)&&decide (f.content≤2147483647)&&decide (1≤f.time)&&decide (f.time≤c)&& !(ts.any (fun t=>decide (t=f.time)))&&(match p with|none=>true|some q=>Op.bytesLess q.name.toList f.name.toList))&&GR pi c r (ts++[f.time]) (some f)
def EI (pi:ByteArray→Bool) (d:Aj):Bool:=GR pi d.clock d.files [] none&&decide (0≤d.clock)&&decide (d.clock≤1048576)&&decide (d.files.length≤64)
def D1 (xs:List ByteArray) (sep:ByteArray):ByteArray:=⟨(Lib.join (xs.map (·.data.toList)) sep.data.toList).toArray⟩
def K8 (xs:List ByteArray):List ByteArray:=xs
def Ky {α:Type} (p:α→Bool):List α→Int
 | []=> -1
 |x::xs=>if 0≤Ky p xs then Ky p xs+1 else if p x then 0 else -1
def Bm (rs:List Ae) (out:ByteArray):Int:=Ky (fun r=>decide (r.out=out)) rs
def AC (fs:List As) (out:ByteArray):Int:=Ky (fun r=>decide (r.out=out)) fs
def dk1:Aj:=⟨(5:Int),[⟨(⟨#[97,46,99]⟩:ByteArray),(1:Int),(1:Int)⟩,⟨(⟨#[97,46,104]⟩:ByteArray),(2:Int),(2:Int)⟩,⟨(⟨#[97,46,111]⟩:ByteArray),(0:Int),(5:Int)⟩,⟨(⟨#[98,46,99]⟩:ByteArray),(3:Int),(3:Int)⟩,⟨(⟨#[122,46,104]⟩:ByteArray),(4:Int),(4:Int)⟩]⟩
def dk2:Aj:=⟨(6:Int),[⟨(⟨#[97,46,99]⟩:ByteArray),(1:Int),(1:Int)⟩,⟨(⟨#[97,46,100]⟩:ByteArray),(1:Int),(6:Int)⟩,⟨(⟨#[97,46,104]⟩:ByteArray),(2:Int),(2:Int)⟩,⟨(⟨#[97,46,111]⟩:ByteArray),(0:Int),(5:Int)⟩,⟨(⟨#[98,46,99]⟩:ByteArray),(3:Int),(3:Int)⟩,⟨(⟨#[122,46,104]⟩:ByteArray),(4:Int),(4:Int)⟩]⟩
def dk3:Aj:=⟨(7:Int),[⟨(⟨#[97,46,99]⟩:ByteArray),(1:Int),(1:Int)⟩,⟨(⟨#[97,46,100]⟩:ByteArray),(1:Int),(6:Int)⟩,⟨(⟨#[97,46,104]⟩:ByteArray),(2:Int),(2:Int)⟩,⟨(⟨#[97,46,111]⟩:ByteArray),(0:Int),(5:Int)⟩,⟨(⟨#[98,46,99]⟩:ByteArray),(3:Int),(3:Int)⟩,⟨(⟨#[98,46,111]⟩:ByteArray),(2:Int),(7:Int)⟩,⟨(⟨#[122,46,104]⟩:ByteArray),(4:Int),(4:Int)⟩]⟩
def Q8:Aj:=⟨(8:Int),[⟨(⟨#[97,46,99]⟩:ByteArray),(1:Int),(1:Int)⟩,⟨(⟨#[97,46,100]⟩:ByteArray),(1:Int),(6:Int)⟩,⟨(⟨#[97,46,104]⟩:ByteArray),(2:Int),(2:Int)⟩,⟨(⟨#[97,46,111]⟩:ByteArray),(0:Int),(5:Int)⟩,⟨(⟨#[98,46,99]⟩:ByteArray),(3:Int),(3:Int)⟩,⟨(⟨#[98,46,111]⟩:ByteArray),(2:Int),(7:Int)⟩,⟨(⟨#[108,105,98]⟩:ByteArray),(3:Int),(8:Int)⟩,⟨(⟨#[122,46,104]⟩:ByteArray),(4:Int),(4:Int)⟩]⟩
def HW:List ByteArray→Nat→(List ByteArray)→Lp (List ByteArray) ((List ByteArray))
 | [],i,row=>Lp.brk row
 |x1::rest,i,row=>HW rest (i+1) (row.set i ((⟨#[126]⟩:ByteArray)++(row.getD i default)))
def UT (a:List ByteArray):List ByteArray:=
 (match HW a 0 a with
 |Lp.ret r=>r
 |Lp.brk row'=>row')
def Lv:List A3→Nat→(List A3)→Lp (List A3) ((List A3))
 | [],i,row=>Lp.brk row
 |x1::rest,i,row=>Lv rest (i+1) (Qx row i (fun d=>({d with time:=(C0 .xor .i64 ((row.getD i default).time) (90:Int))}:A3)))
def Lu:List Bool→Nat→(List Bool)→Lp (List Bool) ((List Bool))
 | [],i,row=>Lp.brk row
 |x1::rest,i,row=>Lu rest (i+1) (row.set i (!(row.getD i default)))
def GG (s':ByteArray):Bool:=
 (decide ((Cm s').2=(0:Int))&&decide ((Cm s').1=s'))
def Un:List ByteArray→Nat→Lp (Bool) (Unit)
 | [],v9=>Lp.brk ()
 |x1::rest,v9=>(bif (!(GG x1)) then Lp.ret false else Un rest (v9+1))
def Ir (ss:List ByteArray) (most':Int):Bool:=
 (match Un ss 0 with
 |Lp.ret r=>r
 |Lp.brk ()=>decide (((ss.length:Nat):Int)≤most'))
def Tn:List UInt8→Nat→Lp (Bool) (Unit)
 | [],v8=>Lp.brk ()
 |x1::rest,v8=>(bif decide ((x1.toNat:Int)<(32:Int)) then Lp.ret false else (bif decide ((126:Int)<(x1.toNat:Int)) then Lp.ret false else Tn rest (v8+1)))
def MB (s':ByteArray) (most':Int):Bool:=
 (match Tn s'.data.toList 0 with
 |Lp.ret r=>r
 |Lp.brk ()=>decide (((s'.size:Nat):Int)≤most'))
def L0 (s':ByteArray):Bool:=
 ((!decide (s'=(⟨#[]⟩:ByteArray)))&&(MB s' (256:Int)))
def Vy:List (List ByteArray)→Nat→Lp (Bool) (Unit)
 | [],v23=>Lp.brk ()
 |x1::rest,v23=>(bif (!(Ir x1 (8:Int))) then Lp.ret false else Vy rest (v23+1))
def Qp (e:AB):Bool:=
 (match Vy [e.outs,e.ins,e.implicit,e.order] 0 with
 |Lp.ret r=>r
 |Lp.brk ()=>(decide ((0:Int)<((e.outs.length:Nat):Int))&&((L0 e.command)&&(decide (e.pool=(⟨#[]⟩:ByteArray))||(Ia e.pool)))))
def Ox:List AB→Nat→(List ByteArray)→Lp (List ByteArray) ((List ByteArray))
 | [],v11,out=>Lp.brk out
 |x1::rest,v11,out=>Ox rest (v11+1) (out++x1.outs)
def FX (x':ByteArray):List ByteArray→Nat→Lp (Bool) (Unit)
 | [],i=>Lp.brk ()
 |x1::rest,i=>(bif decide (x1=x') then Lp.ret true else FX x' rest (i+1))
def Gc (xs:List ByteArray) (x':ByteArray):Bool:=
 (match FX x' xs 0 with
 |Lp.ret r=>r
 |Lp.brk ()=>false)
def NO (c:Int):Bool:=
 (bif decide ((97:Int)≤c) then (decide (c≤(122:Int))||(decide ((48:Int)≤c)&&decide (c≤(57:Int)))) else (decide ((48:Int)≤c)&&decide (c≤(57:Int))))
def VB:List UInt8→Nat→Lp (Bool) (Unit)
 | [],i=>Lp.brk ()
 |x1::rest,i=>(bif decide ((x1.toNat:Int)<(32:Int)) then Lp.ret false else (bif decide ((126:Int)<(x1.toNat:Int)) then Lp.ret false else VB rest (i+1)))
def Up (s':ByteArray) (least:Int) (most':Int):Bool:=
 (match VB s'.data.toList 0 with
 |Lp.ret r=>r
 |Lp.brk ()=>(decide (least≤((s'.size:Nat):Int))&&decide (((s'.size:Nat):Int)≤most')))
def Oo:List UInt8→Nat→Lp (Bool) (Unit)
 | [],i=>Lp.brk ()
 |x1::rest,i=>(bif (!(NO (x1.toNat:Int))) then (bif (!decide ((x1.toNat:Int)=(46:Int))) then (bif (!decide ((x1.toNat:Int)=(95:Int))) then (bif (!decide ((x1.toNat:Int)=(45:Int))) then (bif (!decide ((x1.toNat:Int)=(47:Int))) then Lp.ret false else Oo rest (i+1)) else Oo rest (i+1)) else Oo rest (i+1)) else Oo rest (i+1)) else Oo rest (i+1))
def My (s':ByteArray):Bool:=
 (match Oo s'.data.toList 0 with
 |Lp.ret r=>r
 |Lp.brk ()=>(decide ((1:Int)≤((s'.size:Nat):Int))&&decide (((s'.size:Nat):Int)≤(16:Int))))
def Pr (sign:ByteArray):List ByteArray→Nat→ByteArray→Lp (ByteArray) (ByteArray)
 | [],i,s'=>Lp.brk s'
 |x1::rest,i,s'=>(bif decide ((0:Int)<((i:Nat):Int)) then Pr sign rest (i+1) ((s'++sign)++x1) else Pr sign rest (i+1) (s'++x1))
def Fn (xs:List ByteArray) (sign:ByteArray):ByteArray:=
 (match Pr sign xs 0 (⟨#[]⟩:ByteArray) with
 |Lp.ret r=>r
 |Lp.brk sv'=>sv')
def NJ (s':ByteArray) (sign:Int):Nat→(List ByteArray)→Nat→Nat→Lp (List ByteArray) ((List ByteArray))
 |0,out,from',i=>Lp.brk out
 |kf+1,out,from',i=>(bif decide (((i:Nat):Int)≤((s'.size:Nat):Int)) then (bif (decide (((i:Nat):Int)=((s'.size:Nat):Int))||decide (((s'.data.getD i 0).toNat:Int)=sign)) then NJ s' sign kf (out++[(s'.extract from' i)]) (i+1) (i+1) else NJ s' sign kf out from' (i+1)) else Lp.brk out)
def Lt (s':ByteArray) (sign:Int):List ByteArray:=
 (match NJ s' sign (s'.size+1-0+1) [] 0 0 with
 |Lp.ret r=>r
 |Lp.brk out'=>out')
def NL:List ByteArray→Nat→(List ByteArray)→Lp (ByteArray×Int) ((List ByteArray))
 | [],i,kept=>Lp.brk kept
 |x1::rest,i,kept=>(bif decide (x1=(⟨#[]⟩:ByteArray)) then NL rest (i+1) kept else (bif decide (x1=(⟨#[46]⟩:ByteArray)) then NL rest (i+1) kept else (bif decide (x1=(⟨#[46,46]⟩:ByteArray)) then (bif decide (((kept.length:Nat):Int)=(0:Int)) then Lp.ret ((⟨#[]⟩:ByteArray),(200:Int)) else NL rest (i+1) (kept.take (kept.length-1))) else NL rest (i+1) (kept++[x1]))))
def N6 (s':ByteArray):ByteArray×Int:=
 (bif (!(My s')) then ((⟨#[]⟩:ByteArray),(200:Int)) else (bif decide (((s'.data.getD 0 0).toNat:Int)=(47:Int)) then ((⟨#[]⟩:ByteArray),(200:Int)) else (match NL (Lt s' (47:Int)) 0 [] with
 |Lp.ret r=>r
 |Lp.brk kept'=>(bif decide (((kept'.length:Nat):Int)=(0:Int)) then ((⟨#[]⟩:ByteArray),(200:Int)) else ((Fn kept' (⟨#[47]⟩:ByteArray)),(0:Int))))))
def I5 (s':ByteArray):Bool:=
 (decide ((N6 s').2=(0:Int))&&decide ((N6 s').1=s'))
def m_cg:List ByteArray→Nat→Lp (Bool) (Unit)
 | [],i=>Lp.brk ()
 |x1::rest,i=>(bif (!(I5 x1)) then Lp.ret false else m_cg rest (i+1))
def Ql (xs:List ByteArray):Bool:=
 (match m_cg xs 0 with
 |Lp.ret r=>r
 |Lp.brk ()=>decide (((xs.length:Nat):Int)≤(8:Int)))
def Fz (name:ByteArray):List Cp→Nat→Lp (Int) (Unit)
 | [],i=>Lp.brk ()
 |x1::rest,i=>(bif decide (x1.name=name) then Lp.ret ((i:Nat):Int) else Fz name rest (i+1))
def HN (ps:List Cp) (name:ByteArray):Int:=
 (match Fz name ps 0 with
 |Lp.ret r=>r
 |Lp.brk ()=>(-1:Int))
def IF (e:AB):Bool:=
 (decide ((0:Int)<((e.outs.length:Nat):Int))&&((Ql e.outs)&&((Ql e.ins)&&((Ql e.implicit)&&((Ql e.order)&&((Up e.command (1:Int) (256:Int))&&(decide (e.pool=(⟨#[]⟩:ByteArray))||(My e.pool))))))))
def VD (g:Av):List AB→Nat→Lp (Bool) (Unit)
 | [],i2=>Lp.brk ()
 |x2::rest,i2=>(bif (!(IF x2)) then Lp.ret false else (bif (!decide (x2.pool=(⟨#[]⟩:ByteArray))) then (bif decide ((HN g.pools x2.pool)<(0:Int)) then Lp.ret false else VD g rest (i2+1)) else VD g rest (i2+1)))
def X3 (g:Av):List Cp→Nat→Lp (Bool) (Unit)
 | [],i=>Lp.brk ()
 |x1::rest,i=>(bif (!(My x1.name)) then Lp.ret false else (bif decide (x1.depth<(1:Int)) then Lp.ret false else (bif decide ((8:Int)<x1.depth) then Lp.ret false else (bif (!decide ((HN g.pools x1.name)=((i:Nat):Int))) then Lp.ret false else X3 g rest (i+1)))))
def I9 (g:Av):Bool:=
 (match X3 g g.pools 0 with
 |Lp.ret r=>r
 |Lp.brk ()=>(match VD g g.edges 0 with
 |Lp.ret r=>r
 |Lp.brk ()=>(decide (((g.pools.length:Nat):Int)≤(4:Int))&&(decide (((g.edges.length:Nat):Int)≤(16:Int))&&(Ql g.defaults)))))
def G3:List ByteArray→Nat→(List ByteArray)→Lp (Int) ((List ByteArray))
 | [],k,all2=>Lp.brk all2
 |x2::rest,k,all2=>(bif (Gc all2 x2) then Lp.ret (901:Int) else G3 rest (k+1) (all2++[x2]))
def G2:List AB→Nat→(List ByteArray)→Lp (Int) (Unit)
 | [],i,all=>Lp.brk ()
 |x1::rest,i,all=>(match G3 x1.outs 0 all with
 |Lp.ret r=>Lp.ret r
 |Lp.brk all2'=>G2 rest (i+1) all2')
def Is (g:Av):Int:=
 (bif (!(I9 g)) then (900:Int) else (match G2 g.edges 0 [] with
 |Lp.ret r=>r
 |Lp.brk ()=>(0:Int)))
def JD (name:ByteArray):List AB→Nat→Lp (Int) (Unit)
 | [],i=>Lp.brk ()
 |x1::rest,i=>(bif (Gc x1.outs name) then Lp.ret ((i:Nat):Int) else JD name rest (i+1))
def VG (g:Av) (name:ByteArray):Int:=
 (match JD name g.edges 0 with
 |Lp.ret r=>r
 |Lp.brk ()=>(-1:Int))
def X5 (g:Av):List ByteArray→Nat→(List Int)→Lp (List Int) ((List Int))
 | [],i,out=>Lp.brk out
 |x1::rest,i,out=>(bif decide ((0:Int)≤(VG g x1)) then X5 g rest (i+1) (out++[(VG g x1)]) else X5 g rest (i+1) out)
def To (g:Av) (edge:Int):List Int:=
 (match X5 g (((g.edges.getD edge.toNat default).ins++(g.edges.getD edge.toNat default).implicit)++(g.edges.getD edge.toNat default).order) 0 [] with
 |Lp.ret r=>r
 |Lp.brk out'=>out')
def VA (row:List Bool):List Int→Nat→Bool→Lp (List Int×Int) (Bool)
 | [],k,free=>Lp.brk free
 |x3::rest,k,free=>(bif free then VA row rest (k+1) (row.getD x3.toNat default) else VA row rest (k+1) false)
def Vz (row:List Bool) (g:Av):Nat→Int→Int→Lp (List Int×Int) (Int)
 |0,next,i=>Lp.brk next
 |kf+1,next,i=>(bif decide ((0:Int)≤i) then (match VA row (To g i) 0 (!(row.getD i.toNat default)) with
 |Lp.ret r=>Lp.ret r
 |Lp.brk free'=>(bif free' then Vz row g kf i (i-(1:Int)) else Vz row g kf next (i-(1:Int)))) else Lp.brk next)
def G4 (g:Av):Nat→(List Int)→(List Bool)→Lp (List Int×Int) ((List Int)×(List Bool))
 |0,out,row=>Lp.brk (out,row)
 |kf+1,out,row=>(bif decide (((out.length:Nat):Int)<((g.edges.length:Nat):Int)) then (match Vz row g (((((g.edges.length:Nat):Int)-(1:Int))+1).toNat+1) (-1:Int) (((g.edges.length:Nat):Int)-(1:Int)) with
 |Lp.ret r=>Lp.ret r
 |Lp.brk next'=>(bif decide (next'<(0:Int)) then Lp.ret (([]:List Int),(1001:Int)) else G4 g kf (out++[next']) (row.set next'.toNat true))) else Lp.brk (out,row))
def Fy (g:Av):List Int×Int:=
 (bif (!decide ((Is g)=(0:Int))) then (([]:List Int),(1000:Int)) else (match G4 g (g.edges.length-0+1) [] (List.replicate g.edges.length false) with
 |Lp.ret r=>r
 |Lp.brk (out',row')=>(out',(0:Int))))
def MC (b:List Int):List Int→Nat→Lp (Bool) (Unit)
 | [],i=>Lp.brk ()
 |x1::rest,i=>(bif (!decide (x1=(b.getD i default))) then Lp.ret false else MC b rest (i+1))
def VC (b:List Bool):List Bool→Nat→Lp (Bool) (Unit)
 | [],i=>Lp.brk ()
 |x1::rest,i=>(bif (!(x1==(b.getD i default))) then Lp.ret false else VC b rest (i+1))
def S5 (a:List Bool) (b:List Bool):Bool:=
 (!(!decide (((a.length:Nat):Int)=((b.length:Nat):Int)))&&(match VC b a 0 with
 |Lp.ret r=>r
 |Lp.brk ()=>true))
def Vv (v:Int):List Int→Nat→Lp (Int) (Unit)
 | [],v8=>Lp.brk ()
 |x1::rest,v8=>(bif decide (v=x1) then Lp.ret ((v8:Nat):Int) else Vv v rest (v8+1))
def Ti (s':List Int) (v:Int):Int:=
 (match Vv v s' 0 with
 |Lp.ret r=>r
 |Lp.brk ()=>(-1:Int))
def Oq (s':List Int) (v:Int):Bool:=
 decide ((0:Int)≤(Ti s' v))
def Vx (v:ByteArray):List ByteArray→Nat→Lp (Int) (Unit)
 | [],v8=>Lp.brk ()
 |x1::rest,v8=>(bif decide (v=x1) then Lp.ret ((v8:Nat):Int) else Vx v rest (v8+1))
def Tj (s':List ByteArray) (v:ByteArray):Int:=
 (match Vx v s' 0 with
 |Lp.ret r=>r
 |Lp.brk ()=>(-1:Int))
def Um (s':List ByteArray) (v:ByteArray):Bool:=
 decide ((0:Int)≤(Tj s' v))
def m_v (f:AB→Bool):List AB→Nat→Lp (Int) (Unit)
 | [],v8=>Lp.brk ()
 |x1::rest,v8=>(bif (f x1) then Lp.ret ((v8:Nat):Int) else m_v f rest (v8+1))
def m_9 (s':List AB) (f:AB→Bool):Int:=
 (match m_v f s' 0 with
 |Lp.ret r=>r
 |Lp.brk ()=>(-1:Int))
def Tm (e:AB) (name:ByteArray):Bool:=
 (Um e.outs name)
def FJ (g:Av) (s':ByteArray):Int:=
 (m_9 g.edges (fun z0=>Tm z0 s'))
def Vu (f:Int→Bool):List Int→Nat→Lp (Int) (Unit)
 | [],v8=>Lp.brk ()
 |x1::rest,v8=>(bif (f x1) then Lp.ret ((v8:Nat):Int) else Vu f rest (v8+1))
def Tk (s':List Int) (f:Int→Bool):Int:=
 (match Vu f s' 0 with
 |Lp.ret r=>r
 |Lp.brk ()=>(-1:Int))
def W9 (s':List Int) (f:Int→Bool):Bool:=
 decide ((0:Int)≤(Tk s' f))
def HM (n':Nat):List ByteArray:=
 (bif decide ((0:Int)<((n':Nat):Int)) then ((List.replicate n' (⟨#[]⟩:ByteArray)).take 0) else [])
def N5:List (List ByteArray)→Nat→(List ByteArray)→Lp (List ByteArray) ((List ByteArray))
 | [],v27,newslice=>Lp.brk newslice
 |x2::rest,v27,newslice=>N5 rest (v27+1) (newslice++x2)
def VH:List (List ByteArray)→Nat→Nat→Lp (List ByteArray) (Nat)
 | [],v11,size=>Lp.brk size
 |x1::rest,v11,size=>VH rest (v11+1) (size+x1.length)
def E6 (slices:List (List ByteArray)):List ByteArray:=
 (match VH slices 0 0 with
 |Lp.ret r=>r
 |Lp.brk size'=>(match N5 slices 0 ((List.replicate size' (⟨#[]⟩:ByteArray)).take 0) with
 |Lp.ret r=>r
 |Lp.brk newslice4'=>newslice4'))
def Qk (g:Av):List ByteArray→Nat→(List Int)→Lp (List Int) ((List Int))
 | [],v31,out=>Lp.brk out
 |x1::rest,v31,out=>(bif decide ((0:Int)≤(FJ g x1)) then (bif (!(Oq out (FJ g x1))) then Qk g rest (v31+1) (out++[(FJ g x1)]) else Qk g rest (v31+1) out) else Qk g rest (v31+1) out)
def Ju (g:Av) (edge:Int):List Int:=
 (match Qk g (E6 [(g.edges.getD edge.toNat default).ins,(g.edges.getD edge.toNat default).implicit,(g.edges.getD edge.toNat default).order]) 0 [] with
 |Lp.ret r=>r
 |Lp.brk out'=>out')
def Kf (edge:Int) (out:List Int):Bool:=
 (Oq out edge)
def Ow (edge:Int) (told:Int→Bool):Bool:=
 (!(told edge))
def Pu:List (List Int)→Nat→(List Int)→Lp (List Int×Int) (Bool×(List Int))
 | [],v38,cell2=>Lp.brk (false,cell2)
 |x3::rest,v38,cell2=>(bif (!(Kf ((v38:Nat):Int) cell2)) then (bif (!(W9 x3 (fun z0=>Ow z0 (fun z0=>Kf z0 cell2)))) then Lp.brk (true,(cell2++[((v38:Nat):Int)])) else Pu rest (v38+1) cell2) else Pu rest (v38+1) cell2)
def Qo (g:Av) (row:List (List Int)):Nat→(List Int)→Lp (List Int×Int) ((List Int))
 |0,cell=>Lp.brk cell
 |kf+1,cell=>(bif decide (((cell.length:Nat):Int)<((g.edges.length:Nat):Int)) then (match Pu row 0 cell with
 |Lp.ret r=>Lp.ret r
 |Lp.brk (t',cell2')=>(bif t' then Qo g row kf cell2' else Lp.ret (([]:List Int),(1001:Int)))) else Lp.brk cell)
def Pt (g:Av):List (List Int)→Nat→(List (List Int))→Lp (List Int×Int) ((List (List Int)))
 | [],v20,row=>Lp.brk row
 |x1::rest,v20,row=>Pt g rest (v20+1) (row.set v20 (Ju g ((v20:Nat):Int)))
def ID (g:Av):List Int×Int:=
 (bif (!decide ((Kg g)=(0:Int))) then (([]:List Int),(1000:Int)) else (match Pt g (List.replicate g.edges.length ([]:List Int)) 0 (List.replicate g.edges.length ([]:List Int)) with
 |Lp.ret r=>r
 |Lp.brk row'=>(match Qo g row' (g.edges.length-0+1) [] with
 |Lp.ret r=>r
 |Lp.brk cell3'=>(cell3',(0:Int)))))
def I8 (g:Av) (i3:Int):List Int→Nat→(List Bool)→Lp (List Bool×Int) ((List Bool))
 | [],k,row4=>Lp.brk row4
 |x4::rest,k,row4=>(bif (row4.getD x4.toNat default) then I8 g i3 rest (k+1) (row4.set x4.toNat true) else I8 g i3 rest (k+1) (row4.set x4.toNat (row4.getD ((((Fy g).1).getD i3.toNat default).toNat) default)))
def Oz (g:Av):Nat→Int→(List Bool)→Lp (List Bool×Int) ((List Bool))
 |0,i3,row3=>Lp.brk row3
 |kf+1,i3,row3=>(bif decide ((0:Int)≤i3) then (match I8 g i3 (To (⟨g.edges,g.pools,g.defaults⟩:Av) (((Fy g).1).getD i3.toNat default)) 0 row3 with
 |Lp.ret r=>Lp.ret r
 |Lp.brk row4'=>Oz g kf (i3-(1:Int)) row4') else Lp.brk row3)
def Oy (g:Av):List ByteArray→Nat→(List Bool)→Lp (List Bool×Int) ((List Bool))
 | [],i2,row2=>Lp.brk row2
 |x2::rest,i2,row2=>(bif decide ((VG (⟨g.edges,g.pools,g.defaults⟩:Av) x2)<(0:Int)) then Lp.ret (([]:List Bool),(2001:Int)) else Oy g rest (i2+1) (row2.set (VG (⟨g.edges,g.pools,g.defaults⟩:Av) x2).toNat true))
def Do (e:Int):Int:=
 e
def Ps (a:B0):Bool:=
 ((!(L0 a.command))||(!(Ir a.reads (8:Int))))
def m_s (f:B0→Bool):List B0→Nat→Lp (Int) (Unit)
 | [],v8=>Lp.brk ()
 |x1::rest,v8=>(bif (f x1) then Lp.ret ((v8:Nat):Int) else m_s f rest (v8+1))
def m_z (s':List B0) (f:B0→Bool):Int:=
 (match m_s f s' 0 with
 |Lp.ret r=>r
 |Lp.brk ()=>(-1:Int))
def m_n (s':List B0) (f:B0→Bool):Bool:=
 decide ((0:Int)≤(m_z s' f))
def Qn (as':List B0):Bool:=
 (decide (((as'.length:Nat):Int)≤(16:Int))&&(!(m_n as' (fun z0=>Ps z0))))
def NM (x':Int):Bool:=
 (decide ((1:Int)≤x')&&decide (x'≤(1048576:Int)))
def N3 (r:Ae):Bool:=
 ((GG r.out)&&((NM r.time)&&((!decide (r.sign=(⟨#[]⟩:ByteArray)))&&(MB r.sign (2048:Int)))))
def S7 (r:Ae):Bool:=
 (!(N3 r))
def m_t (f:Ae→Bool):List Ae→Nat→Lp (Int) (Unit)
 | [],v8=>Lp.brk ()
 |x1::rest,v8=>(bif (f x1) then Lp.ret ((v8:Nat):Int) else m_t f rest (v8+1))
def m_0 (s':List Ae) (f:Ae→Bool):Int:=
 (match m_t f s' 0 with
 |Lp.ret r=>r
 |Lp.brk ()=>(-1:Int))
def m_o (s':List Ae) (f:Ae→Bool):Bool:=
 decide ((0:Int)≤(m_0 s' f))
def MA (rs:List Ae):Bool:=
 (decide (((rs.length:Nat):Int)≤(256:Int))&&(!(m_o rs (fun z0=>S7 z0))))
def NN (f:As):Bool:=
 ((GG f.out)&&((NM f.time)&&(Ir f.ins (8:Int))))
def S6 (f:As):Bool:=
 (!(NN f))
def m_w (f:As→Bool):List As→Nat→Lp (Int) (Unit)
 | [],v8=>Lp.brk ()
 |x1::rest,v8=>(bif (f x1) then Lp.ret ((v8:Nat):Int) else m_w f rest (v8+1))
def m_3 (s':List As) (f:As→Bool):Int:=
 (match m_w f s' 0 with
 |Lp.ret r=>r
 |Lp.brk ()=>(-1:Int))
def m_q (s':List As) (f:As→Bool):Bool:=
 decide ((0:Int)≤(m_3 s' f))
def N4 (fs:List As):Bool:=
 (decide (((fs.length:Nat):Int)≤(256:Int))&&(!(m_q fs (fun z0=>S6 z0))))
def Qm (x':Int):Bool:=
 (decide ((0:Int)≤x')&&decide (x'≤(2147483647:Int)))
def GT (s':Ak):Bool:=
 (decide ((ID s'.graph).2=(0:Int))&&((Qn s'.actions)&&((EI GG s'.disk)&&((MA s'.log)&&(N4 s'.deps)))))
def FI (x':Int) (least:Int) (most':Int):Bool:=
 (decide (least≤x')&&decide (x'≤most'))
def m_b0:List B0→Nat→Lp (Bool) (Unit)
 | [],i=>Lp.brk ()
 |x1::rest,i=>(bif (!(Up x1.command (1:Int) (256:Int))) then Lp.ret false else (bif (!(Ql x1.reads)) then Lp.ret false else m_b0 rest (i+1)))
def Gb (as':List B0):Bool:=
 (match m_b0 as' 0 with
 |Lp.ret r=>r
 |Lp.brk ()=>decide (((as'.length:Nat):Int)≤(16:Int)))
def Ou (i:Nat) (d:Aj) (x1:A3):Nat→Nat→Lp (Bool) (Unit)
 |0,k=>Lp.brk ()
 |kf+1,k=>(bif decide (((k:Nat):Int)<((i:Nat):Int)) then (bif decide ((d.files.getD k default).time=x1.time) then Lp.ret false else Ou i d x1 kf (k+1)) else Lp.brk ())
def Qi (d:Aj):List A3→Nat→Lp (Bool) (Unit)
 | [],i=>Lp.brk ()
 |x1::rest,i=>(bif (!(I5 x1.name)) then Lp.ret false else (bif (!(FI x1.content (0:Int) (2147483647:Int))) then Lp.ret false else (bif (!(FI x1.time (1:Int) d.clock)) then Lp.ret false else (bif decide ((0:Int)<((i:Nat):Int)) then (bif (!Op.bytesLess ((d.files.getD (i-1) default).name).toList x1.name.toList) then Lp.ret false else (match Ou i d x1 (i-0+1) 0 with
 |Lp.ret r=>Lp.ret r
 |Lp.brk ()=>Qi d rest (i+1))) else (match Ou i d x1 (i-0+1) 0 with
 |Lp.ret r=>Lp.ret r
 |Lp.brk ()=>Qi d rest (i+1))))))
def NI (d:Aj):Bool:=
 (match Qi d d.files 0 with
 |Lp.ret r=>r
 |Lp.brk ()=>((FI d.clock (0:Int) (1048576:Int))&&decide (((d.files.length:Nat):Int)≤(64:Int))))
def GU (r:Ae):Bool:=
 ((I5 r.out)&&((FI r.time (1:Int) (1048576:Int))&&(Up r.sign (1:Int) (2048:Int))))
def m_cj:List Ae→Nat→Lp (Bool) (Unit)
 | [],i=>Lp.brk ()
 |x1::rest,i=>(bif (!(GU x1)) then Lp.ret false else m_cj rest (i+1))
def IE (rs:List Ae):Bool:=
 (match m_cj rs 0 with
 |Lp.ret r=>r
 |Lp.brk ()=>decide (((rs.length:Nat):Int)≤(256:Int)))
def Hy (f:As):Bool:=
 ((I5 f.out)&&((FI f.time (1:Int) (1048576:Int))&&(Ql f.ins)))
def m_ce:List As→Nat→Lp (Bool) (Unit)
 | [],i=>Lp.brk ()
 |x1::rest,i=>(bif (!(Hy x1)) then Lp.ret false else m_ce rest (i+1))
def I7 (fs:List As):Bool:=
 (match m_ce fs 0 with
 |Lp.ret r=>r
 |Lp.brk ()=>decide (((fs.length:Nat):Int)≤(256:Int)))
def Hz (s':Ak):Bool:=
 (decide ((Fy (⟨s'.graph.edges,s'.graph.pools,s'.graph.defaults⟩:Av)).2=(0:Int))&&((Gb s'.actions)&&((NI (⟨s'.disk.clock,s'.disk.files⟩:Aj))&&((IE s'.log)&&(I7 s'.deps)))))
def Mz (x':ByteArray):Bool:=
 (!decide (x'=x'))
def Qj (x':ByteArray) (y:ByteArray):Int:=
 (bif (Mz x') then (bif (Mz y) then (0:Int) else (-1:Int)) else (bif (Mz y) then (1:Int) else (bif (Op.bytesLess x'.toList y.toList) then (-1:Int) else (bif (!(Op.bytesLess x'.toList y.toList||decide (x'=y))) then (1:Int) else (0:Int)))))
def HV (f:A3) (s':ByteArray):Int:=
 (Qj f.name s')
def US (cmp:A3→ByteArray→Int) (x':List A3) (target:ByteArray):Nat→Int→Int→Lp (Int×Bool) (Int)
 |0,i,j=>Lp.brk i
 |kf+1,i,j=>(bif decide (i<j) then (bif decide ((cmp (x'.getD (IntKind.wrap .i64 (Int.fdiv (IntKind.wrap .u64 (IntKind.wrap .i64 (i+j))) (2^(min 1 IntKind.u64.bits)))).toNat default) target)<(0:Int)) then US cmp x' target kf (IntKind.wrap .i64 ((IntKind.wrap .i64 (Int.fdiv (IntKind.wrap .u64 (IntKind.wrap .i64 (i+j))) (2^(min 1 IntKind.u64.bits))))+(1:Int))) j else US cmp x' target kf i (IntKind.wrap .i64 (Int.fdiv (IntKind.wrap .u64 (IntKind.wrap .i64 (i+j))) (2^(min 1 IntKind.u64.bits))))) else Lp.brk i)
def OO (x':List A3) (target:ByteArray) (cmp:A3→ByteArray→Int):Int×Bool:=
 (match US cmp x' target ((((x'.length:Nat):Int)-(0:Int)).toNat+1) (0:Int) ((x'.length:Nat):Int) with
 |Lp.ret r=>r
 |Lp.brk i'=>(bif decide (i'<((x'.length:Nat):Int)) then (i',decide ((cmp (x'.getD i'.toNat default) target)=(0:Int))) else (i',false)))
def KN (d:Aj) (s':ByteArray):Int×Bool:=
 ((OO d.files s' (fun z0 z1=>HV z0 z1)).1,(OO d.files s' (fun z0 z1=>HV z0 z1)).2)
def DT (d:Aj) (s':ByteArray):A3×Bool:=
 (bif (KN d s').2 then (bif (EI GG d) then ((⟨(d.files.getD ((KN d s').1).toNat default).name,(d.files.getD ((KN d s').1).toNat default).content,(d.files.getD ((KN d s').1).toNat default).time⟩:A3),true) else ((⟨(⟨#[]⟩:ByteArray),(0:Int),(0:Int)⟩:A3),false)) else ((⟨(⟨#[]⟩:ByteArray),(0:Int),(0:Int)⟩:A3),false))
def N1 (e:AB):ByteArray×Int:=
 (bif (!(Qp e)) then ((⟨#[]⟩:ByteArray),(1100:Int)) else ((D1 [(D1 e.outs (⟨#[32]⟩:ByteArray)),(D1 e.ins (⟨#[32]⟩:ByteArray)),(D1 e.implicit (⟨#[32]⟩:ByteArray)),(bif e.deps then (⟨#[100]⟩:ByteArray) else (⟨#[110]⟩:ByteArray)),e.command] (⟨#[124]⟩:ByteArray)),(0:Int)))
def Fm (rs:List Ae) (out:ByteArray):Ae×Bool:=
 (bif decide ((Bm rs out)<(0:Int)) then (Kz,false) else (bif (!(MA rs)) then (Kz,false) else ((⟨(rs.getD (Bm rs out).toNat default).out,(rs.getD (Bm rs out).toNat default).time,(rs.getD (Bm rs out).toNat default).sign⟩:Ae),true)))
def I6 (f:As):As:=
 (⟨f.out,f.time,(K8 f.ins)⟩:As)
def Md (fs:List As) (out:ByteArray):As×Bool:=
 (bif decide ((AC fs out)<(0:Int)) then ((⟨(⟨#[]⟩:ByteArray),(0:Int),[]⟩:As),false) else (bif (!(N4 fs)) then ((⟨(⟨#[]⟩:ByteArray),(0:Int),[]⟩:As),false) else ((⟨(I6 (fs.getD (AC fs out).toNat default)).out,(I6 (fs.getD (AC fs out).toNat default)).time,(I6 (fs.getD (AC fs out).toNat default)).ins⟩:As),true)))
def NK (l:Al) (s':ByteArray):Bool:=
 ((!(DT l.state.disk s').2)&&decide ((FJ l.state.graph s')<(0:Int)))
def Ot (l:Al):List ByteArray→Nat→Int→Lp (Int) (Int)
 | [],v32,out=>Lp.brk out
 |x1::rest,v32,out=>(bif (!(DT l.state.disk x1).2) then Lp.ret (-1:Int) else (bif (!(Fm l.state.log x1).2) then Lp.ret (-1:Int) else (bif (!decide (((Fm l.state.log x1).1).sign=(N1 l.edge).1)) then Lp.ret (-1:Int) else (bif (!decide (((Fm l.state.log x1).1).time=((DT l.state.disk x1).1).time)) then Lp.ret (-1:Int) else Ot l rest (v32+1) (if ((DT l.state.disk x1).1).time<out then ((DT l.state.disk x1).1).time else out)))))
def MI (l:Al):Int:=
 (match Ot l l.edge.outs 0 l.state.disk.clock with
 |Lp.ret r=>r
 |Lp.brk out'=>out')
def S4 (s':ByteArray) (l:Al) (time:Int):Bool:=
 ((!(DT l.state.disk s').2)||decide (time<((DT l.state.disk s').1).time))
def Vw (f:ByteArray→Bool):List ByteArray→Nat→Lp (Int) (Unit)
 | [],v8=>Lp.brk ()
 |x1::rest,v8=>(bif (f x1) then Lp.ret ((v8:Nat):Int) else Vw f rest (v8+1))
def Ul (s':List ByteArray) (f:ByteArray→Bool):Int:=
 (match Vw f s' 0 with
 |Lp.ret r=>r
 |Lp.brk ()=>(-1:Int))
def X6 (s':List ByteArray) (f:ByteArray→Bool):Bool:=
 decide ((0:Int)≤(Ul s' f))
def Sy (l:Al) (ss:List ByteArray) (time:Int):Bool:=
 (X6 ss (fun z0=>S4 z0 l time))
def Th (l:Al):Bool:=
 (decide ((MI l)<(0:Int))||((Sy l l.edge.ins (MI l))||((Sy l l.edge.implicit (MI l))||(!(!l.edge.deps)&&((!(Md l.state.deps (l.edge.outs.getD 0 default)).2)||((!decide (((Md l.state.deps (l.edge.outs.getD 0 default)).1).time=((DT l.state.disk (l.edge.outs.getD 0 default)).1).time))||(Sy l (((Md l.state.deps (l.edge.outs.getD 0 default)).1).ins) (MI l))))))))
def B4 (s':Ak) (edge:Int):Bool×Int:=
 (bif (!(GT s')) then (false,(1900:Int)) else (bif decide (edge<(0:Int)) then (false,(1900:Int)) else (bif decide (((s'.graph.edges.length:Nat):Int)≤edge) then (false,(1900:Int)) else (bif (X6 (E6 [(s'.graph.edges.getD edge.toNat default).ins,(s'.graph.edges.getD edge.toNat default).implicit,(s'.graph.edges.getD edge.toNat default).order]) (fun z0=>NK (⟨s',(s'.graph.edges.getD edge.toNat default)⟩:Al) z0)) then (false,(1901:Int)) else ((Th (⟨s',(s'.graph.edges.getD edge.toNat default)⟩:Al)),(0:Int))))))
def Ov (s':Ak) (x2:Int):List ByteArray→Nat→(List Bool)→Lp (List Bool×Int) ((List Bool))
 | [],v70,row3=>Lp.brk row3
 |x3::rest,v70,row3=>(bif decide ((0:Int)≤(FJ s'.graph x3)) then (bif (row3.getD ((FJ s'.graph x3).toNat) default) then Ov s' x2 rest (v70+1) (row3.set x2.toNat true) else Ov s' x2 rest (v70+1) row3) else Ov s' x2 rest (v70+1) row3)
def VF (s':Ak):List Int→Nat→(List Bool)→Lp (List Bool×Int) ((List Bool))
 | [],v50,row2=>Lp.brk row2
 |x2::rest,v50,row2=>(match Ov s' x2 (E6 [(s'.graph.edges.getD x2.toNat default).ins,(s'.graph.edges.getD x2.toNat default).implicit]) 0 row2 with
 |Lp.ret r=>Lp.ret r
 |Lp.brk row4'=>VF s' rest (v50+1) row4')
def VE (s':Ak):List Bool→Nat→(List Bool)→Lp (List Bool×Int) ((List Bool))
 | [],v25,row=>Lp.brk row
 |x1::rest,v25,row=>(bif (!decide ((B4 s' ((v25:Nat):Int)).2=(0:Int))) then Lp.ret (([]:List Bool),(B4 s' ((v25:Nat):Int)).2) else VE s' rest (v25+1) (row.set v25 ((B4 s' ((v25:Nat):Int)).1)))
def GH (s':Ak):List Bool×Int:=
 (bif (!(GT s')) then (([]:List Bool),(1900:Int)) else (match VE s' (List.replicate s'.graph.edges.length false) 0 (List.replicate s'.graph.edges.length false) with
 |Lp.ret r=>r
 |Lp.brk row'=>(match VF s' ((ID (⟨s'.graph.edges,s'.graph.pools,s'.graph.defaults⟩:Av)).1) 0 row' with
 |Lp.ret r=>r
 |Lp.brk row5'=>(row5',(0:Int)))))
def X4 (d:Aj) (name:ByteArray):Nat→Nat→ByteArray→Int→Int→Lp (A3×Bool) (ByteArray×Int×Int)
 |0,i,cell,cell2,cell3=>Lp.brk (cell,cell2,cell3)
 |kf+1,i,cell,cell2,cell3=>(bif decide (((i:Nat):Int)<((d.files.length:Nat):Int)) then (bif (NI d) then (bif decide ((d.files.getD i default).name=name) then Lp.ret ((⟨(d.files.getD i default).name,(d.files.getD i default).content,(d.files.getD i default).time⟩:A3),true) else X4 d name kf (i+1) cell cell2 cell3) else Lp.brk (cell,cell2,cell3)) else Lp.brk (cell,cell2,cell3))
def Jv (d:Aj) (name:ByteArray):A3×Bool:=
 (match X4 d name (d.files.length-0+1) 0 (⟨#[]⟩:ByteArray) (0:Int) (0:Int) with
 |Lp.ret r=>r
 |Lp.brk (cell',cell2',cell3')=>((⟨(⟨#[]⟩:ByteArray),(0:Int),(0:Int)⟩:A3),false))
def Uo (name:ByteArray):List A3→Nat→(List A3)→Lp (Aj) ((List A3))
 | [],i,cell=>Lp.brk cell
 |x1::rest,i,cell=>(bif (!decide (x1.name=name)) then Uo name rest (i+1) (cell++[x1]) else Uo name rest (i+1) cell)
def Ld (d:Aj) (name:ByteArray):Aj:=
 (match Uo name d.files 0 [] with
 |Lp.ret r=>r
 |Lp.brk cell'=>(⟨d.clock,cell'⟩:Aj))
def Pq (name:ByteArray) (content:Int) (d:Aj):List A3→Nat→Bool→(List A3)→Lp (Aj×Int) (Bool×(List A3))
 | [],i,in',cell=>Lp.brk (in',cell)
 |x1::rest,i,in',cell=>(bif (!in') then (bif (!Op.bytesLess x1.name.toList name.toList) then (bif (!decide (x1.name=name)) then Pq name content d rest (i+1) true ((cell++[(⟨name,content,(IntKind.wrap .i64 (d.clock+(1:Int)))⟩:A3)])++[x1]) else Pq name content d rest (i+1) true (cell++[(⟨name,content,(IntKind.wrap .i64 (d.clock+(1:Int)))⟩:A3)])) else (bif (!decide (x1.name=name)) then Pq name content d rest (i+1) in' (cell++[x1]) else Pq name content d rest (i+1) in' cell)) else (bif (!decide (x1.name=name)) then Pq name content d rest (i+1) in' (cell++[x1]) else Pq name content d rest (i+1) in' cell))
def Ij (d:Aj) (name:ByteArray) (content:Int):Aj×Int:=
 (bif (!(NI d)) then ((⟨(0:Int),[]⟩:Aj),(1200:Int)) else (bif (!(I5 name)) then ((⟨(0:Int),[]⟩:Aj),(1200:Int)) else (bif (!(FI content (0:Int) (2147483647:Int))) then ((⟨(0:Int),[]⟩:Aj),(1200:Int)) else (match Pq name content d d.files 0 false [] with
 |Lp.ret r=>r
 |Lp.brk (inv',cell')=>(bif (!inv') then (bif decide ((1048576:Int)<(IntKind.wrap .i64 (d.clock+(1:Int)))) then ((⟨(0:Int),[]⟩:Aj),(1201:Int)) else (bif decide ((64:Int)<(((cell'++[(⟨name,content,(IntKind.wrap .i64 (d.clock+(1:Int)))⟩:A3)]).length:Nat):Int)) then ((⟨(0:Int),[]⟩:Aj),(1201:Int)) else ((⟨(IntKind.wrap .i64 (d.clock+(1:Int))),(cell'++[(⟨name,content,(IntKind.wrap .i64 (d.clock+(1:Int)))⟩:A3)])⟩:Aj),(0:Int)))) else (bif decide ((1048576:Int)<(IntKind.wrap .i64 (d.clock+(1:Int)))) then ((⟨(0:Int),[]⟩:Aj),(1201:Int)) else (bif decide ((64:Int)<((cell'.length:Nat):Int)) then ((⟨(0:Int),[]⟩:Aj),(1201:Int)) else ((⟨(IntKind.wrap .i64 (d.clock+(1:Int))),cell'⟩:Aj),(0:Int)))))))))
def OP (d:Aj) (name:ByteArray):Aj×Int:=
 (bif (!(NI d)) then ((⟨(0:Int),[]⟩:Aj),(1200:Int)) else (bif (!(I5 name)) then ((⟨(0:Int),[]⟩:Aj),(1200:Int)) else (bif (!(Jv d name).2) then ((⟨(0:Int),[]⟩:Aj),(1202:Int)) else ((⟨(Ld d name).clock,(Ld d name).files⟩:Aj),(0:Int)))))
def Cu:Ak:=
 B3
def Tl:Ak:=
 (⟨(⟨Cu.graph.edges,Cu.graph.pools,Cu.graph.defaults⟩:Av),Cu.actions,(⟨(8:Int),Q8.files⟩:Aj),[Ca,C9,D5,Fl],[Pp],Cu.jobs,Cu.going,[]⟩:Ak)
def N2:Bool:=
 ((B4 B3 (1:Int)).1&&(decide ((Do ((B4 B3 (1:Int)).2))=(0:Int))&&((S5 ((GH B3).1) [true,true,true])&&(decide ((Do ((GH B3).2))=(0:Int))&&(decide ((Do ((B4 (⟨DZ,[Cq],(⟨(4:Int),(([AQ,AU,AW,AR].take [AQ,AU,AW,AR].length).drop 1)⟩:Aj),[],[],(2:Int),false,[]⟩:Ak) (1:Int)).2))=(1901:Int))&&(decide ((Do ((B4 B3 (3:Int)).2))=(1900:Int))&&decide ((Do ((GH (⟨GS,[Cq],(⟨(4:Int),(([AQ,AU,AW,AR].take [AQ,AU,AW,AR].length).drop 1)⟩:Aj),[],[],(2:Int),false,[]⟩:Ak)).2))=(1900:Int))))))))
def Ah:Aj:=(⟨(8:Int),Q8.files⟩:Aj)
def BM:As:=Pp
def Bv:Av:=(⟨Cu.graph.edges,Cu.graph.pools,Cu.graph.defaults⟩:Av)
def A9:Ae:=D5
def A8:Ae:=Fl
def A4:Ae:=C9
def A5:Ae:=Ca
def CM:Ae:=(⟨(⟨#[97,46,100]⟩:ByteArray),(2:Int),A4.sign⟩:Ae)
def Bk:Ak:=(⟨Bv,Cu.actions,Ah,[A5,A4,A9,A8],[],Cu.jobs,Cu.going,[]⟩:Ak)
def Bj:Ak:=(⟨Bv,Cu.actions,Ah,[A5,A4,A9,A8],[BM],Cu.jobs,Cu.going,[]⟩:Ak)
def Bi:Ak:=(⟨Bv,Cu.actions,Ah,[A5,A4,A9,A8],[(⟨(⟨#[97,46,111]⟩:ByteArray),(6:Int),[(⟨#[122,46,104]⟩:ByteArray)]⟩:As)],Cu.jobs,Cu.going,[]⟩:Ak)
def Bh (x':Int):Ak:=(⟨Bv,Cu.actions,Ah,(Qx [A5,A4,A9,A8] 0 (fun d=>({d with time:=(IntKind.wrap .i64 ((1:Int)+(C0 .and .i64 x' (3:Int))))}:Ae))),[BM],Cu.jobs,Cu.going,[]⟩:Ak)
def Bg:Ak:=(⟨Bv,Cu.actions,Ah,(Qx [A5,A4,A9,A8] 1 (fun d=>({d with sign:=(⟨#[97,46,111,32,97,46,100,124,97,46,99,124,97,46,104,124,100,124,99,99]⟩:ByteArray)}:Ae))),[BM],Cu.jobs,Cu.going,[]⟩:Ak)
def Bf:Ak:=(⟨Bv,Cu.actions,(⟨((OP Ah (⟨#[97,46,100]⟩:ByteArray)).1).clock,((OP Ah (⟨#[97,46,100]⟩:ByteArray)).1).files⟩:Aj),[A5,A4,A9,A8],[BM],Cu.jobs,Cu.going,[]⟩:Ak)
def Be:Ak:=(⟨Bv,Cu.actions,(⟨((OP Ah (⟨#[122,46,104]⟩:ByteArray)).1).clock,((OP Ah (⟨#[122,46,104]⟩:ByteArray)).1).files⟩:Aj),[A5,A4,A9,A8],[BM],Cu.jobs,Cu.going,[]⟩:Ak)
def Bd (x':Int):Ak:=(⟨Bv,Cu.actions,(⟨((Ij Ah (⟨#[97,46,99]⟩:ByteArray) (C0 .and .i64 x' (255:Int))).1).clock,((Ij Ah (⟨#[97,46,99]⟩:ByteArray) (C0 .and .i64 x' (255:Int))).1).files⟩:Aj),[A5,A4,A9,A8],[BM],Cu.jobs,Cu.going,[]⟩:Ak)
def Bc (x':Int):Ak:=(⟨Bv,Cu.actions,(⟨((Ij Ah (⟨#[97,46,104]⟩:ByteArray) (C0 .and .i64 x' (255:Int))).1).clock,((Ij Ah (⟨#[97,46,104]⟩:ByteArray) (C0 .and .i64 x' (255:Int))).1).files⟩:Aj),[A5,A4,A9,A8],[BM],Cu.jobs,Cu.going,[]⟩:Ak)
def Ax (x':Int):Ak:=(⟨Bv,Cu.actions,(⟨((Ij Ah (⟨#[97,46,111]⟩:ByteArray) (C0 .and .i64 x' (255:Int))).1).clock,((Ij Ah (⟨#[97,46,111]⟩:ByteArray) (C0 .and .i64 x' (255:Int))).1).files⟩:Aj),[A5,A4,A9,A8],[BM],Cu.jobs,Cu.going,[]⟩:Ak)
def Bb (x':Int):Ak:=(⟨Bv,Cu.actions,(⟨((Ij Ah (⟨#[122,46,104]⟩:ByteArray) (C0 .and .i64 x' (255:Int))).1).clock,((Ij Ah (⟨#[122,46,104]⟩:ByteArray) (C0 .and .i64 x' (255:Int))).1).files⟩:Aj),[A5,A4,A9,A8],[BM],Cu.jobs,Cu.going,[]⟩:Ak)
def Ba:Ak:=(⟨Bv,Cu.actions,Ah,[A5,A4,A9,A8,CM],[BM],Cu.jobs,Cu.going,[]⟩:Ak)
def B9:Ak:=(⟨Bv,Cu.actions,Ah,(([A5,A4,A9,A8].take [A5,A4,A9,A8].length).drop 1),[BM],Cu.jobs,Cu.going,[]⟩:Ak)
def Me (which:Int) (x':Int):Bool:=
 (!(!N2)&&(bif decide (((IntKind.wrap .u64 which).tmod (14:Int))=(0:Int)) then (decide ((Do ((B4 Bj (1:Int)).2))=(0:Int))&&((B4 Bj (1:Int)).1==false)) else (bif decide (((IntKind.wrap .u64 which).tmod (14:Int))=(1:Int)) then (decide ((Do ((B4 B9 (1:Int)).2))=(0:Int))&&((B4 B9 (1:Int)).1==true)) else (bif decide (((IntKind.wrap .u64 which).tmod (14:Int))=(2:Int)) then (decide ((Do ((B4 Bg (1:Int)).2))=(0:Int))&&((B4 Bg (1:Int)).1==true)) else (bif decide (((IntKind.wrap .u64 which).tmod (14:Int))=(3:Int)) then (decide ((Do ((B4 (Bh x') (1:Int)).2))=(0:Int))&&((B4 (Bh x') (1:Int)).1==true)) else (bif decide (((IntKind.wrap .u64 which).tmod (14:Int))=(4:Int)) then (decide ((Do ((B4 Bf (1:Int)).2))=(0:Int))&&((B4 Bf (1:Int)).1==true)) else (bif decide (((IntKind.wrap .u64 which).tmod (14:Int))=(5:Int)) then (decide ((Do ((B4 (Ax x') (1:Int)).2))=(0:Int))&&((B4 (Ax x') (1:Int)).1==true)) else (bif decide (((IntKind.wrap .u64 which).tmod (14:Int))=(6:Int)) then (decide ((Do ((B4 (Bd x') (1:Int)).2))=(0:Int))&&((B4 (Bd x') (1:Int)).1==true)) else (bif decide (((IntKind.wrap .u64 which).tmod (14:Int))=(7:Int)) then (decide ((Do ((B4 (Bc x') (1:Int)).2))=(0:Int))&&((B4 (Bc x') (1:Int)).1==true)) else (bif decide (((IntKind.wrap .u64 which).tmod (14:Int))=(8:Int)) then (decide ((Do ((B4 (Bb x') (1:Int)).2))=(0:Int))&&((B4 (Bb x') (1:Int)).1==true)) else (bif decide (((IntKind.wrap .u64 which).tmod (14:Int))=(9:Int)) then (decide ((Do ((B4 Bk (1:Int)).2))=(0:Int))&&((B4 Bk (1:Int)).1==true)) else (bif decide (((IntKind.wrap .u64 which).tmod (14:Int))=(10:Int)) then (decide ((Do ((B4 Bi (1:Int)).2))=(0:Int))&&((B4 Bi (1:Int)).1==true)) else (bif decide (((IntKind.wrap .u64 which).tmod (14:Int))=(11:Int)) then (decide ((Do ((B4 Be (1:Int)).2))=(0:Int))&&((B4 Be (1:Int)).1==true)) else (bif decide (((IntKind.wrap .u64 which).tmod (14:Int))=(12:Int)) then (decide ((Do ((B4 (Ax x') (2:Int)).2))=(0:Int))&&((B4 (Ax x') (2:Int)).1==false)) else (decide ((Do ((B4 Ba (1:Int)).2))=(0:Int))&&((B4 Ba (1:Int)).1==true))))))))))))))))
end
end Go.Lift
namespace Go.Lift
noncomputable section
open Go Go.RowKit
theorem Ha {α:Type} {sz:α→Nat} (h: ∀x,1≤sz x) (xs:List α):xs.length+1≤Kn sz xs:=by
 unfold Kn
 induction xs with
 |nil=>simp
 |cons x xs ih=>have:=h x;simp only [List.map_cons,List.sum_cons,List.length_cons];omega
theorem OQ {α:Type} {sz:α→Nat} {x:α}: ∀ {xs:List α},x∈xs→sz x+1≤Kn sz xs
 | [],h=>by simp at h
 |y::ys,h=>by
  unfold Kn
  simp only [List.map_cons,List.sum_cons]
  rcases List.mem_cons.1 h with rfl|h
  ·omega
  ·have:=OQ (sz:=sz) h;unfold Kn at this;omega
theorem XB {α:Type} [Inhabited α] {sz:α→Nat} {xs:List α} {i:Nat} (h:i<xs.length):sz (xs.getD i default)+1≤Kn sz xs:=
 OQ (List.mem_of_getElem? (getD_some h))
theorem FD (xs:List ByteArray):xs.length+1≤Kn (fun s:ByteArray=>s.size+1) xs:=Ha (fun _=>Nat.le_add_left 1 _) xs
theorem AB.sz_one (e:AB):1≤e.sz:=by unfold AB.sz;omega
theorem SH (d:AB):d.sz=Kn (fun s:ByteArray=>s.size+1) d.outs+Kn (fun s:ByteArray=>s.size+1) d.ins+Kn (fun s:ByteArray=>s.size+1) d.implicit+Kn (fun s:ByteArray=>s.size+1) d.order+(d.command.size+1)+1+(d.pool.size+1)+1:=rfl
theorem Av.sz_len (g:Av):g.edges.length≤g.sz:=Nat.le_trans (Nat.le_of_succ_le (Ha AB.sz_one g.edges)) g.sz_edges
theorem VM (g:Av) (i:Int):Py g i≤g.sz:=by
 unfold Py
 by_cases h:i.toNat<g.edges.length
 ·have h1:=XB (sz:=AB.sz) h
  have h2:=g.sz_edges
  generalize g.edges.getD i.toNat default=e at*
  have a:=FD e.ins;have b:=FD e.implicit;have c:=FD e.order
  rw [SH] at h1
  omega
 ·rw [List.getD_eq_getElem?_getD,List.getElem?_eq_none (by omega)]
  show (0+0+0:Nat)≤_
  omega
theorem QX: ∀es:List AB,TA es≤Kn AB.sz es
 | []=>Nat.zero_le _
 |e::es=>by
  have:=QX es
  have a:=FD e.outs;have b:=e.sz_outs
  unfold Kn at*
  simp only [TA,List.map_cons,List.sum_cons] at*
  omega
theorem Xi (g:Av):TA g.edges≤g.sz:=Nat.le_trans (QX _) g.sz_edges
theorem Wr (x m:Int) (h0:0≤m) (hm:m<4611686018427387904):0≤C0 .and .i64 x m∧C0 .and .i64 x m≤m:=by
 obtain ⟨n,rfl⟩: ∃n:Nat,m=((n:Nat):Int):=⟨m.toNat,by omega⟩
 have h:(BitVec.ofInt IntKind.i64.bits x&&&BitVec.ofInt IntKind.i64.bits ((n:Nat):Int)).toNat≤n:=by
  rw [BitVec.toNat_and]
  refine Nat.le_trans Nat.and_le_right ?_
  rw [BitVec.ofInt_natCast,BitVec.toNat_ofNat]
  exact Nat.mod_le _ _
 unfold C0
 simp only
 rw [G0 (by omega) (by omega)]
 omega
end
end Go.Lift
namespace Go.Lift
noncomputable section
open Go Go.RowKit
theorem Mw {α:Type} {p:α→Bool} {L:List α→Nat→Lp Bool Unit} (h0: ∀i,L [] i=Lp.brk ()) (h1: ∀x r i,L (x::r) i=bif !(p x) then Lp.ret false else L r (i+1)): ∀(l:List α) (i:Nat),L l i=if l.all p then Lp.brk () else Lp.ret false
 | [],i=>by rw [h0];rfl
 |x::r,i=>by
  rw [h1,Mw h0 h1 r (i+1),List.all_cons]
  cases p x<;>simp
theorem Ds (xs ys:List ByteArray) (k:Nat):Dh (xs++ys) k=Dh xs k+Dh ys k:=by
 induction xs with
 |nil=>simp [Dh]
 |cons x xs ih=>simp only [List.cons_append,Dh,ih];omega
theorem Gv (xs:List ByteArray) (n k:Nat):Dh (xs.take n) k≤Dh xs k:=by
 have:=Ds (xs.take n) (xs.drop n) k
 rw [List.take_append_drop] at this
 omega
theorem OC (l:List UInt8) (i:Nat):Oo l i=if l.all Ht then Lp.brk () else Lp.ret false:=
 Mw (p:=Ht) (fun _=>rfl) (fun x r i=>by
  rw [Oo,Va]
  have e:NO (x.toNat:Int)=PS x.toNat:=by
   unfold NO PS
   cases decide ((97:Int)≤(x.toNat:Int))<;>cases decide ((x.toNat:Int)≤122)<;>rfl
  rw [e]
  generalize PS x.toNat=a
  generalize decide ((x.toNat:Int)=46)=b
  generalize decide ((x.toNat:Int)=95)=c
  generalize decide ((x.toNat:Int)=45)=d
  generalize decide ((x.toNat:Int)=47)=f
  cases a<;>cases b<;>cases c<;>cases d<;>cases f<;>rfl) l i
theorem G7 (s:ByteArray):My s=Ia s:=by
 unfold My
 rw [OC,Tt]
 cases s.data.toList.all Ht<;>rfl
theorem UU {s:ByteArray} (h:Ia s=true):1≤s.size∧s.size≤16:=by
 rw [Tt] at h
 simp only [Bool.and_eq_true,decide_eq_true_eq] at h
 omega
theorem NV {s:ByteArray} (h:My s=true):1≤s.size∧s.size≤16:=UU (by rw [←G7];exact h)
theorem OD {s:ByteArray} (h:(!(My s))=false):1≤s.size∧s.size≤16:=NV (by simpa using h)
def Lp.val {α:Type}:Lp α α→α
 | .ret a=>a
 | .brk a=>a
theorem LK (s:ByteArray) (c:Int): ∀(k:Nat) (out:List ByteArray) (f i:Nat),Dh out 1≤f→f≤i→i≤s.size+1→Dh (NJ s c k out f i).val 1≤s.size+1
 |0,out,f,i,h1,h2,h3=>by simp only [NJ,Lp.val];omega
 |k+1,out,f,i,h1,h2,h3=>by
  rw [NJ]
  by_cases h:((i:Nat):Int)≤((s.size:Nat):Int)
  ·rw [decide_eq_true h,cond_true]
   cases (decide (((i:Nat):Int)=((s.size:Nat):Int))||decide (((s.data.getD i 0).toNat:Int)=c))
   ·exact LK s c k out f (i+1) h1 (by omega) (by omega)
   ·refine LK s c k _ (i+1) (i+1) ?_ (Nat.le_refl _) (by omega)
    rw [Ds]
    simp only [Dh,ByteArray.size_extract]
    omega
  ·rw [decide_eq_false h,cond_false]
   simp only [Lp.val];omega
theorem PT (s:ByteArray) (c:Int):Dh (Lt s c) 1≤s.size+1:=by
 have:=LK s c (s.size+1-0+1) [] 0 0 (Nat.le_refl _) (Nat.le_refl _) (Nat.zero_le _)
 unfold Lt
 cases e:NJ s c (s.size+1-0+1) [] 0 0<;>rw [e] at this<;>exact this
theorem Uu {s:ByteArray} {c:Int} {kept:List ByteArray} {n:Nat} (h:s.size≤16) (hk:Dh kept 1+n≤Dh (Lt s c) 1):Dh kept (⟨#[47]⟩:ByteArray).size≤281474976710656:=by
 have:=PT s c
 show Dh kept 1≤_
 omega
theorem QO: ∀(xs:List (List ByteArray)) (i n:Nat),VH xs i n=Lp.brk (n+xs.flatten.length)
 | [],i,n=>by simp [VH]
 |x::xs,i,n=>by rw [VH,QO xs];simp [Nat.add_assoc]
theorem QP: ∀(xs:List (List ByteArray)) (i:Nat) (out:List ByteArray),N5 xs i out=Lp.brk (out++xs.flatten)
 | [],i,n=>by simp [N5]
 |x::xs,i,n=>by rw [N5,QP xs];simp [List.append_assoc]
theorem LY (xs:List (List ByteArray)):E6 xs=xs.flatten:=by
 simp only [E6,QO,QP,List.take_zero,List.nil_append]
theorem Vd {g:Av} (h:(!decide ((Kg g)=(0:Int)))=false):g.edges.length≤16:=by
 have h1:Kg g=0:=by simpa using h
 unfold Kg Ll at h1
 split at h1
 ·simp at h1
 ·rename_i hm
  have hm':NP (Ns g)=true:=by simpa using hm
  simp only [NP,Bool.and_eq_true,decide_eq_true_eq,Ns,List.length_map] at hm'
  have:=hm'.2.1;omega
theorem UQ (f:AB→Bool): ∀(xs:List AB) (i:Nat),m_v f xs i=Lp.brk ()∨ ∃r:Nat,m_v f xs i=Lp.ret (r:Int)∧i≤r∧r<i+xs.length
 | [],i=>Or.inl rfl
 |x::xs,i=>by
  rw [m_v]
  cases f x
  ·simp only [cond_false]
   rcases UQ f xs (i+1) with h|⟨r,h,h1,h2⟩
   ·exact Or.inl h
   ·exact Or.inr ⟨r,h,by omega,by simp only [List.length_cons];omega⟩
  ·exact Or.inr ⟨i,rfl,Nat.le_refl _,by simp⟩
theorem Tr (g:Av) (s:ByteArray):FJ g s<(g.edges.length:Int)∧ -1≤FJ g s:=by
 unfold FJ m_9
 rcases UQ (fun z0=>Tm z0 s) g.edges 0 with h|⟨r,h,h1,h2⟩
 ·rw [h];exact ⟨by show (-1:Int)<_;omega,Int.le_refl _⟩
 ·rw [h];exact ⟨by show (r:Int)<_;omega,by show (-1:Int)≤r;omega⟩
def inG (g:Av) (k:Int):Prop:=0≤k∧k.toNat<g.edges.length
theorem Xa (g:Av): ∀(xs:List (List Int)) (i:Nat) (c:List Int),i+xs.length≤g.edges.length→(∀k∈c,inG g k)→ ∃t c',Pu xs i c=Lp.brk (t,c')∧(∀k∈c',inG g k)∧c'.length≤c.length+1
 | [],i,c,_,h=>⟨_,_,rfl,h,by omega⟩
 |x::xs,i,c,hl,h=>by
  simp only [List.length_cons] at hl
  rw [Pu]
  cases (!(Kf ((i:Nat):Int) c))
  ·exact Xa g xs (i+1) c (by omega) h
  ·simp only [cond_true]
   cases (!(W9 x (fun z0=>Ow z0 (fun z0=>Kf z0 c))))
   ·exact Xa g xs (i+1) c (by omega) h
   ·refine ⟨_,_,rfl,?_,by simp⟩
    intro k hk
    rcases List.mem_append.1 hk with hk|hk
    ·exact h k hk
    ·rw [List.mem_singleton.1 hk];exact ⟨by omega,by omega⟩
theorem of_L2 (g:Av) (row:List (List Int)) (hr:row.length≤g.edges.length): ∀(f:Nat) (c:List Int),(∀k∈c,inG g k)→(∃c',Qo g row f c=Lp.brk c'∧(∀k∈c',inG g k)∧(c.length≤g.edges.length→c'.length≤g.edges.length))∨Qo g row f c=Lp.ret (([]:List Int),(1001:Int))
 |0,c,h=>Or.inl ⟨c,rfl,h,id⟩
 |f+1,c,h=>by
  rw [Qo]
  cases hd:decide (((c.length:Nat):Int)<((g.edges.length:Nat):Int))
  ·exact Or.inl ⟨c,rfl,h,id⟩
  ·have hd':=of_decide_eq_true hd
   obtain ⟨t,c',e,a,l⟩:=Xa g row 0 c (by omega) h
   simp only [cond_true,e]
   cases t
   ·exact Or.inr rfl
   ·rcases of_L2 g row hr f c' a with ⟨c2,h1,h2,h3⟩|h1
    ·exact Or.inl ⟨c2,h1,h2,fun _=>h3 (by omega)⟩
    ·exact Or.inr h1
theorem of_L1 (g:Av): ∀(xs:List (List Int)) (i:Nat) (row:List (List Int)),∃row',Pt g xs i row=Lp.brk row'∧row'.length=row.length
 | [],i,row=>⟨_,rfl,rfl⟩
 |x::xs,i,row=>by
  rw [Pt]
  obtain ⟨r,e,a⟩:=of_L1 g xs (i+1) (row.set i (Ju g ((i:Nat):Int)))
  exact ⟨r,e,by simpa using a⟩
theorem of_mem {g:Av} {k:Int} (h:k∈(ID g).1):0≤k∧k.toNat<g.edges.length:=by
 unfold ID at h
 cases hc:(!decide ((Kg g)=(0:Int)))
 ·rw [hc] at h
  simp only [cond_false] at h
  obtain ⟨row,e,a⟩:=of_L1 g (List.replicate g.edges.length ([]:List Int)) 0 (List.replicate g.edges.length ([]:List Int))
  rw [e] at h
  simp only at h
  rcases of_L2 g row (by rw [a];simp) (g.edges.length-0+1) [] (by simp) with ⟨c,e2,b,_⟩|e2
  ·rw [e2] at h;exact b k h
  ·rw [e2] at h;simp at h
 ·rw [hc] at h;simp at h
end
end Go.Lift
namespace Go.Lift
noncomputable section
open Go Go.RowKit
theorem O0 (c:UInt8): ∀l:List UInt8,Cn c l≠ []
 | []=>by simp [Cn]
 |b::l=>by
  rw [Cn]
  split
  ·simp
  ·cases h:Cn c l<;>simp
theorem MV (s:ByteArray) (f i:Nat):(s.extract f i).data.toList=(s.data.toList.take i).drop f:=by
 rw [ByteArray.data_extract,Array.toList_extract,List.extract_eq_take_drop,List.take_drop]
 by_cases h:f≤i
 ·rw [show f+(i-f)=i by omega]
 ·rw [show f+(i-f)=f by omega,List.drop_of_length_le (by simp;omega),List.drop_of_length_le (by simp;omega)]
theorem Kk (s:ByteArray): ∀(k:Nat) (out:List ByteArray) (f i:Nat),f≤i→i≤s.size→s.size+1-i<k→
  NJ s 47 k out f i=Lp.brk (out++(match Cn 47 (s.data.toList.drop i) with| []=>[]|p::r=>GJ ((s.data.toList.take i).drop f++p)::r.map GJ))
 |0,_,_,_,_,_,h=>by omega
 |k+1,out,f,i,h1,h2,h3=>by
  have hl:=FV s
  rw [NJ,decide_eq_true (by omega),cond_true]
  by_cases hi:i=s.size
  ·subst hi
   rw [decide_eq_true rfl,Bool.true_or,cond_true]
   obtain ⟨k',rfl⟩: ∃k',k=k'+1:=⟨k-1,by omega⟩
   rw [NJ,decide_eq_false (by omega),cond_false,List.drop_of_length_le (by omega)]
   simp only [Cn,List.append_nil,List.map_nil]
   rw [←MV,LM]
  ·have hlt:i<s.data.toList.length:=by omega
   have hd:s.data.toList.drop i=s.data.getD i 0::s.data.toList.drop (i+1):=by
    rw [List.drop_eq_getElem_cons hlt]
    congr 1
    have:i<s.data.size:=by rw [←Array.length_toList];exact hlt
    simp only [Array.getD,this,dif_pos];simp
   have ht:s.data.toList.take (i+1)=s.data.toList.take i++[s.data.getD i 0]:=by
    rw [List.take_add_one,List.getElem?_eq_getElem hlt]
    have:i<s.data.size:=by rw [←Array.length_toList];exact hlt
    simp only [Array.getD,this,dif_pos];simp
   rw [decide_eq_false (by omega),Bool.false_or,hd,Cn]
   by_cases hb:s.data.getD i 0=47
   ·rw [if_pos hb,decide_eq_true (by rw [hb];rfl),cond_true,Kk s k _ (i+1) (i+1) (Nat.le_refl _) (by omega) (by omega)]
    simp only [List.append_assoc,List.append_nil,List.singleton_append]
    rw [show GJ ((s.data.toList.take i).drop f)=s.extract f i from by rw [←MV];rfl]
    congr 3
    cases h:Cn 47 (s.data.toList.drop (i+1)) with
    |nil=>exact absurd h (O0 _ _)
    |cons p r=>simp only [List.map_cons];rw [List.drop_of_length_le (by simp;omega),List.nil_append]
   ·have hn: ¬((s.data.getD i 0).toNat:Int)=47:=fun h=>hb (by
      apply UInt8.toNat_inj.1;show _=47;omega)
    rw [if_neg hb,decide_eq_false hn,cond_false,Kk s k out f (i+1) (by omega) (by omega) (by omega)]
    congr 2
    cases h:Cn 47 (s.data.toList.drop (i+1)) with
    |nil=>exact absurd h (O0 _ _)
    |cons p r=>
     simp only
     rw [ht,List.drop_append_of_le_length (by simp;omega),List.append_assoc];rfl
theorem Qw (s:ByteArray):Lt s 47=(Cn 47 s.data.toList).map GJ:=by
 unfold Lt
 rw [Kk s _ [] 0 0 (Nat.le_refl _) (Nat.zero_le _) (by omega)]
 simp only [List.drop_zero,List.nil_append,List.take_zero]
 cases h:Cn 47 s.data.toList with
 |nil=>exact absurd h (O0 _ _)
 |cons p r=>rfl
theorem FZ: ∀(ps:List ByteArray) (i:Nat) (kept:List ByteArray),NL ps i kept=match Lo ps kept with
  |none=>Lp.ret ((⟨#[]⟩:ByteArray),(200:Int))
  |some k=>Lp.brk k
 | [],i,kept=>rfl
 |p::ps,i,kept=>by
  rw [NL,Lo,LL]
  by_cases h1:p=⟨#[]⟩
  ·rw [decide_eq_true h1,cond_true,if_pos (Or.inl h1),FZ ps];rfl
  ·rw [decide_eq_false h1,cond_false]
   by_cases h2:p=⟨#[46]⟩
   ·rw [decide_eq_true h2,cond_true,if_pos (Or.inr h2),FZ ps];rfl
   ·rw [decide_eq_false h2,cond_false,if_neg (by rintro (h|h);exact h1 h;exact h2 h)]
    by_cases h3:p=⟨#[46,46]⟩
    ·rw [decide_eq_true h3,cond_true,if_neg (fun h=>h h3)]
     by_cases h4:kept=[]
     ·subst h4;rfl
     ·rw [decide_eq_false (by cases kept with
       |nil=>exact absurd rfl h4
       |cons a b=>simp only [List.length_cons];omega),cond_false,if_neg h4,FZ ps,List.dropLast_eq_take];rfl
    ·rw [decide_eq_false h3,cond_false,if_pos h3,FZ ps];rfl
theorem Nh: ∀(xs:List ByteArray) (i:Nat) (acc:ByteArray),0<i→Pr ⟨#[47]⟩ xs i acc=Lp.brk (GJ (acc.data.toList++Lib.joinTail [47] (xs.map (·.data.toList))))
 | [],i,acc,_=>by
   rw [Pr];simp only [Lib.joinTail,List.map_nil,List.flatten_nil,List.append_nil];rfl
 |x::xs,i,acc,h=>by
  rw [Pr,decide_eq_true (by omega),cond_true,Nh xs (i+1) _ (by omega)]
  congr 2
  simp [Lib.joinTail]
theorem Si (k:ByteArray) (ks:List ByteArray):Fn (k::ks) ⟨#[47]⟩=T8 (k::ks):=by
 unfold Fn T8
 rw [Pr,decide_eq_false (by omega),cond_false,Nh ks 1 _ (by omega)]
 simp only [List.map_cons,Lib.join_cons]
 show GJ _=_
 unfold GJ
 congr 2
theorem Ng (s:ByteArray):N6 s=Cm s:=by
 unfold N6 Cm
 rw [G7]
 cases hm:Ia s
 ·simp
 ·have hz:=UU hm
  have hl:=FV s
  have hh:s.data.toList.head? =some (s.data.getD 0 0):=by
   cases hs:s.data.toList with
   |nil=>rw [hs] at hl;simp at hl;omega
   |cons a b=>
    have:0<s.data.size:=by show 0<s.size;omega
    simp only [Array.getD,this,dif_pos,List.head?_cons]
    have e:s.data.toList[0]? =some a:=by rw [hs];rfl
    rw [Array.getElem?_toList] at e
    rw [Array.getElem?_eq_getElem this] at e
    exact e.symm
  simp only [Bool.not_true,cond_false,Bool.true_eq_false,false_or,hh]
  by_cases hb:s.data.getD 0 0=47
  ·rw [decide_eq_true (by rw [hb];rfl),cond_true,if_pos (by rw [hb])]
  ·have hn: ¬((s.data.getD 0 0).toNat:Int)=47:=fun h=>hb (by
     apply UInt8.toNat_inj.1;show _=47;omega)
   rw [decide_eq_false hn,cond_false,if_neg (by simpa using hb),Qw,FZ]
   cases Lo ((Cn 47 s.data.toList).map GJ) [] with
   |none=>rfl
   |some k=>
    cases k with
    |nil=>rfl
    |cons k ks=>
     simp only
     rw [decide_eq_false (by simp only [List.length_cons];omega),cond_false,Si]
theorem La (s:ByteArray):I5 s=Ui s:=by
 unfold I5 Ui;rw [Ng]
theorem HH (xs:List ByteArray):Ql xs=Mr ⟨false,xs⟩:=by
 unfold Ql Mr
 rw [Mw (p:=Ui) (L:=m_cg) (fun _=>rfl) (fun x r i=>by rw [m_cg,La]) xs 0]
 cases xs.all Ui<;>simp
theorem HI (l:List UInt8) (i:Nat):VB l i=if l.all Gd then Lp.brk () else Lp.ret false:=
 Mw (p:=Gd) (L:=VB) (fun _=>rfl) (fun x r i=>by
  rw [VB]
  have e:Gd x=(!decide ((x.toNat:Int)<32)&& !decide ((126:Int)<(x.toNat:Int))):=by
   unfold Gd
   congr 1
   ·rw [←decide_not];congr 1;apply propext;omega
   ·rw [←decide_not];congr 1;apply propext;omega
  rw [e]
  cases decide ((x.toNat:Int)<32)<;>cases decide ((126:Int)<(x.toNat:Int))<;>rfl) l i
theorem OE (s:ByteArray):Up s 1 256=GQ s:=by
 unfold Up GQ NT
 rw [HI]
 have e:decide ((1:Int)≤((s.size:Nat):Int))= !decide (s=⟨#[]⟩):=by
  rw [←decide_not];congr 1;apply propext
  constructor
  ·rintro h rfl;exact absurd h (by decide)
  ·intro h
   have:s.size≠0:=fun h0=>h (by
    apply RC
    have:=FV s
    rw [h0] at this
    rw [List.length_eq_zero_iff.1 this])
   omega
 cases s.data.toList.all Gd
 ·simp
 ·simp only [if_true,e,Bool.true_and]
theorem OB (e:AB):IF e=Hj (RL e):=by
 unfold IF Hj RL
 simp only [HH,OE,G7,List.all_cons,List.all_nil,Bool.and_true]
 have h:decide ((0:Int)<((e.outs.length:Nat):Int))=decide (((e.outs.length:Nat):Int)>0):=rfl
 rw [h]
 generalize decide (((e.outs.length:Nat):Int)>0)=a
 generalize Mr ⟨false,e.outs⟩=b
 generalize Mr ⟨false,e.ins⟩=c
 generalize Mr ⟨false,e.implicit⟩=d
 generalize Mr ⟨false,e.order⟩=f
 cases a<;>cases b<;>cases c<;>cases d<;>cases f<;>simp
theorem Uk {α:Type} {p:α→Bool} {L:List α→Nat→Lp Int Unit} (h0: ∀i,L [] i=Lp.brk ()) (h1: ∀x r i,L (x::r) i=bif p x then Lp.ret ((i:Nat):Int) else L r (i+1)): ∀(l:List α) (i:Nat),L l i=match l.findIdx? p with
  |some j=>Lp.ret (((i+j:Nat)):Int)
  |none=>Lp.brk ()
 | [],i=>by rw [h0];rfl
 |x::r,i=>by
  rw [h1,Uk h0 h1 r (i+1),List.findIdx?_cons]
  cases p x
  ·simp only [cond_false,Bool.false_eq_true,if_false]
   cases r.findIdx? p with
   |none=>rfl
   |some j=>simp only [Option.map_some];congr 2;omega
  ·rfl
theorem WU {α β:Type} (f:α→β) (p:β→Bool) (q:α→Bool) (h: ∀x,p (f x)=q x) (xs:List α):KY p (xs.map f)=KY q xs:=by
 unfold KY
 rw [List.findIdx?_map]
 have:p∘f=q:=funext h
 rw [this]
theorem LD (g:Av) (name:ByteArray):HN g.pools name=Ib (Ns g) name:=by
 unfold HN Ib
 rw [Uk (p:=fun p:Cp=>decide (p.name=name)) (L:=Fz name) (fun _=>rfl) (fun x r i=>by rw [Fz]) g.pools 0]
 rw [show (Ns g).pools=g.pools.map pOf from rfl,WU pOf _ (fun p=>decide (p.name=name)) (fun x=>rfl)]
 unfold KY
 cases g.pools.findIdx? (fun p=>decide (p.name=name)) with
 |none=>rfl
 |some j=>simp
theorem P0 {α β:Type} (f:α→β) (p:Nat→β→Bool) (q:Nat→α→Bool) (h: ∀i x,p i (f x)=q i x): ∀(i:Nat) (xs:List α),Hs p i (xs.map f)=Hs q i xs
 |_,[]=>rfl
 |i,x::xs=>by simp only [List.map_cons,Hs,h,P0 f p q h (i+1) xs]
theorem QV {α:Type} {p:Nat→α→Bool} {L:List α→Nat→Lp Bool Unit} (h0: ∀i,L [] i=Lp.brk ()) (h1: ∀x r i,L (x::r) i=bif !(p i x) then Lp.ret false else L r (i+1)): ∀(l:List α) (i:Nat),L l i=if Hs p i l then Lp.brk () else Lp.ret false
 | [],i=>by rw [h0];rfl
 |x::r,i=>by
  rw [h1,QV h0 h1 r (i+1),Hs]
  cases p i x<;>simp
def Nf (g:Av) (k:Nat) (p:Cp):Bool:=MF (Ns g) k (pOf p)
theorem M7 (g:Av) (l:List Cp) (i:Nat):X3 g l i=if Hs (Nf g) i l then Lp.brk () else Lp.ret false:=
 QV (p:=Nf g) (L:=X3 g) (fun _=>rfl) (fun x r i=>by
  rw [X3,G7,LD]
  have e:Nf g i x=(Ia x.name&& !decide (x.depth<1)&& !decide ((8:Int)<x.depth)&&decide (Ib (Ns g) x.name=((i:Nat):Int))):=rfl
  rw [e]
  cases Ia x.name<;>cases decide (x.depth<1)<;>cases decide ((8:Int)<x.depth)<;>cases decide (Ib (Ns g) x.name=((i:Nat):Int))<;>rfl) l i
theorem M8 (g:Av) (l:List AB) (i:Nat):VD g l i=if l.all (fun e=>Ga (Ns g) (RL e)) then Lp.brk () else Lp.ret false:=
 Mw (p:=fun e=>Ga (Ns g) (RL e)) (L:=VD g) (fun _=>rfl) (fun x r i=>by
  rw [VD,OB,LD]
  have e:Ga (Ns g) (RL x)=(Hj (RL x)&&(decide (x.pool=(⟨#[]⟩:ByteArray))|| !decide (Ib (Ns g) x.pool<0))):=rfl
  rw [e]
  cases Hj (RL x)<;>cases decide (x.pool=(⟨#[]⟩:ByteArray))<;>cases decide (Ib (Ns g) x.pool<0)<;>rfl) l i
theorem KK (g:Av):I9 g=Tp g:=by
 unfold I9 Tp NP Ki
 rw [M7,M8,HH]
 rw [show (Ns g).edges=g.edges.map RL from rfl,show (Ns g).pools=g.pools.map pOf from rfl,List.all_map,List.length_map,List.length_map,P0 pOf _ (Nf g) (fun _ _=>rfl)]
 rw [show (Ns g).defaults=⟨false,g.defaults⟩ from rfl]
 rw [show (Ga (Ns g)∘RL)=(fun e=>Ga (Ns g) (RL e)) from rfl]
 cases Hs (Nf g) 0 g.pools<;>cases g.edges.all (fun e=>Ga (Ns g) (RL e))<;>simp
 cases decide (((g.pools.length:Nat):Int)≤4)<;>cases decide (((g.edges.length:Nat):Int)≤16)<;>simp
theorem JY (xs:List ByteArray) (x:ByteArray):(x∈xs→Gc xs x=true)∧(x∉xs→Gc xs x=false):=by
 have h: ∀(l:List ByteArray) (i:Nat),(x∈l→FX x l i=Lp.ret true)∧(x∉l→FX x l i=Lp.brk ()):=by
  intro l;induction l with
  |nil=>intro i;exact ⟨fun h=>by simp at h,fun _=>rfl⟩
  |cons y l ih=>
   intro i
   rw [FX]
   by_cases hy:y=x
   ·subst hy;rw [decide_eq_true rfl,cond_true];exact ⟨fun _=>rfl,fun h=>absurd (List.mem_cons_self) h⟩
   ·rw [decide_eq_false hy,cond_false]
    refine ⟨fun h=>(ih (i+1)).1 ?_,fun h=>(ih (i+1)).2 fun h2=>h (List.mem_cons_of_mem _ h2)⟩
    rcases List.mem_cons.1 h with h|h
    ·exact absurd h.symm hy
    ·exact h
 unfold Gc
 exact ⟨fun hx=>by rw [(h xs 0).1 hx],fun hx=>by rw [(h xs 0).2 hx]⟩
theorem KJ: ∀(l:List ByteArray) (k:Nat) (acc:List ByteArray),acc.Nodup→G3 l k acc=if (acc++l).Nodup then Lp.brk (acc++l) else Lp.ret 901
 | [],k,acc,h=>by rw [List.append_nil,if_pos h];rfl
 |x::l,k,acc,h=>by
  rw [G3]
  by_cases hx:x∈acc
  ·rw [(JY acc x).1 hx,cond_true,if_neg]
   intro hn
   rw [List.nodup_append] at hn
   exact hn.2.2 x hx x (by simp) rfl
  ·rw [(JY acc x).2 hx,cond_false,KJ l (k+1) (acc++[x]) (by
    rw [List.nodup_append]
    exact ⟨h,by simp,fun a ha b hb=>by simp only [List.mem_singleton] at hb;subst hb;rintro rfl;exact hx ha⟩),List.append_assoc,List.singleton_append]
theorem HG: ∀(es:List AB) (i:Nat) (acc:List ByteArray),acc.Nodup→G2 es i acc=if (acc++es.flatMap (·.outs)).Nodup then Lp.brk () else Lp.ret 901
 | [],i,acc,h=>by rw [List.flatMap_nil,List.append_nil,if_pos h];rfl
 |e::es,i,acc,h=>by
  rw [G2,KJ _ _ _ h,List.flatMap_cons,←List.append_assoc]
  by_cases hn:(acc++e.outs).Nodup
  ·rw [if_pos hn]
   simp only
   rw [HG es (i+1) _ hn]
  ·rw [if_neg hn]
   simp only
   rw [if_neg]
   intro h2
   rw [List.nodup_append] at h2
   exact hn h2.1
theorem Mh (g:Av):Is g=Kg g:=by
 unfold Is Kg Ll
 rw [KK]
 show _=if Tp g=false then _ else _
 cases Tp g
 ·rfl
 ·rw [HG _ _ _ List.nodup_nil,List.nil_append]
  have e:E5 (Ns g).edges=g.edges.flatMap (·.outs):=by
   unfold E5
   rw [show (Ns g).edges=g.edges.map RL from rfl,List.flatMap_map];rfl
  rw [e]
  have hd:=Mv ((g.edges.flatMap (·.outs)).map fun x=>x.data.toList)
  have hn:((g.edges.flatMap (·.outs)).map fun x=>x.data.toList).Nodup↔(g.edges.flatMap (·.outs)).Nodup:=by
   constructor
   ·intro h;exact List.Pairwise.of_map (fun x:ByteArray=>x.data.toList) (fun a b hh hab=>hh (by rw [hab])) h
   ·intro h;exact List.Pairwise.map _ (fun a b hab hh=>hab (RC hh)) h
  by_cases h:(g.edges.flatMap (·.outs)).Nodup
  ·rw [if_pos h]
   have:Kd ((g.edges.flatMap (·.outs)).map fun x=>x.data.toList)=false:=by
    cases hh:Kd ((g.edges.flatMap (·.outs)).map fun x=>x.data.toList)
    ·rfl
    ·exact absurd (hn.2 h) (hd.1 hh)
   rw [this];rfl
  ·rw [if_neg h]
   have:Kd ((g.edges.flatMap (·.outs)).map fun x=>x.data.toList)=true:=hd.2 (fun hh=>h (hn.1 hh))
   rw [this];rfl
end
end Go.Lift
namespace Go.Lift
noncomputable section
open Go Go.RowKit
def Tu (g:Av) (n:ByteArray):Int:=KY (fun e=>Lib.containsS e.outs n) g.edges
theorem mkD_in (g:Av) (x:ByteArray):Tu g x= -1∨ ∃i e,Tu g x=((i:Nat):Int)∧g.edges[i]? =some e∧x∈e.outs:=by
 unfold Tu KY
 cases h:g.edges.findIdx? (fun e=>Lib.containsS e.outs x) with
 |none=>exact Or.inl rfl
 |some i=>
  obtain ⟨hi,h2,_⟩:=List.findIdx?_eq_some_iff_getElem.1 h
  exact Or.inr ⟨i,g.edges[i],rfl,List.getElem?_eq_getElem hi,(Lib.containsS_iff _ _).1 h2⟩
end
end Go.Lift
namespace Go.Lift
noncomputable section
open Go Go.RowKit
theorem U4 (g:Av):Kg g=if Tp g=false then 900 else if (g.edges.flatMap (·.outs)).Nodup then 0 else 901:=by
 rw [←Mh]
 unfold Is
 rw [KK]
 cases Tp g
 ·rfl
 ·rw [HG _ _ _ List.nodup_nil,List.nil_append]
  by_cases h:(g.edges.flatMap (·.outs)).Nodup
  ·rw [if_pos h,if_pos h];rfl
  ·rw [if_neg h,if_neg h];rfl
end
end Go.Lift
namespace Go.Lift
noncomputable section
open Go Go.RowKit
theorem JC {α:Type} {p:α→Bool} {L:List α→Nat→Lp Int Unit} (h0: ∀i,L [] i=Lp.brk ()) (h1: ∀x r i,L (x::r) i=bif p x then Lp.ret ((i:Nat):Int) else L r (i+1)) (l:List α):
  (match L l 0 with|Lp.ret r=>r|Lp.brk ()=>(-1:Int))=KY p l:=by
 rw [Uk h0 h1 l 0];unfold KY
 cases l.findIdx? p with
 |none=>rfl
 |some j=>simp
theorem Gz {α:Type} (p:α→Bool) (l:List α):decide ((0:Int)≤KY p l)=l.any p:=by
 unfold KY
 cases h:l.findIdx? p with
 |none=>
  have:=List.findIdx?_eq_none_iff.1 h
  rw [show l.any p=false from by simpa using this];rfl
 |some j=>
  obtain ⟨hj,h2,_⟩:=List.findIdx?_eq_some_iff_getElem.1 h
  rw [List.any_eq_true.2 ⟨l[j],List.getElem_mem hj,h2⟩]
  simp
theorem RH (xs:List ByteArray) (v:ByteArray):Um xs v=Lib.containsS xs v:=by
 unfold Um Tj
 refine (congrArg (fun z=>decide ((0:Int)≤z)) (JC (p:=fun y=>decide (v=y)) (fun _=>rfl) (fun _ _ _=>rfl) xs)).trans ?_
 rw [Gz]
 cases hc:Lib.containsS xs v
 ·rw [List.any_eq_false]
  intro y hy e
  have:v=y:=by simpa using e
  subst this
  rw [(Lib.containsS_iff _ _).2 hy] at hc;cases hc
 ·exact List.any_eq_true.2 ⟨v,(Lib.containsS_iff _ _).1 hc,by simp⟩
theorem MR (xs:List Int) (v:Int):Oq xs v=xs.contains v:=by
 unfold Oq Ti
 refine (congrArg (fun z=>decide ((0:Int)≤z)) (JC (p:=fun y=>decide (v=y)) (fun _=>rfl) (fun _ _ _=>rfl) xs)).trans ?_
 rw [Gz]
 rw [Bool.eq_iff_iff];simp
theorem NC (xs:List Int) (f:Int→Bool):W9 xs f=xs.any f:=by
 unfold W9 Tk
 exact (congrArg (fun z=>decide ((0:Int)≤z)) (JC (p:=f) (fun _=>rfl) (fun _ _ _=>rfl) xs)).trans (Gz _ _)
theorem VI (g:Av) (x:ByteArray):FJ g x=Tu g x:=by
 unfold FJ m_9 Tu
 refine (JC (p:=fun e=>Tm e x) (fun _=>rfl) (fun _ _ _=>rfl) g.edges).trans ?_
 congr 1;funext e;exact RH e.outs x
theorem has_str (xs:List ByteArray) (x:ByteArray):Gc xs x=Lib.containsS xs x:=by
 cases hc:Lib.containsS xs x
 ·exact (JY xs x).2 fun h=>by rw [(Lib.containsS_iff _ _).2 h] at hc;cases hc
 ·exact (JY xs x).1 ((Lib.containsS_iff _ _).1 hc)
theorem Tq (g:Av) (x:ByteArray):VG g x=Tu g x:=by
 unfold VG Tu
 refine (JC (p:=fun e=>Gc e.outs x) (fun _=>rfl) (fun _ _ _=>rfl) g.edges).trans ?_
 congr 1;funext e;exact has_str e.outs x
def RY (g:Av) (e:Int):List ByteArray:=(g.edges.getD e.toNat default).ins++((g.edges.getD e.toNat default).implicit++(g.edges.getD e.toNat default).order)
theorem Iu (g:Av): ∀(xs:List ByteArray) (i:Nat) (out:List Int),∃out',Qk g xs i out=Lp.brk out'∧ ∀k,k∈out'↔k∈out∨(0≤k∧ ∃x∈xs,Tu g x=k)
 | [],i,out=>⟨out,rfl,fun k=>by simp⟩
 |x::xs,i,out=>by
  rw [Qk,VI,MR]
  by_cases h1:0≤Tu g x
  ·by_cases h2:Tu g x∈out
   ·obtain ⟨o,e1,e2⟩:=Iu g xs (i+1) out
    refine ⟨o,by simp [h1,h2,e1],fun k=> ?_⟩
    rw [e2]
    constructor
    ·rintro (h|⟨h,y,hy,e⟩)
     ·exact Or.inl h
     ·exact Or.inr ⟨h,y,by simp [hy],e⟩
    ·rintro (h|⟨h,y,hy,e⟩)
     ·exact Or.inl h
     ·rcases List.mem_cons.1 hy with rfl|hy
      ·subst e;exact Or.inl h2
      ·exact Or.inr ⟨h,y,hy,e⟩
   ·obtain ⟨o,e1,e2⟩:=Iu g xs (i+1) (out++[Tu g x])
    refine ⟨o,by simp [h1,h2,e1],fun k=> ?_⟩
    rw [e2,List.mem_append,List.mem_singleton]
    constructor
    ·rintro ((h|h)|⟨h,y,hy,e⟩)
     ·exact Or.inl h
     ·subst h;exact Or.inr ⟨h1,x,by simp,rfl⟩
     ·exact Or.inr ⟨h,y,by simp [hy],e⟩
    ·rintro (h|⟨h,y,hy,e⟩)
     ·exact Or.inl (Or.inl h)
     ·rcases List.mem_cons.1 hy with rfl|hy
      ·exact Or.inl (Or.inr e.symm)
      ·exact Or.inr ⟨h,y,hy,e⟩
  ·obtain ⟨o,e1,e2⟩:=Iu g xs (i+1) out
   refine ⟨o,by simp [h1,e1],fun k=> ?_⟩
   rw [e2]
   constructor
   ·rintro (h|⟨h,y,hy,e⟩)
    ·exact Or.inl h
    ·exact Or.inr ⟨h,y,by simp [hy],e⟩
   ·rintro (h|⟨h,y,hy,e⟩)
    ·exact Or.inl h
    ·rcases List.mem_cons.1 hy with rfl|hy
     ·omega
     ·exact Or.inr ⟨h,y,hy,e⟩
theorem VN (g:Av) (e k:Int):k∈Ju g e↔0≤k∧ ∃x∈RY g e,Tu g x=k:=by
 unfold Ju
 rw [LY]
 obtain ⟨o,e1,e2⟩:=Iu g ([(g.edges.getD e.toNat default).ins,(g.edges.getD e.toNat default).implicit,(g.edges.getD e.toNat default).order].flatten) 0 []
 rw [e1]
 show k∈o↔_
 rw [e2]
 simp [RY]
theorem Kl (g:Av): ∀(xs:List ByteArray) (i:Nat) (out:List Int),∃out',X5 g xs i out=Lp.brk out'∧ ∀k,k∈out'↔k∈out∨(0≤k∧ ∃x∈xs,Tu g x=k)
 | [],i,out=>⟨out,rfl,fun k=>by simp⟩
 |x::xs,i,out=>by
  rw [X5,Tq]
  by_cases h1:0≤Tu g x
  ·obtain ⟨o,e1,e2⟩:=Kl g xs (i+1) (out++[Tu g x])
   refine ⟨o,by simp [h1,e1],fun k=> ?_⟩
   rw [e2,List.mem_append,List.mem_singleton]
   constructor
   ·rintro ((h|h)|⟨h,y,hy,e⟩)
    ·exact Or.inl h
    ·subst h;exact Or.inr ⟨h1,x,by simp,rfl⟩
    ·exact Or.inr ⟨h,y,by simp [hy],e⟩
   ·rintro (h|⟨h,y,hy,e⟩)
    ·exact Or.inl (Or.inl h)
    ·rcases List.mem_cons.1 hy with rfl|hy
     ·exact Or.inl (Or.inr e.symm)
     ·exact Or.inr ⟨h,y,hy,e⟩
  ·obtain ⟨o,e1,e2⟩:=Kl g xs (i+1) out
   refine ⟨o,by simp [h1,e1],fun k=> ?_⟩
   rw [e2]
   constructor
   ·rintro (h|⟨h,y,hy,e⟩)
    ·exact Or.inl h
    ·exact Or.inr ⟨h,y,by simp [hy],e⟩
   ·rintro (h|⟨h,y,hy,e⟩)
    ·exact Or.inl h
    ·rcases List.mem_cons.1 hy with rfl|hy
     ·omega
     ·exact Or.inr ⟨h,y,hy,e⟩
theorem PN (g:Av) (e k:Int):k∈To g e↔0≤k∧ ∃x∈RY g e,Tu g x=k:=by
 unfold To
 obtain ⟨o,e1,e2⟩:=Kl g (((g.edges.getD e.toNat default).ins++(g.edges.getD e.toNat default).implicit)++(g.edges.getD e.toNat default).order) 0 []
 rw [e1]
 show k∈o↔_
 rw [e2]
 simp [RY]
theorem Pz (g:Av) (e k:Int):k∈Ju g e↔k∈To g e:=by rw [VN,PN]
theorem mkD_lt (g:Av) (x:ByteArray):Tu g x<(g.edges.length:Int):=by
 rcases mkD_in g x with h|⟨i,e,h,he,_⟩
 ·rw [h];omega
 ·rw [h];have:=(List.getElem?_eq_some_iff.1 he).1;omega
theorem PO {g:Av} {e k:Int} (h:k∈To g e):0≤k∧k.toNat<g.edges.length:=by
 obtain ⟨h0,x,_,e1⟩:=(PN g e k).1 h
 have:=mkD_lt g x
 omega
def L7 (g:Av) (out:List Int) (i:Nat):Bool:= !(out.contains ((i:Nat):Int))&&(Ju g ((i:Nat):Int)).all fun k=>out.contains k
def Oa (g:Av) (out:List Int):Option Nat:=(List.range g.edges.length).find? (L7 g out)
def OA (g:Av):Nat→List Int→Option (List Int)
 |0,out=>some out
 |f+1,out=>match Oa g out with
  |some i=>OA g f (out++[((i:Nat):Int)])
  |none=>none
theorem Tx (g:Av) (c:List Int): ∀(l i:Nat),Pu ((List.range' i l).map fun i=>Ju g ((i:Nat):Int)) i c=match (List.range' i l).find? (L7 g c) with
  |some j=>Lp.brk (true,c++[((j:Nat):Int)])
  |none=>Lp.brk (false,c)
 |0,i=>rfl
 |l+1,i=>by
  rw [List.range'_succ,List.map_cons,Pu,Tx g c l (i+1),List.find?_cons]
  have e:(!(Kf ((i:Nat):Int) c)&& !(W9 (Ju g ((i:Nat):Int)) (fun z0=>Ow z0 (fun z0=>Kf z0 c))))=L7 g c i:=by
   unfold L7 Kf Ow
   rw [NC]
   simp only [MR]
   congr 1
   rw [Bool.eq_iff_iff];simp
  rw [←e]
  cases (!(Kf ((i:Nat):Int) c))<;>cases (!(W9 (Ju g ((i:Nat):Int)) (fun z0=>Ow z0 (fun z0=>Kf z0 c))))<;>rfl
theorem Tv (g:Av): ∀(xs:List (List Int)) (i:Nat) (row:List (List Int)),i+xs.length≤row.length→ ∃row',Pt g xs i row=Lp.brk row'∧row'.length=row.length∧ ∀j,row'[j]? =if i≤j∧j<i+xs.length then some (Ju g ((j:Nat):Int)) else row[j]?
 | [],i,row,h=>⟨row,rfl,rfl,fun j=>by rw [if_neg (by simp)]⟩
 |x::xs,i,row,h=>by
  simp only [List.length_cons] at h
  obtain ⟨r,e1,e2,e3⟩:=Tv g xs (i+1) (row.set i (Ju g ((i:Nat):Int))) (by simp;omega)
  refine ⟨r,by rw [Pt];exact e1,by simpa using e2,fun j=> ?_⟩
  rw [e3,List.getElem?_set,List.length_cons]
  by_cases h1:i=j
  ·subst h1;rw [if_neg (by omega),if_pos rfl]
   have:i<row.length:=by omega
   simp [this]
  ·rw [if_neg h1]
   by_cases h2:i+1≤j∧j<i+1+xs.length
   ·rw [if_pos h2,if_pos (by omega)]
   ·rw [if_neg h2,if_neg (by omega)]
theorem of_rows (g:Av):Pt g (List.replicate g.edges.length ([]:List Int)) 0 (List.replicate g.edges.length ([]:List Int))=Lp.brk ((List.range' 0 g.edges.length).map fun i=>Ju g ((i:Nat):Int)):=by
 obtain ⟨r,e1,e2,e3⟩:=Tv g (List.replicate g.edges.length ([]:List Int)) 0 (List.replicate g.edges.length ([]:List Int)) (by simp)
 rw [e1];congr 1
 apply List.ext_getElem?
 intro j
 rw [e3,List.getElem?_map]
 simp only [List.length_replicate] at e2 ⊢
 by_cases h:j<g.edges.length
 ·rw [if_pos ⟨Nat.zero_le _,by omega⟩,List.getElem?_range' h];simp
 ·rw [if_neg (by omega),List.getElem?_eq_none (by simp;omega),List.getElem?_eq_none (by simp;omega)];rfl
theorem Tw (g:Av): ∀(f:Nat) (c:List Int),c.length≤g.edges.length→g.edges.length-c.length<f→Qo g ((List.range' 0 g.edges.length).map fun i=>Ju g ((i:Nat):Int)) f c=match OA g (g.edges.length-c.length) c with
  |some o=>Lp.brk o
  |none=>Lp.ret (([]:List Int),(1001:Int))
 |0,c,h1,h2=>by omega
 |f+1,c,h1,h2=>by
  rw [Qo]
  by_cases h:c.length<g.edges.length
  ·rw [decide_eq_true (by omega),cond_true,Tx,←List.range_eq_range']
   rw [show g.edges.length-c.length=(g.edges.length-(c.length+1))+1 by omega,OA]
   show (match (match Oa g c with|some j=>Lp.brk (true,c++[((j:Nat):Int)])|none=>Lp.brk (false,c):Lp (List Int×Int) (Bool×List Int)) with|Lp.ret r=>Lp.ret r|Lp.brk (t',c')=>_)=_
   cases hn:Oa g c with
   |none=>rfl
   |some j=>
    simp only [cond_true]
    have:=Tw g f (c++[((j:Nat):Int)]) (by simp;omega) (by simp;omega)
    rw [List.length_append,List.length_singleton,←List.range_eq_range'] at this
    exact this
  ·rw [decide_eq_false (by omega),cond_false,show g.edges.length-c.length=0 by omega];rfl
theorem Xb (g:Av):ID g=if Kg g=0 then (match OA g g.edges.length [] with|some o=>(o,(0:Int))|none=>(([]:List Int),(1001:Int))) else (([]:List Int),(1000:Int)):=by
 unfold ID
 by_cases h:Kg g=0
 ·rw [if_pos h,decide_eq_true h]
  simp only [Bool.not_true,cond_false]
  rw [of_rows]
  simp only []
  rw [Tw g _ [] (Nat.zero_le _) (by simp)]
  simp only [List.length_nil,Nat.sub_zero]
  cases OA g g.edges.length []<;>rfl
 ·rw [if_neg h,decide_eq_false h];rfl
inductive Steps (g:Av):List Int→Prop
 |nil:Steps g []
 |snoc {out:List Int} {i:Nat} (h:Steps g out) (hn:Oa g out=some i):Steps g (out++[((i:Nat):Int)])
theorem PE (g:Av): ∀(f:Nat) (out o:List Int),Steps g out→OA g f out=some o→Steps g o∧o.length=out.length+f∧ ∃r,o=out++r
 |0,out,o,h,e=>by simp only [OA,Option.some.injEq] at e;subst e;exact ⟨h,rfl,[],by simp⟩
 |f+1,out,o,h,e=>by
  simp only [OA] at e
  split at e
  ·rename_i i hi
   obtain ⟨h1,h2,r,h3⟩:=PE g f _ o (h.snoc hi) e
   exact ⟨h1,by rw [h2];simp;omega,[((i:Nat):Int)]++r,by rw [h3];simp⟩
  ·cases e
theorem of_steps {g:Av} (h:(ID g).2=0):Steps g (ID g).1∧(ID g).1.length=g.edges.length∧Kg g=0:=by
 rw [Xb] at h ⊢
 split at h<;>rename_i hc
 ·rw [if_pos hc]
  cases ho:OA g g.edges.length [] with
  |none=>rw [ho] at h;simp at h
  |some o=>
   obtain ⟨h1,h2,_⟩:=PE g _ _ _ .nil ho
   exact ⟨h1,by simpa using h2,hc⟩
 ·simp at h
theorem Ur {g:Av} {out:List Int} {i:Nat} (h:Oa g out=some i):i<g.edges.length∧L7 g out i=true∧ ∀k,k<i→L7 g out k=false:=by
 unfold Oa at h
 have h1:=List.mem_of_find?_eq_some h
 refine ⟨by simpa using h1,List.find?_some h,fun k hk=> ?_⟩
 have:=List.find?_range_eq_some.1 h
 simpa using this.2.2 k hk
end
end Go.Lift
namespace Go.Lift
noncomputable section
open Go Go.RowKit
end
end Go.Lift
namespace Go.Lift
noncomputable section
open Go Go.RowKit
def Vk (n:Nat) (out:List Int):List Bool:=(List.range n).map fun k=>out.contains ((k:Nat):Int)
theorem RQ {n k:Nat} (out:List Int) (h:k<n):(Vk n out).getD k default=out.contains ((k:Nat):Int):=by
 unfold Vk
 rw [List.getD_eq_getElem?_getD,List.getElem?_map,List.getElem?_range h];rfl
theorem flR_nil (n:Nat):Vk n []=List.replicate n false:=by
 apply List.ext_getElem?
 intro i
 unfold Vk
 rw [List.getElem?_map,List.getElem?_replicate]
 by_cases h:i<n
 ·rw [List.getElem?_range h,if_pos h];rfl
 ·rw [List.getElem?_eq_none (by simp;omega),if_neg h];rfl
theorem flR_set {n i:Nat} (out:List Int) (h:i<n):(Vk n out).set i true=Vk n (out++[((i:Nat):Int)]):=by
 apply List.ext_getElem?
 intro k
 unfold Vk
 rw [List.getElem?_set,List.getElem?_map,List.getElem?_map]
 by_cases hk:k<n
 ·rw [List.getElem?_range hk]
  simp only [List.length_map,List.length_range,Option.map_some]
  by_cases e:i=k
  ·subst e;rw [if_pos rfl,if_pos h];simp
  ·rw [if_neg e];congr 1;rw [Bool.eq_iff_iff];simp;omega
 ·rw [List.getElem?_eq_none (by simp;omega)]
  rw [if_neg (by omega)];rfl
theorem ro_key (g:Av) (out:List Int) (e:Int):(To g e).all (fun k:Int=>(Vk g.edges.length out).getD k.toNat default)=(Ju g e).all fun k=>out.contains k:=by
 rw [Bool.eq_iff_iff,List.all_eq_true,List.all_eq_true]
 constructor
 ·intro h k hk
  have hk':=(Pz g e k).1 hk
  have h1:=h k hk'
  obtain ⟨m1,m2⟩:=PO hk'
  rw [RQ out m2,show ((k.toNat:Nat):Int)=k by omega] at h1
  exact h1
 ·intro h k hk
  have h1:=h k ((Pz g e k).2 hk)
  obtain ⟨m1,m2⟩:=PO hk
  rw [RQ out m2,show ((k.toNat:Nat):Int)=k by omega]
  exact h1
theorem Xu (row:List Bool): ∀(xs:List Int) (k:Nat) (b:Bool),VA row xs k b=Lp.brk (b&&xs.all fun k=>row.getD k.toNat default)
 | [],k,b=>by simp [VA]
 |x::r,k,b=>by
  rw [VA]
  cases b
  ·rw [cond_false,Xu row r];rfl
  ·rw [cond_true,Xu row r,List.all_cons];rfl
theorem ro_L2 (g:Av) (out:List Int): ∀(j f:Nat) (next i:Int),i+1=((j:Nat):Int)→j≤g.edges.length→j<f→
  Vz (Vk g.edges.length out) g f next i=Lp.brk (match (List.range j).find? (L7 g out) with|some k=>((k:Nat):Int)|none=>next)
 |0,0,_,_,_,_,hf=>by omega
 |0,f+1,next,i,hi,hl,hf=>by
  rw [Vz,decide_eq_false (by omega),cond_false];rfl
 |j+1,0,_,_,_,_,hf=>by omega
 |j+1,f+1,next,i,hi,hl,hf=>by
  obtain rfl:i=((j:Nat):Int):=by omega
  rw [Vz,decide_eq_true (by omega),cond_true,Xu]
  have hfr:(!(Vk g.edges.length out).getD ((j:Nat):Int).toNat default&&(To g ((j:Nat):Int)).all fun k=>(Vk g.edges.length out).getD k.toNat default)=L7 g out j:=by
   rw [ro_key,Int.toNat_natCast,RQ out (by omega)];rfl
  rw [hfr]
  have ih:=fun nx=>ro_L2 g out j f nx (((j:Nat):Int)-1) (by omega) (by omega) (by omega)
  rw [List.range_succ,List.find?_append]
  cases hp:L7 g out j
  ·simp only [cond_false]
   rw [ih]
   cases (List.range j).find? (L7 g out)<;>simp [hp]
  ·simp only [cond_true]
   rw [ih]
   cases (List.range j).find? (L7 g out)<;>simp [hp]
theorem ro_L1 (g:Av): ∀(f:Nat) (c:List Int),c.length≤g.edges.length→g.edges.length-c.length<f→G4 g f c (Vk g.edges.length c)=match OA g (g.edges.length-c.length) c with
  |some o=>Lp.brk (o,Vk g.edges.length o)
  |none=>Lp.ret (([]:List Int),(1001:Int))
 |0,c,h1,h2=>by omega
 |f+1,c,h1,h2=>by
  rw [G4]
  by_cases h:c.length<g.edges.length
  ·rw [decide_eq_true (by omega),cond_true,ro_L2 g c g.edges.length _ _ _ (by omega) (Nat.le_refl _) (by omega)]
   rw [show g.edges.length-c.length=(g.edges.length-(c.length+1))+1 by omega,OA]
   have hnp:(List.range g.edges.length).find? (L7 g c)=Oa g c:=rfl
   simp only [hnp]
   cases hn:Oa g c with
   |none=>rfl
   |some j=>
    have hj:=(Ur hn).1
    simp only []
    rw [decide_eq_false (by omega),cond_false,Int.toNat_natCast,flR_set c hj]
    have:=ro_L1 g f (c++[((j:Nat):Int)]) (by simp;omega) (by simp;omega)
    rw [List.length_append,List.length_singleton] at this
    exact this
  ·rw [decide_eq_false (by omega),cond_false,show g.edges.length-c.length=0 by omega];rfl
theorem Qv (g:Av):Fy g=ID g:=by
 rw [Xb]
 unfold Fy
 rw [Mh]
 by_cases h:Kg g=0
 ·rw [if_pos h,decide_eq_true h]
  simp only [Bool.not_true,cond_false]
  rw [←flR_nil,ro_L1 g _ [] (Nat.zero_le _) (by simp)]
  simp only [List.length_nil,Nat.sub_zero]
  cases OA g g.edges.length []<;>rfl
 ·rw [if_neg h,decide_eq_false h];rfl
end
end Go.Lift
namespace Go.Lift
noncomputable section
open Go Go.RowKit
theorem Wp (xs:List ByteArray):Ir xs 8=(xs.all (fun s=>GG s)&&decide (((xs.length:Nat):Int)≤8)):=by
 unfold Ir
 rw [Mw (L:=Un) (p:=fun s=>GG s) (fun _=>rfl) (fun _ _ _=>rfl)]
 cases xs.all (fun s=>GG s)<;>rfl
end
end Go.Lift
namespace Go.Lift
noncomputable section
open Go Go.RowKit
end
end Go.Lift
namespace Go.Lift
noncomputable section
open Go Go.RowKit
theorem may_of {g:Av} (h:Kg g=0):Tp g=true:=by
 rw [U4] at h
 cases hm:Tp g
 ·rw [hm] at h;simp at h
 ·rfl
theorem edge_ok {g:Av} (h:Kg g=0) {e:AB} (he:e∈g.edges):Hj (RL e)=true:=by
 have h0:((g.edges.map RL).all (Ga (Ns g))&&(decide (((g.edges.map RL).length:Int)≤16)&&Ki (Ns g)&&Mr (Ns g).defaults))=true:=may_of h
 rw [Bool.and_eq_true,List.all_eq_true] at h0
 have:=h0.1 (RL e) (List.mem_map_of_mem he)
 unfold Ga at this
 rw [Bool.and_eq_true] at this
 exact this.1
theorem Xj {g:Av} (h:Kg g=0) {e:AB} (he:e∈g.edges):0<e.outs.length:=by
 have:=edge_ok h he
 unfold Hj at this
 simp only [Bool.and_eq_true,decide_eq_true_eq] at this
 have h2:=this.2.1
 have:(RL e).outs.xs=e.outs:=rfl
 rw [this] at h2;omega
theorem QY (s:ByteArray):GG s=Ui s:=by
 unfold GG Ui;rfl
theorem TC (xs:List ByteArray):Ql xs=Ir xs 8:=by
 rw [HH,Wp]
 unfold Mr
 have:(fun s=>GG s)=Ui:=funext QY
 rw [this]
end
end Go.Lift
namespace Go.Lift
noncomputable section
open Go Go.RowKit
end
end Go.Lift
namespace Go.Lift
noncomputable section
open Go Go.RowKit
theorem As.sz_one (e:As):1≤e.sz:=by unfold As.sz;omega
theorem A3.sz_one (e:A3):1≤e.sz:=by unfold A3.sz;omega
theorem Ae.sz_one (e:Ae):1≤e.sz:=by unfold Ae.sz;omega
end
end Go.Lift
namespace Go.Lift
noncomputable section
open Go Go.RowKit
theorem Mx {α:Type} {p:α→Bool} {L:List α→Nat→Lp Bool Unit} (h0: ∀i,L [] i=Lp.brk ()) (h1: ∀x r i,L (x::r) i=bif !(p x) then Lp.ret false else L r (i+1)) (l:List α) (c:Bool):
  (match L l 0 with|Lp.ret r=>r|Lp.brk ()=>c)=(l.all p&&c):=by
 rw [Mw h0 h1 l 0]
 cases l.all p<;>rfl
theorem QZ (s:ByteArray) (most:Int):Up s 1 most=(!decide (s=(⟨#[]⟩:ByteArray))&&MB s most):=by
 have hL: ∀(l:List UInt8) (i:Nat),Tn l i=if l.all Gd then Lp.brk () else Lp.ret false:=by
  intro l i
  rw [←HI l i]
  induction l generalizing i with
  |nil=>rfl
  |cons x r ih=>rw [Tn,VB,ih]
 unfold Up MB
 rw [HI,hL]
 have e:decide ((1:Int)≤((s.size:Nat):Int))= !decide (s=(⟨#[]⟩:ByteArray)):=by
  rw [←decide_not];congr 1;apply propext
  constructor
  ·rintro h rfl;exact absurd h (by decide)
  ·intro h
   have:s.size≠0:=fun h0=>h (by
    apply RC
    have:=FV s
    rw [h0] at this
    rw [List.length_eq_zero_iff.1 this])
   omega
 cases s.data.toList.all Gd
 ·simp
 ·simp only [if_true,e]
theorem Rz {α:Type} (p:α→Bool) (l:List α):(!l.any fun x=> !(p x))=l.all p:=by
 induction l with
 |nil=>rfl
 |cons x r ih=>rw [List.any_cons,List.all_cons,←ih];cases p x<;>rfl
theorem Ol (xs:List B0) (f:B0→Bool):m_n xs f=xs.any f:=by
 unfold m_n
 rw [show m_z xs f=KY f xs from JC (p:=f) (L:=m_s f) (fun _=>rfl) (fun x r i=>by rw [m_s]) xs]
 exact Gz f xs
theorem Om (xs:List Ae) (f:Ae→Bool):m_o xs f=xs.any f:=by
 unfold m_o
 rw [show m_0 xs f=KY f xs from JC (p:=f) (L:=m_t f) (fun _=>rfl) (fun x r i=>by rw [m_t]) xs]
 exact Gz f xs
theorem P8 (xs:List As) (f:As→Bool):m_q xs f=xs.any f:=by
 unfold m_q
 rw [show m_3 xs f=KY f xs from JC (p:=f) (L:=m_w f) (fun _=>rfl) (fun x r i=>by rw [m_w]) xs]
 exact Gz f xs
theorem ME (s:ByteArray):I5 s=GG s:=by rw [La,QY]
theorem Qa (xs:List B0):Gb xs=Qn xs:=by
 unfold Qn
 rw [show Gb xs=(xs.all (fun a:B0=>L0 a.command&&Ir a.reads 8)&&decide (((xs.length:Nat):Int)≤(16:Int))) from Mx (p:=fun a:B0=>L0 a.command&&Ir a.reads 8) (L:=m_b0) (fun _=>rfl) (fun x r i=>by
  rw [m_b0,QZ,TC,show (!decide (x.command=(⟨#[]⟩:ByteArray))&&MB x.command 256)=L0 x.command from rfl]
  cases L0 x.command<;>cases Ir x.reads 8<;>rfl) xs _,Ol]
 have:(fun z0:B0=>Ps z0)=fun a=> !(L0 a.command&&Ir a.reads 8):=by
  funext a;unfold Ps;cases L0 a.command<;>cases Ir a.reads 8<;>rfl
 rw [this,Rz,Bool.and_comm]
theorem Sh (r:Ae):GU r=N3 r:=by
 unfold GU N3
 rw [ME,QZ];rfl
theorem Vs (xs:List Ae):IE xs=MA xs:=by
 unfold MA
 rw [show IE xs=(xs.all N3&&decide (((xs.length:Nat):Int)≤(256:Int))) from Mx (p:=N3) (L:=m_cj) (fun _=>rfl) (fun x r i=>by
  rw [m_cj,Sh]) xs _,Om]
 have:(fun z0:Ae=>S7 z0)=fun r=> !(N3 r):=rfl
 rw [this,Rz,Bool.and_comm]
theorem T3 (f:As):Hy f=NN f:=by
 unfold Hy NN
 rw [ME,TC];rfl
theorem U8 (xs:List As):I7 xs=N4 xs:=by
 unfold N4
 rw [show I7 xs=(xs.all NN&&decide (((xs.length:Nat):Int)≤(256:Int))) from Mx (p:=NN) (L:=m_ce) (fun _=>rfl) (fun x r i=>by
  rw [m_ce,T3]) xs _,P8]
 have:(fun z0:As=>S6 z0)=fun r=> !(NN r):=rfl
 rw [this,Rz,Bool.and_comm]
theorem UJ (d:Aj) (x:A3) (i:Nat): ∀(j k f:Nat),k+j=i→i≤d.files.length→j<f→Ou i d x f k=if ((d.files.take i).drop k).any (fun y=>decide (y.time=x.time))=true then Lp.ret false else Lp.brk ()
 |0,k,0,_,_,hf=>absurd hf (by omega)
 |0,k,f+1,hk,hi,_=>by
  rw [Ou,decide_eq_false (by omega),List.drop_eq_nil_of_le (by simp;omega)];rfl
 |j+1,k,0,_,_,hf=>absurd hf (by omega)
 |j+1,k,f+1,hk,hi,hf=>by
  rw [Ou,decide_eq_true (by omega),cond_true,UJ d x i j (k+1) f (by omega) hi (by omega)]
  have hk2:k<(d.files.take i).length:=by simp;omega
  rw [List.drop_eq_getElem_cons hk2,List.any_cons]
  have e:d.files.getD k default=(d.files.take i)[k]:=by simp [show k<d.files.length by omega]
  rw [e]
  cases decide ((d.files.take i)[k].time=x.time)<;>rfl
theorem UI (d:Aj): ∀(rest pre:List A3),d.files=pre++rest→Qi d rest pre.length=if GR GG d.clock rest (pre.map A3.time) pre.getLast? =true then Lp.brk () else Lp.ret false
 | [],pre,_=>by rw [Qi];rfl
 |x::rest,pre,h=>by
  have hl:pre.length<d.files.length:=by rw [h];simp
  have ht:d.files.take pre.length=pre:=by rw [h];simp
  have h2:=UJ d x pre.length pre.length 0 (pre.length-0+1) (by omega) (by omega) (by omega)
  rw [ht,List.drop_zero] at h2
  have ih:=UI d rest (pre++[x]) (by rw [h];simp)
  rw [List.length_append,List.length_singleton,List.map_append,List.map_singleton,List.getLast?_concat] at ih
  have ha:(pre.map A3.time).any (fun t=>decide (t=x.time))=pre.any (fun y=>decide (y.time=x.time)):=by rw [List.any_map];rfl
  rw [Qi,h2,ih,ME]
  unfold FI
  have hp0:pre=[]∨ ∃p y,pre=p++[y]:=by
   rcases List.eq_nil_or_concat pre with q|⟨p,y,q⟩
   ·exact Or.inl q
   ·exact Or.inr ⟨p,y,by simpa using q⟩
  rcases hp0 with rfl|⟨p,y,rfl⟩
  ·rw [decide_eq_false (show ¬((0:Int)<((([]:List A3).length:Nat):Int)) by simp),cond_false]
   rw [List.getLast?_nil,GR.eq_2,ha]
   generalize GR GG d.clock rest (([]:List A3).map A3.time++[x.time]) (some x)=D
   simp only [List.any_nil]
   cases GG x.name<;>cases decide ((0:Int)≤x.content)<;>cases decide (x.content≤2147483647)<;>cases decide ((1:Int)≤x.time)<;>cases decide (x.time≤d.clock)<;>cases D<;>rfl
  ·have hg:d.files.getD ((p++[y]).length-1) default=y:=by rw [h];simp
   rw [hg,decide_eq_true (show (0:Int)<(((p++[y]).length:Nat):Int) by simp),cond_true,List.getLast?_concat,GR.eq_3,ha]
   generalize GR GG d.clock rest ((p++[y]).map A3.time++[x.time]) (some x)=D
   cases GG x.name<;>cases decide ((0:Int)≤x.content)<;>cases decide (x.content≤2147483647)<;>cases decide ((1:Int)≤x.time)<;>cases decide (x.time≤d.clock)<;>cases Op.bytesLess y.name.toList x.name.toList<;>cases (p++[y]).any (fun y=>decide (y.time=x.time))<;>cases D<;>rfl
theorem U9 (d:Aj):NI d=EI GG d:=by
 unfold NI EI
 have:=UI d d.files [] rfl
 rw [List.length_nil] at this
 rw [this]
 unfold FI
 simp only [List.map_nil,List.getLast?_nil]
 have e:decide (((d.files.length:Nat):Int)≤(64:Int))=decide (d.files.length≤64):=by simp;omega
 rw [e]
 cases GR GG d.clock d.files [] none<;>simp [Bool.and_assoc]
theorem Ob (s:Ak):Hz s=GT s:=by
 unfold Hz GT
 rw [Qa,Vs,U8,show NI (⟨s.disk.clock,s.disk.files⟩:Aj)=EI GG s.disk from U9 s.disk,show Fy (⟨s.graph.edges,s.graph.pools,s.graph.defaults⟩:Av)=ID s.graph from Qv s.graph]
theorem Rm {e:Int} {n:Nat} (hn:n≤281474976710656):FI e 0 (IntKind.wrap .i64 (((n:Nat):Int)-(1:Int)))=(decide (0≤e)&&decide (e<((n:Nat):Int))):=by
 unfold FI
 rw [G0 (by omega) (by omega)]
 congr 1
 exact decide_eq_decide.2 (by omega)
end
end Go.Lift
namespace Go.Lift
noncomputable section
open Go Go.RowKit
def Mb (d:Aj):Bool:=
 (decide ((0:Int)≤d.clock)&&(decide (d.clock≤(1048576:Int))&&decide (((d.files.length:Nat):Int)≤(64:Int))))
def Fk (d:Aj) (ts:List Int) (x:A3) (i:Nat):Bool:=
 (!(!(GG x.name))&&(!(!(Qm x.content))&&(!(decide (x.time<(1:Int)))&&(!(decide (d.clock<x.time))&&(!(ts.any (fun t=>decide (t=x.time)))&&(!(decide ((0:Int)<((i:Nat):Int)))||(!(!Op.bytesLess ((d.files.getD (i-1) default).name).toList x.name.toList))))))))
theorem O1 {α:Type} {l:List α} {i:Nat} {x:α} (h:l[i]? =some x):l.take (i+1)=l.take i++[x]:=by
 rw [List.take_add_one,h];rfl
theorem Vf {d:Aj} {ts:List Int} {x:A3} {i:Nat} (h:Fk d ts x i=true):ts.any (fun t=>decide (t=x.time))=false:=by
 unfold Fk at h
 simp only [Bool.and_eq_true,Bool.not_eq_true',Bool.not_not] at h
 exact h.2.2.2.2.1
theorem WE (d:Aj):(true&&decide (0≤d.clock)&&decide (d.clock≤1048576)&&decide (d.files.length≤64))=Mb d:=by
 unfold Mb
 have e:decide (((d.files.length:Nat):Int)≤(64:Int))=decide (d.files.length≤64):=decide_eq_decide.2 (by omega)
 rw [e]
 cases decide ((0:Int)≤d.clock)<;>cases decide (d.clock≤(1048576:Int))<;>simp
theorem Vg {d:Aj} {i:Nat} {x:A3} (hx:d.files[i]? =some x):
  GR GG d.clock (d.files.drop i) ((d.files.take i).map A3.time) (d.files.take i).getLast? =
   (Fk d ((d.files.take i).map A3.time) x i&&GR GG d.clock (d.files.drop (i+1)) ((d.files.take (i+1)).map A3.time) (d.files.take (i+1)).getLast?):=by
 have hl:i<d.files.length:=(List.getElem?_eq_some_iff.1 hx).1
 have h1:d.files.drop i=x::d.files.drop (i+1):=Bo hx
 rw [h1,O1 hx,List.map_append,List.map_singleton,List.getLast?_concat]
 have a1:decide ((1:Int)≤x.time)= !(decide (x.time<(1:Int))):=by rw [←decide_not];exact decide_eq_decide.2 (by omega)
 have a2:decide (x.time≤d.clock)= !(decide (d.clock<x.time)):=by rw [←decide_not];exact decide_eq_decide.2 (by omega)
 have hd:Qm x.content=(decide ((0:Int)≤x.content)&&decide (x.content≤(2147483647:Int))):=rfl
 cases i with
 |zero=>
  simp only [List.take_zero,List.map_nil,List.getLast?_nil,List.nil_append]
  rw [GR.eq_2]
  simp only [List.nil_append]
  generalize GR GG d.clock (d.files.drop (0+1)) [x.time] (some x)=D
  unfold Fk
  rw [hd,a1,a2,show decide ((0:Int)<((0:Nat):Int))=false from rfl]
  simp only [List.any_nil,List.nil_append]
  cases GG x.name<;>cases decide ((0:Int)≤x.content)<;>cases decide (x.content≤(2147483647:Int))<;>cases decide (x.time<(1:Int))<;>cases decide (d.clock<x.time)<;>cases D<;>rfl
 |succ j=>
  have hj:d.files[j]? =some d.files[j]:=List.getElem?_eq_getElem (by omega)
  have hg:d.files.getD (j+1-1) default=d.files[j]:=by simp [show j<d.files.length by omega]
  have hla:(d.files.take (j+1)).getLast? =some d.files[j]:=by rw [O1 hj,List.getLast?_concat]
  rw [hla,GR.eq_3]
  generalize GR GG d.clock (d.files.drop (j+1+1)) ((d.files.take (j+1)).map A3.time++[x.time]) (some x)=D
  unfold Fk
  rw [hd,a1,a2,hg,show decide ((0:Int)<((j+1:Nat):Int))=true from decide_eq_true (by omega)]
  cases GG x.name<;>cases decide ((0:Int)≤x.content)<;>cases decide (x.content≤(2147483647:Int))<;>cases decide (x.time<(1:Int))<;>cases decide (d.clock<x.time)<;>cases ((d.files.take (j+1)).map A3.time).any (fun t=>decide (t=x.time))<;>cases Op.bytesLess d.files[j].name.toList x.name.toList<;>cases D<;>rfl
end
end Go.Lift
namespace Go.Lift
noncomputable section
open Go Go.RowKit
end
end Go.Lift
namespace Go.Lift
noncomputable section
open Go Go.RowKit
theorem Wv {i j:Int} {n:Nat} (h0:0≤i) (h:i<j) (h2:j≤((n:Nat):Int)) (hn:n≤1048576):
  IntKind.wrap .i64 (i+j)=i+j∧i≤IntKind.wrap .i64 (Int.fdiv (IntKind.wrap .u64 (IntKind.wrap .i64 (i+j))) (2^(min 1 IntKind.u64.bits)))∧IntKind.wrap .i64 (Int.fdiv (IntKind.wrap .u64 (IntKind.wrap .i64 (i+j))) (2^(min 1 IntKind.u64.bits)))<j∧
  IntKind.wrap .i64 (IntKind.wrap .i64 (Int.fdiv (IntKind.wrap .u64 (IntKind.wrap .i64 (i+j))) (2^(min 1 IntKind.u64.bits)))+1)=IntKind.wrap .i64 (Int.fdiv (IntKind.wrap .u64 (IntKind.wrap .i64 (i+j))) (2^(min 1 IntKind.u64.bits)))+1:=by
 have e1:IntKind.wrap .i64 (i+j)=i+j:=G0 (by omega) (by omega)
 have e2:IntKind.wrap .u64 (i+j)=i+j:=by
  unfold IntKind.wrap;simp only [IntKind.signed];first|(simp;omega)|omega|exact Int.emod_eq_of_lt (by omega) (by show _<(2:Int)^64;omega)
 have e3:Int.fdiv (i+j) (2^(min 1 IntKind.u64.bits))=(i+j) /2:=by
  show Int.fdiv (i+j) 2=(i+j) /2
  exact Int.fdiv_eq_ediv_of_nonneg _ (by decide)
 rw [e1,e2,e3]
 have e4:IntKind.wrap .i64 ((i+j) /2)=(i+j) /2:=G0 (by omega) (by omega)
 rw [e4]
 have e5:IntKind.wrap .i64 ((i+j) /2+1)=(i+j) /2+1:=G0 (by omega) (by omega)
 exact ⟨rfl,by omega,by omega,e5⟩
theorem Wu (cmp:A3→ByteArray→Int) (xs:List A3) (t:ByteArray) (hn:xs.length≤1048576): ∀(f:Nat) (i j:Int),0≤i→i≤j→j≤((xs.length:Nat):Int)→ ∃k,US cmp xs t f i j=Lp.brk k∧0≤k∧k≤((xs.length:Nat):Int)
 |0,i,j,h0,h1,h2=>⟨i,by rw [US],h0,by omega⟩
 |f+1,i,j,h0,h1,h2=>by
  rw [US]
  by_cases h:i<j
  ·rw [decide_eq_true h]
   obtain ⟨m1,m2,m3,m4⟩:=Wv h0 h h2 hn
   rw [m4]
   generalize IntKind.wrap .i64 (Int.fdiv (IntKind.wrap .u64 (IntKind.wrap .i64 (i+j))) (2^(min 1 IntKind.u64.bits)))=m at*
   cases decide ((cmp (xs.getD m.toNat default) t)<(0:Int))
   ·exact Wu cmp xs t hn f i m h0 (by omega) (by omega)
   ·exact Wu cmp xs t hn f (m+1) j (by omega) (by omega) h2
  ·rw [decide_eq_false h];exact ⟨i,rfl,h0,by omega⟩
theorem Xp {d:Aj} {s:ByteArray} (hz:d.sz≤1048576) (h:(KN d s).2=true):0≤(KN d s).1∧(KN d s).1.toNat<d.files.length:=by
 have hl:=Ha A3.sz_one d.files
 have hl2:=d.sz_files
 unfold KN OO at h ⊢
 obtain ⟨k,e,h0,h1⟩:=Wu (fun z0 z1=>HV z0 z1) d.files s (by omega) ((((d.files.length:Nat):Int)-(0:Int)).toNat+1) 0 ((d.files.length:Nat):Int) (Int.le_refl _) (by omega) (Int.le_refl _)
 rw [e] at h ⊢
 dsimp only at h ⊢
 by_cases hk:k<((d.files.length:Nat):Int)
 ·rw [decide_eq_true hk];show 0≤k∧k.toNat<_;omega
 ·rw [decide_eq_false hk] at h;cases h
theorem O9 (sep:List UInt8) (hs:sep.length=1): ∀r:List ByteArray,(Lib.joinTail sep (r.map (·.data.toList))).length=(r.map fun s:ByteArray=>s.size+1).sum
 | []=>by simp [Lib.joinTail]
 |x::r=>by
  have ih:=O9 sep hs r
  simp only [Lib.joinTail,List.map_cons,List.flatten_cons,List.length_append,List.sum_cons] at ih ⊢
  rw [ih,hs]
  have:x.data.toList.length=x.size:=by rw [Array.length_toList];rfl
  omega
theorem MY (xs:List ByteArray) (sep:ByteArray) (hs:sep.data.toList.length=1):(D1 xs sep).size≤Kn (fun s:ByteArray=>s.size+1) xs:=by
 show (Lib.join (xs.map (·.data.toList)) sep.data.toList).toArray.size≤_
 rw [List.size_toArray]
 cases xs with
 |nil=>simp [Lib.join_nil,Kn]
 |cons x r=>
  rw [List.map_cons,Lib.join_cons,List.length_append,O9 _ hs r]
  have:x.data.toList.length=x.size:=by rw [Array.length_toList];rfl
  simp only [Kn,List.map_cons,List.sum_cons]
  omega
theorem TP {e:AB} (hz:e.sz≤1048576):(D1 e.outs ⟨#[32]⟩).size≤1048576∧(D1 e.ins ⟨#[32]⟩).size≤1048576∧(D1 e.implicit ⟨#[32]⟩).size≤1048576∧e.command.size≤1048576:=by
 have h1:=MY e.outs ⟨#[32]⟩ rfl
 have h2:=MY e.ins ⟨#[32]⟩ rfl
 have h3:=MY e.implicit ⟨#[32]⟩ rfl
 unfold AB.sz at hz
 simp only at hz
 refine ⟨by omega,by omega,by omega,by omega⟩
theorem signs5 {e:AB} (hz:e.sz≤1048576):(D1 [D1 e.outs (⟨#[32]⟩:ByteArray),D1 e.ins (⟨#[32]⟩:ByteArray),D1 e.implicit (⟨#[32]⟩:ByteArray),(bif e.deps then (⟨#[100]⟩:ByteArray) else (⟨#[110]⟩:ByteArray)),e.command] (⟨#[124]⟩:ByteArray)).size≤140737488355328:=by
 obtain ⟨h1,h2,h3,h4⟩:=TP hz
 refine Nat.le_trans (MY _ _ rfl) ?_
 have h5:(bif e.deps then (⟨#[100]⟩:ByteArray) else (⟨#[110]⟩:ByteArray)).size≤1:=by cases e.deps<;>decide
 simp only [Kn,List.map_cons,List.map_nil,List.sum_cons,List.sum_nil]
 omega
theorem VT {s:Ak} {edge:Int} (hz:s.sz≤1048576) (h1:(!(Hz s))=false) (h2:(!(FI edge (0:Int) (IntKind.wrap .i64 (((s.graph.edges.length:Nat):Int)-(1:Int)))))=false):
  0≤edge∧edge.toNat<s.graph.edges.length∧(s.graph.edges.getD edge.toNat default).sz≤1048576∧0<(s.graph.edges.getD edge.toNat default).outs.length:=by
 have hgl:=Nat.le_trans s.graph.sz_len (Nat.le_trans s.sz_graph hz)
 rw [Rm (by omega)] at h2
 simp only [Bool.not_eq_false',Bool.and_eq_true,decide_eq_true_eq] at h2
 have hlt:edge.toNat<s.graph.edges.length:=by omega
 have hd:GT s=true:=by rw [←Ob];simpa using h1
 unfold GT at hd
 simp only [Bool.and_eq_true,decide_eq_true_eq] at hd
 have hc:Kg s.graph=0:=by
  rcases Decidable.em (Kg s.graph=0) with q|q
  ·exact q
  ·have:=hd.1;rw [Xb,if_neg q] at this;exact absurd this (by decide)
 have hm:s.graph.edges.getD edge.toNat default∈s.graph.edges:=by
  have:s.graph.edges.getD edge.toNat default=s.graph.edges[edge.toNat]:=by simp [List.getD,hlt]
  rw [this];exact List.getElem_mem hlt
 have hs:=OQ (sz:=AB.sz) hm
 have:=s.graph.sz_edges
 have:=s.sz_graph
 exact ⟨h2.1,hlt,by omega,Xj hc hm⟩
theorem Po {α:Type} (p:α→Bool): ∀xs:List α,-1≤Ky p xs∧Ky p xs<((xs.length:Nat):Int)
 | []=>by simp [Ky]
 |x::xs=>by
  have ih:=Po p xs
  simp only [Ky,List.length_cons]
  split
  ·omega
  ·split<;>omega
theorem Tg (rs:List Ae) (out:ByteArray): -1≤Bm rs out∧Bm rs out<((rs.length:Nat):Int):=Po _ rs
theorem Lm (fs:List As) (out:ByteArray): -1≤AC fs out∧AC fs out<((fs.length:Nat):Int):=Po _ fs
theorem Pa {fs:List As} {out:ByteArray} (hz:Kn As.sz fs≤1048576) (h:0≤AC fs out):(fs.getD (AC fs out).toNat default).sz≤1048576:=by
 have hl:=(Lm fs out).2
 have hlt:(AC fs out).toNat<fs.length:=by omega
 have hm:fs.getD (AC fs out).toNat default∈fs:=by
  have:fs.getD (AC fs out).toNat default=fs[(AC fs out).toNat]:=by simp [List.getD,hlt]
  rw [this];exact List.getElem_mem hlt
 have:=OQ (sz:=As.sz) hm
 omega
theorem Eu {s:Ak} {edge:Int} (hz:s.sz≤1048576) (h1:(!(GT s))=false) (h2:decide (edge<(0:Int))=false) (h3:decide (((s.graph.edges.length:Nat):Int)≤edge)=false):
  0≤edge∧edge.toNat<s.graph.edges.length∧(s.graph.edges.getD edge.toNat default).sz≤1048576∧0<(s.graph.edges.getD edge.toNat default).outs.length:=by
 have hgl:=Nat.le_trans s.graph.sz_len (Nat.le_trans s.sz_graph hz)
 have h2':=of_decide_eq_false h2
 have h3':=of_decide_eq_false h3
 refine VT hz (by rw [Ob];exact h1) ?_
 rw [Rm (by omega),decide_eq_true (by omega:0≤edge),decide_eq_true (by omega:edge<((s.graph.edges.length:Nat):Int))];rfl
theorem U7 {s:Ak} {x:Int} (hz:s.sz≤1048576) (h1:(!(GT s))=false) (hx:x∈(ID (⟨s.graph.edges,s.graph.pools,s.graph.defaults⟩:Av)).1):
  0≤x∧x.toNat<s.graph.edges.length∧(s.graph.edges.getD x.toNat default).sz≤1048576∧(s.graph.edges.getD x.toNat default).ins.length+(s.graph.edges.getD x.toNat default).implicit.length≤1048576:=by
 obtain ⟨h0,hlt⟩:=of_mem (g:=s.graph) hx
 obtain ⟨_,_,h3,_⟩:=Eu (edge:=x) hz h1 (decide_eq_false (by omega)) (decide_eq_false (by omega))
 refine ⟨h0,hlt,h3,?_⟩
 have hr1:=FD (s.graph.edges.getD x.toNat default).ins
 have hr2:=FD (s.graph.edges.getD x.toNat default).implicit
 generalize s.graph.edges.getD x.toNat default=e at*
 unfold AB.sz at h3;simp only at h3;omega
theorem PG {s:Ak} {edge:Int} (hz:s.sz≤1048576) (h1:(!(GT s))=false) (h2:decide (edge<(0:Int))=false) (h3:decide (((s.graph.edges.length:Nat):Int)≤edge)=false):
  (s.graph.edges.getD edge.toNat default).ins.length+(s.graph.edges.getD edge.toNat default).implicit.length+(s.graph.edges.getD edge.toNat default).order.length≤1048576:=by
 obtain ⟨_,_,h3,_⟩:=Eu hz h1 h2 h3
 have hr1:=FD (s.graph.edges.getD edge.toNat default).ins
 have hr2:=FD (s.graph.edges.getD edge.toNat default).implicit
 have hr3:=FD (s.graph.edges.getD edge.toNat default).order
 generalize s.graph.edges.getD edge.toNat default=e at*
 unfold AB.sz at h3;simp only at h3;omega
theorem Ut {s:Ak} {edge:Int} (hz:s.sz≤1048576) (h1:(!(GT s))=false) (h2:decide (edge<(0:Int))=false) (h3:decide (((s.graph.edges.length:Nat):Int)≤edge)=false):
  0≤edge∧edge.toNat<s.graph.edges.length∧(E6 [(s.graph.edges.getD edge.toNat default).ins,(s.graph.edges.getD edge.toNat default).implicit,(s.graph.edges.getD edge.toNat default).order]).length≤1048576:=by
 obtain ⟨h4,h5,_,_⟩:=Eu hz h1 h2 h3
 refine ⟨h4,h5,?_⟩
 have:=PG hz h1 h2 h3
 rw [LY]
 simp only [List.flatten_cons,List.flatten_nil,List.append_nil,List.length_append];omega
end
end Go.Lift
namespace Go.Lift
noncomputable section
open Go Go.RowKit
theorem NH:N2=true:=by
 simp only [N2,Do]
 kernel_rfl
end
end Go.Lift
namespace Go.Lift
noncomputable section
open Go Go.RowKit
end
end Go.Lift
namespace Go.Lift
noncomputable section
open Go Go.RowKit
def Sz (f:A3):Prop:=0≤f.content∧f.content≤2147483647
def Sa (f:A3):A3:=⟨f.name,0,f.time⟩
def Px (s:Ak):Ak:=⟨s.graph,s.actions,⟨s.disk.clock,s.disk.files.map Sa⟩,s.log,s.deps,s.jobs,s.going,s.status⟩
theorem Pb (pi:ByteArray→Bool) (c:Int): ∀(fs:List A3) (ts:List Int) (p:Option A3),(∀f∈fs,Sz f)→GR pi c fs ts p=GR pi c (fs.map Sa) ts (p.map Sa)
 | [],ts,p,_=>by cases p<;>rfl
 |f::r,ts,p,h=>by
  obtain ⟨h1,h2⟩:=h f (by simp)
  simp only [List.map_cons,GR]
  rw [decide_eq_true h1,decide_eq_true h2,Pb pi c r _ _ (fun g hg=>h g (by simp [hg])),show decide (0≤(Sa f).content)=true from rfl,show decide ((Sa f).content≤2147483647)=true from rfl]
  cases p<;>rfl
theorem may_nc {s:Ak} (h: ∀f∈s.disk.files,Sz f):GT s=GT (Px s):=by
 have e:EI GG s.disk=EI GG (Px s).disk:=by
  unfold EI
  rw [Pb _ _ _ _ _ h]
  show _=(_&&decide ((s.disk.files.map Sa).length≤64))
  rw [List.length_map];rfl
 unfold GT
 rw [e];rfl
def Xk (s':Ak) (edge:Int):Bool×Int:=
 (bif decide (edge<(0:Int)) then (false,(1900:Int)) else (bif decide (((s'.graph.edges.length:Nat):Int)≤edge) then (false,(1900:Int)) else (bif (X6 (E6 [(s'.graph.edges.getD edge.toNat default).ins,(s'.graph.edges.getD edge.toNat default).implicit,(s'.graph.edges.getD edge.toNat default).order]) (fun z0=>NK (⟨s',(s'.graph.edges.getD edge.toNat default)⟩:Al) z0)) then (false,(1901:Int)) else ((Th (⟨s',(s'.graph.edges.getD edge.toNat default)⟩:Al)),(0:Int)))))
theorem UY {s:Ak} (h:GT s=true) (e:Int):B4 s e=Xk s e:=by
 unfold B4 Xk;rw [h];rfl
def ncD (d:Aj):Aj:=⟨d.clock,d.files.map Sa⟩
theorem RX (fs:List A3) (k:Nat):(fs.map Sa).getD k default=Sa (fs.getD k default):=by
 simp only [List.getD,List.getElem?_map]
 cases fs[k]? <;>rfl
theorem Ws (fs:List A3) (t:ByteArray): ∀(k:Nat) (i j:Int),US (fun z0 z1=>HV z0 z1) (fs.map Sa) t k i j=US (fun z0 z1=>HV z0 z1) fs t k i j
 |0,i,j=>by rw [US,US]
 |k+1,i,j=>by
  have hp: ∀f:A3,HV (Sa f) t=HV f t:=fun _=>rfl
  simp only [US,RX,hp,Ws fs t k]
theorem Xo (d:Aj) (n:ByteArray):KN (ncD d) n=KN d n:=by
 have hp: ∀f:A3,HV (Sa f) n=HV f n:=fun _=>rfl
 unfold KN OO ncD
 simp only [List.length_map,Ws,RX,hp]
theorem dmay_nc {d:Aj} (h: ∀f∈d.files,Sz f):EI GG (ncD d)=EI GG d:=by
 unfold EI
 rw [Pb _ _ _ _ _ h]
 show (_&&decide ((d.files.map Sa).length≤64))=_
 rw [List.length_map];rfl
theorem OL {d:Aj} (h: ∀f∈d.files,Sz f) (n:ByteArray):DT (ncD d) n=(Sa (DT d n).1,(DT d n).2):=by
 unfold DT
 rw [Xo,dmay_nc h]
 show (bif (KN d n).2 then (bif EI GG d then ((⟨((d.files.map Sa).getD _ default).name,((d.files.map Sa).getD _ default).content,((d.files.map Sa).getD _ default).time⟩:A3),true) else _) else _)=_
 rw [RX]
 cases (KN d n).2
 ·rfl
 ·cases EI GG d<;>rfl
theorem Uq {s:Ak} (h: ∀f∈s.disk.files,Sz f) (e:AB) (n:ByteArray):NK ⟨Px s,e⟩ n=NK ⟨s,e⟩ n:=by
 show (!(DT (ncD s.disk) n).2&&_)=_
 rw [OL h];rfl
theorem VO {s:Ak} (h: ∀f∈s.disk.files,Sz f) (e:AB) (n:ByteArray) (t:Int):S4 n ⟨Px s,e⟩ t=S4 n ⟨s,e⟩ t:=by
 show (!(DT (ncD s.disk) n).2||decide (t<((DT (ncD s.disk) n).1).time))=_
 rw [OL h];rfl
theorem PB {s:Ak} (h: ∀f∈s.disk.files,Sz f) (e:AB) (ss:List ByteArray) (t:Int):Sy ⟨Px s,e⟩ ss t=Sy ⟨s,e⟩ ss t:=by
 unfold Sy
 simp only [VO h]
theorem PC {s:Ak} (h: ∀f∈s.disk.files,Sz f) (e:AB): ∀(xs:List ByteArray) (v:Nat) (o:Int),Ot ⟨Px s,e⟩ xs v o=Ot ⟨s,e⟩ xs v o
 | [],v,o=>by rw [Ot,Ot]
 |x::xs,v,o=>by
  have e1:(⟨Px s,e⟩:Al).state.disk=ncD s.disk:=rfl
  have e2: ∀f:A3,(Sa f).time=f.time:=fun _=>rfl
  have e3:(⟨Px s,e⟩:Al).state.log=s.log:=rfl
  have e4:(⟨Px s,e⟩:Al).edge=e:=rfl
  rw [Ot,Ot]
  rw [e1,e3,e4,OL h,e2,PC h e xs]
theorem VP {s:Ak} (h: ∀f∈s.disk.files,Sz f) (e:AB):MI ⟨Px s,e⟩=MI ⟨s,e⟩:=by
 unfold MI
 rw [PC h];rfl
theorem WD {s:Ak} (h: ∀f∈s.disk.files,Sz f) (e:AB):Th ⟨Px s,e⟩=Th ⟨s,e⟩:=by
 have e1:(⟨Px s,e⟩:Al).state.disk=ncD s.disk:=rfl
 have e2: ∀f:A3,(Sa f).time=f.time:=fun _=>rfl
 unfold Th
 rw [e1,OL h,VP h,PB h,PB h,PB h,e2];rfl
theorem own_nc {s:Ak} (h: ∀f∈s.disk.files,Sz f) (i:Int):Xk (Px s) i=Xk s i:=by
 unfold Xk
 simp only [Uq h,WD h];rfl
theorem ok_set {fs:List A3} {i:Nat} {x:A3} (h: ∀f∈fs,Sz f) (hx:Sz x): ∀f∈fs.set i x,Sz f:=fun f hf=>(List.mem_or_eq_of_mem_set hf).elim (h f) (fun e=>e ▸ hx)
theorem ok_dk: ∀f∈Q8.files,Sz f:=by unfold Sz;decide
theorem upTo_c {c:Int} (h:0≤c∧c≤2147483647):FI c (0:Int) (2147483647:Int)=true:=by
 unfold FI;rw [decide_eq_true h.1,decide_eq_true h.2];rfl
end
end Go.Lift
namespace Go.Lift
noncomputable section
open Go Go.RowKit
def onP (name:ByteArray) (c:Int):Ak:=(⟨(⟨Cu.graph.edges,Cu.graph.pools,Cu.graph.defaults⟩:Av),Cu.actions,(⟨((Ij (⟨(8:Int),Q8.files⟩:Aj) name c).1).clock,((Ij (⟨(8:Int),Q8.files⟩:Aj) name c).1).files⟩:Aj),Tl.log,Tl.deps,Cu.jobs,Cu.going,[]⟩:Ak)
def onN:Nat→ByteArray
 |0=>(⟨#[97,46,99]⟩:ByteArray)
 |1=>(⟨#[122,46,104]⟩:ByteArray)
 |2=>(⟨#[97,46,104]⟩:ByteArray)
 |_=>(⟨#[97,46,111]⟩:ByteArray)
def onF (k:Nat) (c:Int):List A3:=match k with
 |0=>Q8.files.set 0 ⟨onN 0,c,9⟩
 |1=>Q8.files.set 7 ⟨onN 1,c,9⟩
 |2=>Q8.files.set 2 ⟨onN 2,c,9⟩
 |_=>Q8.files.set 3 ⟨onN 3,c,9⟩
def Xc (k:Nat) (c:Int):Ak:=⟨Cu.graph,Cu.actions,⟨9,onF k c⟩,Tl.log,Tl.deps,Cu.jobs,Cu.going,[]⟩
theorem S1 {k:Nat} (h:k<4):k=0∨k=1∨k=2∨k=3:=by omega
theorem c_ok (x:Int):0≤C0 .and .i64 x (255:Int)∧C0 .and .i64 x (255:Int)≤2147483647:=by have:=Wr x 255 (by decide) (by decide);omega
theorem on_put {k:Nat} {c:Int} (hk:k<4) (hc:0≤c∧c≤2147483647):(Ij (⟨(8:Int),Q8.files⟩:Aj) (onN k) c).1=⟨9,onF k c⟩:=by
 unfold Ij
 rw [upTo_c hc]
 rcases S1 hk with rfl|rfl|rfl|rfl<;>kernel_rfl
theorem on_eq {k:Nat} {c:Int} (hk:k<4) (hc:0≤c∧c≤2147483647):onP (onN k) c=Xc k c:=by
 unfold onP Xc;rw [on_put hk hc]
theorem on_ok {k:Nat} {c:Int} (hk:k<4) (hc:0≤c∧c≤2147483647): ∀f∈(Xc k c).disk.files,Sz f:=by
 rcases S1 hk with rfl|rfl|rfl|rfl<;>exact ok_set ok_dk hc
theorem Ty {k:Nat} (hk:k<4) (x:Int):(onP (onN k) (C0 .and .i64 x (255:Int))).sz≤1048576:=by
 rw [on_eq hk (c_ok x)]
 rcases S1 hk with h|h|h|h<;>rw [h]<;>exact Nat.le_of_ble_eq_true (by kernel_rfl)
theorem own_ncD {s:Ak} (h: ∀f∈s.disk.files,Sz f) (i:Int):B4 (Px s) i=B4 s i:=by
 have hm:=may_nc h
 cases e:GT s with
 |false=>
  have e':GT (Px s)=false:=by rw [←hm];exact e
  unfold B4;rw [e,e'];rfl
 |true=>rw [UY e,UY (by rw [←hm];exact e),own_nc h]
theorem on_nc {k:Nat} (c:Int) (hk:k<4):Px (Xc k c)=Px (Xc k 0):=by
 rcases S1 hk with rfl|rfl|rfl|rfl<;>kernel_rfl
theorem on0:B4 (Px (Xc 0 0)) 1=(true,0):=by kernel_rfl
theorem on1:B4 (Px (Xc 1 0)) 1=(true,0):=by kernel_rfl
theorem on2:B4 (Px (Xc 2 0)) 1=(true,0):=by kernel_rfl
theorem on3:B4 (Px (Xc 3 0)) 1=(true,0):=by kernel_rfl
theorem on3':B4 (Px (Xc 3 0)) 2=(false,0):=by kernel_rfl
theorem PD {k:Nat} (hk:k<4) (x:Int) {e:Int} {r:Bool×Int} (h:B4 (Px (Xc k 0)) e=r):B4 (onP (onN k) (C0 .and .i64 x (255:Int))) e=r:=by
 rw [on_eq hk (c_ok x),←own_ncD (on_ok hk (c_ok x)),on_nc _ hk,h]
theorem bt {c:Bool} {a b:Bool} (ha:a=true) (hb:b=true):(bif c then a else b)=true:=by cases c<;>assumption
theorem oT {s:Ak} {e:Int} {b:Bool} (h:B4 s e=(b,0)):(decide ((Do ((B4 s e).2))=(0:Int))&&((B4 s e).1==b))=true:=by rw [h];cases b<;>rfl
def onT (y:Int):Ak:=⟨Cu.graph,Cu.actions,⟨8,Q8.files⟩,(Qx Tl.log 0 (fun d=>({d with time:=(IntKind.wrap .i64 ((1:Int)+y))}:Ae))),Tl.deps,Cu.jobs,Cu.going,[]⟩
theorem ot0:B4 (onT 0) 1=(true,0):=by kernel_rfl
theorem ot1:B4 (onT 1) 1=(true,0):=by kernel_rfl
theorem ot2:B4 (onT 2) 1=(true,0):=by kernel_rfl
theorem ot3:B4 (onT 3) 1=(true,0):=by kernel_rfl
theorem on_time (x:Int):B4 (onT (C0 .and .i64 x (3:Int))) 1=(true,0):=by
 have:=Wr x 3 (by decide) (by decide)
 generalize C0 .and .i64 x (3:Int)=y at*
 have h:y=0∨y=1∨y=2∨y=3:=by omega
 rcases h with rfl|rfl|rfl|rfl
 exact ot0
 exact ot1
 exact ot2
 exact ot3
theorem ot_sz (x:Int):(onT (C0 .and .i64 x (3:Int))).sz≤1048576:=Nat.le_of_ble_eq_true (by kernel_rfl)
theorem M6 (w x:Int):Me w x=true:=by
 unfold Me
 rw [NH,show (!(!true))=true from rfl,Bool.true_and]
 refine bt (oT ?_) (bt (oT ?_) (bt (oT ?_) (bt (oT (on_time x)) (bt (oT ?_) (bt (oT (PD (k:=3) (by decide) x on3)) (bt (oT (PD (k:=0) (by decide) x on0)) (bt (oT (PD (k:=2) (by decide) x on2)) (bt (oT (PD (k:=1) (by decide) x on1)) (bt (oT ?_) (bt (oT ?_) (bt (oT ?_) (bt (oT (PD (k:=3) (by decide) x on3')) (oT ?_)))))))))))))
 all_goals kernel_rfl
end
end Go.Lift
namespace Go.Lift
noncomputable section
open Go Go.RowKit
def nl (a b:ByteArray):Prop:=Op.bytesLess a.toList b.toList=true
end
end Go.Lift
namespace Go.Lift
noncomputable section
open Go Go.RowKit
end
end Go.Lift
namespace Go.Lift
noncomputable section
open Go Go.RowKit
end
end Go.Lift
