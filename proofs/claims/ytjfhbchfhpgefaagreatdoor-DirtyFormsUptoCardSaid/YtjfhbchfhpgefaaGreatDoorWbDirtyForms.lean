/-
  Lemmas of this claim: a layer over the kit's calls, contracts of the functions that the law reaches, and the law's row. No condition of its own.
-/
import Derived.Test.YtjfhbchfhpgefaaGreatDoorWaDirtyForms
set_option linter.unusedSimpArgs false
set_option linter.unusedVariables false
set_option linter.unusedSectionVars false
set_option maxRecDepth 20000
namespace Go.Lift
noncomputable section
open Go Go.RowKit
theorem Jm (W:World) (x':ByteArray):Ar Go.Proofs.Tryz.prog W 201 [(AV.s x')] (AV.b (Mr x')) []:=by
 refine As (fn:=Go.Proofs.Tryz.f201) Go.Proofs.Tryz.func201 rfl (en201 W) (ts:=[2]) rfl le<|Sq<|Rg<|Aq (AV.b false)<|Ad<|Sq<|Rg<|Aq (AV.s x')<|Aq (AV.s x')<|Aq (AV.b (!decide (x'=x')))<|Aq (AV.b (!decide (x'=x')))<|Ad<|Rt ?_
 exact Fb rfl (by simp only [Mr,Bl])
theorem LJ (W:World) (x':ByteArray) (y:ByteArray):Ar Go.Proofs.Tryz.prog W 169 [(AV.s x'),(AV.s y)] (AV.i .i64 (Q7 x' y)) []:=by
 refine As (fn:=Go.Proofs.Tryz.f169) Go.Proofs.Tryz.func169 rfl (en169 W) (ts:=[4]) rfl le<|Sq<|Rg<|Aq (AV.i .i64 (0:Int))<|Ad<|Sq<|Rg<|Aq (AV.s x')<|A4.sc0 (vs:=[(AV.s x')]) (r0:=(AV.b (Mr x'))) kr kr (Jm W x') kr le<|Aq (AV.b (Mr x'))<|Ad<|Sq<|Rg<|Aq (AV.s y)<|A4.sc0 (vs:=[(AV.s y)]) (r0:=(AV.b (Mr y))) kr kr (Jm W y) kr le<|Aq (AV.b (Mr y))<|Ad<|Sq<|Sq<|Rg<|Aq (AV.b (Mr x'))<|Ad ?_
 cases c_1:(Mr x')
 refine Cf<|Ah.skip<|Sq<|Sq<|Rg<|Aq (AV.b (Mr y))<|Ad ?_
 cases c_2:(Mr y)
 refine Cf<|Ah.skip<|Sq<|Sq<|Rg<|Aq (AV.s x')<|Aq (AV.s y)<|Aq (AV.b (Op.bytesLess x'.toList y.toList))<|Ad ?_
 cases c_3:(Op.bytesLess x'.toList y.toList)
 refine Cf<|Ah.skip<|Sq<|Sq<|Rg<|Aq (AV.s x')<|Aq (AV.s y)<|Aq (AV.b (!(Op.bytesLess x'.toList y.toList||decide (x'=y))))<|Ad ?_
 cases c_4:(!(Op.bytesLess x'.toList y.toList||decide (x'=y)))
 refine Cf<|Ah.skip<|Sq<|Rg<|Aq (AV.i .i64 (0:Int))<|Ad<|Rt ?_
 try simp only [c_3,Bl] at c_4
 exact Fi rfl (by simp only [Q7,c_1,c_2,c_3,c_4,Bl])
 refine Ct<|Sq<|Rg<|Aq (AV.i .i64 (1:Int))<|Ad<|Rt ?_
 try simp only [c_3,Bl] at c_4
 exact Fi rfl (by simp only [Q7,c_1,c_2,c_3,c_4,Bl])
 refine Ct<|Sq<|Rg<|Aq (AV.i .i64 (-1:Int))<|Ad<|Rt ?_
 exact Fi rfl (by simp only [Q7,c_1,c_2,c_3,Bl])
 refine Ct<|Sq<|Rg<|Aq (AV.i .i64 (1:Int))<|Ad<|Rt ?_
 exact Fi rfl (by simp only [Q7,c_1,c_2,Bl])
 refine Ct<|Sq<|Sq<|Rg<|Aq (AV.b (Mr y))<|Ad ?_
 cases c_5:(Mr y)
 refine Cf<|Ah.skip<|Sq<|Rg<|Aq (AV.i .i64 (-1:Int))<|Ad<|Rt ?_
 exact Fi rfl (by simp only [Q7,c_1,c_5,Bl])
 refine Ct<|Sq<|Rg<|Aq (AV.i .i64 (0:Int))<|Ad<|Rt ?_
 exact Fi rfl (by simp only [Q7,c_1,c_5,Bl])
theorem PR (W:World) (f:Ae) (s':ByteArray):Ar Go.Proofs.Tryz.prog W 168 [(Ae.av f),(AV.s s')] (AV.i .i64 (Ko f s')) []:=by
 refine As (fn:=Go.Proofs.Tryz.f168) Go.Proofs.Tryz.func168 rfl (en168 W) (ts:=[4]) rfl le<|Sq<|Rg<|Nn (AV.loc 0 0 0) ⟨85,3,[(Ae.av f)]⟩<|Aq (AV.i .i64 (0:Int))<|Ad<|Sq<|Rg<|Aq (AV.loc 0 0 0)<|Aq (AV.s f.name)<|Aq (AV.s s')<|A4.sc0 (vs:=[(AV.s f.name),(AV.s s')]) (r0:=(AV.i .i64 (Q7 f.name s'))) kr kr (LJ W f.name s') kr le<|Aq (AV.i .i64 (Q7 f.name s'))<|Ad<|Rt ?_
 exact Fi rfl (by simp only [Ko,Bl])
theorem Eh (W:World) (x':List Ae) (target:ByteArray) (f_cmp:FuncId) (c_cmp:List AV) (cmp:Ae→ByteArray→Int) (hcl_cmp:Ab c_cmp=true) (hp_cmp: ∀(z0:Ae) (z1:ByteArray),Ar Go.Proofs.Tryz.prog W f_cmp ((Ae.av z0)::(AV.s z1)::c_cmp) (AV.i .i64 (cmp z0 z1)) []) (hz:x'.length≤1048576):Ar Go.Proofs.Tryz.prog W 167 [((AY 3 Ae.av) x'),(AV.s target),(AV.fn f_cmp c_cmp)] (AV.tup [(AV.i .i64 ((Pk x' target cmp).1)),(AV.b ((Pk x' target cmp).2))]) []:=by
 refine As (fn:=Go.Proofs.Tryz.f167) Go.Proofs.Tryz.func167 rfl (en167 W) (ts:=[6,7]) rfl le<|Sq<|Rg<|Aq (AV.i .i64 (0:Int))<|Aq (AV.b false)<|Ad<|Sq<|Rg<|Aq ((AY 3 Ae.av) x')<|Ap (Ai x'.length) (CA (k:=3) (nl:=false) (e:=85) (A:=Ae.av) (xs:=x') kr kr)<|Aq (Ai x'.length)<|Ad<|Sq<|Rg<|Aq (Ai x'.length)<|Aq (AV.i .i64 (0:Int))<|Aq (Ai x'.length)<|Ad<|Sq<|Ah.block ?_
 obtain ⟨R1,hR1⟩: ∃R,m_j cmp x' target ((((x'.length:Nat):Int)-(0:Int)).toNat+1) (0:Int) ((x'.length:Nat):Int)=R:=⟨_,rfl⟩
 refine BN (fun ((kf1,(i,j)):Nat×(Int×Int))=>[(0,((AY 3 Ae.av) x')),(1,(AV.s target)),(2,(AV.fn f_cmp c_cmp)),(8,(Ai x'.length)),(9,(AV.i .i64 i)),(10,(AV.i .i64 j))]) (fun ((kf1,(i,j)):Nat×(Int×Int))=>⟨0,[]⟩) (fun ((kf1,(i,j)):Nat×(Int×Int))=>(j-i).toNat<kf1∧0≤i∧i≤j∧j≤((x'.length:Nat):Int)∧m_j cmp x' target kf1 i j=R1) (fun ((kf1,(i,j)):Nat×(Int×Int))=>kf1) ((((x'.length:Nat):Int)-(0:Int)).toNat+1,((0:Int),((x'.length:Nat):Int))) ?_ ?_ ?_
 exact ⟨[],⟨by decide,rfl,A3.nil,(Ee (Ee (AM.cons (BM.c kr hcl_cmp) (Ee (Ee (Ee AM.nil))))))⟩,B4⟩
 exact ⟨od,Ka,Ka,Ka,hR1⟩
 rintro ⟨kf1,i,j⟩ ⟨hi1,h0,h1,h2,hE1⟩
 try dsimp only
 rcases kf1 with _|kf1
 exact absurd hi1 (Nat.not_lt_zero _)
 rw [m_j.eq_2] at hE1
 refine Sq<|Sq<|Rg<|Aq (AV.i .i64 i)<|Aq (AV.i .i64 j)<|Aq (AV.b (decide (i<j)))<|Ad ?_
 cases c_1:decide (i<j)
 have k_1:=of_decide_eq_false c_1
 refine Cf<|Ah.exit ?_
 try simp only [c_1,Bl] at hE1
 subst hE1
 refine Sq<|Rg<|Aq (AV.i .i64 i)<|Aq (AV.i .i64 i)<|Aq (Ai x'.length)<|Aq (AV.b (decide (i<((x'.length:Nat):Int))))<|Aq (AV.b (decide (i<((x'.length:Nat):Int)))) ?_
 cases c_2:decide (i<((x'.length:Nat):Int))
 have k_2:=of_decide_eq_false c_2
 refine An<|An<|An<|An<|An<|An<|An<|An<|Aq (AV.b false)<|Aq (AV.i .i64 i)<|Aq (AV.b false)<|Ad<|Rt ?_
 have hM:Pk x' target cmp=(i,false):=by simp only [Pk,hR1,c_2,Bl]
 refine ⟨Or.inr rfl,?_⟩
 rw [hM]
 exact BM.cast (x':=(AV.tup [(AV.i .i64 i),(AV.b false)])) (y':=(AV.tup [(AV.i .i64 ((i,false).1)),(AV.b ((i,false).2))])) kr kr (BM.tup ⟨Ec,⟨Ec,trivial⟩⟩ kr)
 have k_2:=of_decide_eq_true c_2
 have q_2:=of_decide_eq_true c_2
 refine Ay<|Aq (AV.fn f_cmp c_cmp)<|Ay<|Aq ((AY 3 Ae.av) x')<|Ay<|Aq (AV.i .i64 i)<|Ay<|Ap (AV.pt (Ae.av (x'.getD i.toNat default)).cells) (Li (k:=3) (nl:=false) (e:=85) (kk:= .i64) (A:=Ae.av) (xs:=x') (n:=i) kr kr kr ⟨by kernel_rfl,by decide⟩ sd (getD_some sd))<|Ay<|Aq (Ae.av (x'.getD i.toNat default))<|Ay<|Aq (AV.s target)<|Ay<|A4.sc0 (vs:=((Ae.av (x'.getD i.toNat default))::(AV.s target)::c_cmp)) (r0:=(AV.i .i64 (cmp (x'.getD i.toNat default) target))) kr (by simp only [Ab,Bool.and_eq_true];exact ⟨by kernel_rfl,⟨by kernel_rfl,hcl_cmp⟩⟩) (hp_cmp (x'.getD i.toNat default) target) kr le<|Ay<|Aq (AV.b (decide ((cmp (x'.getD i.toNat default) target)=(0:Int))))<|Aq (AV.b (decide ((cmp (x'.getD i.toNat default) target)=(0:Int))))<|Aq (AV.i .i64 i)<|Aq (AV.b (decide ((cmp (x'.getD i.toNat default) target)=(0:Int))))<|Ad<|Rt ?_
 have hM:Pk x' target cmp=(i,decide ((cmp (x'.getD i.toNat default) target)=(0:Int))):=by simp only [Pk,hR1,c_2,Bl]
 refine ⟨Or.inr rfl,?_⟩
 rw [hM]
 exact BM.cast (x':=(AV.tup [(AV.i .i64 i),(AV.b (decide ((cmp (x'.getD i.toNat default) target)=(0:Int))))])) (y':=(AV.tup [(AV.i .i64 ((i,decide ((cmp (x'.getD i.toNat default) target)=(0:Int))).1)),(AV.b ((i,decide ((cmp (x'.getD i.toNat default) target)=(0:Int))).2))])) kr kr (BM.tup ⟨Ec,⟨Ec,trivial⟩⟩ kr)
 have k_1:=of_decide_eq_true c_1
 have q_1:=W0 h0 (of_decide_eq_true c_1) h2 hz
 refine Ct<|Ah.skip<|Ah.block<|Sq<|Rg<|Aq (AV.i .i64 i)<|Aq (AV.i .i64 j)<|Aq (AV.i .i64 (IntKind.wrap .i64 (i+j)))<|Aq (AV.i .u64 (IntKind.wrap .u64 (IntKind.wrap .i64 (i+j))))<|Ap (AV.i .u64 (Int.fdiv (IntKind.wrap .u64 (IntKind.wrap .i64 (i+j))) (2^(min 1 IntKind.u64.bits)))) (g_shr (k:= .u64) (k':= .u64) (a:=(IntKind.wrap .u64 (IntKind.wrap .i64 (i+j)))) (n:=1) kr kr)<|Aq (AV.i .i64 (IntKind.wrap .i64 (Int.fdiv (IntKind.wrap .u64 (IntKind.wrap .i64 (i+j))) (2^(min 1 IntKind.u64.bits)))))<|Aq (AV.i .i64 (IntKind.wrap .i64 (Int.fdiv (IntKind.wrap .u64 (IntKind.wrap .i64 (i+j))) (2^(min 1 IntKind.u64.bits)))))<|Ad<|Sq<|Rg<|Aq (AV.fn f_cmp c_cmp)<|Aq ((AY 3 Ae.av) x')<|Aq (AV.i .i64 (IntKind.wrap .i64 (Int.fdiv (IntKind.wrap .u64 (IntKind.wrap .i64 (i+j))) (2^(min 1 IntKind.u64.bits)))))<|Ap (AV.pt (Ae.av (x'.getD (IntKind.wrap .i64 (Int.fdiv (IntKind.wrap .u64 (IntKind.wrap .i64 (i+j))) (2^(min 1 IntKind.u64.bits)))).toNat default)).cells) (Li (k:=3) (nl:=false) (e:=85) (kk:= .i64) (A:=Ae.av) (xs:=x') (n:=(IntKind.wrap .i64 (Int.fdiv (IntKind.wrap .u64 (IntKind.wrap .i64 (i+j))) (2^(min 1 IntKind.u64.bits))))) kr kr kr ⟨by kernel_rfl,by decide⟩ sd (getD_some sd))<|Aq (Ae.av (x'.getD (IntKind.wrap .i64 (Int.fdiv (IntKind.wrap .u64 (IntKind.wrap .i64 (i+j))) (2^(min 1 IntKind.u64.bits)))).toNat default))<|Aq (AV.s target)<|A4.sc0 (vs:=((Ae.av (x'.getD (IntKind.wrap .i64 (Int.fdiv (IntKind.wrap .u64 (IntKind.wrap .i64 (i+j))) (2^(min 1 IntKind.u64.bits)))).toNat default))::(AV.s target)::c_cmp)) (r0:=(AV.i .i64 (cmp (x'.getD (IntKind.wrap .i64 (Int.fdiv (IntKind.wrap .u64 (IntKind.wrap .i64 (i+j))) (2^(min 1 IntKind.u64.bits)))).toNat default) target))) kr (by simp only [Ab,Bool.and_eq_true];exact ⟨by kernel_rfl,⟨by kernel_rfl,hcl_cmp⟩⟩) (hp_cmp (x'.getD (IntKind.wrap .i64 (Int.fdiv (IntKind.wrap .u64 (IntKind.wrap .i64 (i+j))) (2^(min 1 IntKind.u64.bits)))).toNat default) target) kr le ?_
 refine Aq (AV.b (decide ((cmp (x'.getD (IntKind.wrap .i64 (Int.fdiv (IntKind.wrap .u64 (IntKind.wrap .i64 (i+j))) (2^(min 1 IntKind.u64.bits)))).toNat default) target)<(0:Int))))<|Ad ?_
 cases c_3:decide ((cmp (x'.getD (IntKind.wrap .i64 (Int.fdiv (IntKind.wrap .u64 (IntKind.wrap .i64 (i+j))) (2^(min 1 IntKind.u64.bits)))).toNat default) target)<(0:Int))
 have k_3:=of_decide_eq_false c_3
 refine Cf<|Rg<|Aq (AV.i .i64 (IntKind.wrap .i64 (Int.fdiv (IntKind.wrap .u64 (IntKind.wrap .i64 (i+j))) (2^(min 1 IntKind.u64.bits)))))<|Aq (AV.i .i64 (IntKind.wrap .i64 (Int.fdiv (IntKind.wrap .u64 (IntKind.wrap .i64 (i+j))) (2^(min 1 IntKind.u64.bits)))))<|Ad ?_
 try simp only [c_1,c_3,Bl] at hE1
 refine ⟨(kf1,(i,(IntKind.wrap .i64 (Int.fdiv (IntKind.wrap .u64 (IntKind.wrap .i64 (i+j))) (2^(min 1 IntKind.u64.bits)))))),od,⟨Ka,Ka,Ka,Ka,hE1⟩,?_⟩
 exact ⟨[],⟨by decide,rfl,A3.nil,(Ee (Ee (AM.cons (BM.c kr hcl_cmp) (Ee (Ee (Ee AM.nil))))))⟩,B4⟩
 have k_3:=of_decide_eq_true c_3
 refine Ct<|Rg<|Aq (AV.i .i64 (IntKind.wrap .i64 (Int.fdiv (IntKind.wrap .u64 (IntKind.wrap .i64 (i+j))) (2^(min 1 IntKind.u64.bits)))))<|Aq (AV.i .i64 (IntKind.wrap .i64 ((IntKind.wrap .i64 (Int.fdiv (IntKind.wrap .u64 (IntKind.wrap .i64 (i+j))) (2^(min 1 IntKind.u64.bits))))+(1:Int))))<|Aq (AV.i .i64 (IntKind.wrap .i64 ((IntKind.wrap .i64 (Int.fdiv (IntKind.wrap .u64 (IntKind.wrap .i64 (i+j))) (2^(min 1 IntKind.u64.bits))))+(1:Int))))<|Ad ?_
 try simp only [c_1,c_3,Bl] at hE1
 refine ⟨(kf1,((IntKind.wrap .i64 ((IntKind.wrap .i64 (Int.fdiv (IntKind.wrap .u64 (IntKind.wrap .i64 (i+j))) (2^(min 1 IntKind.u64.bits))))+(1:Int))),j)),od,⟨Ka,Ka,Ka,Ka,hE1⟩,?_⟩
 exact ⟨[],⟨by decide,rfl,A3.nil,(Ee (Ee (AM.cons (BM.c kr hcl_cmp) (Ee (Ee (Ee AM.nil))))))⟩,B4⟩
theorem S5 (W:World) (d:AN) (s':ByteArray) (hz:d.sz≤1048576):Ar Go.Proofs.Tryz.prog W 129 [(AV.pt (AN.av d).cells),(AV.s s')] (AV.tup [(AV.i .i64 ((Ll d s').1)),(AV.b ((Ll d s').2))]) []:=by
 have hl:=JQ Ae.sz_one d.files
 have hl2:=d.sz_files
 refine As (fn:=Go.Proofs.Tryz.f129) Go.Proofs.Tryz.func129 rfl (en129 W) (ts:=[4,5]) rfl le<|Sq<|Rg<|Aq (AV.i .i64 (0:Int))<|Aq (AV.b false)<|Ad<|Sq<|Rg<|Aq (AV.pt (AN.av d).cells)<|Aq (AV.pt (AN.av d).cells)<|Aq (AV.pt ((AN.av d).cells.drop 1))<|Aq ((AY 3 Ae.av) d.files)<|Aq (AV.s s')<|A4.sc0 (vs:=[((AY 3 Ae.av) d.files),(AV.s s'),(AV.fn 168 [])]) (r0:=(AV.tup [(AV.i .i64 ((Pk d.files s' (fun z0 z1=>Ko z0 z1)).1)),(AV.b ((Pk d.files s' (fun z0 z1=>Ko z0 z1)).2))])) kr (by simp only [Ab,Bool.and_eq_true];exact ⟨by kernel_rfl,by kernel_rfl,kr,trivial⟩) (Eh W d.files s' 168 [] (fun z0 z1=>Ko z0 z1) kr (fun z0 z1=>(PR W z0 z1)) sd) kr le<|Aq (AV.i .i64 ((Pk d.files s' (fun z0 z1=>Ko z0 z1)).1))<|Aq (AV.b ((Pk d.files s' (fun z0 z1=>Ko z0 z1)).2))<|Aq (AV.i .i64 ((Pk d.files s' (fun z0 z1=>Ko z0 z1)).1))<|Aq (AV.b ((Pk d.files s' (fun z0 z1=>Ko z0 z1)).2))<|Ad<|Rt ?_
 have hM:Ll d s'=((Pk d.files s' (fun z0 z1=>Ko z0 z1)).1,(Pk d.files s' (fun z0 z1=>Ko z0 z1)).2):=by simp only [Ll,Bl]
 refine ⟨Or.inr rfl,?_⟩
 rw [hM]
 exact BM.cast (x':=(AV.tup [(AV.i .i64 ((Pk d.files s' (fun z0 z1=>Ko z0 z1)).1)),(AV.b ((Pk d.files s' (fun z0 z1=>Ko z0 z1)).2))])) (y':=(AV.tup [(AV.i .i64 (((Pk d.files s' (fun z0 z1=>Ko z0 z1)).1,(Pk d.files s' (fun z0 z1=>Ko z0 z1)).2).1)),(AV.b (((Pk d.files s' (fun z0 z1=>Ko z0 z1)).1,(Pk d.files s' (fun z0 z1=>Ko z0 z1)).2).2))])) kr kr (BM.tup ⟨Ec,⟨Ec,trivial⟩⟩ kr)
def G5 (d:AN) (s':ByteArray):AV:=(AV.i .i64 ((Ll d s').1))
def Hi:AV:=(AV.st [(AV.s (⟨#[]⟩:ByteArray)),(AV.i .i64 (0:Int)),(AV.i .i64 (0:Int))])
def Jd:Obj:=⟨85,3,[Hi]⟩
def Hh:AV:=(AV.tup [Hi,(AV.b false)])
def Lx:AV:=(AV.tup [(Ae.av (((⟨(⟨#[]⟩:ByteArray),(0:Int),(0:Int)⟩:Ae),false).1)),(AV.b (((⟨(⟨#[]⟩:ByteArray),(0:Int),(0:Int)⟩:Ae),false).2))])
def Lw (d:AN) (s':ByteArray):AV:=(AV.st [(AV.s ((d.files.getD ((Ll d s').1).toNat default).name)),(AV.i .i64 ((d.files.getD ((Ll d s').1).toNat default).content)),(AV.i .i64 ((d.files.getD ((Ll d s').1).toNat default).time))])
def Lv (d:AN) (s':ByteArray):AV:=(AV.tup [(Lw d s'),(AV.b true)])
theorem JT (W:World) {m0:Int} (hW:W.cell? ⟨0,0,none⟩=some (.int .i64 m0)) (d:AN) (s':ByteArray) (hz:d.sz≤1048576):Ar Go.Proofs.Tryz.prog W 82 [(AN.av d),(AV.s s')] (AV.tup [(Ae.av ((EN d s').1)),(AV.b ((EN d s').2))]) []:=by
 have hl:=JQ Ae.sz_one d.files
 have hl2:=d.sz_files
 refine GA A6 (fn:=Go.Proofs.Tryz.f82) Go.Proofs.Tryz.func82 rfl (en82 W) le<|Sq<|Rg<|Nn (AV.loc 0 0 0) ⟨30,2,[(AN.av d)]⟩<|Nn (AV.loc 1 0 0) Jd<|Aq (AV.b false)<|Ad<|Sq<|Sq<|Rg<|Aq (AV.s s')<|A4.sfw (vs:=[(AV.loc 0 0 0),(AV.s s')]) (ss:=[(AV.pt (AN.av d).cells),(AV.s s')]) (r0:=(AV.tup [(G5 d s'),(AV.b ((Ll d s').2))])) kr (show BP _ _ _ from ⟨(A1.w (A1.cast (x':=(AV.loc 0 0 0)) kr kr (E9 AN.av d (id:=0) rfl rfl kr))),⟨(BP.e kr),trivial⟩⟩) (S5 W d s' sd) rfl kr le<|Aq (AV.tup [(G5 d s'),(AV.b ((Ll d s').2))])<|Aq (G5 d s')<|Aq (AV.b ((Ll d s').2))<|Aq (G5 d s')<|Aq (AV.b ((Ll d s').2))<|Ad<|Sq<|Rg<|Aq (AV.b ((Ll d s').2))<|Aq (AV.b ((Ll d s').2)) ?_
 cases c_1:(Ll d s').2
 refine An<|An<|Aq (AV.b false)<|Ad<|Cf<|Ah.skip<|Sq<|Rg<|Nb Hi<|Sp 1 Jd<|Aq (AV.b false)<|Ad<|Rt ?_
 have hM:EN d s'=((⟨(⟨#[]⟩:ByteArray),(0:Int),(0:Int)⟩:Ae),false):=by simp only [EN,c_1,Bl]
 refine ⟨Or.inr rfl,Hh,kr,?_⟩
 rw [hM]
 exact BM.cast (x':=Hh) (y':=Lx) kr kr (BM.tup ⟨Ec,⟨Ec,trivial⟩⟩ kr)
 have q_1:=WP hz c_1
 refine Ay<|Aq (AN.av d)<|Ay<|A4.sc0 (vs:=[(AN.av d)]) (r0:=(AV.b (Ha Hy d))) kr kr (PP W hW d) kr le<|Aq (AV.b (Ha Hy d))<|Ad ?_
 cases c_2:(Ha Hy d)
 refine Cf<|Ah.skip<|Sq<|Rg<|Nb Hi<|Sp 1 Jd<|Aq (AV.b false)<|Ad<|Rt ?_
 have hM:EN d s'=((⟨(⟨#[]⟩:ByteArray),(0:Int),(0:Int)⟩:Ae),false):=by simp only [EN,c_1,c_2,Bl]
 refine ⟨Or.inr rfl,Hh,kr,?_⟩
 rw [hM]
 exact BM.cast (x':=Hh) (y':=Lx) kr kr (BM.tup ⟨Ec,⟨Ec,trivial⟩⟩ kr)
 refine Ct<|Sq<|Rg<|Aq (AV.loc 0 0 1)<|Aq ((AY 3 Ae.av) d.files)<|Aq (G5 d s')<|Ap (AV.pt (Ae.av (d.files.getD ((Ll d s').1).toNat default)).cells) (Li (k:=3) (nl:=false) (e:=85) (kk:= .i64) (A:=Ae.av) (xs:=d.files) (n:=((Ll d s').1)) kr kr kr ⟨by kernel_rfl,by decide⟩ sd (getD_some sd))<|Aq (Ae.av (d.files.getD ((Ll d s').1).toNat default))<|Sp 1 ⟨85,3,[(Lw d s')]⟩<|Aq (AV.b true)<|Ad<|Rt ?_
 have hM:EN d s'=((⟨(d.files.getD ((Ll d s').1).toNat default).name,(d.files.getD ((Ll d s').1).toNat default).content,(d.files.getD ((Ll d s').1).toNat default).time⟩:Ae),true):=by simp only [EN,c_1,c_2,Bl]
 refine ⟨Or.inr rfl,(Lv d s'),kr,?_⟩
 rw [hM]
 exact BM.cast (x':=(Lv d s')) (y':=(AV.tup [(Ae.av (((⟨(d.files.getD ((Ll d s').1).toNat default).name,(d.files.getD ((Ll d s').1).toNat default).content,(d.files.getD ((Ll d s').1).toNat default).time⟩:Ae),true).1)),(AV.b (((⟨(d.files.getD ((Ll d s').1).toNat default).name,(d.files.getD ((Ll d s').1).toNat default).content,(d.files.getD ((Ll d s').1).toNat default).time⟩:Ae),true).2))])) kr kr (BM.tup ⟨Ec,⟨Ec,trivial⟩⟩ kr)
theorem VD (W:World) {m0:Int} (hW:W.cell? ⟨0,0,none⟩=some (.int .i64 m0)) (e:B1) (hz:e.sz≤1048576):Ar Go.Proofs.Tryz.prog W 144 [(B1.av e)] (AV.tup [(AV.s ((MT e).1)),(AV.i .i64 ((MT e).2))]) []:=by
 have hs:=Tl hz
 have hl1:=Gi e.outs
 have hl2:=Gi e.ins
 have hl3:=Gi e.implicit
 have hl4:=e.sz_outs
 have hl5:=e.sz_ins
 have hl6:=e.sz_implicit
 refine As (fn:=Go.Proofs.Tryz.f144) Go.Proofs.Tryz.func144 rfl (en144 W) (ts:=[2,3]) rfl le<|Sq<|Rg<|Nn (AV.loc 0 0 0) ⟨65,7,[(B1.av e)]⟩<|Aq (AV.s (⟨#[]⟩:ByteArray))<|Aq (AV.i .i64 (0:Int))<|Ad<|Sq<|Sq<|Rg<|A4.sfw (vs:=[(AV.loc 0 0 0)]) (ss:=[(AV.pt (B1.av e).cells)]) (r0:=(AV.b (Qc e))) kr (show BP _ _ _ from ⟨(A1.w (A1.cast (x':=(AV.loc 0 0 0)) kr kr (E9 B1.av e (id:=0) rfl rfl kr))),trivial⟩) (S6 W hW e) rfl kr le<|Aq (AV.b (!(Qc e)))<|Ad ?_
 cases c_1:(!(Qc e))
 refine Cf<|Ah.skip<|Sq<|Rg<|Aq (AV.s (⟨#[110]⟩:ByteArray))<|Ad ?_
 refine Ra [(1,(AV.loc 0 0 0)),(4,(AV.s (bif e.deps then (⟨#[100]⟩:ByteArray) else (⟨#[110]⟩:ByteArray))))] ⟨1,[(0,some ⟨65,7,[(B1.av e)]⟩)]⟩ ?_ ?_
 refine Sq<|Rg<|Aq (AV.loc 0 0 5)<|Aq (AV.b e.deps)<|Ad ?_
 cases c_2:e.deps
 refine Cf<|Ah.skip ?_
 exact ⟨[0],⟨by decide,rfl,(A3.cons kr A3.nil),(AM.cons (BM.f kr) (Ee AM.nil))⟩,B4⟩
 refine Ct<|Rg<|Aq (AV.s (⟨#[100]⟩:ByteArray))<|Ad ?_
 exact ⟨[0],⟨by decide,rfl,(A3.cons kr A3.nil),(AM.cons (BM.f kr) (Ee AM.nil))⟩,B4⟩
 refine Sq<|Ah.drawn A6 E5 12 kr le<|Dq (AV.loc 0 0 0)<|Dq ((AY 1 AV.s) e.outs)<|Aw.sc0 (vs:=[((AY 1 AV.s) e.outs),(AV.s (⟨#[32]⟩:ByteArray))]) (r0:=(AV.s (Ds e.outs (⟨#[32]⟩:ByteArray)))) kr kr (Hu W e.outs (⟨#[32]⟩:ByteArray) sd sd) kr le<|Dq (AV.loc 0 0 1)<|Dq ((AY 1 AV.s) e.ins)<|Aw.sc0 (vs:=[((AY 1 AV.s) e.ins),(AV.s (⟨#[32]⟩:ByteArray))]) (r0:=(AV.s (Ds e.ins (⟨#[32]⟩:ByteArray)))) kr kr (Hu W e.ins (⟨#[32]⟩:ByteArray) sd sd) kr le<|Dq (AV.loc 0 0 2)<|Dq ((AY 1 AV.s) e.implicit)<|Aw.sc0 (vs:=[((AY 1 AV.s) e.implicit),(AV.s (⟨#[32]⟩:ByteArray))]) (r0:=(AV.s (Ds e.implicit (⟨#[32]⟩:ByteArray)))) kr kr (Hu W e.implicit (⟨#[32]⟩:ByteArray) sd sd) kr le<|Dq (AV.s (bif e.deps then (⟨#[100]⟩:ByteArray) else (⟨#[110]⟩:ByteArray)))<|Dq (AV.loc 0 0 4)<|Dq (AV.s e.command)<|Aw.sn (x:=(AV.own 1 0 5)) (h':=⟨2,[(1,some ⟨9,1,[(Ds e.outs (⟨#[32]⟩:ByteArray)),(Ds e.ins (⟨#[32]⟩:ByteArray)),(Ds e.implicit (⟨#[32]⟩:ByteArray)),(bif e.deps then (⟨#[100]⟩:ByteArray) else (⟨#[110]⟩:ByteArray)),e.command].map AV.s⟩),(0,some ⟨65,7,[(B1.av e)]⟩)]⟩) kr le<|Aw.sfw (vs:=[(AV.own 1 0 5),(AV.s (⟨#[124]⟩:ByteArray))]) (ss:=[((AY 1 AV.s) [(Ds e.outs (⟨#[32]⟩:ByteArray)),(Ds e.ins (⟨#[32]⟩:ByteArray)),(Ds e.implicit (⟨#[32]⟩:ByteArray)),(bif e.deps then (⟨#[100]⟩:ByteArray) else (⟨#[110]⟩:ByteArray)),e.command]),(AV.s (⟨#[124]⟩:ByteArray))]) (r0:=(AV.s (Ds [(Ds e.outs (⟨#[32]⟩:ByteArray)),(Ds e.ins (⟨#[32]⟩:ByteArray)),(Ds e.implicit (⟨#[32]⟩:ByteArray)),(bif e.deps then (⟨#[100]⟩:ByteArray) else (⟨#[110]⟩:ByteArray)),e.command] (⟨#[124]⟩:ByteArray)))) kr (show BP _ _ _ from ⟨(A1.w (A1.cast (x':=(AV.own 1 0 5)) kr kr (A1.row (fun _=>rfl) (A:=AV.s) (id:=1) (e:=9) (k:=1) (xs:=[(Ds e.outs (⟨#[32]⟩:ByteArray)),(Ds e.ins (⟨#[32]⟩:ByteArray)),(Ds e.implicit (⟨#[32]⟩:ByteArray)),(bif e.deps then (⟨#[100]⟩:ByteArray) else (⟨#[110]⟩:ByteArray)),e.command]) rfl rfl sd sd))),⟨(BP.e kr),trivial⟩⟩) (Hu W [(Ds e.outs (⟨#[32]⟩:ByteArray)),(Ds e.ins (⟨#[32]⟩:ByteArray)),(Ds e.implicit (⟨#[32]⟩:ByteArray)),(bif e.deps then (⟨#[100]⟩:ByteArray) else (⟨#[110]⟩:ByteArray)),e.command] (⟨#[124]⟩:ByteArray) (signs5 hz) (by simp only [List.length_cons,List.length_nil];decide)) rfl kr le ?_
 refine Dq (AV.s (Ds [(Ds e.outs (⟨#[32]⟩:ByteArray)),(Ds e.ins (⟨#[32]⟩:ByteArray)),(Ds e.implicit (⟨#[32]⟩:ByteArray)),(bif e.deps then (⟨#[100]⟩:ByteArray) else (⟨#[110]⟩:ByteArray)),e.command] (⟨#[124]⟩:ByteArray)))<|Dq (AV.i .i64 (0:Int))<|Aw.fin<|Rt ?_
 exact Fsi rfl (by simp only [MT,c_1,Bl])
 refine Ct<|Sq<|Rg<|Aq (AV.s (⟨#[]⟩:ByteArray))<|Aq (AV.i .i64 (1100:Int))<|Ad<|Rt ?_
 exact Fsi rfl (by simp only [MT,c_1,Bl])
def I4:AV:=(AV.st [(AV.s (⟨#[]⟩:ByteArray)),(AV.i .i64 (0:Int)),(AV.s (⟨#[]⟩:ByteArray))])
def K7:Obj:=⟨56,3,[I4]⟩
def I3:AV:=(AV.tup [I4,(AV.b false)])
def M9:AV:=(AV.tup [(Aa.av ((Kn,false).1)),(AV.b ((Kn,false).2))])
theorem U8 (W:World) {m0:Int} (hW:W.cell? ⟨0,0,none⟩=some (.int .i64 m0)) (rs:List Aa) (out:ByteArray) (hz:Kc Aa.sz rs≤1048576):Ar Go.Proofs.Tryz.prog W 145 [((AY 3 Aa.av) rs),(AV.s out)] (AV.tup [(Aa.av ((FP rs out).1)),(AV.b ((FP rs out).2))]) []:=by
 have hl:=JQ Aa.sz_one rs
 have hla:=SS rs out
 refine GA A6 (fn:=Go.Proofs.Tryz.f145) Go.Proofs.Tryz.func145 rfl (en145 W) le<|Sq<|Rg<|Nn (AV.loc 0 0 0) K7<|Aq (AV.b false)<|Ad<|Sq<|Rg<|Aq ((AY 3 Aa.av) rs)<|Aq (AV.s out)<|A4.sc0 (vs:=[((AY 3 Aa.av) rs),(AV.s out)]) (r0:=(AV.i .i64 (BK rs out))) kr kr (U9 W rs out sd) kr le<|Aq (AV.i .i64 (BK rs out))<|Ad<|Sq<|Sq<|Rg<|Aq (AV.i .i64 (BK rs out))<|Aq (AV.b (decide ((BK rs out)<(0:Int))))<|Aq (AV.b (decide ((BK rs out)<(0:Int)))) ?_
 cases c_1:decide ((BK rs out)<(0:Int))
 have k_1:=of_decide_eq_false c_1
 refine Ay<|Aq ((AY 3 Aa.av) rs)<|Ay<|A4.sc0 (vs:=[((AY 3 Aa.av) rs)]) (r0:=(AV.b (Ln rs))) kr kr (R8 W hW rs) kr le<|Ay<|Aq (AV.b (!(Ln rs)))<|Aq (AV.b (!(Ln rs)))<|Ad ?_
 cases c_2:(!(Ln rs))
 refine Cf<|Ah.skip<|Sq<|Rg<|Aq ((AY 3 Aa.av) rs)<|Aq (AV.i .i64 (BK rs out))<|Ap (AV.pt (Aa.av (rs.getD (BK rs out).toNat default)).cells) (Li (k:=3) (nl:=false) (e:=56) (kk:= .i64) (A:=Aa.av) (xs:=rs) (n:=(BK rs out)) kr kr kr ⟨by kernel_rfl,by decide⟩ sd (getD_some sd))<|Aq (Aa.av (rs.getD (BK rs out).toNat default))<|Sp 0 ⟨56,3,[(AV.st [(AV.s ((rs.getD (BK rs out).toNat default).out)),(AV.i .i64 ((rs.getD (BK rs out).toNat default).time)),(AV.s ((rs.getD (BK rs out).toNat default).sign))])]⟩<|Aq (AV.b true)<|Ad<|Rt ?_
 have hM:FP rs out=((⟨(rs.getD (BK rs out).toNat default).out,(rs.getD (BK rs out).toNat default).time,(rs.getD (BK rs out).toNat default).sign⟩:Aa),true):=by simp only [FP,c_1,c_2,Bl]
 refine ⟨Or.inr rfl,(AV.tup [(AV.st [(AV.s ((rs.getD (BK rs out).toNat default).out)),(AV.i .i64 ((rs.getD (BK rs out).toNat default).time)),(AV.s ((rs.getD (BK rs out).toNat default).sign))]),(AV.b true)]),kr,?_⟩
 rw [hM]
 exact BM.cast (x':=(AV.tup [(AV.st [(AV.s ((rs.getD (BK rs out).toNat default).out)),(AV.i .i64 ((rs.getD (BK rs out).toNat default).time)),(AV.s ((rs.getD (BK rs out).toNat default).sign))]),(AV.b true)])) (y':=(AV.tup [(Aa.av (((⟨(rs.getD (BK rs out).toNat default).out,(rs.getD (BK rs out).toNat default).time,(rs.getD (BK rs out).toNat default).sign⟩:Aa),true).1)),(AV.b (((⟨(rs.getD (BK rs out).toNat default).out,(rs.getD (BK rs out).toNat default).time,(rs.getD (BK rs out).toNat default).sign⟩:Aa),true).2))])) kr kr (BM.tup ⟨Ec,⟨Ec,trivial⟩⟩ kr)
 refine Ct<|Sq<|Rg<|Nb I4<|Sp 0 K7<|Aq (AV.b false)<|Ad<|Rt ?_
 have hM:FP rs out=(Kn,false):=by simp only [FP,c_1,c_2,Bl]
 refine ⟨Or.inr rfl,I3,kr,?_⟩
 rw [hM]
 exact BM.cast (x':=I3) (y':=M9) kr kr (BM.tup ⟨Ec,⟨Ec,trivial⟩⟩ kr)
 have k_1:=of_decide_eq_true c_1
 refine An<|An<|An<|Aq (AV.b true)<|Ad<|Ct<|Sq<|Rg<|Nb I4<|Sp 0 K7<|Aq (AV.b false)<|Ad<|Rt ?_
 have hM:FP rs out=(Kn,false):=by simp only [FP,c_1,Bl]
 refine ⟨Or.inr rfl,I3,kr,?_⟩
 rw [hM]
 exact BM.cast (x':=I3) (y':=M9) kr kr (BM.tup ⟨Ec,⟨Ec,trivial⟩⟩ kr)
theorem Qn (W:World) (f:AG) (hz:f.sz≤1048576):Ar Go.Proofs.Tryz.prog W 148 [(AG.av f)] (AG.av (Od f)) []:=by
 have hr1:=Gi f.ins
 have hr2:=f.sz_ins
 refine GA A6 (fn:=Go.Proofs.Tryz.f148) Go.Proofs.Tryz.func148 rfl (en148 W) le<|Sq<|Rg<|Nn (AV.loc 0 0 0) ⟨61,3,[(AG.av f)]⟩<|Nn (AV.loc 1 0 0) ⟨61,3,[(AV.st [(AV.s (⟨#[]⟩:ByteArray)),(AV.i .i64 (0:Int)),(AV.sl 1 true [])])]⟩<|Ad<|Sq<|Rg<|Aq (AV.loc 0 0 2)<|Aq ((AY 1 AV.s) f.ins)<|A4.sc0 (vs:=[((AY 1 AV.s) f.ins)]) (r0:=((AY 1 AV.s) (JY f.ins))) kr kr (IB W f.ins sd) kr le<|Aq (AV.loc 0 0 2)<|Sp 0 ⟨61,3,[(AV.st [(AV.s f.out),(AV.i .i64 f.time),((AY 1 AV.s) (JY f.ins))])]⟩<|Ad<|Sq<|Rg<|Aq (AV.st [(AV.s f.out),(AV.i .i64 f.time),((AY 1 AV.s) (JY f.ins))])<|Sp 1 ⟨61,3,[(AV.st [(AV.s f.out),(AV.i .i64 f.time),((AY 1 AV.s) (JY f.ins))])]⟩<|Ad<|Rt ?_
 have hM:Od f=(⟨f.out,f.time,(JY f.ins)⟩:AG):=by simp only [Od,Bl]
 refine ⟨Or.inr rfl,(AV.st [(AV.s f.out),(AV.i .i64 f.time),((AY 1 AV.s) (JY f.ins))]),kr,?_⟩
 rw [hM]
 exact Ec
def Gg:AV:=(AV.st [(AV.s (⟨#[]⟩:ByteArray)),(AV.i .i64 (0:Int)),(AV.sl 1 true [])])
def HO:Obj:=⟨61,3,[Gg]⟩
def Gf:AV:=(AV.tup [Gg,(AV.b false)])
def Ks:AV:=(AV.tup [(AG.av (((⟨(⟨#[]⟩:ByteArray),(0:Int),[]⟩:AG),false).1)),(AV.b (((⟨(⟨#[]⟩:ByteArray),(0:Int),[]⟩:AG),false).2))])
theorem Qo (W:World) {m0:Int} (hW:W.cell? ⟨0,0,none⟩=some (.int .i64 m0)) (fs:List AG) (out:ByteArray) (hz:Kc AG.sz fs≤1048576):Ar Go.Proofs.Tryz.prog W 99 [((AY 3 AG.av) fs),(AV.s out)] (AV.tup [(AG.av ((M7 fs out).1)),(AV.b ((M7 fs out).2))]) []:=by
 have hl:=JQ AG.sz_one fs
 have hla:=Le fs out
 refine GA A6 (fn:=Go.Proofs.Tryz.f99) Go.Proofs.Tryz.func99 rfl (en99 W) le<|Sq<|Rg<|Nn (AV.loc 0 0 0) HO<|Aq (AV.b false)<|Ad<|Sq<|Rg<|Aq ((AY 3 AG.av) fs)<|Aq (AV.s out)<|A4.sc0 (vs:=[((AY 3 AG.av) fs),(AV.s out)]) (r0:=(AV.i .i64 (B2 fs out))) kr kr (Qp W fs out sd) kr le<|Aq (AV.i .i64 (B2 fs out))<|Ad<|Sq<|Sq<|Rg<|Aq (AV.i .i64 (B2 fs out))<|Aq (AV.b (decide ((B2 fs out)<(0:Int))))<|Aq (AV.b (decide ((B2 fs out)<(0:Int)))) ?_
 cases c_1:decide ((B2 fs out)<(0:Int))
 have k_1:=of_decide_eq_false c_1
 refine Ay<|Aq ((AY 3 AG.av) fs)<|Ay<|A4.sc0 (vs:=[((AY 3 AG.av) fs)]) (r0:=(AV.b (MU fs))) kr kr (Ne W hW fs) kr le<|Ay<|Aq (AV.b (!(MU fs)))<|Aq (AV.b (!(MU fs)))<|Ad ?_
 cases c_2:(!(MU fs))
 refine Cf<|Ah.skip<|Sq<|Rg<|Aq ((AY 3 AG.av) fs)<|Aq (AV.i .i64 (B2 fs out))<|Ap (AV.pt (AG.av (fs.getD (B2 fs out).toNat default)).cells) (Li (k:=3) (nl:=false) (e:=61) (kk:= .i64) (A:=AG.av) (xs:=fs) (n:=(B2 fs out)) kr kr kr ⟨by kernel_rfl,by decide⟩ sd (getD_some sd))<|Aq (AG.av (fs.getD (B2 fs out).toNat default))<|A4.sc0 (vs:=[(AG.av (fs.getD (B2 fs out).toNat default))]) (r0:=(AG.av (Od (fs.getD (B2 fs out).toNat default)))) kr kr (Qn W (fs.getD (B2 fs out).toNat default) (OW hz sd)) kr le<|Sp 0 ⟨61,3,[(AV.st [(AV.s ((Od (fs.getD (B2 fs out).toNat default)).out)),(AV.i .i64 ((Od (fs.getD (B2 fs out).toNat default)).time)),((AY 1 AV.s) ((Od (fs.getD (B2 fs out).toNat default)).ins))])]⟩<|Aq (AV.b true)<|Ad<|Rt ?_
 have hM:M7 fs out=((⟨(Od (fs.getD (B2 fs out).toNat default)).out,(Od (fs.getD (B2 fs out).toNat default)).time,(Od (fs.getD (B2 fs out).toNat default)).ins⟩:AG),true):=by simp only [M7,c_1,c_2,Bl]
 refine ⟨Or.inr rfl,(AV.tup [(AV.st [(AV.s ((Od (fs.getD (B2 fs out).toNat default)).out)),(AV.i .i64 ((Od (fs.getD (B2 fs out).toNat default)).time)),((AY 1 AV.s) ((Od (fs.getD (B2 fs out).toNat default)).ins))]),(AV.b true)]),kr,?_⟩
 rw [hM]
 exact BM.cast (x':=(AV.tup [(AV.st [(AV.s ((Od (fs.getD (B2 fs out).toNat default)).out)),(AV.i .i64 ((Od (fs.getD (B2 fs out).toNat default)).time)),((AY 1 AV.s) ((Od (fs.getD (B2 fs out).toNat default)).ins))]),(AV.b true)])) (y':=(AV.tup [(AG.av (((⟨(Od (fs.getD (B2 fs out).toNat default)).out,(Od (fs.getD (B2 fs out).toNat default)).time,(Od (fs.getD (B2 fs out).toNat default)).ins⟩:AG),true).1)),(AV.b (((⟨(Od (fs.getD (B2 fs out).toNat default)).out,(Od (fs.getD (B2 fs out).toNat default)).time,(Od (fs.getD (B2 fs out).toNat default)).ins⟩:AG),true).2))])) kr kr (BM.tup ⟨Ec,⟨Ec,trivial⟩⟩ kr)
 refine Ct<|Sq<|Rg<|Nb Gg<|Sp 0 HO<|Aq (AV.b false)<|Ad<|Rt ?_
 have hM:M7 fs out=((⟨(⟨#[]⟩:ByteArray),(0:Int),[]⟩:AG),false):=by simp only [M7,c_1,c_2,Bl]
 refine ⟨Or.inr rfl,Gf,kr,?_⟩
 rw [hM]
 exact BM.cast (x':=Gf) (y':=Ks) kr kr (BM.tup ⟨(BM.st ⟨Ec,⟨Ec,⟨(BM.w rfl (AH.nil 1)),trivial⟩⟩⟩ kr),⟨Ec,trivial⟩⟩ kr)
 have k_1:=of_decide_eq_true c_1
 refine An<|An<|An<|Aq (AV.b true)<|Ad<|Ct<|Sq<|Rg<|Nb Gg<|Sp 0 HO<|Aq (AV.b false)<|Ad<|Rt ?_
 have hM:M7 fs out=((⟨(⟨#[]⟩:ByteArray),(0:Int),[]⟩:AG),false):=by simp only [M7,c_1,Bl]
 refine ⟨Or.inr rfl,Gf,kr,?_⟩
 rw [hM]
 exact BM.cast (x':=Gf) (y':=Ks) kr kr (BM.tup ⟨(BM.st ⟨Ec,⟨Ec,⟨(BM.w rfl (AH.nil 1)),trivial⟩⟩⟩ kr),⟨Ec,trivial⟩⟩ kr)
theorem Hs (W:World) {m0:Int} (hW:W.cell? ⟨0,0,none⟩=some (.int .i64 m0)) (l:Au) (s':ByteArray) (hz:l.state.sz≤1048576) (he:l.edge.sz≤1048576):Ar Go.Proofs.Tryz.prog W 56 [(Au.av l),(AV.s s')] (AV.b (Q6 l s')) []:=by
 have hg1:=l.state.sz_graph
 have hg3:=l.state.sz_disk
 have hg4:=l.state.sz_log
 have hg5:=l.state.sz_deps
 refine As (fn:=Go.Proofs.Tryz.f56) Go.Proofs.Tryz.func56 rfl (en56 W) (ts:=[4]) rfl le<|Sq<|Rg<|Nn (AV.loc 0 0 0) ⟨104,2,[(Au.av l)]⟩<|Aq (AV.b false)<|Ad<|Sq<|Rg<|Aq (AV.loc 0 0 0)<|Aq (AV.pt (Av.av l.state).cells)<|Aq (AV.pt (Av.av l.state).cells)<|Aq (AV.pt ((Av.av l.state).cells.drop 4))<|Aq (AN.av l.state.disk)<|Aq (AV.s s')<|A4.sc0 (vs:=[(AN.av l.state.disk),(AV.s s')]) (r0:=(AV.tup [(Ae.av ((EN l.state.disk s').1)),(AV.b ((EN l.state.disk s').2))])) kr kr (JT W hW l.state.disk s' sd) kr le<|Aq (AV.tup [(Ae.av ((EN l.state.disk s').1)),(AV.b ((EN l.state.disk s').2))])<|Aq (Ae.av ((EN l.state.disk s').1))<|Aq (AV.b ((EN l.state.disk s').2))<|Nn (AV.loc 1 0 0) ⟨85,3,[(AV.st [(AV.s (⟨#[]⟩:ByteArray)),(AV.i .i64 (0:Int)),(AV.i .i64 (0:Int))])]⟩<|Sp 1 ⟨85,3,[(AV.st [(AV.s (((EN l.state.disk s').1).name)),(AV.i .i64 (((EN l.state.disk s').1).content)),(AV.i .i64 (((EN l.state.disk s').1).time))])]⟩<|Aq (AV.b ((EN l.state.disk s').2))<|Ad<|Sq<|Rg<|Aq (AV.b ((EN l.state.disk s').2))<|Aq (AV.b (!(EN l.state.disk s').2))<|Aq (AV.b (!(EN l.state.disk s').2)) ?_
 cases c_1:(!(EN l.state.disk s').2)
 refine An<|An<|An<|An<|An<|An<|An<|Aq (AV.b false)<|Aq (AV.b false)<|Ad<|Rt ?_
 exact Fb rfl (by simp only [Q6,c_1,Bl])
 refine Ay<|Aq (AV.loc 0 0 0)<|Ay<|Aq (AV.pt (Av.av l.state).cells)<|Ay<|Aq (AV.pt (Av.av l.state).cells)<|Ay<|Aq (AV.pt ((Av.av l.state).cells.drop 0))<|Ay<|Aq (AV.s s')<|Ay<|A4.sc0 (vs:=[(AV.pt ((Av.av l.state).cells.drop 0)),(AV.s s')]) (r0:=(AV.i .i64 (Gp l.state.graph s'))) kr kr ((I6 W l.state.graph s').wk ⟨Np 3 kr,⟨AH.refl _,trivial⟩⟩) kr le<|Ay<|Aq (AV.b (decide ((Gp l.state.graph s')<(0:Int))))<|Aq (AV.b (decide ((Gp l.state.graph s')<(0:Int))))<|Aq (AV.b (decide ((Gp l.state.graph s')<(0:Int))))<|Ad<|Rt ?_
 exact Fb rfl (by simp only [Q6,c_1,Bl])
def CI (l:Au):AV:=(AV.s ((MT l.edge).1))
def CH (l:Au):AV:=(AV.pt (Av.av l.state).cells)
theorem L6 (W:World) {m0:Int} (hW:W.cell? ⟨0,0,none⟩=some (.int .i64 m0)) (l:Au) (hz:l.state.sz≤1048576) (he:l.edge.sz≤1048576):Ar Go.Proofs.Tryz.prog W 97 [(Au.av l)] (AV.i .i64 (NF l)) []:=by
 have hg1:=l.state.sz_graph
 have hg3:=l.state.sz_disk
 have hg4:=l.state.sz_log
 have hg5:=l.state.sz_deps
 refine As (fn:=Go.Proofs.Tryz.f97) Go.Proofs.Tryz.func97 rfl (en97 W) (ts:=[2]) rfl le<|Sq<|Rg<|Nn (AV.loc 0 0 0) ⟨104,2,[(Au.av l)]⟩<|Aq (AV.i .i64 (0:Int))<|Ad<|Sq<|Rg<|Aq (AV.loc 0 0 1)<|Aq (AV.pt (B1.av l.edge).cells)<|Aq (AV.pt (B1.av l.edge).cells)<|Aq (B1.av l.edge)<|A4.sc0 (vs:=[(B1.av l.edge)]) (r0:=(AV.tup [(CI l),(AV.i .i64 ((MT l.edge).2))])) kr kr (VD W hW l.edge sd) kr le<|Aq (AV.tup [(CI l),(AV.i .i64 ((MT l.edge).2))])<|Aq (CI l)<|Aq (AV.i .i64 ((MT l.edge).2))<|Aq (CI l)<|Aq (AV.i .i64 ((MT l.edge).2))<|Ad<|Sq<|Rg<|Aq (AV.loc 0 0 0)<|Aq (CH l)<|Aq (CH l)<|Aq (AV.pt ((Av.av l.state).cells.drop 4))<|Aq (AV.pt ((Av.av l.state).cells.drop 4))<|Aq (AV.i .i64 l.state.disk.clock)<|Aq (AV.i .i64 l.state.disk.clock)<|Ad<|Sq<|Sq<|Rg<|Aq (AV.loc 0 0 1)<|Aq (AV.pt (B1.av l.edge).cells)<|Aq (AV.pt (B1.av l.edge).cells)<|Aq (AV.pt ((B1.av l.edge).cells.drop 0))<|Aq ((AY 1 AV.s) l.edge.outs)<|Ap (Ai l.edge.outs.length) (CA (k:=1) (nl:=false) (e:=9) (A:=AV.s) (xs:=l.edge.outs) kr kr)<|Aq (AV.i .i64 (0:Int))<|Ad<|Ah.block<|Ah.lim 30 (x:=((AY 1 AV.s) l.edge.outs)) kr fun hlm1=> ?_
 have hB1:l.edge.outs.length≤281474976710656:=Dj hlm1
 obtain ⟨R1,hR1⟩: ∃R,V6 l l.edge.outs 0 l.state.disk.clock=R:=⟨_,rfl⟩
 refine BN (fun ((out,v32):Int×Nat)=>[(1,(AV.loc 0 0 0)),(3,(CI l)),(30,((AY 1 AV.s) l.edge.outs)),(31,(Ai l.edge.outs.length)),(5,(AV.i .i64 out)),(32,(Ai v32))]) (fun ((out,v32):Int×Nat)=>⟨1,[(0,some ⟨104,2,[(Au.av l)]⟩)]⟩) (fun ((out,v32):Int×Nat)=>v32≤l.edge.outs.length∧V6 l (l.edge.outs.drop v32) v32 out=R1) (fun ((out,v32):Int×Nat)=>l.edge.outs.length-v32) (l.state.disk.clock,0) ?_ ?_ ?_
 exact ⟨[0],⟨by decide,rfl,(A3.cons kr A3.nil),(AM.cons (BM.f kr) (Ee (Ee (Ee (Ee (Ee AM.nil))))))⟩,B4⟩
 exact ⟨od,hR1⟩
 rintro ⟨out,v32⟩ ⟨hi1,hE1⟩
 try dsimp only
 refine Sq<|Rg<|Aq (AV.b (decide (((v32:Nat):Int)<((l.edge.outs.length:Nat):Int))))<|Ad<|Sq ?_
 rcases Nat.lt_or_ge v32 l.edge.outs.length with hl1|hl1
 have hc1:decide (((v32:Nat):Int)<((l.edge.outs.length:Nat):Int))=true:=decide_eq_true (by omega)
 refine Ah.cond (t:=true) (by rw [←hc1]<;>kernel_rfl) (Ah.skip ?_)
 obtain ⟨x1,hx1⟩: ∃x,l.edge.outs[v32]? =some x:=⟨_,List.getElem?_eq_getElem hl1⟩
 rw [BO hx1,V6.eq_2] at hE1
 refine Sq<|Ah.block<|Sq<|Rg<|Ap (AV.pt (AV.s x1).cells) (CP (k:=1) (nl:=false) (e:=9) (kk:= .i64) (A:=AV.s) (xs:=l.edge.outs) (i:=v32) kr kr kr ⟨by kernel_rfl,by decide⟩ hx1)<|Aq (AV.s x1)<|Aq (AV.s x1)<|Ad<|Sq<|Rg<|Aq (AV.loc 0 0 0)<|Aq (CH l)<|Aq (CH l)<|Aq (AV.pt ((Av.av l.state).cells.drop 4))<|Aq (AN.av l.state.disk)<|Aq (AV.s x1)<|A4.sc0 (vs:=[(AN.av l.state.disk),(AV.s x1)]) (r0:=(AV.tup [(Ae.av ((EN l.state.disk x1).1)),(AV.b ((EN l.state.disk x1).2))])) kr kr (JT W hW l.state.disk x1 sd) kr le<|Aq (AV.tup [(Ae.av ((EN l.state.disk x1).1)),(AV.b ((EN l.state.disk x1).2))])<|Aq (Ae.av ((EN l.state.disk x1).1))<|Aq (AV.b ((EN l.state.disk x1).2))<|Nn (AV.loc 1 0 0) ⟨85,3,[(AV.st [(AV.s (⟨#[]⟩:ByteArray)),(AV.i .i64 (0:Int)),(AV.i .i64 (0:Int))])]⟩<|Sp 1 ⟨85,3,[(AV.st [(AV.s (((EN l.state.disk x1).1).name)),(AV.i .i64 (((EN l.state.disk x1).1).content)),(AV.i .i64 (((EN l.state.disk x1).1).time))])]⟩<|Aq (AV.b ((EN l.state.disk x1).2))<|Ad<|Sq<|Rg<|Aq (AV.loc 0 0 0)<|Aq (CH l)<|Aq (CH l)<|Aq (AV.pt ((Av.av l.state).cells.drop 6))<|Aq ((AY 3 Aa.av) l.state.log)<|Aq (AV.s x1)<|A4.sc0 (vs:=[((AY 3 Aa.av) l.state.log),(AV.s x1)]) (r0:=(AV.tup [(Aa.av ((FP l.state.log x1).1)),(AV.b ((FP l.state.log x1).2))])) kr kr (U8 W hW l.state.log x1 sd) kr le ?_
 refine Aq (AV.tup [(Aa.av ((FP l.state.log x1).1)),(AV.b ((FP l.state.log x1).2))])<|Aq (Aa.av ((FP l.state.log x1).1))<|Aq (AV.b ((FP l.state.log x1).2))<|Nn (AV.loc 2 0 0) ⟨56,3,[(AV.st [(AV.s (⟨#[]⟩:ByteArray)),(AV.i .i64 (0:Int)),(AV.s (⟨#[]⟩:ByteArray))])]⟩<|Sp 2 ⟨56,3,[(AV.st [(AV.s (((FP l.state.log x1).1).out)),(AV.i .i64 (((FP l.state.log x1).1).time)),(AV.s (((FP l.state.log x1).1).sign))])]⟩<|Aq (AV.b ((FP l.state.log x1).2))<|Ad<|Sq<|Sq<|Rg<|Aq (AV.b ((EN l.state.disk x1).2))<|Aq (AV.b (!(EN l.state.disk x1).2))<|Aq (AV.b (!(EN l.state.disk x1).2)) ?_
 cases c_1:(!(EN l.state.disk x1).2)
 refine Ay<|Aq (AV.b ((FP l.state.log x1).2))<|Ay<|Aq (AV.b (!(FP l.state.log x1).2))<|Aq (AV.b (!(FP l.state.log x1).2))<|Aq (AV.b (!(FP l.state.log x1).2)) ?_
 cases c_2:(!(FP l.state.log x1).2)
 refine Ay<|Aq (AV.loc 2 0 2)<|Ay<|Aq (AV.s (((FP l.state.log x1).1).sign))<|Ay<|Aq (CI l)<|Ay<|Aq (AV.b (!decide (((FP l.state.log x1).1).sign=(MT l.edge).1)))<|Aq (AV.b (!decide (((FP l.state.log x1).1).sign=(MT l.edge).1)))<|Aq (AV.b (!decide (((FP l.state.log x1).1).sign=(MT l.edge).1))) ?_
 cases c_3:(!decide (((FP l.state.log x1).1).sign=(MT l.edge).1))
 have k_3:=nde c_3
 refine Ay<|Aq (AV.loc 2 0 1)<|Ay<|Aq (AV.i .i64 (((FP l.state.log x1).1).time))<|Ay<|Aq (AV.loc 1 0 2)<|Ay<|Aq (AV.i .i64 (((EN l.state.disk x1).1).time))<|Ay<|Aq (AV.b (!decide (((FP l.state.log x1).1).time=((EN l.state.disk x1).1).time)))<|Aq (AV.b (!decide (((FP l.state.log x1).1).time=((EN l.state.disk x1).1).time)))<|Ad ?_
 cases c_4:(!decide (((FP l.state.log x1).1).time=((EN l.state.disk x1).1).time))
 have k_4:=nde c_4
 refine Cf<|Ah.skip<|Rg<|Aq (AV.i .i64 out)<|Aq (AV.loc 1 0 2)<|Aq (AV.i .i64 (((EN l.state.disk x1).1).time))<|Aq (AV.i .i64 (if ((EN l.state.disk x1).1).time<out then ((EN l.state.disk x1).1).time else out))<|Aq (AV.i .i64 (if ((EN l.state.disk x1).1).time<out then ((EN l.state.disk x1).1).time else out))<|Ad<|Rg<|Ap (Ai (v32+1)) (BH (i:=v32) (m:=1) kr kr sd)<|Aq (Ai (v32+1))<|Ad ?_
 try simp only [c_1,c_2,c_3,c_4,Bl] at hE1
 refine ⟨((if ((EN l.state.disk x1).1).time<out then ((EN l.state.disk x1).1).time else out),v32+1),od,⟨od,hE1⟩,?_⟩
 exact ⟨[0],⟨by decide,rfl,(A3.cons kr A3.nil),(AM.cons (BM.f kr) (Ee (Ee (Ee (Ee (Ee AM.nil))))))⟩,B4⟩
 have k_4:=ndt c_4
 refine Ct<|Sq<|Rg<|Aq (AV.i .i64 (-1:Int))<|Ad<|Rt ?_
 try simp only [c_1,c_2,c_3,c_4,Bl] at hE1
 subst hE1
 exact Fi rfl (by simp only [NF,hR1,Bl])
 have k_3:=ndt c_3
 refine An<|An<|An<|An<|An<|Aq (AV.b true)<|Ad<|Ct<|Sq<|Rg<|Aq (AV.i .i64 (-1:Int))<|Ad<|Rt ?_
 try simp only [c_1,c_2,c_3,Bl] at hE1
 subst hE1
 exact Fi rfl (by simp only [NF,hR1,Bl])
 refine An<|An<|An<|An<|Aq (AV.b true)<|Aq (AV.b true)<|An<|An<|An<|An<|An<|Aq (AV.b true)<|Ad<|Ct<|Sq<|Rg<|Aq (AV.i .i64 (-1:Int))<|Ad<|Rt ?_
 try simp only [c_1,c_2,Bl] at hE1
 subst hE1
 exact Fi rfl (by simp only [NF,hR1,Bl])
 refine An<|An<|Aq (AV.b true)<|Aq (AV.b true)<|An<|An<|An<|An<|Aq (AV.b true)<|Aq (AV.b true)<|An<|An<|An<|An<|An<|Aq (AV.b true)<|Ad<|Ct<|Sq<|Rg<|Aq (AV.i .i64 (-1:Int))<|Ad<|Rt ?_
 try simp only [c_1,Bl] at hE1
 subst hE1
 exact Fi rfl (by simp only [NF,hR1,Bl])
 have hc1:decide (((v32:Nat):Int)<((l.edge.outs.length:Nat):Int))=false:=decide_eq_false (by omega)
 refine Ah.cond (t:=false) (by rw [←hc1]<;>kernel_rfl) (Ah.exit ?_)
 rw [List.drop_eq_nil_of_le (hl1),V6.eq_1] at hE1
 subst hE1
 refine Sq<|Rg<|Aq (AV.i .i64 out)<|Aq (AV.i .i64 out)<|Ad<|Rt ?_
 exact Fi rfl (by simp only [NF,hR1,Bl])
theorem KT (W:World) {m0:Int} (hW:W.cell? ⟨0,0,none⟩=some (.int .i64 m0)) (s':ByteArray) (l:Au) (time:Int) (hz:l.state.sz≤1048576) (he:l.edge.sz≤1048576):Ar Go.Proofs.Tryz.prog W 146 [(AV.s s'),(AV.pt (Au.av l).cells),(AV.pt ((AV.i .i64) time).cells)] (AV.b (TY s' l time)) []:=by
 have hg1:=l.state.sz_graph
 have hg3:=l.state.sz_disk
 have hg4:=l.state.sz_log
 have hg5:=l.state.sz_deps
 refine As (fn:=Go.Proofs.Tryz.f146) Go.Proofs.Tryz.func146 rfl (en146 W) (ts:=[4]) rfl le<|Sq<|Rg<|Aq (AV.b false)<|Ad<|Sq<|Rg<|Aq (AV.pt ((Au.av l).cells.drop 0))<|Aq (AV.pt (Av.av l.state).cells)<|Aq (AV.pt (Av.av l.state).cells)<|Aq (AV.pt ((Av.av l.state).cells.drop 4))<|Aq (AN.av l.state.disk)<|Aq (AV.s s')<|A4.sc0 (vs:=[(AN.av l.state.disk),(AV.s s')]) (r0:=(AV.tup [(Ae.av ((EN l.state.disk s').1)),(AV.b ((EN l.state.disk s').2))])) kr kr (JT W hW l.state.disk s' sd) kr le<|Aq (AV.tup [(Ae.av ((EN l.state.disk s').1)),(AV.b ((EN l.state.disk s').2))])<|Aq (Ae.av ((EN l.state.disk s').1))<|Aq (AV.b ((EN l.state.disk s').2))<|Nn (AV.loc 0 0 0) ⟨85,3,[(AV.st [(AV.s (⟨#[]⟩:ByteArray)),(AV.i .i64 (0:Int)),(AV.i .i64 (0:Int))])]⟩<|Sp 0 ⟨85,3,[(AV.st [(AV.s (((EN l.state.disk s').1).name)),(AV.i .i64 (((EN l.state.disk s').1).content)),(AV.i .i64 (((EN l.state.disk s').1).time))])]⟩<|Aq (AV.b ((EN l.state.disk s').2))<|Ad<|Sq<|Rg<|Aq (AV.b ((EN l.state.disk s').2))<|Aq (AV.b (!(EN l.state.disk s').2))<|Aq (AV.b (!(EN l.state.disk s').2)) ?_
 cases c_1:(!(EN l.state.disk s').2)
 refine Ay<|Aq (AV.loc 0 0 2)<|Ay<|Aq (AV.i .i64 (((EN l.state.disk s').1).time))<|Ay<|Aq (AV.i .i64 time)<|Ay<|Aq (AV.b (decide (time<((EN l.state.disk s').1).time)))<|Aq (AV.b (decide (time<((EN l.state.disk s').1).time)))<|Aq (AV.b (decide (time<((EN l.state.disk s').1).time)))<|Ad<|Rt ?_
 exact Fb rfl (by simp only [TY,c_1,Bl])
 refine An<|An<|An<|An<|Aq (AV.b true)<|Aq (AV.b true)<|Ad<|Rt ?_
 exact Fb rfl (by simp only [TY,c_1,Bl])
theorem Ht (W:World) (s':List ByteArray) (f_f:FuncId) (c_f:List AV) (f:ByteArray→Bool) (hcl_f:Ab c_f=true) (hp_f: ∀(z0:ByteArray),Ar Go.Proofs.Tryz.prog W f_f ((AV.s z0)::c_f) (AV.b (f z0)) []):Ar Go.Proofs.Tryz.prog W 95 [((AY 1 AV.s) s'),(AV.fn f_f c_f)] (AV.i .i64 (TZ s' f)) []:=by
 refine As (fn:=Go.Proofs.Tryz.f95) Go.Proofs.Tryz.func95 rfl (en95 W) (ts:=[4]) rfl le<|Sq<|Rg<|Aq (AV.i .i64 (0:Int))<|Ad<|Sq<|Sq<|Rg<|Aq ((AY 1 AV.s) s')<|Ap (Ai s'.length) (CA (k:=1) (nl:=false) (e:=9) (A:=AV.s) (xs:=s') kr kr)<|Aq (AV.i .i64 (0:Int))<|Ad<|Ah.block<|Ah.lim 0 (x:=((AY 1 AV.s) s')) kr fun hlm1=> ?_
 have hB1:s'.length≤281474976710656:=Dj hlm1
 obtain ⟨R1,hR1⟩: ∃R,V7 f s' 0=R:=⟨_,rfl⟩
 refine BN (fun (v8:Nat)=>[(0,((AY 1 AV.s) s')),(1,(AV.fn f_f c_f)),(7,(Ai s'.length)),(8,(Ai v8))]) (fun (v8:Nat)=>⟨0,[]⟩) (fun (v8:Nat)=>v8≤s'.length∧V7 f (s'.drop v8) v8=R1) (fun (v8:Nat)=>s'.length-v8) 0 ?_ ?_ ?_
 exact ⟨[],⟨by decide,rfl,A3.nil,(Ee (AM.cons (BM.c kr hcl_f) (Ee (Ee AM.nil))))⟩,B4⟩
 exact ⟨od,hR1⟩
 rintro v8 ⟨hi1,hE1⟩
 try dsimp only
 refine Sq<|Rg<|Aq (AV.b (decide (((v8:Nat):Int)<((s'.length:Nat):Int))))<|Ad<|Sq ?_
 rcases Nat.lt_or_ge v8 s'.length with hl1|hl1
 have hc1:decide (((v8:Nat):Int)<((s'.length:Nat):Int))=true:=decide_eq_true (by omega)
 refine Ah.cond (t:=true) (by rw [←hc1]<;>kernel_rfl) (Ah.skip ?_)
 obtain ⟨x1,hx1⟩: ∃x,s'[v8]? =some x:=⟨_,List.getElem?_eq_getElem hl1⟩
 rw [BO hx1,V7.eq_2] at hE1
 refine Sq<|Ah.block<|Sq<|Rg<|Aq (Ai v8)<|Aq (Ai v8)<|Ad<|Sq<|Rg<|Aq (AV.fn f_f c_f)<|Aq ((AY 1 AV.s) s')<|Aq (Ai v8)<|Ap (AV.pt (AV.s x1).cells) (CP (k:=1) (nl:=false) (e:=9) (kk:= .i64) (A:=AV.s) (xs:=s') (i:=v8) kr kr kr ⟨by kernel_rfl,by decide⟩ hx1)<|Aq (AV.s x1)<|A4.sc0 (vs:=((AV.s x1)::c_f)) (r0:=(AV.b (f x1))) kr (by simp only [Ab,Bool.and_eq_true];exact ⟨by kernel_rfl,hcl_f⟩) (hp_f x1) kr le<|Ad ?_
 cases c_1:(f x1)
 refine Cf<|Ah.skip<|Rg<|Ap (Ai (v8+1)) (BH (i:=v8) (m:=1) kr kr sd)<|Aq (Ai (v8+1))<|Ad ?_
 try simp only [c_1,Bl] at hE1
 refine ⟨v8+1,od,⟨od,hE1⟩,?_⟩
 exact ⟨[],⟨by decide,rfl,A3.nil,(Ee (AM.cons (BM.c kr hcl_f) (Ee (Ee AM.nil))))⟩,B4⟩
 refine Ct<|Sq<|Rg<|Aq (Ai v8)<|Aq (Ai v8)<|Ad<|Rt ?_
 try simp only [c_1,Bl] at hE1
 subst hE1
 exact Fi rfl (by simp only [TZ,hR1,Bl])
 have hc1:decide (((v8:Nat):Int)<((s'.length:Nat):Int))=false:=decide_eq_false (by omega)
 refine Ah.cond (t:=false) (by rw [←hc1]<;>kernel_rfl) (Ah.exit ?_)
 rw [List.drop_eq_nil_of_le (hl1),V7.eq_1] at hE1
 subst hE1
 refine Sq<|Rg<|Aq (AV.i .i64 (-1:Int))<|Ad<|Rt ?_
 exact Fi rfl (by simp only [TZ,hR1,Bl])
theorem D1 (W:World) (s':List ByteArray) (f_f:FuncId) (c_f:List AV) (f:ByteArray→Bool) (hcl_f:Ab c_f=true) (hp_f: ∀(z0:ByteArray),Ar Go.Proofs.Tryz.prog W f_f ((AV.s z0)::c_f) (AV.b (f z0)) []):Ar Go.Proofs.Tryz.prog W 54 [((AY 1 AV.s) s'),(AV.fn f_f c_f)] (AV.b (m_t s' f)) []:=by
 refine As (fn:=Go.Proofs.Tryz.f54) Go.Proofs.Tryz.func54 rfl (en54 W) (ts:=[4]) rfl le<|Sq<|Rg<|Aq (AV.b false)<|Ad<|Sq<|Rg<|Aq ((AY 1 AV.s) s')<|Aq (AV.fn f_f c_f)<|A4.sc0 (vs:=[((AY 1 AV.s) s'),(AV.fn f_f c_f)]) (r0:=(AV.i .i64 (TZ s' f))) kr (by simp only [Ab,Bool.and_eq_true];exact ⟨by kernel_rfl,hcl_f,trivial⟩) (Ht W s' f_f c_f f hcl_f hp_f) kr le<|Aq (AV.b (decide ((0:Int)≤(TZ s' f))))<|Aq (AV.b (decide ((0:Int)≤(TZ s' f))))<|Ad<|Rt ?_
 exact Fb rfl (by simp only [m_t,Bl])
theorem G6 (W:World) {m0:Int} (hW:W.cell? ⟨0,0,none⟩=some (.int .i64 m0)) (l:Au) (ss:List ByteArray) (time:Int) (hz:l.state.sz≤1048576) (he:l.edge.sz≤1048576):Ar Go.Proofs.Tryz.prog W 98 [(Au.av l),((AY 1 AV.s) ss),(AV.i .i64 time)] (AV.b (TX l ss time)) []:=by
 have hg1:=l.state.sz_graph
 have hg3:=l.state.sz_disk
 have hg4:=l.state.sz_log
 have hg5:=l.state.sz_deps
 refine As (fn:=Go.Proofs.Tryz.f98) Go.Proofs.Tryz.func98 rfl (en98 W) (ts:=[6]) rfl le<|Sq<|Rg<|Nn (AV.loc 0 0 0) ⟨104,2,[(Au.av l)]⟩<|Nn (AV.loc 1 0 0) ⟨3,1,[(AV.i .i64 time)]⟩<|Aq (AV.b false)<|Ad<|Sq<|Rg<|Aq ((AY 1 AV.s) ss)<|Aq (AV.fn 146 [(AV.loc 0 0 0),(AV.loc 1 0 0)])<|A4.sfw (vs:=[((AY 1 AV.s) ss),(AV.fn 146 [(AV.loc 0 0 0),(AV.loc 1 0 0)])]) (ss:=[((AY 1 AV.s) ss),(AV.fn 146 [(AV.pt (Au.av l).cells),(AV.pt ((AV.i .i64) time).cells)])]) (r0:=(AV.b (m_t ss (fun z0=>TY z0 l time)))) kr (show BP _ _ _ from ⟨(BP.e kr),⟨(A1.w (A1.cast (x':=(AV.fn 146 [(AV.loc 0 0 0),(AV.loc 1 0 0)])) kr kr (A1.fn (A0.cons (E9 Au.av l (id:=0) rfl rfl kr) (A0.cons (Kd (id:=1) (j:=0) (ob:=⟨3,1,[(AV.i .i64 time)]⟩) (x:=(AV.i .i64 time)) rfl rfl rfl rfl (A2 (x:=(AV.i .i64 time)) kr)) A0.nil))))),trivial⟩⟩) (D1 W ss 146 [(AV.pt (Au.av l).cells),(AV.pt ((AV.i .i64) time).cells)] (fun z0=>TY z0 l time) kr (fun z0=>(KT W hW z0 l time sd sd))) rfl kr le<|Aq (AV.b (m_t ss (fun z0=>TY z0 l time)))<|Ad<|Rt ?_
 exact Fb rfl (by simp only [TX,Bl])
def BX (l:Au):AV:=(AV.pt (B1.av l.edge).cells)
def Df (l:Au):Obj:=⟨104,2,[(Au.av l)]⟩
def CS (l:Au):AV:=(AV.s (l.edge.outs.getD 0 default))
def C5 (l:Au):AV:=(AV.i .i64 (NF l))
def EU (l:Au):AV:=((AY 1 AV.s) (((M7 l.state.deps (l.edge.outs.getD 0 default)).1).ins))
def GX (l:Au):AV:=(AV.tup [(Ae.av ((EN l.state.disk (l.edge.outs.getD 0 default)).1)),(AV.b ((EN l.state.disk (l.edge.outs.getD 0 default)).2))])
def GW (l:Au):AV:=(AV.tup [(AG.av ((M7 l.state.deps (l.edge.outs.getD 0 default)).1)),(AV.b ((M7 l.state.deps (l.edge.outs.getD 0 default)).2))])
def ET (l:Au):Obj:=⟨61,3,[(AV.st [(AV.s (((M7 l.state.deps (l.edge.outs.getD 0 default)).1).out)),(AV.i .i64 (((M7 l.state.deps (l.edge.outs.getD 0 default)).1).time)),(EU l)])]⟩
theorem Ir (W:World) {m0:Int} (hW:W.cell? ⟨0,0,none⟩=some (.int .i64 m0)) (l:Au) (hz:l.state.sz≤1048576) (he:l.edge.sz≤1048576) (ho:0<l.edge.outs.length):Ar Go.Proofs.Tryz.prog W 57 [(Au.av l)] (AV.b (NB l)) []:=by
 have hg1:=l.state.sz_graph
 have hg3:=l.state.sz_disk
 have hg4:=l.state.sz_log
 have hg5:=l.state.sz_deps
 refine As (fn:=Go.Proofs.Tryz.f57) Go.Proofs.Tryz.func57 rfl (en57 W) (ts:=[2]) rfl le<|Sq<|Rg<|Nn (AV.loc 0 0 0) (Df l)<|Aq (AV.b false)<|Ad<|Sq<|Rg<|Aq (Au.av l)<|A4.sc0 (vs:=[(Au.av l)]) (r0:=(C5 l)) kr kr (L6 W hW l sd sd) kr le<|Aq (C5 l)<|Ad<|Sq<|Sq<|Ah.drawn A6 E5 20 kr le<|Dq (C5 l)<|Dq (AV.b (decide ((NF l)<(0:Int))))<|Dq (AV.b (decide ((NF l)<(0:Int)))) ?_
 cases c_1:decide ((NF l)<(0:Int))
 have k_1:=of_decide_eq_false c_1
 refine Dy<|Dq (Au.av l)<|Dy<|Dq (AV.loc 0 0 1)<|Dy<|Dq (BX l)<|Dy<|Dq (BX l)<|Dy<|Dq (AV.pt ((B1.av l.edge).cells.drop 1))<|Dy<|Dq ((AY 1 AV.s) l.edge.ins)<|Dy<|Dq (C5 l)<|Dy<|Aw.sc0 (vs:=[(Au.av l),((AY 1 AV.s) l.edge.ins),(C5 l)]) (r0:=(AV.b (TX l l.edge.ins (NF l)))) kr kr (G6 W hW l l.edge.ins (NF l) sd sd) kr le<|Dq (AV.b (TX l l.edge.ins (NF l)))<|Dq (AV.b (TX l l.edge.ins (NF l))) ?_
 cases c_2:(TX l l.edge.ins (NF l))
 refine Dy<|Dq (Au.av l)<|Dy<|Dq (AV.loc 0 0 1)<|Dy<|Dq (BX l)<|Dy<|Dq (BX l)<|Dy<|Dq (AV.pt ((B1.av l.edge).cells.drop 2))<|Dy<|Dq ((AY 1 AV.s) l.edge.implicit)<|Dy<|Dq (C5 l)<|Dy<|Aw.sc0 (vs:=[(Au.av l),((AY 1 AV.s) l.edge.implicit),(C5 l)]) (r0:=(AV.b (TX l l.edge.implicit (NF l)))) kr kr (G6 W hW l l.edge.implicit (NF l) sd sd) kr le<|Dq (AV.b (TX l l.edge.implicit (NF l)))<|Aw.fin ?_
 cases c_3:(TX l l.edge.implicit (NF l))
 refine Cf<|Ah.skip<|Sq<|Sq<|Rg<|Aq (AV.loc 0 0 1)<|Aq (BX l)<|Aq (BX l)<|Aq (AV.pt ((B1.av l.edge).cells.drop 5))<|Aq (AV.b l.edge.deps)<|Aq (AV.b (!l.edge.deps))<|Ad ?_
 cases c_4:(!l.edge.deps)
 refine Cf<|Ah.skip<|Sq<|HC A6 E5 17 [15] kr kr kr le<|Dq (AV.loc 0 0 0)<|Dq (AV.pt (Av.av l.state).cells)<|Dq (AV.pt (Av.av l.state).cells)<|Dq (AV.pt ((Av.av l.state).cells.drop 7))<|Dq ((AY 3 AG.av) l.state.deps)<|Dq (AV.loc 0 0 1)<|Dq (BX l)<|Dq (BX l)<|Dq (AV.pt ((B1.av l.edge).cells.drop 0))<|Dq ((AY 1 AV.s) l.edge.outs)<|Dp (AV.pt (CS l).cells) (CP (k:=1) (nl:=false) (e:=9) (kk:= .i64) (A:=AV.s) (xs:=l.edge.outs) (i:=0) kr kr kr ⟨by kernel_rfl,by decide⟩ (getD_some sd))<|Dq (CS l)<|Aw.sc0 (vs:=[((AY 3 AG.av) l.state.deps),(CS l)]) (r0:=(GW l)) kr kr (Qo W hW l.state.deps (l.edge.outs.getD 0 default) sd) kr le<|Dq (GW l)<|Dq (AG.av ((M7 l.state.deps (l.edge.outs.getD 0 default)).1))<|Dq (AV.b ((M7 l.state.deps (l.edge.outs.getD 0 default)).2))<|Aw.sn (x:=(AV.loc 1 0 0)) (h':=⟨2,[(1,some ⟨61,3,[(AV.st [(AV.s (⟨#[]⟩:ByteArray)),(AV.i .i64 (0:Int)),(AV.sl 1 true [])])]⟩),(0,some (Df l))]⟩) kr le ?_
 refine Aw.st (by decide) (x:=AV.und) (h':=⟨2,[(1,some (ET l)),(0,some (Df l))]⟩) kr<|Dq (AV.b ((M7 l.state.deps (l.edge.outs.getD 0 default)).2))<|Aw.fin<|Sq<|HC A6 E5 17 [15] kr kr kr le<|Dq (AV.loc 0 0 0)<|Dq (AV.pt (Av.av l.state).cells)<|Dq (AV.pt (Av.av l.state).cells)<|Dq (AV.pt ((Av.av l.state).cells.drop 4))<|Dq (AN.av l.state.disk)<|Dq (AV.loc 0 0 1)<|Dq (BX l)<|Dq (BX l)<|Dq (AV.pt ((B1.av l.edge).cells.drop 0))<|Dq ((AY 1 AV.s) l.edge.outs)<|Dp (AV.pt (CS l).cells) (CP (k:=1) (nl:=false) (e:=9) (kk:= .i64) (A:=AV.s) (xs:=l.edge.outs) (i:=0) kr kr kr ⟨by kernel_rfl,by decide⟩ (getD_some sd))<|Dq (CS l)<|Aw.sc0 (vs:=[(AN.av l.state.disk),(CS l)]) (r0:=(GX l)) kr kr (JT W hW l.state.disk (l.edge.outs.getD 0 default) sd) kr le<|Dq (GX l) ?_
 refine Dq (Ae.av ((EN l.state.disk (l.edge.outs.getD 0 default)).1))<|Dq (AV.b ((EN l.state.disk (l.edge.outs.getD 0 default)).2))<|Aw.sn (x:=(AV.loc 2 0 0)) (h':=⟨3,[(2,some ⟨85,3,[(AV.st [(AV.s (⟨#[]⟩:ByteArray)),(AV.i .i64 (0:Int)),(AV.i .i64 (0:Int))])]⟩),(1,some (ET l)),(0,some (Df l))]⟩) kr le<|Aw.st (by decide) (x:=AV.und) (h':=⟨3,[(2,some ⟨85,3,[(AV.st [(AV.s (((EN l.state.disk (l.edge.outs.getD 0 default)).1).name)),(AV.i .i64 (((EN l.state.disk (l.edge.outs.getD 0 default)).1).content)),(AV.i .i64 (((EN l.state.disk (l.edge.outs.getD 0 default)).1).time))])]⟩),(1,some (ET l)),(0,some (Df l))]⟩) kr<|Dq (AV.b ((EN l.state.disk (l.edge.outs.getD 0 default)).2))<|Aw.fin<|Sq<|Rg<|Aq (AV.b ((M7 l.state.deps (l.edge.outs.getD 0 default)).2))<|Aq (AV.b (!(M7 l.state.deps (l.edge.outs.getD 0 default)).2)) ?_
 refine Aq (AV.b (!(M7 l.state.deps (l.edge.outs.getD 0 default)).2)) ?_
 cases c_5:(!(M7 l.state.deps (l.edge.outs.getD 0 default)).2)
 refine Ay<|Aq (AV.loc 1 0 1)<|Ay<|Aq (AV.i .i64 (((M7 l.state.deps (l.edge.outs.getD 0 default)).1).time))<|Ay<|Aq (AV.loc 2 0 2)<|Ay<|Aq (AV.i .i64 (((EN l.state.disk (l.edge.outs.getD 0 default)).1).time))<|Ay<|Aq (AV.b (!decide (((M7 l.state.deps (l.edge.outs.getD 0 default)).1).time=((EN l.state.disk (l.edge.outs.getD 0 default)).1).time)))<|Aq (AV.b (!decide (((M7 l.state.deps (l.edge.outs.getD 0 default)).1).time=((EN l.state.disk (l.edge.outs.getD 0 default)).1).time)))<|Aq (AV.b (!decide (((M7 l.state.deps (l.edge.outs.getD 0 default)).1).time=((EN l.state.disk (l.edge.outs.getD 0 default)).1).time))) ?_
 cases c_6:(!decide (((M7 l.state.deps (l.edge.outs.getD 0 default)).1).time=((EN l.state.disk (l.edge.outs.getD 0 default)).1).time))
 have k_6:=nde c_6
 refine Ay<|Aq (Au.av l)<|Ay<|Aq (AV.loc 1 0 2)<|Ay<|Aq (EU l)<|Ay<|Aq (C5 l)<|Ay<|A4.sc0 (vs:=[(Au.av l),(EU l),(C5 l)]) (r0:=(AV.b (TX l (((M7 l.state.deps (l.edge.outs.getD 0 default)).1).ins) (NF l)))) kr kr (G6 W hW l (((M7 l.state.deps (l.edge.outs.getD 0 default)).1).ins) (NF l) sd sd) kr le<|Aq (AV.b (TX l (((M7 l.state.deps (l.edge.outs.getD 0 default)).1).ins) (NF l)))<|Aq (AV.b (TX l (((M7 l.state.deps (l.edge.outs.getD 0 default)).1).ins) (NF l)))<|Ad<|Rt ?_
 exact Fb rfl (by simp only [NB,c_1,c_2,c_3,c_4,c_5,c_6,Bl])
 have k_6:=ndt c_6
 refine An<|An<|An<|An<|An<|Aq (AV.b true)<|Aq (AV.b true)<|Ad<|Rt ?_
 exact Fb rfl (by simp only [NB,c_1,c_2,c_3,c_4,c_5,c_6,Bl])
 refine An<|An<|An<|An<|An<|Aq (AV.b true)<|Aq (AV.b true)<|An<|An<|An<|An<|An<|Aq (AV.b true)<|Aq (AV.b true)<|Ad<|Rt ?_
 exact Fb rfl (by simp only [NB,c_1,c_2,c_3,c_4,c_5,Bl])
 refine Ct<|Sq<|Rg<|Aq (AV.b false)<|Ad<|Rt ?_
 exact Fb rfl (by simp only [NB,c_1,c_2,c_3,c_4,Bl])
 refine Ct<|Sq<|Rg<|Aq (AV.b true)<|Ad<|Rt ?_
 exact Fb rfl (by simp only [NB,c_1,c_2,c_3,Bl])
 refine Dn<|Dn<|Dn<|Dn<|Dn<|Dn<|Dn<|Dn<|Dq (AV.b true)<|Aw.fin<|Ct<|Sq<|Rg<|Aq (AV.b true)<|Ad<|Rt ?_
 exact Fb rfl (by simp only [NB,c_1,c_2,Bl])
 have k_1:=of_decide_eq_true c_1
 refine Dn<|Dn<|Dn<|Dn<|Dn<|Dn<|Dn<|Dn<|Dq (AV.b true)<|Dq (AV.b true)<|Dn<|Dn<|Dn<|Dn<|Dn<|Dn<|Dn<|Dn<|Dq (AV.b true)<|Aw.fin<|Ct<|Sq<|Rg<|Aq (AV.b true)<|Ad<|Rt ?_
 exact Fb rfl (by simp only [NB,c_1,Bl])
def Hg (s':Av) (edge:Int):AV:=(B1.av (s'.graph.edges.getD edge.toNat default))
def CE (s':Av) (edge:Int):AV:=(AV.pt (Hg s' edge).cells)
def DV (s':Av) (edge:Int):AV:=(Au.av (⟨s',(s'.graph.edges.getD edge.toNat default)⟩:Au))
def CD (s':Av) (edge:Int):AV:=(AV.st [(AV.loc 0 0 0),(CE s' edge)])
def ES (s':Av) (edge:Int):AV:=(AV.fn 1000056 [(CD s' edge)])
def Lu (s':Av) (edge:Int):AV:=((AY 1 (AY 1 AV.s)) [(s'.graph.edges.getD edge.toNat default).ins,(s'.graph.edges.getD edge.toNat default).implicit,(s'.graph.edges.getD edge.toNat default).order])
theorem Ca (W:World) {m0:Int} (hW:W.cell? ⟨0,0,none⟩=some (.int .i64 m0)) (s':Av) (edge:Int) (hz:s'.sz≤1048576):Ar Go.Proofs.Tryz.prog W 17 [(Av.av s'),(AV.i .i64 edge)] (AV.tup [(AV.b ((BJ s' edge).1)),(AV.i .i64 ((BJ s' edge).2))]) []:=by
 have hzg:=s'.sz_graph
 refine As (fn:=Go.Proofs.Tryz.f17) Go.Proofs.Tryz.func17 rfl (en17 W) (ts:=[4,5]) rfl le<|Sq<|Rg<|Nn (AV.loc 0 0 0) ⟨35,11,[(Av.av s')]⟩<|Aq (AV.b false)<|Aq (AV.i .i64 (0:Int))<|Ad<|Sq<|Sq<|Rg<|A4.sfw (vs:=[(AV.loc 0 0 0)]) (ss:=[(AV.pt (Av.av s').cells)]) (r0:=(AV.b (GN s'))) kr (show BP _ _ _ from ⟨(A1.w (A1.cast (x':=(AV.loc 0 0 0)) kr kr (E9 Av.av s' (id:=0) rfl rfl kr))),trivial⟩) (O8 W hW s' sd) rfl kr le<|Aq (AV.b (!(GN s')))<|Aq (AV.b (!(GN s'))) ?_
 cases c_1:(!(GN s'))
 refine Ay<|Aq (AV.i .i64 edge)<|Ay<|Aq (AV.b (decide (edge<(0:Int))))<|Aq (AV.b (decide (edge<(0:Int))))<|Aq (AV.b (decide (edge<(0:Int)))) ?_
 cases c_2:decide (edge<(0:Int))
 have k_2:=of_decide_eq_false c_2
 refine Ay<|Aq (AV.i .i64 edge)<|Ay<|Aq (AV.loc 0 0 0)<|Ay<|Aq (AV.loc 0 0 0)<|Ay<|Aq ((AY 7 B1.av) s'.graph.edges)<|Ay<|Ap (Ai s'.graph.edges.length) (CA (k:=7) (nl:=false) (e:=65) (A:=B1.av) (xs:=s'.graph.edges) kr kr)<|Ay<|Aq (AV.b (decide (((s'.graph.edges.length:Nat):Int)≤edge)))<|Aq (AV.b (decide (((s'.graph.edges.length:Nat):Int)≤edge)))<|Ad ?_
 cases c_3:decide (((s'.graph.edges.length:Nat):Int)≤edge)
 have k_3:=of_decide_eq_false c_3
 have q_3:=U5 hz (by assumption) (by assumption) c_3
 refine Cf<|Ah.skip<|Sq<|Rg<|Aq (AV.loc 0 0 0)<|Aq (AV.loc 0 0 0)<|Aq ((AY 7 B1.av) s'.graph.edges)<|Aq (AV.i .i64 edge)<|Ap (CE s' edge) (Li (k:=7) (nl:=false) (e:=65) (kk:= .i64) (A:=B1.av) (xs:=s'.graph.edges) (n:=edge) kr kr kr ⟨by kernel_rfl,by decide⟩ sd (getD_some sd))<|Nb (CD s' edge)<|Nn (AV.loc 1 0 0) ⟨104,2,[(AV.st [AV.nilp,AV.nilp])]⟩<|Sp 1 ⟨104,2,[(CD s' edge)]⟩<|Ad<|Sq<|Sq<|Ah.drawn A6 E5 19 kr le<|Dq (AV.loc 1 0 1)<|Dq (CE s' edge)<|Dq (CE s' edge)<|Dq (AV.pt ((Hg s' edge).cells.drop 1))<|Dq ((AY 1 AV.s) ((s'.graph.edges.getD edge.toNat default).ins))<|Dq (AV.loc 1 0 1)<|Dq (CE s' edge)<|Dq (CE s' edge)<|Dq (AV.pt ((Hg s' edge).cells.drop 2))<|Dq ((AY 1 AV.s) ((s'.graph.edges.getD edge.toNat default).implicit))<|Dq (AV.loc 1 0 1)<|Dq (CE s' edge)<|Dq (CE s' edge)<|Dq (AV.pt ((Hg s' edge).cells.drop 3)) ?_
 refine Dq ((AY 1 AV.s) ((s'.graph.edges.getD edge.toNat default).order))<|Aw.sn (x:=(AV.own 2 0 3)) (h':=⟨3,[(2,some ⟨24,1,[(s'.graph.edges.getD edge.toNat default).ins,(s'.graph.edges.getD edge.toNat default).implicit,(s'.graph.edges.getD edge.toNat default).order].map (AY 1 AV.s)⟩),(1,some ⟨104,2,[(CD s' edge)]⟩),(0,some ⟨35,11,[(Av.av s')]⟩)]⟩) kr le ?_
 by_cases z_4:(EO [(s'.graph.edges.getD edge.toNat default).ins,(s'.graph.edges.getD edge.toNat default).implicit,(s'.graph.edges.getD edge.toNat default).order])=[]
 refine Aw.sfw (vs:=[(AV.own 2 0 3)]) (ss:=[(Lu s' edge)]) (r0:=((AY 1 AV.s) ([]:List ByteArray))) kr (show BP _ _ _ from ⟨(A1.w (A1.cast (x':=(AV.own 2 0 3)) kr kr (A1.row (fun _=>rfl) (A:=(AY 1 AV.s)) (id:=2) (e:=24) (k:=1) (xs:=[(s'.graph.edges.getD edge.toNat default).ins,(s'.graph.edges.getD edge.toNat default).implicit,(s'.graph.edges.getD edge.toNat default).order]) rfl rfl sd sd))),trivial⟩) (by rw [←show (EO [(s'.graph.edges.getD edge.toNat default).ins,(s'.graph.edges.getD edge.toNat default).implicit,(s'.graph.edges.getD edge.toNat default).order])=[] from z_4];exact (DX W [(s'.graph.edges.getD edge.toNat default).ins,(s'.graph.edges.getD edge.toNat default).implicit,(s'.graph.edges.getD edge.toNat default).order] (by simp only [List.flatten_cons,List.flatten_nil,List.append_nil,List.length_append];have:=Ps hz (by assumption) (by assumption) (by assumption);omega))) rfl kr le<|Dq (CD s' edge)<|Dq (ES s' edge)<|Aw.sfw (vs:=[((AY 1 AV.s) ([]:List ByteArray)),(ES s' edge)]) (ss:=[((AY 1 AV.s) ([]:List ByteArray)),(AV.fn 1000056 [(DV s' edge)])]) (r0:=(AV.b (m_t ([]:List ByteArray) (fun z0=>Q6 (⟨s',(s'.graph.edges.getD edge.toNat default)⟩:Au) z0)))) kr (show BP _ _ _ from ⟨(BP.e kr),⟨(A1.w (A1.cast (x':=(ES s' edge)) kr kr (A1.fn (A0.cons (A1.st (A0.cons (E9 Av.av s' (id:=0) rfl rfl kr) (A0.cons (A2 (x:=(CE s' edge)) kr) A0.nil))) A0.nil)))),trivial⟩⟩) (D1 W ([]:List ByteArray) 1000056 [(DV s' edge)] (fun z0=>Q6 (⟨s',(s'.graph.edges.getD edge.toNat default)⟩:Au) z0) kr (fun z0=>(ME (f:=56) (bs:=[(DV s' edge)]) (ys:=[(AV.s z0)]) (Hs W hW (⟨s',(s'.graph.edges.getD edge.toNat default)⟩:Au) z0 hz (Fj hz (by assumption) (by assumption) (by assumption)).2.2.1) (by decide) (by simp) rfl))) rfl kr le ?_
 refine Aw.fin ?_
 cases c_5:(m_t ([]:List ByteArray) (fun z0=>Q6 (⟨s',(s'.graph.edges.getD edge.toNat default)⟩:Au) z0))
 refine Cf<|Ah.skip<|Sq<|Rg<|Aq (CD s' edge)<|A4.sfw (vs:=[(CD s' edge)]) (ss:=[(DV s' edge)]) (r0:=(AV.b (NB (⟨s',(s'.graph.edges.getD edge.toNat default)⟩:Au)))) kr (show BP _ _ _ from ⟨(A1.w (A1.cast (x':=(CD s' edge)) kr kr (A1.st (A0.cons (E9 Av.av s' (id:=0) rfl rfl kr) (A0.cons (A2 (x:=(CE s' edge)) kr) A0.nil))))),trivial⟩) (Ir W hW (⟨s',(s'.graph.edges.getD edge.toNat default)⟩:Au) hz (Fj hz (by assumption) (by assumption) (by assumption)).2.2.1 (Fj hz (by assumption) (by assumption) (by assumption)).2.2.2) rfl kr le<|Aq (AV.b (NB (⟨s',(s'.graph.edges.getD edge.toNat default)⟩:Au)))<|Aq (AV.i .i64 (0:Int))<|Ad<|Rt ?_
 exact Fbi rfl (by simp only [BJ,c_1,c_2,c_3,z_4,c_5,Bl])
 refine Ct<|Sq<|Rg<|Aq (AV.b false)<|Aq (AV.i .i64 (1901:Int))<|Ad<|Rt ?_
 exact Fbi rfl (by simp only [BJ,c_1,c_2,c_3,z_4,c_5,Bl])
 refine Ni (A:=AV.s) (xs:=(EO [(s'.graph.edges.getD edge.toNat default).ins,(s'.graph.edges.getD edge.toNat default).implicit,(s'.graph.edges.getD edge.toNat default).order])) (vs:=[(AV.own 2 0 3)]) (ss:=[(Lu s' edge)]) kr (show BP _ _ _ from ⟨(A1.w (A1.cast (x':=(AV.own 2 0 3)) kr kr (A1.row (fun _=>rfl) (A:=(AY 1 AV.s)) (id:=2) (e:=24) (k:=1) (xs:=[(s'.graph.edges.getD edge.toNat default).ins,(s'.graph.edges.getD edge.toNat default).implicit,(s'.graph.edges.getD edge.toNat default).order]) rfl rfl sd sd))),trivial⟩) (DC W [(s'.graph.edges.getD edge.toNat default).ins,(s'.graph.edges.getD edge.toNat default).implicit,(s'.graph.edges.getD edge.toNat default).order] (by simp only [List.flatten_cons,List.flatten_nil,List.append_nil,List.length_append];have:=Ps hz (by assumption) (by assumption) (by assumption);omega) z_4) (fun _=>rfl) (fun _=>rfl) le<|Dq (CD s' edge)<|Dq (ES s' edge)<|Aw.sfw (vs:=[(AV.own 3 0 ((EO [(s'.graph.edges.getD edge.toNat default).ins,(s'.graph.edges.getD edge.toNat default).implicit,(s'.graph.edges.getD edge.toNat default).order]).length)),(ES s' edge)]) (ss:=[((AY 1 AV.s) (EO [(s'.graph.edges.getD edge.toNat default).ins,(s'.graph.edges.getD edge.toNat default).implicit,(s'.graph.edges.getD edge.toNat default).order])),(AV.fn 1000056 [(DV s' edge)])]) (r0:=(AV.b (m_t (EO [(s'.graph.edges.getD edge.toNat default).ins,(s'.graph.edges.getD edge.toNat default).implicit,(s'.graph.edges.getD edge.toNat default).order]) (fun z0=>Q6 (⟨s',(s'.graph.edges.getD edge.toNat default)⟩:Au) z0)))) kr (show BP _ _ _ from ⟨(A1.w (A1.cast (x':=(AV.own 3 0 ((EO [(s'.graph.edges.getD edge.toNat default).ins,(s'.graph.edges.getD edge.toNat default).implicit,(s'.graph.edges.getD edge.toNat default).order]).length))) kr kr (A1.row (fun _=>rfl) (A:=AV.s) (id:=3) (e:=9) (k:=1) (xs:=(EO [(s'.graph.edges.getD edge.toNat default).ins,(s'.graph.edges.getD edge.toNat default).implicit,(s'.graph.edges.getD edge.toNat default).order])) rfl rfl rfl sd))),⟨(A1.w (A1.cast (x':=(ES s' edge)) kr kr (A1.fn (A0.cons (A1.st (A0.cons (E9 Av.av s' (id:=0) rfl rfl kr) (A0.cons (A2 (x:=(CE s' edge)) kr) A0.nil))) A0.nil)))),trivial⟩⟩) (D1 W (EO [(s'.graph.edges.getD edge.toNat default).ins,(s'.graph.edges.getD edge.toNat default).implicit,(s'.graph.edges.getD edge.toNat default).order]) 1000056 [(DV s' edge)] (fun z0=>Q6 (⟨s',(s'.graph.edges.getD edge.toNat default)⟩:Au) z0) kr (fun z0=>(ME (f:=56) (bs:=[(DV s' edge)]) (ys:=[(AV.s z0)]) (Hs W hW (⟨s',(s'.graph.edges.getD edge.toNat default)⟩:Au) z0 hz (Fj hz (by assumption) (by assumption) (by assumption)).2.2.1) (by decide) (by simp) rfl))) rfl kr le ?_
 refine Aw.fin ?_
 cases c_6:(m_t (EO [(s'.graph.edges.getD edge.toNat default).ins,(s'.graph.edges.getD edge.toNat default).implicit,(s'.graph.edges.getD edge.toNat default).order]) (fun z0=>Q6 (⟨s',(s'.graph.edges.getD edge.toNat default)⟩:Au) z0))
 refine Cf<|Ah.skip<|Sq<|Rg<|Aq (CD s' edge)<|A4.sfw (vs:=[(CD s' edge)]) (ss:=[(DV s' edge)]) (r0:=(AV.b (NB (⟨s',(s'.graph.edges.getD edge.toNat default)⟩:Au)))) kr (show BP _ _ _ from ⟨(A1.w (A1.cast (x':=(CD s' edge)) kr kr (A1.st (A0.cons (E9 Av.av s' (id:=0) rfl rfl kr) (A0.cons (A2 (x:=(CE s' edge)) kr) A0.nil))))),trivial⟩) (Ir W hW (⟨s',(s'.graph.edges.getD edge.toNat default)⟩:Au) hz (Fj hz (by assumption) (by assumption) (by assumption)).2.2.1 (Fj hz (by assumption) (by assumption) (by assumption)).2.2.2) rfl kr le<|Aq (AV.b (NB (⟨s',(s'.graph.edges.getD edge.toNat default)⟩:Au)))<|Aq (AV.i .i64 (0:Int))<|Ad<|Rt ?_
 exact Fbi rfl (by simp only [BJ,c_1,c_2,c_3,c_6,Bl])
 refine Ct<|Sq<|Rg<|Aq (AV.b false)<|Aq (AV.i .i64 (1901:Int))<|Ad<|Rt ?_
 exact Fbi rfl (by simp only [BJ,c_1,c_2,c_3,c_6,Bl])
 have k_3:=of_decide_eq_true c_3
 refine Ct<|Sq<|Rg<|Aq (AV.b false)<|Aq (AV.i .i64 (1900:Int))<|Ad<|Rt ?_
 exact Fbi rfl (by simp only [BJ,c_1,c_2,c_3,Bl])
 have k_2:=of_decide_eq_true c_2
 refine An<|An<|An<|An<|An<|An<|Aq (AV.b true)<|Ad<|Ct<|Sq<|Rg<|Aq (AV.b false)<|Aq (AV.i .i64 (1900:Int))<|Ad<|Rt ?_
 exact Fbi rfl (by simp only [BJ,c_1,c_2,Bl])
 refine An<|An<|Aq (AV.b true)<|Aq (AV.b true)<|An<|An<|An<|An<|An<|An<|Aq (AV.b true)<|Ad<|Ct<|Sq<|Rg<|Aq (AV.b false)<|Aq (AV.i .i64 (1900:Int))<|Ad<|Rt ?_
 exact Fbi rfl (by simp only [BJ,c_1,Bl])
def D0 (s':Av):Obj:=⟨35,11,[(Av.av s')]⟩
def Jc (s':Av):AV:=(AV.i .i64 ((J6 (⟨s'.graph.edges,s'.graph.pools,s'.graph.defaults⟩:AL)).2))
def DU (s':Av):AV:=((AY 1 (AV.i .i64)) ((J6 (⟨s'.graph.edges,s'.graph.pools,s'.graph.defaults⟩:AL)).1))
def Lt (s':Av):AV:=(AV.st [((AY 7 B1.av) s'.graph.edges),((AY 2 BZ.av) s'.graph.pools),((AY 1 AV.s) s'.graph.defaults)])
def Hf (s':Av):AV:=(AV.i .i64 ((((J6 (⟨s'.graph.edges,s'.graph.pools,s'.graph.defaults⟩:AL)).1).length:Nat):Int))
def Ls (s':Av):AV:=(AV.tup [(DU s'),(Jc s')])
theorem E8 (W:World) {m0:Int} (hW:W.cell? ⟨0,0,none⟩=some (.int .i64 m0)) (s':Av) (hz:s'.sz≤1048576):Ar Go.Proofs.Tryz.prog W 19 [(Av.av s')] (AV.tup [((AY 1 AV.b) ((Cp s').1)),(AV.i .i64 ((Cp s').2))]) []:=by
 have hzg:=s'.sz_graph
 have hgl:=Nat.le_trans s'.graph.sz_len (Nat.le_trans s'.sz_graph hz)
 refine As (fn:=Go.Proofs.Tryz.f19) Go.Proofs.Tryz.func19 rfl (en19 W) (ts:=[2,3]) rfl le<|Sq<|Rg<|Nn (AV.loc 0 0 0) (D0 s')<|Aq (AV.sl 1 true [])<|Aq (AV.i .i64 (0:Int))<|Ad<|Sq<|Sq<|Rg<|A4.sfw (vs:=[(AV.loc 0 0 0)]) (ss:=[(AV.pt (Av.av s').cells)]) (r0:=(AV.b (GN s'))) kr (show BP _ _ _ from ⟨(A1.w (A1.cast (x':=(AV.loc 0 0 0)) kr kr (E9 Av.av s' (id:=0) rfl rfl kr))),trivial⟩) (O8 W hW s' sd) rfl kr le<|Aq (AV.b (!(GN s')))<|Ad ?_
 cases c_1:(!(GN s'))
 refine Cf<|Ah.skip<|Sq<|Rg<|Aq (AV.loc 0 0 0)<|Aq (AV.loc 0 0 0)<|Aq ((AY 7 B1.av) s'.graph.edges)<|Ap (Ai s'.graph.edges.length) (CA (k:=7) (nl:=false) (e:=65) (A:=B1.av) (xs:=s'.graph.edges) kr kr)<|A4.sn (x:=(AV.own 1 0 s'.graph.edges.length)) (h':=⟨2,[(1,some ⟨4,1,(List.replicate s'.graph.edges.length false).map AV.b⟩),(0,some (D0 s'))]⟩) (Wp (e:=4) (i:=VC) (A:=AV.b) (z:=false) (n:=s'.graph.edges.length) kr kr kr kr ⟨by decide,by kernel_rfl⟩ kr (by show _*1≤140737488355328;first|omega|(simp only [List.length_append,List.length_cons,List.length_nil,List.length_set,List.length_replicate];omega)|(simp;omega)) sd) le<|Aq (AV.own 1 0 s'.graph.edges.length)<|Ad<|Sq<|Sq<|Rg<|Aq (AV.own 1 0 s'.graph.edges.length)<|Aq (Ai s'.graph.edges.length)<|Aq (AV.i .i64 (0:Int))<|Ad<|Ah.block ?_
 have hB1:s'.graph.edges.length≤281474976710656:=by first|omega|(simp;done)|(simp;omega)
 obtain ⟨R1,hR1⟩: ∃R,Vd s' (List.replicate s'.graph.edges.length false) 0 (List.replicate s'.graph.edges.length false)=R:=⟨_,rfl⟩
 refine BN (fun ((v25,row):Nat×(List Bool))=>[(1,(AV.loc 0 0 0)),(4,(AV.own 1 0 s'.graph.edges.length)),(24,(Ai s'.graph.edges.length)),(25,(Ai v25))]) (fun ((v25,row):Nat×(List Bool))=>⟨2,[(0,some (D0 s')),(1,some ⟨4,1,row.map AV.b⟩)]⟩) (fun ((v25,row):Nat×(List Bool))=>v25≤s'.graph.edges.length∧row.length=s'.graph.edges.length∧Vd s' ((List.replicate s'.graph.edges.length false).drop v25) v25 row=R1) (fun ((v25,row):Nat×(List Bool))=>s'.graph.edges.length-v25) (0,(List.replicate s'.graph.edges.length false)) ?_ ?_ ?_
 exact ⟨[0,1],⟨by decide,rfl,(A3.cons kr (A3.cons (BA (fun _=>rfl) (e:=4) (k:=1) (A:=AV.b) (xs:=(List.replicate s'.graph.edges.length false)) rfl rfl) A3.nil)),(AM.cons (BM.f kr) (AM.cons (BM.f kr) (Ee (Ee AM.nil))))⟩,B4⟩
 exact ⟨od,by (try dsimp only)<;>(simp),hR1⟩
 rintro ⟨v25,row⟩ ⟨hi1,hq,hE1⟩
 try dsimp only
 refine Sq<|Rg<|Aq (AV.b (decide (((v25:Nat):Int)<((s'.graph.edges.length:Nat):Int))))<|Ad<|Sq ?_
 rcases Nat.lt_or_ge v25 s'.graph.edges.length with hl1|hl1
 have hc1:decide (((v25:Nat):Int)<((s'.graph.edges.length:Nat):Int))=true:=decide_eq_true (by omega)
 refine Ah.cond (t:=true) (by rw [←hc1]<;>kernel_rfl) (Ah.skip ?_)
 obtain ⟨x1,hx1⟩: ∃x,(List.replicate s'.graph.edges.length false)[v25]? =some x:=⟨_,List.getElem?_eq_getElem (by first|(simpa using hl1)|omega)⟩
 rw [BO hx1,Vd.eq_2] at hE1
 refine Sq<|Ah.block<|Sq<|Rg<|Aq (Ai v25)<|Aq (Ai v25)<|Ad<|Sq<|Rg<|Aq (Av.av s')<|Aq (Ai v25)<|A4.sc0 (vs:=[(Av.av s'),(Ai v25)]) (r0:=(AV.tup [(AV.b ((BJ s' ((v25:Nat):Int)).1)),(AV.i .i64 ((BJ s' ((v25:Nat):Int)).2))])) kr kr (Ca W hW s' ((v25:Nat):Int) hz) kr le<|Aq (AV.tup [(AV.b ((BJ s' ((v25:Nat):Int)).1)),(AV.i .i64 ((BJ s' ((v25:Nat):Int)).2))])<|Aq (AV.b ((BJ s' ((v25:Nat):Int)).1))<|Aq (AV.i .i64 ((BJ s' ((v25:Nat):Int)).2))<|Aq (AV.b ((BJ s' ((v25:Nat):Int)).1))<|Aq (AV.i .i64 ((BJ s' ((v25:Nat):Int)).2))<|Ad<|Sq<|Sq<|Rg<|Aq (AV.i .i64 ((BJ s' ((v25:Nat):Int)).2))<|Aq (AV.b (!decide ((BJ s' ((v25:Nat):Int)).2=(0:Int))))<|Ad ?_
 cases c_2:(!decide ((BJ s' ((v25:Nat):Int)).2=(0:Int)))
 have k_2:=nde c_2
 refine Cf<|Ah.skip<|Rg<|Aq (AV.own 1 0 s'.graph.edges.length)<|Aq (Ai v25)<|Aq (AV.b ((BJ s' ((v25:Nat):Int)).1))<|Ap (AV.loc 1 v25 0) (Ft (e:=4) (id:=1) (len:=s'.graph.edges.length) (kk:= .i64) (ob:=⟨4,1,row.map AV.b⟩) (i:=v25) kr kr kr rfl kr sd)<|A4.st (x:=AV.und) (h':=⟨2,[(0,some (D0 s')),(1,some ⟨4,1,(row.set v25 ((BJ s' ((v25:Nat):Int)).1)).map AV.b⟩)]⟩) (Ut (e:=4) (k:=1) (i:=VC) (id:=1) (A:=AV.b) (xs:=row) (y:=((BJ s' ((v25:Nat):Int)).1)) (j:=v25) kr kr kr rfl sd (fun _=>rfl) kr (fun _=>rfl) (fun _=>rfl))<|Ad<|Rg<|Ap (Ai (v25+1)) (BH (i:=v25) (m:=1) kr kr sd)<|Aq (Ai (v25+1))<|Ad ?_
 try simp only [c_2,Bl] at hE1
 refine ⟨(v25+1,(row.set v25 ((BJ s' ((v25:Nat):Int)).1))),od,⟨od,by (try dsimp only)<;>(simp only [List.length_set];exact hq),hE1⟩,?_⟩
 exact ⟨[0,1],⟨by decide,rfl,(A3.cons kr (A3.cons (BA (fun _=>rfl) (e:=4) (k:=1) (A:=AV.b) (xs:=(row.set v25 ((BJ s' ((v25:Nat):Int)).1))) rfl rfl) A3.nil)),(AM.cons (BM.f kr) (AM.cons (BM.f kr) (Ee (Ee AM.nil))))⟩,B4⟩
 have k_2:=ndt c_2
 refine Ct<|Sq<|Rg<|Aq (AV.i .i64 ((BJ s' ((v25:Nat):Int)).2))<|Aq (AV.sl 1 true [])<|Aq (AV.i .i64 ((BJ s' ((v25:Nat):Int)).2))<|Ad<|Rt ?_
 try simp only [c_2,Bl] at hE1
 subst hE1
 have hM:Cp s'=(([]:List Bool),(BJ s' ((v25:Nat):Int)).2):=by simp only [Cp,c_1,hR1,Bl]
 refine ⟨Or.inr rfl,?_⟩
 rw [hM]
 exact BM.cast (x':=(AV.tup [(AV.sl 1 true []),(AV.i .i64 ((BJ s' ((v25:Nat):Int)).2))])) (y':=(AV.tup [((AY 1 AV.b) ((([]:List Bool),(BJ s' ((v25:Nat):Int)).2).1)),(AV.i .i64 ((([]:List Bool),(BJ s' ((v25:Nat):Int)).2).2))])) kr kr (BM.tup ⟨(BM.w rfl (AH.nil 1)),⟨Ec,trivial⟩⟩ kr)
 have hc1:decide (((v25:Nat):Int)<((s'.graph.edges.length:Nat):Int))=false:=decide_eq_false (by omega)
 refine Ah.cond (t:=false) (by rw [←hc1]<;>kernel_rfl) (Ah.exit ?_)
 rw [List.drop_eq_nil_of_le (by first|(simpa using hl1)|omega),Vd.eq_1] at hE1
 subst hE1
 refine Sq<|Rg<|Aq (AV.loc 0 0 0)<|Aq (Lt s')<|A4.sc0 (vs:=[(Lt s')]) (r0:=(Ls s')) kr kr (PS W hW (⟨s'.graph.edges,s'.graph.pools,s'.graph.defaults⟩:AL) (Nat.le_trans s'.sz_graph hz)) kr le<|Aq (Ls s')<|Aq (DU s')<|Aq (Jc s')<|Aq (DU s')<|Aq (Jc s')<|Ad<|Sq<|Sq<|Rg<|Aq (DU s')<|Ap (Hf s') (CA (k:=1) (nl:=false) (e:=3) (A:=(AV.i .i64)) (xs:=((J6 (⟨s'.graph.edges,s'.graph.pools,s'.graph.defaults⟩:AL)).1)) kr kr) ?_
 refine Aq (AV.i .i64 (0:Int))<|Ad<|Ah.block<|Ah.lim 46 (x:=(DU s')) kr fun hlm2=> ?_
 have hB2:((J6 (⟨s'.graph.edges,s'.graph.pools,s'.graph.defaults⟩:AL)).1).length≤281474976710656:=Dj hlm2
 obtain ⟨R2,hR2⟩: ∃R,Ve s' ((J6 (⟨s'.graph.edges,s'.graph.pools,s'.graph.defaults⟩:AL)).1) 0 row=R:=⟨_,rfl⟩
 refine BN (fun ((v50,row2):Nat×(List Bool))=>[(1,(AV.loc 0 0 0)),(4,(AV.own 1 0 s'.graph.edges.length)),(48,(DU s')),(49,(Hf s')),(50,(Ai v50))]) (fun ((v50,row2):Nat×(List Bool))=>⟨2,[(0,some (D0 s')),(1,some ⟨4,1,row2.map AV.b⟩)]⟩) (fun ((v50,row2):Nat×(List Bool))=>v50≤((J6 (⟨s'.graph.edges,s'.graph.pools,s'.graph.defaults⟩:AL)).1).length∧row2.length=s'.graph.edges.length∧Ve s' (((J6 (⟨s'.graph.edges,s'.graph.pools,s'.graph.defaults⟩:AL)).1).drop v50) v50 row2=R2) (fun ((v50,row2):Nat×(List Bool))=>((J6 (⟨s'.graph.edges,s'.graph.pools,s'.graph.defaults⟩:AL)).1).length-v50) (0,row) ?_ ?_ ?_
 exact ⟨[0,1],⟨by decide,rfl,(A3.cons kr (A3.cons (BA (fun _=>rfl) (e:=4) (k:=1) (A:=AV.b) (xs:=row) rfl rfl) A3.nil)),(AM.cons (BM.f kr) (AM.cons (BM.f kr) (Ee (Ee (Ee AM.nil)))))⟩,B4⟩
 exact ⟨od,by (try dsimp only)<;>(exact hq),hR2⟩
 rintro ⟨v50,row2⟩ ⟨hi2,hq2,hE2⟩
 try dsimp only
 refine Sq<|Rg<|Aq (AV.b (decide (((v50:Nat):Int)<((((J6 (⟨s'.graph.edges,s'.graph.pools,s'.graph.defaults⟩:AL)).1).length:Nat):Int))))<|Ad<|Sq ?_
 rcases Nat.lt_or_ge v50 ((J6 (⟨s'.graph.edges,s'.graph.pools,s'.graph.defaults⟩:AL)).1).length with hl2|hl2
 have hc2:decide (((v50:Nat):Int)<((((J6 (⟨s'.graph.edges,s'.graph.pools,s'.graph.defaults⟩:AL)).1).length:Nat):Int))=true:=decide_eq_true (by omega)
 refine Ah.cond (t:=true) (by rw [←hc2]<;>kernel_rfl) (Ah.skip ?_)
 obtain ⟨x2,hx2⟩: ∃x,((J6 (⟨s'.graph.edges,s'.graph.pools,s'.graph.defaults⟩:AL)).1)[v50]? =some x:=⟨_,List.getElem?_eq_getElem hl2⟩
 rw [BO hx2,Ve.eq_2] at hE2
 have ha:=TH hz (by assumption) (List.mem_of_getElem? hx2)
 have hcl:(EO [(s'.graph.edges.getD x2.toNat default).ins,(s'.graph.edges.getD x2.toNat default).implicit]).length≤1048576:=by rw [LT];simp only [List.flatten_cons,List.flatten_nil,List.append_nil,List.length_append];omega
 refine Sq<|Ah.block<|Sq<|Rg<|Ap (AV.pt ((AV.i .i64) x2).cells) (CP (k:=1) (nl:=false) (e:=3) (kk:= .i64) (A:=(AV.i .i64)) (xs:=((J6 (⟨s'.graph.edges,s'.graph.pools,s'.graph.defaults⟩:AL)).1)) (i:=v50) kr kr kr ⟨by kernel_rfl,by decide⟩ hx2)<|Aq (AV.i .i64 x2)<|Aq (AV.i .i64 x2)<|Ad<|Sq<|Rg<|Aq (AV.loc 0 0 0)<|Aq (AV.loc 0 0 0)<|Aq ((AY 7 B1.av) s'.graph.edges)<|Aq (AV.i .i64 x2)<|Ap (AV.pt (B1.av (s'.graph.edges.getD x2.toNat default)).cells) (Li (k:=7) (nl:=false) (e:=65) (kk:= .i64) (A:=B1.av) (xs:=s'.graph.edges) (n:=x2) kr kr kr ⟨by kernel_rfl,by decide⟩ sd (getD_some sd))<|Aq (AV.pt (B1.av (s'.graph.edges.getD x2.toNat default)).cells)<|Ad<|Sq<|Ah.drawn A6 E5 12 kr le<|Dq (AV.pt (B1.av (s'.graph.edges.getD x2.toNat default)).cells)<|Dq (AV.pt (B1.av (s'.graph.edges.getD x2.toNat default)).cells)<|Dq (AV.pt ((B1.av (s'.graph.edges.getD x2.toNat default)).cells.drop 1))<|Dq ((AY 1 AV.s) ((s'.graph.edges.getD x2.toNat default).ins))<|Dq (AV.pt (B1.av (s'.graph.edges.getD x2.toNat default)).cells)<|Dq (AV.pt (B1.av (s'.graph.edges.getD x2.toNat default)).cells)<|Dq (AV.pt ((B1.av (s'.graph.edges.getD x2.toNat default)).cells.drop 2))<|Dq ((AY 1 AV.s) ((s'.graph.edges.getD x2.toNat default).implicit))<|Aw.sn (x:=(AV.own 2 0 2)) (h':=⟨3,[(2,some ⟨24,1,[(s'.graph.edges.getD x2.toNat default).ins,(s'.graph.edges.getD x2.toNat default).implicit].map (AY 1 AV.s)⟩),(0,some (D0 s')),(1,some ⟨4,1,row2.map AV.b⟩)]⟩) kr le ?_
 by_cases z_3:(EO [(s'.graph.edges.getD x2.toNat default).ins,(s'.graph.edges.getD x2.toNat default).implicit])=[]
 refine Aw.sfw (vs:=[(AV.own 2 0 2)]) (ss:=[((AY 1 (AY 1 AV.s)) [(s'.graph.edges.getD x2.toNat default).ins,(s'.graph.edges.getD x2.toNat default).implicit])]) (r0:=((AY 1 AV.s) ([]:List ByteArray))) kr (show BP _ _ _ from ⟨(A1.w (A1.cast (x':=(AV.own 2 0 2)) kr kr (A1.row (fun _=>rfl) (A:=(AY 1 AV.s)) (id:=2) (e:=24) (k:=1) (xs:=[(s'.graph.edges.getD x2.toNat default).ins,(s'.graph.edges.getD x2.toNat default).implicit]) rfl rfl sd sd))),trivial⟩) (by rw [←show (EO [(s'.graph.edges.getD x2.toNat default).ins,(s'.graph.edges.getD x2.toNat default).implicit])=[] from z_3];exact (DX W [(s'.graph.edges.getD x2.toNat default).ins,(s'.graph.edges.getD x2.toNat default).implicit] (by simp only [List.flatten_cons,List.flatten_nil,List.append_nil,List.length_append];omega))) rfl kr le<|Dp (AV.i .i64 ((([]:List ByteArray).length:Nat):Int)) (CA (k:=1) (nl:=false) (e:=9) (A:=AV.s) (xs:=([]:List ByteArray)) kr kr)<|Dq (AV.i .i64 (0:Int))<|Aw.fin<|Ah.block<|Ah.lim 68 (x:=((AY 1 AV.s) ([]:List ByteArray))) kr fun hlm3=> ?_
 have hB3:([]:List ByteArray).length≤281474976710656:=Dj hlm3
 obtain ⟨R3,hR3⟩: ∃R,Og s' x2 ([]:List ByteArray) 0 row2=R:=⟨_,rfl⟩
 refine BN (fun ((v70,row3):Nat×(List Bool))=>[(1,(AV.loc 0 0 0)),(4,(AV.own 1 0 s'.graph.edges.length)),(11,(AV.i .i64 x2)),(48,(DU s')),(49,(Hf s')),(50,(Ai v50)),(68,((AY 1 AV.s) ([]:List ByteArray))),(69,(AV.i .i64 ((([]:List ByteArray).length:Nat):Int))),(70,(Ai v70))]) (fun ((v70,row3):Nat×(List Bool))=>⟨2,[(0,some (D0 s')),(1,some ⟨4,1,row3.map AV.b⟩)]⟩) (fun ((v70,row3):Nat×(List Bool))=>v70≤([]:List ByteArray).length∧row3.length=s'.graph.edges.length∧Og s' x2 (([]:List ByteArray).drop v70) v70 row3=R3) (fun ((v70,row3):Nat×(List Bool))=>([]:List ByteArray).length-v70) (0,row2) ?_ ?_ ?_
 exact ⟨[0,1],⟨by decide,rfl,(A3.cons kr (A3.cons (BA (fun _=>rfl) (e:=4) (k:=1) (A:=AV.b) (xs:=row2) rfl rfl) A3.nil)),(AM.cons (BM.f kr) (AM.cons (BM.f kr) (Ee (Ee (Ee (Ee (Ee (Ee (Ee AM.nil)))))))))⟩,B4⟩
 exact ⟨od,by (try dsimp only)<;>(exact hq2),hR3⟩
 rintro ⟨v70,row3⟩ ⟨hi3,hq3,hE3⟩
 try dsimp only
 refine Sq<|Rg<|Aq (AV.b (decide (((v70:Nat):Int)<((([]:List ByteArray).length:Nat):Int))))<|Ad<|Sq ?_
 rcases Nat.lt_or_ge v70 ([]:List ByteArray).length with hl3|hl3
 have hc3:decide (((v70:Nat):Int)<((([]:List ByteArray).length:Nat):Int))=true:=decide_eq_true (by omega)
 refine Ah.cond (t:=true) (by rw [←hc3]<;>kernel_rfl) (Ah.skip ?_)
 obtain ⟨x3,hx3⟩: ∃x,([]:List ByteArray)[v70]? =some x:=⟨_,List.getElem?_eq_getElem hl3⟩
 rw [BO hx3,Og.eq_2] at hE3
 have hmk:=T1 s'.graph x3
 refine Sq<|Ah.block<|Sq<|Rg<|Ap (AV.pt (AV.s x3).cells) (CP (k:=1) (nl:=false) (e:=9) (kk:= .i64) (A:=AV.s) (xs:=([]:List ByteArray)) (i:=v70) kr kr kr ⟨by kernel_rfl,by decide⟩ hx3)<|Aq (AV.s x3)<|Aq (AV.s x3)<|Ad<|Sq<|Rg<|Aq (AV.loc 0 0 0)<|Aq (AV.s x3)<|A4.sfw (vs:=[(AV.loc 0 0 0),(AV.s x3)]) (ss:=[(AV.pt (AL.av s'.graph).cells),(AV.s x3)]) (r0:=(AV.i .i64 (Gp s'.graph x3))) kr (show BP _ _ _ from ⟨(A1.w (A1.cast (x':=(AV.loc 0 0 0)) kr kr (A1.wk (y':=(AV.pt (AL.av s'.graph).cells)) (E9 Av.av s' (id:=0) rfl rfl kr) (Np 3 kr)))),⟨(BP.e kr),trivial⟩⟩) (I6 W s'.graph x3) rfl kr le<|Aq (AV.i .i64 (Gp s'.graph x3))<|Ad<|Sq<|Rg<|Aq (AV.i .i64 (Gp s'.graph x3))<|Aq (AV.b (decide ((0:Int)≤(Gp s'.graph x3))))<|Aq (AV.b (decide ((0:Int)≤(Gp s'.graph x3)))) ?_
 cases c_4:decide ((0:Int)≤(Gp s'.graph x3))
 have k_4:=of_decide_eq_false c_4
 refine An<|An<|An<|An<|Aq (AV.b false)<|Ad<|Cf<|Ah.skip<|Rg<|Ap (Ai (v70+1)) (BH (i:=v70) (m:=1) kr kr sd)<|Aq (Ai (v70+1))<|Ad ?_
 try simp only [c_4,Bl] at hE3
 refine ⟨(v70+1,row3),od,⟨od,by (try dsimp only)<;>(first|exact hq3|(simp only [List.length_set];exact hq3)),hE3⟩,?_⟩
 exact ⟨[0,1],⟨by decide,rfl,(A3.cons kr (A3.cons (BA (fun _=>rfl) (e:=4) (k:=1) (A:=AV.b) (xs:=row3) rfl rfl) A3.nil)),(AM.cons (BM.f kr) (AM.cons (BM.f kr) (Ee (Ee (Ee (Ee (Ee (Ee (Ee AM.nil)))))))))⟩,B4⟩
 have k_4:=of_decide_eq_true c_4
 refine Ay<|Aq (AV.own 1 0 s'.graph.edges.length)<|Ay<|Aq (AV.i .i64 (Gp s'.graph x3))<|Ay<|Ap (AV.loc 1 ((Gp s'.graph x3).toNat) 0) (GD (e:=4) (id:=1) (len:=s'.graph.edges.length) (kk:= .i64) (ob:=⟨4,1,row3.map AV.b⟩) (n:=(Gp s'.graph x3)) kr kr kr rfl kr sd sd)<|Ay<|Ap (AV.b (row3.getD ((Gp s'.graph x3).toNat) default)) (D4 (e:=4) (k:=1) (i:=VC) (id:=1) (xs:=row3) (A:=AV.b) (j:=(Gp s'.graph x3).toNat) kr kr rfl (getD_some sd) kr)<|Aq (AV.b (row3.getD ((Gp s'.graph x3).toNat) default))<|Ad ?_
 cases c_5:(row3.getD ((Gp s'.graph x3).toNat) default)
 refine Cf<|Ah.skip<|Rg<|Ap (Ai (v70+1)) (BH (i:=v70) (m:=1) kr kr sd)<|Aq (Ai (v70+1))<|Ad ?_
 try simp only [c_4,c_5,Bl] at hE3
 refine ⟨(v70+1,row3),od,⟨od,by (try dsimp only)<;>(first|exact hq3|(simp only [List.length_set];exact hq3)),hE3⟩,?_⟩
 exact ⟨[0,1],⟨by decide,rfl,(A3.cons kr (A3.cons (BA (fun _=>rfl) (e:=4) (k:=1) (A:=AV.b) (xs:=row3) rfl rfl) A3.nil)),(AM.cons (BM.f kr) (AM.cons (BM.f kr) (Ee (Ee (Ee (Ee (Ee (Ee (Ee AM.nil)))))))))⟩,B4⟩
 refine Ct<|Rg<|Aq (AV.own 1 0 s'.graph.edges.length)<|Aq (AV.i .i64 x2)<|Ap (AV.loc 1 x2.toNat 0) (GD (e:=4) (id:=1) (len:=s'.graph.edges.length) (kk:= .i64) (ob:=⟨4,1,row3.map AV.b⟩) (n:=x2) kr kr kr rfl kr sd sd)<|A4.st (x:=AV.und) (h':=⟨2,[(0,some (D0 s')),(1,some ⟨4,1,(row3.set x2.toNat true).map AV.b⟩)]⟩) (Ut (e:=4) (k:=1) (i:=VC) (id:=1) (A:=AV.b) (xs:=row3) (y:=true) (j:=x2.toNat) kr kr kr rfl sd (fun _=>rfl) kr (fun _=>rfl) (fun _=>rfl))<|Ad<|Rg<|Ap (Ai (v70+1)) (BH (i:=v70) (m:=1) kr kr sd)<|Aq (Ai (v70+1))<|Ad ?_
 try simp only [c_4,c_5,Bl] at hE3
 refine ⟨(v70+1,(row3.set x2.toNat true)),od,⟨od,by (try dsimp only)<;>(first|exact hq3|(simp only [List.length_set];exact hq3)),hE3⟩,?_⟩
 exact ⟨[0,1],⟨by decide,rfl,(A3.cons kr (A3.cons (BA (fun _=>rfl) (e:=4) (k:=1) (A:=AV.b) (xs:=(row3.set x2.toNat true)) rfl rfl) A3.nil)),(AM.cons (BM.f kr) (AM.cons (BM.f kr) (Ee (Ee (Ee (Ee (Ee (Ee (Ee AM.nil)))))))))⟩,B4⟩
 have hc3:decide (((v70:Nat):Int)<((([]:List ByteArray).length:Nat):Int))=false:=decide_eq_false (by omega)
 refine Ah.cond (t:=false) (by rw [←hc3]<;>kernel_rfl) (Ah.exit ?_)
 rw [List.drop_eq_nil_of_le (hl3),Og.eq_1] at hE3
 subst hE3
 refine Rg<|Ap (Ai (v50+1)) (BH (i:=v50) (m:=1) kr kr sd)<|Aq (Ai (v50+1))<|Ad ?_
 try simp only [z_3,hR3,Bl] at hE2
 refine ⟨(v50+1,row3),od,⟨od,by (try dsimp only)<;>(exact hq3),hE2⟩,?_⟩
 exact ⟨[0,1],⟨by decide,rfl,(A3.cons kr (A3.cons (BA (fun _=>rfl) (e:=4) (k:=1) (A:=AV.b) (xs:=row3) rfl rfl) A3.nil)),(AM.cons (BM.f kr) (AM.cons (BM.f kr) (Ee (Ee (Ee AM.nil)))))⟩,B4⟩
 refine Ni (A:=AV.s) (xs:=(EO [(s'.graph.edges.getD x2.toNat default).ins,(s'.graph.edges.getD x2.toNat default).implicit])) (vs:=[(AV.own 2 0 2)]) (ss:=[((AY 1 (AY 1 AV.s)) [(s'.graph.edges.getD x2.toNat default).ins,(s'.graph.edges.getD x2.toNat default).implicit])]) kr (show BP _ _ _ from ⟨(A1.w (A1.cast (x':=(AV.own 2 0 2)) kr kr (A1.row (fun _=>rfl) (A:=(AY 1 AV.s)) (id:=2) (e:=24) (k:=1) (xs:=[(s'.graph.edges.getD x2.toNat default).ins,(s'.graph.edges.getD x2.toNat default).implicit]) rfl rfl sd sd))),trivial⟩) (DC W [(s'.graph.edges.getD x2.toNat default).ins,(s'.graph.edges.getD x2.toNat default).implicit] (by simp only [List.flatten_cons,List.flatten_nil,List.append_nil,List.length_append];omega) z_3) (fun _=>rfl) (fun _=>rfl) le<|Dq (AV.i .i64 (((EO [(s'.graph.edges.getD x2.toNat default).ins,(s'.graph.edges.getD x2.toNat default).implicit]).length:Nat):Int))<|Dq (AV.i .i64 (0:Int))<|Aw.fin<|Ah.block ?_
 have hB3:((EO [(s'.graph.edges.getD x2.toNat default).ins,(s'.graph.edges.getD x2.toNat default).implicit]).length)≤281474976710656:=by first|omega|(simp;done)|(simp;omega)
 obtain ⟨R3,hR3⟩: ∃R,Og s' x2 (EO [(s'.graph.edges.getD x2.toNat default).ins,(s'.graph.edges.getD x2.toNat default).implicit]) 0 row2=R:=⟨_,rfl⟩
 refine BN (fun ((v702,row4):Nat×(List Bool))=>[(1,(AV.loc 0 0 0)),(4,(AV.own 1 0 s'.graph.edges.length)),(11,(AV.i .i64 x2)),(48,(DU s')),(49,(Hf s')),(50,(Ai v50)),(68,(AV.own 2 0 ((EO [(s'.graph.edges.getD x2.toNat default).ins,(s'.graph.edges.getD x2.toNat default).implicit]).length))),(69,(AV.i .i64 (((EO [(s'.graph.edges.getD x2.toNat default).ins,(s'.graph.edges.getD x2.toNat default).implicit]).length:Nat):Int))),(70,(Ai v702))]) (fun ((v702,row4):Nat×(List Bool))=>⟨3,[(0,some (D0 s')),(1,some ⟨4,1,row4.map AV.b⟩),(2,some ⟨9,1,(EO [(s'.graph.edges.getD x2.toNat default).ins,(s'.graph.edges.getD x2.toNat default).implicit]).map AV.s⟩)]⟩) (fun ((v702,row4):Nat×(List Bool))=>v702≤((EO [(s'.graph.edges.getD x2.toNat default).ins,(s'.graph.edges.getD x2.toNat default).implicit]).length)∧row4.length=s'.graph.edges.length∧Og s' x2 ((EO [(s'.graph.edges.getD x2.toNat default).ins,(s'.graph.edges.getD x2.toNat default).implicit]).drop v702) v702 row4=R3) (fun ((v702,row4):Nat×(List Bool))=>((EO [(s'.graph.edges.getD x2.toNat default).ins,(s'.graph.edges.getD x2.toNat default).implicit]).length)-v702) (0,row2) ?_ ?_ ?_
 exact ⟨[0,1,3],⟨by decide,rfl,(A3.cons kr (A3.cons (BA (fun _=>rfl) (e:=4) (k:=1) (A:=AV.b) (xs:=row2) rfl rfl) (A3.cons (BA (fun _=>rfl) (e:=9) (k:=1) (A:=AV.s) (xs:=(EO [(s'.graph.edges.getD x2.toNat default).ins,(s'.graph.edges.getD x2.toNat default).implicit])) rfl rfl) A3.nil))),(AM.cons (BM.f kr) (AM.cons (BM.f kr) (Ee (Ee (Ee (Ee (AM.cons (BM.f kr) (Ee (Ee AM.nil)))))))))⟩,B4⟩
 exact ⟨od,by (try dsimp only)<;>(exact hq2),hR3⟩
 rintro ⟨v702,row4⟩ ⟨hi3,hq3,hE3⟩
 try dsimp only
 refine Sq<|Rg<|Aq (AV.b (decide (((v702:Nat):Int)<(((EO [(s'.graph.edges.getD x2.toNat default).ins,(s'.graph.edges.getD x2.toNat default).implicit]).length:Nat):Int))))<|Ad<|Sq ?_
 rcases Nat.lt_or_ge v702 ((EO [(s'.graph.edges.getD x2.toNat default).ins,(s'.graph.edges.getD x2.toNat default).implicit]).length) with hl3|hl3
 have hc3:decide (((v702:Nat):Int)<((((EO [(s'.graph.edges.getD x2.toNat default).ins,(s'.graph.edges.getD x2.toNat default).implicit]).length):Nat):Int))=true:=decide_eq_true (by omega)
 refine Ah.cond (t:=true) (by rw [←hc3]<;>kernel_rfl) (Ah.skip ?_)
 obtain ⟨x32,hx3⟩: ∃x,(EO [(s'.graph.edges.getD x2.toNat default).ins,(s'.graph.edges.getD x2.toNat default).implicit])[v702]? =some x:=⟨_,List.getElem?_eq_getElem (by first|(simpa using hl3)|omega)⟩
 rw [BO hx3,Og.eq_2] at hE3
 have hmk:=T1 s'.graph x32
 refine Sq<|Ah.block<|Sq<|Rg<|Ap (AV.loc 2 v702 0) (Ft (e:=9) (id:=2) (len:=((EO [(s'.graph.edges.getD x2.toNat default).ins,(s'.graph.edges.getD x2.toNat default).implicit]).length)) (kk:= .i64) (ob:=⟨9,1,(EO [(s'.graph.edges.getD x2.toNat default).ins,(s'.graph.edges.getD x2.toNat default).implicit]).map AV.s⟩) (i:=v702) kr kr kr rfl kr sd)<|Ap (AV.s x32) (D4 (e:=9) (k:=1) (i:=Hz) (id:=2) (xs:=(EO [(s'.graph.edges.getD x2.toNat default).ins,(s'.graph.edges.getD x2.toNat default).implicit])) (A:=AV.s) (j:=v702) kr kr rfl hx3 kr)<|Aq (AV.s x32)<|Ad<|Sq<|Rg<|Aq (AV.loc 0 0 0)<|Aq (AV.s x32)<|A4.sfw (vs:=[(AV.loc 0 0 0),(AV.s x32)]) (ss:=[(AV.pt (AL.av s'.graph).cells),(AV.s x32)]) (r0:=(AV.i .i64 (Gp s'.graph x32))) kr (show BP _ _ _ from ⟨(A1.w (A1.cast (x':=(AV.loc 0 0 0)) kr kr (A1.wk (y':=(AV.pt (AL.av s'.graph).cells)) (E9 Av.av s' (id:=0) rfl rfl kr) (Np 3 kr)))),⟨(BP.e kr),trivial⟩⟩) (I6 W s'.graph x32) rfl kr le<|Aq (AV.i .i64 (Gp s'.graph x32))<|Ad<|Sq<|Rg<|Aq (AV.i .i64 (Gp s'.graph x32))<|Aq (AV.b (decide ((0:Int)≤(Gp s'.graph x32))))<|Aq (AV.b (decide ((0:Int)≤(Gp s'.graph x32)))) ?_
 cases c_6:decide ((0:Int)≤(Gp s'.graph x32))
 have k_6:=of_decide_eq_false c_6
 refine An<|An<|An<|An<|Aq (AV.b false)<|Ad<|Cf<|Ah.skip<|Rg<|Ap (Ai (v702+1)) (BH (i:=v702) (m:=1) kr kr sd)<|Aq (Ai (v702+1))<|Ad ?_
 try simp only [c_6,Bl] at hE3
 refine ⟨(v702+1,row4),od,⟨od,by (try dsimp only)<;>(first|exact hq3|(simp only [List.length_set];exact hq3)),hE3⟩,?_⟩
 exact ⟨[0,1,2],⟨by decide,rfl,(A3.cons kr (A3.cons (BA (fun _=>rfl) (e:=4) (k:=1) (A:=AV.b) (xs:=row4) rfl rfl) (A3.cons (BA (fun _=>rfl) (e:=9) (k:=1) (A:=AV.s) (xs:=(EO [(s'.graph.edges.getD x2.toNat default).ins,(s'.graph.edges.getD x2.toNat default).implicit])) rfl rfl) A3.nil))),(AM.cons (BM.f kr) (AM.cons (BM.f kr) (Ee (Ee (Ee (Ee (AM.cons (BM.f kr) (Ee (Ee AM.nil)))))))))⟩,B4⟩
 have k_6:=of_decide_eq_true c_6
 refine Ay<|Aq (AV.own 1 0 s'.graph.edges.length)<|Ay<|Aq (AV.i .i64 (Gp s'.graph x32))<|Ay<|Ap (AV.loc 1 ((Gp s'.graph x32).toNat) 0) (GD (e:=4) (id:=1) (len:=s'.graph.edges.length) (kk:= .i64) (ob:=⟨4,1,row4.map AV.b⟩) (n:=(Gp s'.graph x32)) kr kr kr rfl kr sd sd)<|Ay<|Ap (AV.b (row4.getD ((Gp s'.graph x32).toNat) default)) (D4 (e:=4) (k:=1) (i:=VC) (id:=1) (xs:=row4) (A:=AV.b) (j:=(Gp s'.graph x32).toNat) kr kr rfl (getD_some sd) kr)<|Aq (AV.b (row4.getD ((Gp s'.graph x32).toNat) default))<|Ad ?_
 cases c_7:(row4.getD ((Gp s'.graph x32).toNat) default)
 refine Cf<|Ah.skip<|Rg<|Ap (Ai (v702+1)) (BH (i:=v702) (m:=1) kr kr sd)<|Aq (Ai (v702+1))<|Ad ?_
 try simp only [c_6,c_7,Bl] at hE3
 refine ⟨(v702+1,row4),od,⟨od,by (try dsimp only)<;>(first|exact hq3|(simp only [List.length_set];exact hq3)),hE3⟩,?_⟩
 exact ⟨[0,1,2],⟨by decide,rfl,(A3.cons kr (A3.cons (BA (fun _=>rfl) (e:=4) (k:=1) (A:=AV.b) (xs:=row4) rfl rfl) (A3.cons (BA (fun _=>rfl) (e:=9) (k:=1) (A:=AV.s) (xs:=(EO [(s'.graph.edges.getD x2.toNat default).ins,(s'.graph.edges.getD x2.toNat default).implicit])) rfl rfl) A3.nil))),(AM.cons (BM.f kr) (AM.cons (BM.f kr) (Ee (Ee (Ee (Ee (AM.cons (BM.f kr) (Ee (Ee AM.nil)))))))))⟩,B4⟩
 refine Ct<|Rg<|Aq (AV.own 1 0 s'.graph.edges.length)<|Aq (AV.i .i64 x2)<|Ap (AV.loc 1 x2.toNat 0) (GD (e:=4) (id:=1) (len:=s'.graph.edges.length) (kk:= .i64) (ob:=⟨4,1,row4.map AV.b⟩) (n:=x2) kr kr kr rfl kr sd sd)<|A4.st (x:=AV.und) (h':=⟨3,[(0,some (D0 s')),(1,some ⟨4,1,(row4.set x2.toNat true).map AV.b⟩),(2,some ⟨9,1,(EO [(s'.graph.edges.getD x2.toNat default).ins,(s'.graph.edges.getD x2.toNat default).implicit]).map AV.s⟩)]⟩) (Ut (e:=4) (k:=1) (i:=VC) (id:=1) (A:=AV.b) (xs:=row4) (y:=true) (j:=x2.toNat) kr kr kr rfl sd (fun _=>rfl) kr (fun _=>rfl) (fun _=>rfl))<|Ad<|Rg<|Ap (Ai (v702+1)) (BH (i:=v702) (m:=1) kr kr sd)<|Aq (Ai (v702+1))<|Ad ?_
 try simp only [c_6,c_7,Bl] at hE3
 refine ⟨(v702+1,(row4.set x2.toNat true)),od,⟨od,by (try dsimp only)<;>(first|exact hq3|(simp only [List.length_set];exact hq3)),hE3⟩,?_⟩
 exact ⟨[0,1,2],⟨by decide,rfl,(A3.cons kr (A3.cons (BA (fun _=>rfl) (e:=4) (k:=1) (A:=AV.b) (xs:=(row4.set x2.toNat true)) rfl rfl) (A3.cons (BA (fun _=>rfl) (e:=9) (k:=1) (A:=AV.s) (xs:=(EO [(s'.graph.edges.getD x2.toNat default).ins,(s'.graph.edges.getD x2.toNat default).implicit])) rfl rfl) A3.nil))),(AM.cons (BM.f kr) (AM.cons (BM.f kr) (Ee (Ee (Ee (Ee (AM.cons (BM.f kr) (Ee (Ee AM.nil)))))))))⟩,B4⟩
 have hc3:decide (((v702:Nat):Int)<((((EO [(s'.graph.edges.getD x2.toNat default).ins,(s'.graph.edges.getD x2.toNat default).implicit]).length):Nat):Int))=false:=decide_eq_false (by omega)
 refine Ah.cond (t:=false) (by rw [←hc3]<;>kernel_rfl) (Ah.exit ?_)
 rw [List.drop_eq_nil_of_le (by first|(simpa using hl3)|omega),Og.eq_1] at hE3
 subst hE3
 refine Rg<|Ap (Ai (v50+1)) (BH (i:=v50) (m:=1) kr kr sd)<|Aq (Ai (v50+1))<|Ad ?_
 try simp only [hR3,Bl] at hE2
 refine ⟨(v50+1,row4),od,⟨od,by (try dsimp only)<;>(exact hq3),hE2⟩,?_⟩
 exact ⟨[0,1],⟨by decide,rfl,(A3.cons kr (A3.cons (BA (fun _=>rfl) (e:=4) (k:=1) (A:=AV.b) (xs:=row4) rfl rfl) A3.nil)),(AM.cons (BM.f kr) (AM.cons (BM.f kr) (Ee (Ee (Ee AM.nil)))))⟩,B4⟩
 have hc2:decide (((v50:Nat):Int)<((((J6 (⟨s'.graph.edges,s'.graph.pools,s'.graph.defaults⟩:AL)).1).length:Nat):Int))=false:=decide_eq_false (by omega)
 refine Ah.cond (t:=false) (by rw [←hc2]<;>kernel_rfl) (Ah.exit ?_)
 rw [List.drop_eq_nil_of_le (hl2),Ve.eq_1] at hE2
 subst hE2
 refine Sq<|Rg<|Aq (AV.own 1 0 s'.graph.edges.length)<|Aq (AV.own 1 0 s'.graph.edges.length)<|Aq (AV.i .i64 (0:Int))<|Ad<|Rt ?_
 have hM:Cp s'=(row2,(0:Int)):=by simp only [Cp,c_1,hR1,hR2,Bl]
 refine ⟨Or.inr rfl,?_⟩
 rw [hM]
 exact BM.cast (x':=(AV.tup [(AV.own 1 0 s'.graph.edges.length),(AV.i .i64 (0:Int))])) (y':=(AV.tup [((AY 1 AV.b) ((row2,(0:Int)).1)),(AV.i .i64 ((row2,(0:Int)).2))])) kr kr (BM.tup ⟨(Cz.kk (x':=(AV.own 1 0 s'.graph.edges.length)) kr kr rfl (A1.row (fun _=>rfl) (A:=AV.b) (id:=1) (e:=4) (k:=1) (xs:=row2) rfl rfl sd sd)),⟨Ec,trivial⟩⟩ kr)
 refine Ct<|Sq<|Rg<|Aq (AV.sl 1 true [])<|Aq (AV.i .i64 (1900:Int))<|Ad<|Rt ?_
 have hM:Cp s'=(([]:List Bool),(1900:Int)):=by simp only [Cp,c_1,Bl]
 refine ⟨Or.inr rfl,?_⟩
 rw [hM]
 exact BM.cast (x':=(AV.tup [(AV.sl 1 true []),(AV.i .i64 (1900:Int))])) (y':=(AV.tup [((AY 1 AV.b) ((([]:List Bool),(1900:Int)).1)),(AV.i .i64 ((([]:List Bool),(1900:Int)).2))])) kr kr (BM.tup ⟨(BM.w rfl (AH.nil 1)),⟨Ec,trivial⟩⟩ kr)
def CJ (d:AN):AV:=((AY 3 Ae.av) d.files)
def Cb:AV:=(AV.st [(AV.i .i64 (0:Int)),(AV.sl 3 true [])])
def At (d:AN):AV:=(AV.i .i64 (IntKind.wrap .i64 (d.clock+(1:Int))))
def Bb:Obj:=⟨30,2,[Cb]⟩
def Ef (d:AN):AV:=(AV.st [(At d),(AV.sl 3 true [])])
def DB:AV:=(AV.tup [Cb,(AV.i .i64 (1200:Int))])
def CT:AV:=(AV.tup [Cb,(AV.i .i64 (1201:Int))])
def D5 (name:ByteArray) (content:Int) (d:AN):Obj:=⟨85,3,[(⟨name,content,(IntKind.wrap .i64 (d.clock+(1:Int)))⟩:Ae)].map Ae.av⟩
def Fl (name:ByteArray) (content:Int) (d:AN):AV:=(AV.st [(AV.s name),(AV.i .i64 content),(At d)])
def C2 (name:ByteArray) (content:Int) (d:AN):Obj:=⟨85,3,[(Fl name content d)]⟩
def Je (d:AN):AV:=(AV.tup [(Ef d),(AV.i .i64 (0:Int))])
def GR:AV:=(AV.tup [(AN.av (((⟨(0:Int),[]⟩:AN),(1200:Int)).1)),(AV.i .i64 (((⟨(0:Int),[]⟩:AN),(1200:Int)).2))])
def Fk:AV:=(AV.tup [(AN.av (((⟨(0:Int),[]⟩:AN),(1201:Int)).1)),(AV.i .i64 (((⟨(0:Int),[]⟩:AN),(1201:Int)).2))])
theorem GI (W:World) (d:AN) (name:ByteArray) (content:Int) (hz:d.sz≤1048576):Ar Go.Proofs.Tryz.prog W 28 [(AN.av d),(AV.s name),(AV.i .i64 content)] (AV.tup [(AN.av ((PV d name content).1)),(AV.i .i64 ((PV d name content).2))]) []:=by
 have hl:=JQ Ae.sz_one d.files
 have hl2:=d.sz_files
 refine GA A6 (fn:=Go.Proofs.Tryz.f28) Go.Proofs.Tryz.func28 rfl (en28 W) le<|Sq<|Rg<|Nn (AV.loc 0 0 0) ⟨30,2,[(AN.av d)]⟩<|Nn (AV.loc 1 0 0) Bb<|Aq (AV.i .i64 (0:Int))<|Ad<|Sq<|Sq<|Rg<|Aq (AN.av d)<|A4.sc0 (vs:=[(AN.av d)]) (r0:=(AV.b (L5 d))) kr kr (Ou W d) kr le<|Aq (AV.b (!(L5 d)))<|Aq (AV.b (!(L5 d))) ?_
 cases c_1:(!(L5 d))
 refine Ay<|Aq (AV.s name)<|Ay<|A4.sc0 (vs:=[(AV.s name)]) (r0:=(AV.b (Kp name))) kr kr (LL W name) kr le<|Ay<|Aq (AV.b (!(Kp name)))<|Aq (AV.b (!(Kp name)))<|Aq (AV.b (!(Kp name))) ?_
 cases c_2:(!(Kp name))
 refine Ay<|Aq (AV.i .i64 content)<|Ay<|A4.sc0 (vs:=[(AV.i .i64 content),(AV.i .i64 (0:Int)),(AV.i .i64 (2147483647:Int))]) (r0:=(AV.b (Mq content (0:Int) (2147483647:Int)))) kr kr (IZ W content (0:Int) (2147483647:Int)) kr le<|Ay<|Aq (AV.b (!(Mq content (0:Int) (2147483647:Int))))<|Aq (AV.b (!(Mq content (0:Int) (2147483647:Int))))<|Ad ?_
 cases c_3:(!(Mq content (0:Int) (2147483647:Int)))
 refine Cf<|Ah.skip<|Sq<|Rg<|Aq (AV.s name)<|Aq (AV.i .i64 content)<|Aq (AV.loc 0 0 0)<|Aq (AV.i .i64 d.clock)<|Aq (At d)<|Nb (Fl name content d)<|Nn (AV.loc 2 0 0) ⟨85,3,[(AV.st [(AV.s (⟨#[]⟩:ByteArray)),(AV.i .i64 (0:Int)),(AV.i .i64 (0:Int))])]⟩<|Sp 2 (C2 name content d)<|Ad<|Sq<|Rg<|Aq (AV.loc 0 0 0)<|Aq (AV.i .i64 d.clock)<|Aq (At d)<|Nb (Ef d)<|Nn (AV.loc 3 0 0) Bb<|Sp 3 ⟨30,2,[(Ef d)]⟩<|Ad<|Sq<|Rg<|Aq (AV.b false)<|Ad<|Sq<|Sq<|Rg<|Aq (AV.i .i64 (0:Int))<|Ad<|Ah.block<|Ah.lim 0 (x:=(AN.av d)) kr fun hlm1=> ?_
 have hB1:d.files.length≤281474976710656:=Dj (KX hlm1)
 obtain ⟨R1,hR1⟩: ∃R,Pf name content d d.files 0 false []=R:=⟨_,rfl⟩
 refine BN (fun ((in',i,cell):Bool×Nat×(List Ae))=>[(1,(AV.s name)),(3,(AV.loc 0 0 0)),(6,(AV.loc 1 0 0)),(8,(AV.loc 2 0 0)),(9,(AV.loc 3 0 0)),(10,(AV.b in')),(11,(Ai i))]) (fun ((in',i,cell):Bool×Nat×(List Ae))=>⟨5,[(0,some ⟨30,2,[(AN.av d)]⟩),(1,some Bb),(2,some (C2 name content d)),(4,L3 85 3 Ae.av cell),(3,some ⟨30,2,[(AV.st [(At d),(Ch 4 3 Ae.av cell)])]⟩)]⟩) (fun ((in',i,cell):Bool×Nat×(List Ae))=>i≤d.files.length∧cell.length≤2*i∧Pf name content d (d.files.drop i) i in' cell=R1) (fun ((in',i,cell):Bool×Nat×(List Ae))=>d.files.length-i) (false,0,[]) ?_ ?_ ?_
 exact ⟨[0,1,2,3,1000004],⟨by decide,rfl,(A3.cons kr (A3.cons kr (A3.cons kr (A3.cons (Ty (e:=30) (k:=2) (xs:=[(Ef d)]) (ys:=[(AV.st [(At d),(Ch 4 3 Ae.av [])])]) rfl (CO.cons (Ml (CO.cons (P4 kr) (CO.cons rfl CO.nil))) CO.nil) rfl) (A3.cons rfl A3.nil))))),(Ee (AM.cons (BM.f kr) (AM.cons (BM.f kr) (AM.cons (BM.f kr) (AM.cons (BM.f kr) (Ee (Ee AM.nil)))))))⟩,B4⟩
 exact ⟨od,Ka,hR1⟩
 rintro ⟨in',i,cell⟩ ⟨hi1,ha,hE1⟩
 try dsimp only
 refine Sq<|Sq<|Rg<|Aq (Ai i)<|Aq (AV.loc 0 0 1)<|Aq (CJ d)<|Ap (Ai d.files.length) (CA (k:=3) (nl:=false) (e:=85) (A:=Ae.av) (xs:=d.files) kr kr)<|Aq (AV.b (decide (((i:Nat):Int)<((d.files.length:Nat):Int))))<|Ad ?_
 rcases Nat.lt_or_ge i d.files.length with hl1|hl1
 have hc1:decide (((i:Nat):Int)<((d.files.length:Nat):Int))=true:=decide_eq_true (by omega)
 refine Ah.cond (t:=true) (by rw [←hc1]<;>kernel_rfl) (Ah.skip ?_)
 obtain ⟨x1,hx1⟩: ∃x,d.files[i]? =some x:=⟨_,List.getElem?_eq_getElem hl1⟩
 rw [BO hx1,Pf.eq_2] at hE1
 refine Sq<|Ah.block<|Sq<|Sq<|Rg<|Aq (AV.b in')<|Aq (AV.b (!in'))<|Aq (AV.b (!in')) ?_
 cases c_4:(!in')
 refine An<|An<|An<|An<|An<|An<|An<|An<|Aq (AV.b false)<|Ad<|Cf<|Ah.skip<|Sq<|Rg<|Aq (AV.loc 0 0 1)<|Aq (CJ d)<|Aq (Ai i)<|Ap (AV.pt (Ae.av x1).cells) (CP (k:=3) (nl:=false) (e:=85) (kk:= .i64) (A:=Ae.av) (xs:=d.files) (i:=i) kr kr kr ⟨by kernel_rfl,by decide⟩ hx1)<|Aq (AV.pt ((Ae.av x1).cells.drop 0))<|Aq (AV.s x1.name)<|Aq (AV.s name)<|Aq (AV.b (!decide (x1.name=name)))<|Ad ?_
 cases c_5:(!decide (x1.name=name))
 refine Cf<|Ah.skip<|Rg<|Aq (Ai i)<|Ap (Ai (i+1)) (BH (i:=i) (m:=1) kr kr sd)<|Aq (Ai (i+1))<|Ad ?_
 try simp only [c_4,c_5,Bl] at hE1
 refine ⟨(in',i+1,cell),od,⟨od,Ka,hE1⟩,?_⟩
 exact ⟨[0,1,2,3,4],⟨by decide,rfl,(A3.cons kr (A3.cons kr (A3.cons kr (A3.cons (Ty (e:=30) (k:=2) (xs:=[(AV.st [(At d),(Ch 4 3 Ae.av cell)])]) (ys:=[(AV.st [(At d),(Ch 4 3 Ae.av cell)])]) rfl (CO.cons (Ml (CO.cons (P4 kr) (CO.cons (Us rfl) CO.nil))) CO.nil) rfl) (A3.cons (I2 (fun _=>rfl) (e:=85) (k:=3) (A:=Ae.av) (xs:=cell) rfl rfl) A3.nil))))),(Ee (AM.cons (BM.f kr) (AM.cons (BM.f kr) (AM.cons (BM.f kr) (AM.cons (BM.f kr) (Ee (Ee AM.nil)))))))⟩,B4⟩
 refine Ct<|Ah.drawn A6 E5 8 kr le<|Dq (AV.loc 3 0 1)<|Dq (Ch 4 3 Ae.av cell)<|Dq (AV.loc 0 0 1)<|Dq (CJ d)<|Dq (Ai i)<|Dp (AV.pt (Ae.av x1).cells) (CP (k:=3) (nl:=false) (e:=85) (kk:= .i64) (A:=Ae.av) (xs:=d.files) (i:=i) kr kr kr ⟨by kernel_rfl,by decide⟩ hx1)<|Dq (Ae.av x1)<|Aw.sn (x:=(AV.own 5 0 1)) (h':=⟨6,[(5,some ⟨85,3,[x1].map Ae.av⟩),(0,some ⟨30,2,[(AN.av d)]⟩),(1,some Bb),(2,some (C2 name content d)),(4,L3 85 3 Ae.av cell),(3,some ⟨30,2,[(AV.st [(At d),(Ch 4 3 Ae.av cell)])]⟩)]⟩) kr le<|Aw.se (by decide) (x:=(AV.own 6 0 ((cell++[x1]).length))) (h':=⟨7,[(6,some ⟨85,3,(cell++[x1]).map Ae.av⟩),(5,some ⟨85,3,[x1].map Ae.av⟩),(0,some ⟨30,2,[(AN.av d)]⟩),(1,some Bb),(2,some (C2 name content d)),(4,none),(3,some ⟨30,2,[(AV.st [(At d),(Ch 4 3 Ae.av cell)])]⟩)]⟩) (P6 (e:=85) (X:=(AV.own 5 0 1)) (A:=Ae.av) (i:=Tp) (p:=4) (xs:=cell) (ys:=[x1]) kr kr kr (hx:=kr) kr (by simp) ⟨by decide,by kernel_rfl⟩ rfl (by intro q;first|(subst q;rfl)|(rw [q];rfl)|(simp only [q];rfl)) (by show _*32≤140737488355328;first|omega|(simp only [List.length_append,List.length_cons,List.length_nil,List.length_set,List.length_replicate];omega)|(simp;omega)) sd) le ?_
 refine Dq (AV.loc 3 0 1)<|Aw.st (by decide) (x:=AV.und) (h':=⟨7,[(6,some ⟨85,3,(cell++[x1]).map Ae.av⟩),(5,some ⟨85,3,[x1].map Ae.av⟩),(0,some ⟨30,2,[(AN.av d)]⟩),(1,some Bb),(2,some (C2 name content d)),(4,none),(3,some ⟨30,2,[(AV.st [(At d),(AV.own 6 0 ((cell++[x1]).length))])]⟩)]⟩) kr<|Aw.fin<|Rg<|Aq (Ai i)<|Ap (Ai (i+1)) (BH (i:=i) (m:=1) kr kr sd)<|Aq (Ai (i+1))<|Ad ?_
 try simp only [c_4,c_5,Bl] at hE1
 refine ⟨(in',i+1,(cell++[x1])),od,⟨od,Ka,hE1⟩,?_⟩
 exact ⟨[0,1,2,3,6],⟨by decide,rfl,(A3.cons kr (A3.cons kr (A3.cons kr (A3.cons (Ty (e:=30) (k:=2) (xs:=[(AV.st [(At d),(AV.own 6 0 ((cell++[x1]).length))])]) (ys:=[(AV.st [(At d),(Ch 4 3 Ae.av (cell++[x1]))])]) rfl (CO.cons (Ml (CO.cons (P4 kr) (CO.cons (Oy (A:=Ae.av) (k:=3) (xs:=(cell++[x1])) (by simp) rfl rfl) CO.nil))) CO.nil) rfl) (A3.cons (Ja (fun _=>rfl) (e:=85) (k:=3) (A:=Ae.av) (xs:=(cell++[x1])) (by simp) rfl rfl) A3.nil))))),(Ee (AM.cons (BM.f kr) (AM.cons (BM.f kr) (AM.cons (BM.f kr) (AM.cons (BM.f kr) (Ee (Ee AM.nil)))))))⟩,B4⟩
 refine Ay<|Aq (AV.loc 0 0 1)<|Ay<|Aq (CJ d)<|Ay<|Aq (Ai i)<|Ay<|Ap (AV.pt (Ae.av x1).cells) (CP (k:=3) (nl:=false) (e:=85) (kk:= .i64) (A:=Ae.av) (xs:=d.files) (i:=i) kr kr kr ⟨by kernel_rfl,by decide⟩ hx1)<|Ay<|Aq (AV.pt ((Ae.av x1).cells.drop 0))<|Ay<|Aq (AV.s x1.name)<|Ay<|Aq (AV.s name)<|Ay<|Aq (AV.b (!Op.bytesLess x1.name.toList name.toList))<|Aq (AV.b (!Op.bytesLess x1.name.toList name.toList))<|Ad ?_
 cases c_6:(!Op.bytesLess x1.name.toList name.toList)
 refine Cf<|Ah.skip<|Sq<|Rg<|Aq (AV.loc 0 0 1)<|Aq (CJ d)<|Aq (Ai i)<|Ap (AV.pt (Ae.av x1).cells) (CP (k:=3) (nl:=false) (e:=85) (kk:= .i64) (A:=Ae.av) (xs:=d.files) (i:=i) kr kr kr ⟨by kernel_rfl,by decide⟩ hx1)<|Aq (AV.pt ((Ae.av x1).cells.drop 0))<|Aq (AV.s x1.name)<|Aq (AV.s name)<|Aq (AV.b (!decide (x1.name=name)))<|Ad ?_
 cases c_7:(!decide (x1.name=name))
 refine Cf<|Ah.skip<|Rg<|Aq (Ai i)<|Ap (Ai (i+1)) (BH (i:=i) (m:=1) kr kr sd)<|Aq (Ai (i+1))<|Ad ?_
 try simp only [c_4,c_6,c_7,Bl] at hE1
 refine ⟨(in',i+1,cell),od,⟨od,Ka,hE1⟩,?_⟩
 exact ⟨[0,1,2,3,4],⟨by decide,rfl,(A3.cons kr (A3.cons kr (A3.cons kr (A3.cons (Ty (e:=30) (k:=2) (xs:=[(AV.st [(At d),(Ch 4 3 Ae.av cell)])]) (ys:=[(AV.st [(At d),(Ch 4 3 Ae.av cell)])]) rfl (CO.cons (Ml (CO.cons (P4 kr) (CO.cons (Us rfl) CO.nil))) CO.nil) rfl) (A3.cons (I2 (fun _=>rfl) (e:=85) (k:=3) (A:=Ae.av) (xs:=cell) rfl rfl) A3.nil))))),(Ee (AM.cons (BM.f kr) (AM.cons (BM.f kr) (AM.cons (BM.f kr) (AM.cons (BM.f kr) (Ee (Ee AM.nil)))))))⟩,B4⟩
 refine Ct<|Ah.drawn A6 E5 8 kr le<|Dq (AV.loc 3 0 1)<|Dq (Ch 4 3 Ae.av cell)<|Dq (AV.loc 0 0 1)<|Dq (CJ d)<|Dq (Ai i)<|Dp (AV.pt (Ae.av x1).cells) (CP (k:=3) (nl:=false) (e:=85) (kk:= .i64) (A:=Ae.av) (xs:=d.files) (i:=i) kr kr kr ⟨by kernel_rfl,by decide⟩ hx1)<|Dq (Ae.av x1)<|Aw.sn (x:=(AV.own 5 0 1)) (h':=⟨6,[(5,some ⟨85,3,[x1].map Ae.av⟩),(0,some ⟨30,2,[(AN.av d)]⟩),(1,some Bb),(2,some (C2 name content d)),(4,L3 85 3 Ae.av cell),(3,some ⟨30,2,[(AV.st [(At d),(Ch 4 3 Ae.av cell)])]⟩)]⟩) kr le<|Aw.se (by decide) (x:=(AV.own 6 0 ((cell++[x1]).length))) (h':=⟨7,[(6,some ⟨85,3,(cell++[x1]).map Ae.av⟩),(5,some ⟨85,3,[x1].map Ae.av⟩),(0,some ⟨30,2,[(AN.av d)]⟩),(1,some Bb),(2,some (C2 name content d)),(4,none),(3,some ⟨30,2,[(AV.st [(At d),(Ch 4 3 Ae.av cell)])]⟩)]⟩) (P6 (e:=85) (X:=(AV.own 5 0 1)) (A:=Ae.av) (i:=Tp) (p:=4) (xs:=cell) (ys:=[x1]) kr kr kr (hx:=kr) kr (by simp) ⟨by decide,by kernel_rfl⟩ rfl (by intro q;first|(subst q;rfl)|(rw [q];rfl)|(simp only [q];rfl)) (by show _*32≤140737488355328;first|omega|(simp only [List.length_append,List.length_cons,List.length_nil,List.length_set,List.length_replicate];omega)|(simp;omega)) sd) le ?_
 refine Dq (AV.loc 3 0 1)<|Aw.st (by decide) (x:=AV.und) (h':=⟨7,[(6,some ⟨85,3,(cell++[x1]).map Ae.av⟩),(5,some ⟨85,3,[x1].map Ae.av⟩),(0,some ⟨30,2,[(AN.av d)]⟩),(1,some Bb),(2,some (C2 name content d)),(4,none),(3,some ⟨30,2,[(AV.st [(At d),(AV.own 6 0 ((cell++[x1]).length))])]⟩)]⟩) kr<|Aw.fin<|Rg<|Aq (Ai i)<|Ap (Ai (i+1)) (BH (i:=i) (m:=1) kr kr sd)<|Aq (Ai (i+1))<|Ad ?_
 try simp only [c_4,c_6,c_7,Bl] at hE1
 refine ⟨(in',i+1,(cell++[x1])),od,⟨od,Ka,hE1⟩,?_⟩
 exact ⟨[0,1,2,3,6],⟨by decide,rfl,(A3.cons kr (A3.cons kr (A3.cons kr (A3.cons (Ty (e:=30) (k:=2) (xs:=[(AV.st [(At d),(AV.own 6 0 ((cell++[x1]).length))])]) (ys:=[(AV.st [(At d),(Ch 4 3 Ae.av (cell++[x1]))])]) rfl (CO.cons (Ml (CO.cons (P4 kr) (CO.cons (Oy (A:=Ae.av) (k:=3) (xs:=(cell++[x1])) (by simp) rfl rfl) CO.nil))) CO.nil) rfl) (A3.cons (Ja (fun _=>rfl) (e:=85) (k:=3) (A:=Ae.av) (xs:=(cell++[x1])) (by simp) rfl rfl) A3.nil))))),(Ee (AM.cons (BM.f kr) (AM.cons (BM.f kr) (AM.cons (BM.f kr) (AM.cons (BM.f kr) (Ee (Ee AM.nil)))))))⟩,B4⟩
 refine Ct<|Sq<|Rg<|Aq (AV.loc 3 0 1)<|Aq (Ch 4 3 Ae.av cell)<|Aq (Fl name content d)<|Nn (AV.own 5 0 1) (D5 name content d)<|A4.se (x:=(AV.own 6 0 ((cell++[(⟨name,content,(IntKind.wrap .i64 (d.clock+(1:Int)))⟩:Ae)]).length))) (h':=⟨7,[(6,some ⟨85,3,(cell++[(⟨name,content,(IntKind.wrap .i64 (d.clock+(1:Int)))⟩:Ae)]).map Ae.av⟩),(5,some (D5 name content d)),(0,some ⟨30,2,[(AN.av d)]⟩),(1,some Bb),(2,some (C2 name content d)),(4,none),(3,some ⟨30,2,[(AV.st [(At d),(Ch 4 3 Ae.av cell)])]⟩)]⟩) (P6 (e:=85) (X:=(AV.own 5 0 1)) (A:=Ae.av) (i:=Tp) (p:=4) (xs:=cell) (ys:=[(⟨name,content,(IntKind.wrap .i64 (d.clock+(1:Int)))⟩:Ae)]) kr kr kr (hx:=kr) kr (by simp) ⟨by decide,by kernel_rfl⟩ rfl (by intro q;first|(subst q;rfl)|(rw [q];rfl)|(simp only [q];rfl)) (by show _*32≤140737488355328;first|omega|(simp only [List.length_append,List.length_cons,List.length_nil,List.length_set,List.length_replicate];omega)|(simp;omega)) sd) le<|Aq (AV.loc 3 0 1) ?_
 refine Sp 3 ⟨30,2,[(AV.st [(At d),(AV.own 6 0 ((cell++[(⟨name,content,(IntKind.wrap .i64 (d.clock+(1:Int)))⟩:Ae)]).length))])]⟩<|Ad<|Rg<|Aq (AV.b true)<|Ad<|Sq<|Rg<|Aq (AV.loc 0 0 1)<|Aq (CJ d)<|Aq (Ai i)<|Ap (AV.pt (Ae.av x1).cells) (CP (k:=3) (nl:=false) (e:=85) (kk:= .i64) (A:=Ae.av) (xs:=d.files) (i:=i) kr kr kr ⟨by kernel_rfl,by decide⟩ hx1)<|Aq (AV.pt ((Ae.av x1).cells.drop 0))<|Aq (AV.s x1.name)<|Aq (AV.s name)<|Aq (AV.b (!decide (x1.name=name)))<|Ad ?_
 cases c_8:(!decide (x1.name=name))
 refine Cf<|Ah.skip<|Rg<|Aq (Ai i)<|Ap (Ai (i+1)) (BH (i:=i) (m:=1) kr kr sd)<|Aq (Ai (i+1))<|Ad ?_
 try simp only [c_4,c_6,c_8,Bl] at hE1
 refine ⟨(true,i+1,(cell++[(⟨name,content,(IntKind.wrap .i64 (d.clock+(1:Int)))⟩:Ae)])),od,⟨od,Ka,hE1⟩,?_⟩
 exact ⟨[0,1,2,3,6],⟨by decide,rfl,(A3.cons kr (A3.cons kr (A3.cons kr (A3.cons (Ty (e:=30) (k:=2) (xs:=[(AV.st [(At d),(AV.own 6 0 ((cell++[(⟨name,content,(IntKind.wrap .i64 (d.clock+(1:Int)))⟩:Ae)]).length))])]) (ys:=[(AV.st [(At d),(Ch 4 3 Ae.av (cell++[(⟨name,content,(IntKind.wrap .i64 (d.clock+(1:Int)))⟩:Ae)]))])]) rfl (CO.cons (Ml (CO.cons (P4 kr) (CO.cons (Oy (A:=Ae.av) (k:=3) (xs:=(cell++[(⟨name,content,(IntKind.wrap .i64 (d.clock+(1:Int)))⟩:Ae)])) (by simp) rfl rfl) CO.nil))) CO.nil) rfl) (A3.cons (Ja (fun _=>rfl) (e:=85) (k:=3) (A:=Ae.av) (xs:=(cell++[(⟨name,content,(IntKind.wrap .i64 (d.clock+(1:Int)))⟩:Ae)])) (by simp) rfl rfl) A3.nil))))),(Ee (AM.cons (BM.f kr) (AM.cons (BM.f kr) (AM.cons (BM.f kr) (AM.cons (BM.f kr) (Ee (Ee AM.nil)))))))⟩,B4⟩
 refine Ct<|Ah.drawn A6 E5 8 kr le<|Dq (AV.loc 3 0 1)<|Dq (AV.own 6 0 ((cell++[(⟨name,content,(IntKind.wrap .i64 (d.clock+(1:Int)))⟩:Ae)]).length))<|Dq (AV.loc 0 0 1)<|Dq (CJ d)<|Dq (Ai i)<|Dp (AV.pt (Ae.av x1).cells) (CP (k:=3) (nl:=false) (e:=85) (kk:= .i64) (A:=Ae.av) (xs:=d.files) (i:=i) kr kr kr ⟨by kernel_rfl,by decide⟩ hx1)<|Dq (Ae.av x1)<|Aw.sn (x:=(AV.own 7 0 1)) (h':=⟨8,[(7,some ⟨85,3,[x1].map Ae.av⟩),(6,some ⟨85,3,(cell++[(⟨name,content,(IntKind.wrap .i64 (d.clock+(1:Int)))⟩:Ae)]).map Ae.av⟩),(5,some (D5 name content d)),(0,some ⟨30,2,[(AN.av d)]⟩),(1,some Bb),(2,some (C2 name content d)),(4,none),(3,some ⟨30,2,[(AV.st [(At d),(AV.own 6 0 ((cell++[(⟨name,content,(IntKind.wrap .i64 (d.clock+(1:Int)))⟩:Ae)]).length))])]⟩)]⟩) kr le<|Aw.se (by decide) (x:=(AV.own 8 0 (((cell++[(⟨name,content,(IntKind.wrap .i64 (d.clock+(1:Int)))⟩:Ae)])++[x1]).length))) (h':=⟨9,[(8,some ⟨85,3,((cell++[(⟨name,content,(IntKind.wrap .i64 (d.clock+(1:Int)))⟩:Ae)])++[x1]).map Ae.av⟩),(7,some ⟨85,3,[x1].map Ae.av⟩),(6,none),(5,some (D5 name content d)),(0,some ⟨30,2,[(AN.av d)]⟩),(1,some Bb),(2,some (C2 name content d)),(4,none),(3,some ⟨30,2,[(AV.st [(At d),(AV.own 6 0 ((cell++[(⟨name,content,(IntKind.wrap .i64 (d.clock+(1:Int)))⟩:Ae)]).length))])]⟩)]⟩) (KL (len:=((cell++[(⟨name,content,(IntKind.wrap .i64 (d.clock+(1:Int)))⟩:Ae)]).length)) (e:=85) (X:=(AV.own 7 0 1)) (A:=Ae.av) (i:=Tp) (p:=6) (xs:=(cell++[(⟨name,content,(IntKind.wrap .i64 (d.clock+(1:Int)))⟩:Ae)])) (ys:=[x1]) kr kr kr (hx:=kr) kr ⟨by decide,by kernel_rfl⟩ rfl rfl (by show _*32≤140737488355328;first|omega|(simp only [List.length_append,List.length_cons,List.length_nil,List.length_set,List.length_replicate];omega)|(simp;omega)) sd) le ?_
 refine Dq (AV.loc 3 0 1)<|Aw.st (by decide) (x:=AV.und) (h':=⟨9,[(8,some ⟨85,3,((cell++[(⟨name,content,(IntKind.wrap .i64 (d.clock+(1:Int)))⟩:Ae)])++[x1]).map Ae.av⟩),(7,some ⟨85,3,[x1].map Ae.av⟩),(6,none),(5,some (D5 name content d)),(0,some ⟨30,2,[(AN.av d)]⟩),(1,some Bb),(2,some (C2 name content d)),(4,none),(3,some ⟨30,2,[(AV.st [(At d),(AV.own 8 0 (((cell++[(⟨name,content,(IntKind.wrap .i64 (d.clock+(1:Int)))⟩:Ae)])++[x1]).length))])]⟩)]⟩) kr<|Aw.fin<|Rg<|Aq (Ai i)<|Ap (Ai (i+1)) (BH (i:=i) (m:=1) kr kr sd)<|Aq (Ai (i+1))<|Ad ?_
 try simp only [c_4,c_6,c_8,Bl] at hE1
 refine ⟨(true,i+1,((cell++[(⟨name,content,(IntKind.wrap .i64 (d.clock+(1:Int)))⟩:Ae)])++[x1])),od,⟨od,Ka,hE1⟩,?_⟩
 exact ⟨[0,1,2,3,8],⟨by decide,rfl,(A3.cons kr (A3.cons kr (A3.cons kr (A3.cons (Ty (e:=30) (k:=2) (xs:=[(AV.st [(At d),(AV.own 8 0 (((cell++[(⟨name,content,(IntKind.wrap .i64 (d.clock+(1:Int)))⟩:Ae)])++[x1]).length))])]) (ys:=[(AV.st [(At d),(Ch 4 3 Ae.av ((cell++[(⟨name,content,(IntKind.wrap .i64 (d.clock+(1:Int)))⟩:Ae)])++[x1]))])]) rfl (CO.cons (Ml (CO.cons (P4 kr) (CO.cons (Oy (A:=Ae.av) (k:=3) (xs:=((cell++[(⟨name,content,(IntKind.wrap .i64 (d.clock+(1:Int)))⟩:Ae)])++[x1])) (by simp) rfl rfl) CO.nil))) CO.nil) rfl) (A3.cons (Ja (fun _=>rfl) (e:=85) (k:=3) (A:=Ae.av) (xs:=((cell++[(⟨name,content,(IntKind.wrap .i64 (d.clock+(1:Int)))⟩:Ae)])++[x1])) (by simp) rfl rfl) A3.nil))))),(Ee (AM.cons (BM.f kr) (AM.cons (BM.f kr) (AM.cons (BM.f kr) (AM.cons (BM.f kr) (Ee (Ee AM.nil)))))))⟩,B4⟩
 have hc1:decide (((i:Nat):Int)<((d.files.length:Nat):Int))=false:=decide_eq_false (by omega)
 refine Ah.cond (t:=false) (by rw [←hc1]<;>kernel_rfl) (Ah.exit ?_)
 rw [List.drop_eq_nil_of_le (hl1),Pf.eq_1] at hE1
 subst hE1
 refine Sq<|Sq<|Rg<|Aq (AV.b in')<|Aq (AV.b (!in'))<|Ad ?_
 cases c_9:(!in')
 refine Cf<|Ah.skip<|Sq<|Sq<|Rg<|Aq (AV.loc 3 0 0)<|Aq (At d)<|Aq (AV.b (decide ((1048576:Int)<(IntKind.wrap .i64 (d.clock+(1:Int))))))<|Aq (AV.b (decide ((1048576:Int)<(IntKind.wrap .i64 (d.clock+(1:Int)))))) ?_
 cases c_10:decide ((1048576:Int)<(IntKind.wrap .i64 (d.clock+(1:Int))))
 have k_10:=of_decide_eq_false c_10
 refine Ay<|Aq (AV.loc 3 0 1)<|Ay<|Aq (Ch 4 3 Ae.av cell)<|Ay<|Ap (Ai cell.length) (SG (e:=85) (A:=Ae.av) (xs:=cell) (p:=4) (k:=3) kr kr (fun q=>Sv (e:=85) (k:=3) (A:=Ae.av) q rfl))<|Ay<|Aq (AV.b (decide ((64:Int)<((cell.length:Nat):Int))))<|Aq (AV.b (decide ((64:Int)<((cell.length:Nat):Int))))<|Ad ?_
 cases c_11:decide ((64:Int)<((cell.length:Nat):Int))
 have k_11:=of_decide_eq_false c_11
 refine Cf<|Ah.skip<|Sq<|Rg<|Aq (AV.st [(At d),(Ch 4 3 Ae.av cell)]) ?_
 by_cases z_12:cell=[]
 simp only [accV_e z_12,accO_e z_12]
 refine Sp 1 ⟨30,2,[(Ef d)]⟩<|Aq (AV.i .i64 (0:Int))<|Ad<|Rt ?_
 have hM:PV d name content=((⟨(IntKind.wrap .i64 (d.clock+(1:Int))),[]⟩:AN),(0:Int)):=by simp only [PV,c_1,c_2,c_3,hR1,c_9,c_10,c_11,Bl];rw [z_12]
 refine ⟨Or.inr rfl,(Je d),kr,?_⟩
 rw [hM]
 exact BM.cast (x':=(Je d)) (y':=(AV.tup [(AN.av (((⟨(IntKind.wrap .i64 (d.clock+(1:Int))),[]⟩:AN),(0:Int)).1)),(AV.i .i64 (((⟨(IntKind.wrap .i64 (d.clock+(1:Int))),[]⟩:AN),(0:Int)).2))])) kr kr (BM.tup ⟨(BM.st ⟨Ec,⟨(BM.w rfl (AH.nil 3)),trivial⟩⟩ kr),⟨Ec,trivial⟩⟩ kr)
 simp only [VU z_12,VT z_12]
 refine Sp 1 ⟨30,2,[(AV.st [(At d),(AV.own 4 0 cell.length)])]⟩<|Aq (AV.i .i64 (0:Int))<|Ad<|Rt ?_
 have hM:PV d name content=((⟨(IntKind.wrap .i64 (d.clock+(1:Int))),cell⟩:AN),(0:Int)):=by simp only [PV,c_1,c_2,c_3,hR1,c_9,c_10,c_11,Bl]
 refine ⟨Or.inr rfl,(AV.tup [(AV.st [(At d),(AV.own 4 0 cell.length)]),(AV.i .i64 (0:Int))]),kr,?_⟩
 rw [hM]
 exact BM.cast (x':=(AV.tup [(AV.st [(At d),(AV.own 4 0 cell.length)]),(AV.i .i64 (0:Int))])) (y':=(AV.tup [(AN.av (((⟨(IntKind.wrap .i64 (d.clock+(1:Int))),cell⟩:AN),(0:Int)).1)),(AV.i .i64 (((⟨(IntKind.wrap .i64 (d.clock+(1:Int))),cell⟩:AN),(0:Int)).2))])) kr kr (BM.tup ⟨(BM.st ⟨Ec,⟨(Cz.kk (x':=(AV.own 4 0 cell.length)) kr kr rfl (A1.row (fun _=>rfl) (A:=Ae.av) (id:=4) (e:=85) (k:=3) (xs:=cell) rfl rfl rfl sd)),trivial⟩⟩ kr),⟨Ec,trivial⟩⟩ kr)
 have k_11:=of_decide_eq_true c_11
 refine Ct<|Sq<|Rg<|Nb Cb<|Sp 1 Bb<|Aq (AV.i .i64 (1201:Int))<|Ad<|Rt ?_
 have hM:PV d name content=((⟨(0:Int),[]⟩:AN),(1201:Int)):=by simp only [PV,c_1,c_2,c_3,hR1,c_9,c_10,c_11,Bl]
 refine ⟨Or.inr rfl,CT,kr,?_⟩
 rw [hM]
 exact BM.cast (x':=CT) (y':=Fk) kr kr (BM.tup ⟨(BM.st ⟨Ec,⟨(BM.w rfl (AH.nil 3)),trivial⟩⟩ kr),⟨Ec,trivial⟩⟩ kr)
 have k_10:=of_decide_eq_true c_10
 refine An<|An<|An<|An<|Aq (AV.b true)<|Ad<|Ct<|Sq<|Rg<|Nb Cb<|Sp 1 Bb<|Aq (AV.i .i64 (1201:Int))<|Ad<|Rt ?_
 have hM:PV d name content=((⟨(0:Int),[]⟩:AN),(1201:Int)):=by simp only [PV,c_1,c_2,c_3,hR1,c_9,c_10,Bl]
 refine ⟨Or.inr rfl,CT,kr,?_⟩
 rw [hM]
 exact BM.cast (x':=CT) (y':=Fk) kr kr (BM.tup ⟨(BM.st ⟨Ec,⟨(BM.w rfl (AH.nil 3)),trivial⟩⟩ kr),⟨Ec,trivial⟩⟩ kr)
 refine Ct<|Rg<|Aq (AV.loc 3 0 1)<|Aq (Ch 4 3 Ae.av cell)<|Aq (Fl name content d)<|Nn (AV.own 5 0 1) (D5 name content d)<|A4.se (x:=(AV.own 6 0 ((cell++[(⟨name,content,(IntKind.wrap .i64 (d.clock+(1:Int)))⟩:Ae)]).length))) (h':=⟨7,[(6,some ⟨85,3,(cell++[(⟨name,content,(IntKind.wrap .i64 (d.clock+(1:Int)))⟩:Ae)]).map Ae.av⟩),(5,some (D5 name content d)),(0,some ⟨30,2,[(AN.av d)]⟩),(1,some Bb),(2,some (C2 name content d)),(4,none),(3,some ⟨30,2,[(AV.st [(At d),(Ch 4 3 Ae.av cell)])]⟩)]⟩) (P6 (e:=85) (X:=(AV.own 5 0 1)) (A:=Ae.av) (i:=Tp) (p:=4) (xs:=cell) (ys:=[(⟨name,content,(IntKind.wrap .i64 (d.clock+(1:Int)))⟩:Ae)]) kr kr kr (hx:=kr) kr (by simp) ⟨by decide,by kernel_rfl⟩ rfl (by intro q;first|(subst q;rfl)|(rw [q];rfl)|(simp only [q];rfl)) (by show _*32≤140737488355328;first|omega|(simp only [List.length_append,List.length_cons,List.length_nil,List.length_set,List.length_replicate];omega)|(simp;omega)) sd) le<|Aq (AV.loc 3 0 1) ?_
 refine Sp 3 ⟨30,2,[(AV.st [(At d),(AV.own 6 0 ((cell++[(⟨name,content,(IntKind.wrap .i64 (d.clock+(1:Int)))⟩:Ae)]).length))])]⟩<|Ad<|Sq<|Sq<|Rg<|Aq (AV.loc 3 0 0)<|Aq (At d)<|Aq (AV.b (decide ((1048576:Int)<(IntKind.wrap .i64 (d.clock+(1:Int))))))<|Aq (AV.b (decide ((1048576:Int)<(IntKind.wrap .i64 (d.clock+(1:Int)))))) ?_
 cases c_13:decide ((1048576:Int)<(IntKind.wrap .i64 (d.clock+(1:Int))))
 have k_13:=of_decide_eq_false c_13
 refine Ay<|Aq (AV.loc 3 0 1)<|Ay<|Aq (AV.own 6 0 ((cell++[(⟨name,content,(IntKind.wrap .i64 (d.clock+(1:Int)))⟩:Ae)]).length))<|Ay<|Aq (AV.i .i64 (((cell++[(⟨name,content,(IntKind.wrap .i64 (d.clock+(1:Int)))⟩:Ae)]).length:Nat):Int))<|Ay<|Aq (AV.b (decide ((64:Int)<(((cell++[(⟨name,content,(IntKind.wrap .i64 (d.clock+(1:Int)))⟩:Ae)]).length:Nat):Int))))<|Aq (AV.b (decide ((64:Int)<(((cell++[(⟨name,content,(IntKind.wrap .i64 (d.clock+(1:Int)))⟩:Ae)]).length:Nat):Int))))<|Ad ?_
 cases c_14:decide ((64:Int)<(((cell++[(⟨name,content,(IntKind.wrap .i64 (d.clock+(1:Int)))⟩:Ae)]).length:Nat):Int))
 have k_14:=of_decide_eq_false c_14
 refine Cf<|Ah.skip<|Sq<|Rg<|Aq (AV.st [(At d),(AV.own 6 0 ((cell++[(⟨name,content,(IntKind.wrap .i64 (d.clock+(1:Int)))⟩:Ae)]).length))])<|Sp 1 ⟨30,2,[(AV.st [(At d),(AV.own 6 0 ((cell++[(⟨name,content,(IntKind.wrap .i64 (d.clock+(1:Int)))⟩:Ae)]).length))])]⟩<|Aq (AV.i .i64 (0:Int))<|Ad<|Rt ?_
 have hM:PV d name content=((⟨(IntKind.wrap .i64 (d.clock+(1:Int))),(cell++[(⟨name,content,(IntKind.wrap .i64 (d.clock+(1:Int)))⟩:Ae)])⟩:AN),(0:Int)):=by simp only [PV,c_1,c_2,c_3,hR1,c_9,c_13,c_14,Bl]
 refine ⟨Or.inr rfl,(AV.tup [(AV.st [(At d),(AV.own 6 0 ((cell++[(⟨name,content,(IntKind.wrap .i64 (d.clock+(1:Int)))⟩:Ae)]).length))]),(AV.i .i64 (0:Int))]),kr,?_⟩
 rw [hM]
 exact BM.cast (x':=(AV.tup [(AV.st [(At d),(AV.own 6 0 ((cell++[(⟨name,content,(IntKind.wrap .i64 (d.clock+(1:Int)))⟩:Ae)]).length))]),(AV.i .i64 (0:Int))])) (y':=(AV.tup [(AN.av (((⟨(IntKind.wrap .i64 (d.clock+(1:Int))),(cell++[(⟨name,content,(IntKind.wrap .i64 (d.clock+(1:Int)))⟩:Ae)])⟩:AN),(0:Int)).1)),(AV.i .i64 (((⟨(IntKind.wrap .i64 (d.clock+(1:Int))),(cell++[(⟨name,content,(IntKind.wrap .i64 (d.clock+(1:Int)))⟩:Ae)])⟩:AN),(0:Int)).2))])) kr kr (BM.tup ⟨(BM.st ⟨Ec,⟨(Cz.kk (x':=(AV.own 6 0 ((cell++[(⟨name,content,(IntKind.wrap .i64 (d.clock+(1:Int)))⟩:Ae)]).length))) kr kr rfl (A1.row (fun _=>rfl) (A:=Ae.av) (id:=6) (e:=85) (k:=3) (xs:=(cell++[(⟨name,content,(IntKind.wrap .i64 (d.clock+(1:Int)))⟩:Ae)])) rfl rfl rfl sd)),trivial⟩⟩ kr),⟨Ec,trivial⟩⟩ kr)
 have k_14:=of_decide_eq_true c_14
 refine Ct<|Sq<|Rg<|Nb Cb<|Sp 1 Bb<|Aq (AV.i .i64 (1201:Int))<|Ad<|Rt ?_
 have hM:PV d name content=((⟨(0:Int),[]⟩:AN),(1201:Int)):=by simp only [PV,c_1,c_2,c_3,hR1,c_9,c_13,c_14,Bl]
 refine ⟨Or.inr rfl,CT,kr,?_⟩
 rw [hM]
 exact BM.cast (x':=CT) (y':=Fk) kr kr (BM.tup ⟨(BM.st ⟨Ec,⟨(BM.w rfl (AH.nil 3)),trivial⟩⟩ kr),⟨Ec,trivial⟩⟩ kr)
 have k_13:=of_decide_eq_true c_13
 refine An<|An<|An<|An<|Aq (AV.b true)<|Ad<|Ct<|Sq<|Rg<|Nb Cb<|Sp 1 Bb<|Aq (AV.i .i64 (1201:Int))<|Ad<|Rt ?_
 have hM:PV d name content=((⟨(0:Int),[]⟩:AN),(1201:Int)):=by simp only [PV,c_1,c_2,c_3,hR1,c_9,c_13,Bl]
 refine ⟨Or.inr rfl,CT,kr,?_⟩
 rw [hM]
 exact BM.cast (x':=CT) (y':=Fk) kr kr (BM.tup ⟨(BM.st ⟨Ec,⟨(BM.w rfl (AH.nil 3)),trivial⟩⟩ kr),⟨Ec,trivial⟩⟩ kr)
 refine Ct<|Sq<|Rg<|Nb Cb<|Sp 1 Bb<|Aq (AV.i .i64 (1200:Int))<|Ad<|Rt ?_
 have hM:PV d name content=((⟨(0:Int),[]⟩:AN),(1200:Int)):=by simp only [PV,c_1,c_2,c_3,Bl]
 refine ⟨Or.inr rfl,DB,kr,?_⟩
 rw [hM]
 exact BM.cast (x':=DB) (y':=GR) kr kr (BM.tup ⟨(BM.st ⟨Ec,⟨(BM.w rfl (AH.nil 3)),trivial⟩⟩ kr),⟨Ec,trivial⟩⟩ kr)
 refine An<|An<|An<|Aq (AV.b true)<|Ad<|Ct<|Sq<|Rg<|Nb Cb<|Sp 1 Bb<|Aq (AV.i .i64 (1200:Int))<|Ad<|Rt ?_
 have hM:PV d name content=((⟨(0:Int),[]⟩:AN),(1200:Int)):=by simp only [PV,c_1,c_2,Bl]
 refine ⟨Or.inr rfl,DB,kr,?_⟩
 rw [hM]
 exact BM.cast (x':=DB) (y':=GR) kr kr (BM.tup ⟨(BM.st ⟨Ec,⟨(BM.w rfl (AH.nil 3)),trivial⟩⟩ kr),⟨Ec,trivial⟩⟩ kr)
 refine An<|An<|An<|Aq (AV.b true)<|Aq (AV.b true)<|An<|An<|An<|Aq (AV.b true)<|Ad<|Ct<|Sq<|Rg<|Nb Cb<|Sp 1 Bb<|Aq (AV.i .i64 (1200:Int))<|Ad<|Rt ?_
 have hM:PV d name content=((⟨(0:Int),[]⟩:AN),(1200:Int)):=by simp only [PV,c_1,Bl]
 refine ⟨Or.inr rfl,DB,kr,?_⟩
 rw [hM]
 exact BM.cast (x':=DB) (y':=GR) kr kr (BM.tup ⟨(BM.st ⟨Ec,⟨(BM.w rfl (AH.nil 3)),trivial⟩⟩ kr),⟨Ec,trivial⟩⟩ kr)
def Hq:AV:=(AV.st [(AV.own 9 0 3),(AV.own 10 0 1),(AV.own 11 0 1)])
def JM:AV:=(AV.st [(AV.own 1 0 1),(AV.own 2 0 2),(AV.sl 1 true []),(AV.sl 1 true []),(AV.s (⟨#[97,114]⟩:ByteArray)),(AV.b false),(AV.s (⟨#[]⟩:ByteArray))])
def JL:AV:=(AV.st [(AV.own 3 0 2),(AV.own 4 0 1),(AV.own 5 0 1),(AV.sl 1 true []),(AV.s (⟨#[99,99,32,97]⟩:ByteArray)),(AV.b true),(AV.s (⟨#[116,119,111]⟩:ByteArray))])
def JK:AV:=(AV.st [(AV.own 6 0 1),(AV.own 7 0 1),(AV.sl 1 true []),(AV.own 8 0 1),(AV.s (⟨#[99,99,32,98]⟩:ByteArray)),(AV.b false),(AV.s (⟨#[116,119,111]⟩:ByteArray))])
def Hp:AV:=(AV.st [(AV.own 9 0 3),(AV.own 10 0 1),(AV.own 11 0 1),(AV.own 16 0 1),(AV.i .i64 (4:Int)),(AV.own 13 0 4),(AV.sl 3 true []),(AV.sl 3 true []),(AV.i .i64 (2:Int)),(AV.b false),(AV.sl 1 true [])])
theorem G8 (W:World):Ar Go.Proofs.Tryz.prog W 29 [] (AV.st [(AV.own 0 0 3),(AV.own 9 0 1),(AV.own 10 0 1),(AV.own 11 0 1),(AV.i .i64 (4:Int)),(AV.own 13 0 4),(AV.sl 3 true []),(AV.sl 3 true []),(AV.i .i64 (2:Int)),(AV.b false),(AV.sl 1 true [])]) [⟨65,7,[(AV.st [(AV.own 1 0 1),(AV.own 2 0 2),(AV.sl 1 true []),(AV.sl 1 true []),(AV.s (⟨#[97,114]⟩:ByteArray)),(AV.b false),(AV.s (⟨#[]⟩:ByteArray))]),(AV.st [(AV.own 3 0 2),(AV.own 4 0 1),(AV.own 5 0 1),(AV.sl 1 true []),(AV.s (⟨#[99,99,32,97]⟩:ByteArray)),(AV.b true),(AV.s (⟨#[116,119,111]⟩:ByteArray))]),(AV.st [(AV.own 6 0 1),(AV.own 7 0 1),(AV.sl 1 true []),(AV.own 8 0 1),(AV.s (⟨#[99,99,32,98]⟩:ByteArray)),(AV.b false),(AV.s (⟨#[116,119,111]⟩:ByteArray))])]⟩,⟨9,1,[(⟨#[108,105,98]⟩:ByteArray)].map AV.s⟩,⟨9,1,[(⟨#[97,46,111]⟩:ByteArray),(⟨#[98,46,111]⟩:ByteArray)].map AV.s⟩,⟨9,1,[(⟨#[97,46,111]⟩:ByteArray),(⟨#[97,46,100]⟩:ByteArray)].map AV.s⟩,⟨9,1,[(⟨#[97,46,99]⟩:ByteArray)].map AV.s⟩,⟨9,1,[(⟨#[97,46,104]⟩:ByteArray)].map AV.s⟩,⟨9,1,[(⟨#[98,46,111]⟩:ByteArray)].map AV.s⟩,⟨9,1,[(⟨#[98,46,99]⟩:ByteArray)].map AV.s⟩,⟨9,1,[(⟨#[97,46,111]⟩:ByteArray)].map AV.s⟩,⟨122,2,[(⟨(⟨#[116,119,111]⟩:ByteArray),(2:Int)⟩:BZ)].map BZ.av⟩,⟨9,1,[(⟨#[108,105,98]⟩:ByteArray)].map AV.s⟩,⟨67,3,[(AV.st [(AV.s (⟨#[99,99,32,97]⟩:ByteArray)),(AV.own 12 0 1),(AV.b false)])]⟩,⟨9,1,[(⟨#[122,46,104]⟩:ByteArray)].map AV.s⟩,⟨85,3,[Bf,Bh,Bi,Bg].map Ae.av⟩]:=by
 refine O3 A6 (fn:=Go.Proofs.Tryz.f29) Go.Proofs.Tryz.func29 rfl (en29 W) le<|Sq<|Rg<|Nn (AV.loc 0 0 0) ⟨35,11,[(AV.st [(AV.sl 7 true []),(AV.sl 2 true []),(AV.sl 1 true []),(AV.sl 3 true []),(AV.i .i64 (0:Int)),(AV.sl 3 true []),(AV.sl 3 true []),(AV.sl 3 true []),(AV.i .i64 (0:Int)),(AV.b false),(AV.sl 1 true [])])]⟩<|Ad<|Sq<|Rg<|Nn (AV.own 1 0 1) ⟨9,1,[(⟨#[108,105,98]⟩:ByteArray)].map AV.s⟩<|Nn (AV.own 2 0 2) ⟨9,1,[(⟨#[97,46,111]⟩:ByteArray),(⟨#[98,46,111]⟩:ByteArray)].map AV.s⟩<|Nb JM<|Nn (AV.own 3 0 2) ⟨9,1,[(⟨#[97,46,111]⟩:ByteArray),(⟨#[97,46,100]⟩:ByteArray)].map AV.s⟩<|Nn (AV.own 4 0 1) ⟨9,1,[(⟨#[97,46,99]⟩:ByteArray)].map AV.s⟩<|Nn (AV.own 5 0 1) ⟨9,1,[(⟨#[97,46,104]⟩:ByteArray)].map AV.s⟩<|Nb JL<|Nn (AV.own 6 0 1) ⟨9,1,[(⟨#[98,46,111]⟩:ByteArray)].map AV.s⟩<|Nn (AV.own 7 0 1) ⟨9,1,[(⟨#[98,46,99]⟩:ByteArray)].map AV.s⟩<|Nn (AV.own 8 0 1) ⟨9,1,[(⟨#[97,46,111]⟩:ByteArray)].map AV.s⟩<|Nb JK ?_
 refine Nn (AV.own 9 0 3) ⟨65,7,[JM,JL,JK]⟩<|Nb (AV.st [(AV.s (⟨#[116,119,111]⟩:ByteArray)),(AV.i .i64 (2:Int))])<|Nn (AV.own 10 0 1) ⟨122,2,[(⟨(⟨#[116,119,111]⟩:ByteArray),(2:Int)⟩:BZ)].map BZ.av⟩<|Nn (AV.own 11 0 1) ⟨9,1,[(⟨#[108,105,98]⟩:ByteArray)].map AV.s⟩<|Nb Hq<|Nn (AV.loc 12 0 0) ⟨26,3,[(AV.st [(AV.sl 7 true []),(AV.sl 2 true []),(AV.sl 1 true [])])]⟩<|Sp 12 ⟨26,3,[Hq]⟩<|Ad<|Sq<|Rg<|Nb (AV.st [(AV.s (⟨#[97,46,99]⟩:ByteArray)),(AV.i .i64 (1:Int)),(AV.i .i64 (1:Int))])<|Nb (AV.st [(AV.s (⟨#[97,46,104]⟩:ByteArray)),(AV.i .i64 (2:Int)),(AV.i .i64 (2:Int))])<|Nb (AV.st [(AV.s (⟨#[98,46,99]⟩:ByteArray)),(AV.i .i64 (3:Int)),(AV.i .i64 (3:Int))])<|Nb (AV.st [(AV.s (⟨#[122,46,104]⟩:ByteArray)),(AV.i .i64 (4:Int)),(AV.i .i64 (4:Int))])<|Nn (AV.own 13 0 4) ⟨85,3,[Bf,Bh,Bi,Bg].map Ae.av⟩ ?_
 refine Nb (AV.st [(AV.i .i64 (4:Int)),(AV.own 13 0 4)])<|Nn (AV.loc 14 0 0) ⟨30,2,[(AV.st [(AV.i .i64 (0:Int)),(AV.sl 3 true [])])]⟩<|Sp 14 ⟨30,2,[(AV.st [(AV.i .i64 (4:Int)),(AV.own 13 0 4)])]⟩<|Ad<|Sq<|Rg<|Aq Hq<|Nn (AV.own 15 0 1) ⟨9,1,[(⟨#[122,46,104]⟩:ByteArray)].map AV.s⟩<|Nb (AV.st [(AV.s (⟨#[99,99,32,97]⟩:ByteArray)),(AV.own 15 0 1),(AV.b false)])<|Nn (AV.own 16 0 1) ⟨67,3,[(AV.st [(AV.s (⟨#[99,99,32,97]⟩:ByteArray)),(AV.own 15 0 1),(AV.b false)])]⟩<|Aq (AV.st [(AV.i .i64 (4:Int)),(AV.own 13 0 4)])<|Nb Hp<|Sp 0 ⟨35,11,[Hp]⟩<|Ad<|Rt ?_
 have hM:M6=BF:=by simp only [M6,Bl]
 exact ⟨[9,1,2,3,4,5,6,7,8,10,11,16,15,13],Or.inr rfl,by decide,rfl,⟨kr,⟨kr,⟨kr,⟨kr,⟨kr,⟨kr,⟨kr,⟨kr,⟨kr,⟨kr,⟨kr,⟨kr,⟨kr,⟨kr,trivial⟩⟩⟩⟩⟩⟩⟩⟩⟩⟩⟩⟩⟩⟩,Hp,kr,kr⟩
def FJ:AV:=(AV.s (⟨#[98,46,111]⟩:ByteArray))
def FI:AV:=(AV.s (⟨#[97,46,100]⟩:ByteArray))
def E2:AV:=(AV.s (⟨#[97,46,111]⟩:ByteArray))
def FH:AV:=(AV.s (⟨#[108,105,98]⟩:ByteArray))
def Bv:Obj:=⟨9,1,[(⟨#[97,46,99]⟩:ByteArray)].map AV.s⟩
def Bu:Obj:=⟨9,1,[(⟨#[98,46,99]⟩:ByteArray)].map AV.s⟩
def Bt:Obj:=⟨9,1,[(⟨#[97,46,104]⟩:ByteArray)].map AV.s⟩
def Bs:Obj:=⟨9,1,[(⟨#[98,46,111]⟩:ByteArray)].map AV.s⟩
def Br:Obj:=⟨9,1,[(⟨#[97,46,111]⟩:ByteArray)].map AV.s⟩
def AK:Obj:=⟨9,1,[(⟨#[108,105,98]⟩:ByteArray)].map AV.s⟩
def Bj:Obj:=⟨9,1,[(⟨#[122,46,104]⟩:ByteArray)].map AV.s⟩
def FG:AV:=(AV.st [(AV.i .i64 (7:Int)),((AY 3 Ae.av) dk3.files)])
def FF:AV:=(AV.st [(AV.i .i64 (6:Int)),((AY 3 Ae.av) dk2.files)])
def FE:AV:=(AV.st [(AV.i .i64 (5:Int)),((AY 3 Ae.av) dk1.files)])
def FD:Obj:=⟨30,2,[(AV.st [(AV.i .i64 (0:Int)),(AV.sl 3 true [])])]⟩
def FC:Obj:=⟨30,2,[(AV.st [(AV.i .i64 (8:Int)),((AY 3 Ae.av) Um.files)])]⟩
def CL:Obj:=⟨30,2,[FG]⟩
def C1:Obj:=⟨30,2,[FF]⟩
def BG:Obj:=⟨30,2,[FE]⟩
def Bq:Obj:=⟨122,2,[(⟨(⟨#[116,119,111]⟩:ByteArray),(2:Int)⟩:BZ)].map BZ.av⟩
def Bp:Obj:=⟨9,1,[(⟨#[97,46,111]⟩:ByteArray),(⟨#[98,46,111]⟩:ByteArray)].map AV.s⟩
def Bo:Obj:=⟨9,1,[(⟨#[97,46,111]⟩:ByteArray),(⟨#[97,46,100]⟩:ByteArray)].map AV.s⟩
def Bn:Obj:=⟨67,3,[(AV.st [(AV.s (⟨#[99,99,32,97]⟩:ByteArray)),(AV.own 13 0 1),(AV.b false)])]⟩
def FB:AV:=(AV.s (⟨#[97,46,111,32,97,46,100,124,97,46,99,124,97,46,104,124,100,124,99,99,32,97]⟩:ByteArray))
def B3:Obj:=⟨9,1,[(⟨#[97,46,111]⟩:ByteArray),(⟨#[97,46,100]⟩:ByteArray),(⟨#[98,46,111]⟩:ByteArray),(⟨#[108,105,98]⟩:ByteArray)].map AV.s⟩
def CY:Obj:=⟨56,3,[Dw].map Aa.av⟩
def Ho:Obj:=⟨56,3,[FO].map Aa.av⟩
def C6:Obj:=⟨56,3,[CB].map Aa.av⟩
def Be:Obj:=⟨56,3,[CC].map Aa.av⟩
def JJ:AV:=(AV.st [(AV.own 1 0 3),(AV.own 10 0 1),(AV.own 11 0 1),(AV.own 12 0 1),(AV.i .i64 (4:Int)),(AV.own 14 0 4),(AV.sl 3 true []),(AV.sl 3 true []),(AV.i .i64 (2:Int)),(AV.b false),(AV.sl 1 true [])])
def Hn:Obj:=⟨35,11,[(AV.st [(AV.own 1 0 3),(AV.own 10 0 1),(AV.own 11 0 1),(AV.own 12 0 1),(AV.i .i64 (6:Int)),((AY 3 Ae.av) dk2.files),(AV.own 19 0 1),(AV.sl 3 true []),(AV.i .i64 (2:Int)),(AV.b false),(AV.sl 1 true [])])]⟩
def Hm:Obj:=⟨35,11,[(AV.st [(AV.own 1 0 3),(AV.own 10 0 1),(AV.own 11 0 1),(AV.own 12 0 1),(AV.i .i64 (5:Int)),((AY 3 Ae.av) dk1.files),(AV.own 19 0 1),(AV.sl 3 true []),(AV.i .i64 (2:Int)),(AV.b false),(AV.sl 1 true [])])]⟩
def Bd:Obj:=⟨35,11,[(AV.st [(AV.sl 7 true []),(AV.sl 2 true []),(AV.sl 1 true []),(AV.sl 3 true []),(AV.i .i64 (0:Int)),(AV.sl 3 true []),(AV.sl 3 true []),(AV.sl 3 true []),(AV.i .i64 (0:Int)),(AV.b false),(AV.sl 1 true [])])]⟩
def Hl:Obj:=⟨35,11,[(AV.st [(AV.own 1 0 3),(AV.own 10 0 1),(AV.own 11 0 1),(AV.own 12 0 1),(AV.i .i64 (5:Int)),((AY 3 Ae.av) dk1.files),(AV.sl 3 true []),(AV.sl 3 true []),(AV.i .i64 (2:Int)),(AV.b false),(AV.sl 1 true [])])]⟩
def JI:AV:=((AY 3 Ae.av) [Bf,Bh,Bi,Bg])
def JH:AV:=(AV.st [(AV.i .i64 (4:Int)),JI])
def EK:Obj:=⟨56,3,[CC,CB].map Aa.av⟩
def Ba:Obj:=⟨9,1,[(⟨#[97,46,111,32,97,46,100,124,97,46,99,124,97,46,104,124,100,124,99,99,32,97]⟩:ByteArray),(⟨#[97,46,111,32,97,46,100,124,97,46,99,124,97,46,104,124,100,124,99,99,32,97]⟩:ByteArray),(⟨#[98,46,111,124,98,46,99,124,124,110,124,99,99,32,98]⟩:ByteArray),(⟨#[108,105,98,124,97,46,111,32,98,46,111,124,124,110,124,97,114]⟩:ByteArray)].map AV.s⟩
def Hk:Obj:=⟨35,11,[(AV.st [(AV.own 1 0 3),(AV.own 10 0 1),(AV.own 11 0 1),(AV.own 12 0 1),(AV.i .i64 (4:Int)),JI,(AV.sl 3 true []),(AV.sl 3 true []),(AV.i .i64 (2:Int)),(AV.b false),(AV.sl 1 true [])])]⟩
def EY:Obj:=⟨56,3,[CC,CB,Dw].map Aa.av⟩
def BE:Obj:=⟨65,7,[(AV.st [(AV.own 2 0 1),(AV.own 3 0 2),(AV.sl 1 true []),(AV.sl 1 true []),(AV.s (⟨#[97,114]⟩:ByteArray)),(AV.b false),(AV.s (⟨#[]⟩:ByteArray))]),(AV.st [(AV.own 4 0 2),(AV.own 5 0 1),(AV.own 6 0 1),(AV.sl 1 true []),(AV.s (⟨#[99,99,32,97]⟩:ByteArray)),(AV.b true),(AV.s (⟨#[116,119,111]⟩:ByteArray))]),(AV.st [(AV.own 7 0 1),(AV.own 8 0 1),(AV.sl 1 true []),(AV.own 9 0 1),(AV.s (⟨#[99,99,32,98]⟩:ByteArray)),(AV.b false),(AV.s (⟨#[116,119,111]⟩:ByteArray))])]⟩
def HT:Obj:=⟨35,11,[(AV.st [(AV.own 1 0 3),(AV.own 10 0 1),(AV.own 11 0 1),(AV.own 12 0 1),(AV.i .i64 (7:Int)),((AY 3 Ae.av) dk3.files),(AV.own 22 0 ([CC,CB].length)),(AV.sl 3 true []),(AV.i .i64 (2:Int)),(AV.b false),(AV.sl 1 true [])])]⟩
def HS:Obj:=⟨35,11,[(AV.st [(AV.own 1 0 3),(AV.own 10 0 1),(AV.own 11 0 1),(AV.own 12 0 1),(AV.i .i64 (6:Int)),((AY 3 Ae.av) dk2.files),(AV.own 22 0 ([CC,CB].length)),(AV.sl 3 true []),(AV.i .i64 (2:Int)),(AV.b false),(AV.sl 1 true [])])]⟩
def Ky:Obj:=⟨56,3,[CC,CB,Dw,FO].map Aa.av⟩
def HR:Obj:=⟨35,11,[(AV.st [(AV.own 1 0 3),(AV.own 10 0 1),(AV.own 11 0 1),(AV.own 12 0 1),(AV.i .i64 (8:Int)),((AY 3 Ae.av) Um.files),(AV.own 25 0 ([CC,CB,Dw].length)),(AV.sl 3 true []),(AV.i .i64 (2:Int)),(AV.b false),(AV.sl 1 true [])])]⟩
def HQ:Obj:=⟨35,11,[(AV.st [(AV.own 1 0 3),(AV.own 10 0 1),(AV.own 11 0 1),(AV.own 12 0 1),(AV.i .i64 (7:Int)),((AY 3 Ae.av) dk3.files),(AV.own 25 0 ([CC,CB,Dw].length)),(AV.sl 3 true []),(AV.i .i64 (2:Int)),(AV.b false),(AV.sl 1 true [])])]⟩
def HP:AV:=(AV.st [(AV.own 1 0 3),(AV.own 10 0 1),(AV.own 11 0 1),(AV.own 12 0 1),(AV.i .i64 (8:Int)),((AY 3 Ae.av) Um.files),(AV.own 28 0 ([CC,CB,Dw,FO].length)),(AV.own 30 0 1),(AV.i .i64 (2:Int)),(AV.b false),(AV.sl 1 true [])])
def Kx:Obj:=⟨35,11,[HP]⟩
theorem DF (W:World):Ar Go.Proofs.Tryz.prog W 26 [] (AV.st [(AV.own 0 0 3),(AV.own 9 0 1),(AV.own 10 0 1),(AV.own 11 0 1),(AV.i .i64 (8:Int)),((AY 3 Ae.av) Um.files),(AV.own 13 0 ([CC,CB,Dw,FO].length)),(AV.own 14 0 1),(AV.i .i64 (2:Int)),(AV.b false),(AV.sl 1 true [])]) [⟨65,7,[(AV.st [(AV.own 1 0 1),(AV.own 2 0 2),(AV.sl 1 true []),(AV.sl 1 true []),(AV.s (⟨#[97,114]⟩:ByteArray)),(AV.b false),(AV.s (⟨#[]⟩:ByteArray))]),(AV.st [(AV.own 3 0 2),(AV.own 4 0 1),(AV.own 5 0 1),(AV.sl 1 true []),(AV.s (⟨#[99,99,32,97]⟩:ByteArray)),(AV.b true),(AV.s (⟨#[116,119,111]⟩:ByteArray))]),(AV.st [(AV.own 6 0 1),(AV.own 7 0 1),(AV.sl 1 true []),(AV.own 8 0 1),(AV.s (⟨#[99,99,32,98]⟩:ByteArray)),(AV.b false),(AV.s (⟨#[116,119,111]⟩:ByteArray))])]⟩,⟨9,1,[(⟨#[108,105,98]⟩:ByteArray)].map AV.s⟩,⟨9,1,[(⟨#[97,46,111]⟩:ByteArray),(⟨#[98,46,111]⟩:ByteArray)].map AV.s⟩,⟨9,1,[(⟨#[97,46,111]⟩:ByteArray),(⟨#[97,46,100]⟩:ByteArray)].map AV.s⟩,⟨9,1,[(⟨#[97,46,99]⟩:ByteArray)].map AV.s⟩,⟨9,1,[(⟨#[97,46,104]⟩:ByteArray)].map AV.s⟩,⟨9,1,[(⟨#[98,46,111]⟩:ByteArray)].map AV.s⟩,⟨9,1,[(⟨#[98,46,99]⟩:ByteArray)].map AV.s⟩,⟨9,1,[(⟨#[97,46,111]⟩:ByteArray)].map AV.s⟩,⟨122,2,[(⟨(⟨#[116,119,111]⟩:ByteArray),(2:Int)⟩:BZ)].map BZ.av⟩,⟨9,1,[(⟨#[108,105,98]⟩:ByteArray)].map AV.s⟩,⟨67,3,[(AV.st [(AV.s (⟨#[99,99,32,97]⟩:ByteArray)),(AV.own 12 0 1),(AV.b false)])]⟩,⟨9,1,[(⟨#[122,46,104]⟩:ByteArray)].map AV.s⟩,⟨56,3,[CC,CB,Dw,FO].map Aa.av⟩,⟨61,3,[(AV.st [(AV.s (⟨#[97,46,111]⟩:ByteArray)),(AV.i .i64 (5:Int)),(AV.own 15 0 1)])]⟩,⟨9,1,[(⟨#[122,46,104]⟩:ByteArray)].map AV.s⟩]:=by
 refine O3 A6 (fn:=Go.Proofs.Tryz.f26) Go.Proofs.Tryz.func26 rfl (en26 W) le<|Sq<|Rg<|Nn (AV.loc 0 0 0) Bd<|Ad<|Sq<|Rg<|Sc JJ (G8 W)<|Nn (AV.loc 15 0 0) Bd<|Sp 15 ⟨35,11,[JJ]⟩<|Ad<|Sq<|Rg<|Nn (AV.own 16 0 4) B3<|Aq (AV.own 16 0 4)<|Ad<|Sq<|Rg<|Nn (AV.own 17 0 4) Ba ?_
 refine Aq (AV.own 17 0 4)<|Ad<|Sq<|Sq<|Qu [0,1,2,3,4,5,6,7,8,9,10,11,12,13,15,16,17] (env':=[(0,(AV.loc 0 0 0)),(1,(AV.loc 14 0 0)),(2,(AV.own 15 0 4)),(3,(AV.own 16 0 4))]) (h':=⟨17,[(16,some Ba),(15,some B3),(14,some Hk),(13,some Bj),(12,some Bn),(11,some AK),(10,some Bq),(9,some Br),(8,some Bu),(7,some Bs),(6,some Bt),(5,some Bv),(4,some Bo),(3,some Bp),(2,some AK),(1,some BE),(0,some Bd)]⟩) ⟨by decide,rfl,(A3.cons kr (A3.cons kr (A3.cons (BA (fun _=>rfl) (e:=9) (k:=1) (A:=AV.s) (xs:=[(⟨#[108,105,98]⟩:ByteArray)]) rfl rfl) (A3.cons (BA (fun _=>rfl) (e:=9) (k:=1) (A:=AV.s) (xs:=[(⟨#[97,46,111]⟩:ByteArray),(⟨#[98,46,111]⟩:ByteArray)]) rfl rfl) (A3.cons (BA (fun _=>rfl) (e:=9) (k:=1) (A:=AV.s) (xs:=[(⟨#[97,46,111]⟩:ByteArray),(⟨#[97,46,100]⟩:ByteArray)]) rfl rfl) (A3.cons (BA (fun _=>rfl) (e:=9) (k:=1) (A:=AV.s) (xs:=[(⟨#[97,46,99]⟩:ByteArray)]) rfl rfl) (A3.cons (BA (fun _=>rfl) (e:=9) (k:=1) (A:=AV.s) (xs:=[(⟨#[97,46,104]⟩:ByteArray)]) rfl rfl) (A3.cons (BA (fun _=>rfl) (e:=9) (k:=1) (A:=AV.s) (xs:=[(⟨#[98,46,111]⟩:ByteArray)]) rfl rfl) (A3.cons (BA (fun _=>rfl) (e:=9) (k:=1) (A:=AV.s) (xs:=[(⟨#[98,46,99]⟩:ByteArray)]) rfl rfl) (A3.cons (BA (fun _=>rfl) (e:=9) (k:=1) (A:=AV.s) (xs:=[(⟨#[97,46,111]⟩:ByteArray)]) rfl rfl) (A3.cons (BA (fun _=>rfl) (e:=122) (k:=2) (A:=BZ.av) (xs:=[(⟨(⟨#[116,119,111]⟩:ByteArray),(2:Int)⟩:BZ)]) rfl rfl) (A3.cons (BA (fun _=>rfl) (e:=9) (k:=1) (A:=AV.s) (xs:=[(⟨#[108,105,98]⟩:ByteArray)]) rfl rfl) (A3.cons kr (A3.cons (BA (fun _=>rfl) (e:=9) (k:=1) (A:=AV.s) (xs:=[(⟨#[122,46,104]⟩:ByteArray)]) rfl rfl) (A3.cons kr (A3.cons (BA (fun _=>rfl) (e:=9) (k:=1) (A:=AV.s) (xs:=[(⟨#[97,46,111]⟩:ByteArray),(⟨#[97,46,100]⟩:ByteArray),(⟨#[98,46,111]⟩:ByteArray),(⟨#[108,105,98]⟩:ByteArray)]) rfl rfl) (A3.cons (BA (fun _=>rfl) (e:=9) (k:=1) (A:=AV.s) (xs:=[(⟨#[97,46,111,32,97,46,100,124,97,46,99,124,97,46,104,124,100,124,99,99,32,97]⟩:ByteArray),(⟨#[97,46,111,32,97,46,100,124,97,46,99,124,97,46,104,124,100,124,99,99,32,97]⟩:ByteArray),(⟨#[98,46,111,124,98,46,99,124,124,110,124,99,99,32,98]⟩:ByteArray),(⟨#[108,105,98,124,97,46,111,32,98,46,111,124,124,110,124,97,114]⟩:ByteArray)]) rfl rfl) A3.nil))))))))))))))))),(AM.cons (BM.f kr) (AM.cons (BM.f kr) (AM.cons (BM.f kr) (AM.cons (BM.f kr) AM.nil))))⟩ B4 ?_
 refine Rg<|Aq (AV.i .i64 (0:Int))<|Ad<|Ah.block<|Tu 5<|OC.next (m:=4)<|Sq<|Sq<|Rg<|Aq (AV.i .i64 (0:Int))<|Aq (AV.b true)<|Ad<|Ct<|Ah.skip<|Sq<|Ah.block<|Sq<|HC A6 E5 12 [10] kr kr kr le<|Dq (AV.loc 14 0 4)<|Dq JH<|Dq (AV.own 15 0 4)<|Dq (AV.i .i64 (0:Int))<|Dp (AV.loc 15 0 0) (Ft (e:=9) (id:=15) (len:=4) (kk:= .i64) (ob:=B3) (i:=0) kr kr kr rfl kr sd)<|Dp E2 (D4 (e:=9) (k:=1) (i:=Hz) (id:=15) (xs:=[(⟨#[97,46,111]⟩:ByteArray),(⟨#[97,46,100]⟩:ByteArray),(⟨#[98,46,111]⟩:ByteArray),(⟨#[108,105,98]⟩:ByteArray)]) (A:=AV.s) (j:=0) kr kr rfl rfl kr)<|Dq (AV.i .i64 (0:Int))<|Aw.sc0 (vs:=[JH,E2,(AV.i .i64 (0:Int))]) (r0:=(AV.tup [(AN.av dk1),(AV.i .i64 (0:Int))])) kr kr (LQ (GI W SR (⟨#[97,46,111]⟩:ByteArray) (0:Int) sd) kr) kr le ?_
 refine Dq (AV.tup [(AN.av dk1),(AV.i .i64 (0:Int))])<|Dq (AN.av dk1)<|Dq (AV.i .i64 (0:Int))<|Aw.sn (x:=(AV.loc 17 0 0)) (h':=⟨18,[(17,some FD),(16,some Ba),(15,some B3),(14,some Hk),(13,some Bj),(12,some Bn),(11,some AK),(10,some Bq),(9,some Br),(8,some Bu),(7,some Bs),(6,some Bt),(5,some Bv),(4,some Bo),(3,some Bp),(2,some AK),(1,some BE),(0,some Bd)]⟩) kr le ?_
 refine Aw.st (by decide) (x:=AV.und) (h':=⟨18,[(17,some BG),(16,some Ba),(15,some B3),(14,some Hk),(13,some Bj),(12,some Bn),(11,some AK),(10,some Bq),(9,some Br),(8,some Bu),(7,some Bs),(6,some Bt),(5,some Bv),(4,some Bo),(3,some Bp),(2,some AK),(1,some BE),(0,some Bd)]⟩) kr ?_
 refine Dq (AV.i .i64 (0:Int))<|Aw.fin<|Sq<|Rg<|Aq FE<|Aq (AV.loc 14 0 4)<|Sp 14 Hl<|Ad<|Ah.drawn A6 E5 14 kr le<|Dq (AV.loc 14 0 6)<|Dq (AV.sl 3 true [])<|Dq (AV.own 15 0 4)<|Dq (AV.i .i64 (0:Int))<|Dp (AV.loc 15 0 0) (Ft (e:=9) (id:=15) (len:=4) (kk:= .i64) (ob:=B3) (i:=0) kr kr kr rfl kr sd)<|Dp E2 (D4 (e:=9) (k:=1) (i:=Hz) (id:=15) (xs:=[(⟨#[97,46,111]⟩:ByteArray),(⟨#[97,46,100]⟩:ByteArray),(⟨#[98,46,111]⟩:ByteArray),(⟨#[108,105,98]⟩:ByteArray)]) (A:=AV.s) (j:=0) kr kr rfl rfl kr)<|Dq (AV.loc 17 0 0)<|Dq (AV.i .i64 (5:Int))<|Dq (AV.own 16 0 4)<|Dq (AV.i .i64 (0:Int))<|Dp (AV.loc 16 0 0) (Ft (e:=9) (id:=16) (len:=4) (kk:= .i64) (ob:=Ba) (i:=0) kr kr kr rfl kr sd) ?_
 refine Dp FB (D4 (e:=9) (k:=1) (i:=Hz) (id:=16) (xs:=[(⟨#[97,46,111,32,97,46,100,124,97,46,99,124,97,46,104,124,100,124,99,99,32,97]⟩:ByteArray),(⟨#[97,46,111,32,97,46,100,124,97,46,99,124,97,46,104,124,100,124,99,99,32,97]⟩:ByteArray),(⟨#[98,46,111,124,98,46,99,124,124,110,124,99,99,32,98]⟩:ByteArray),(⟨#[108,105,98,124,97,46,111,32,98,46,111,124,124,110,124,97,114]⟩:ByteArray)]) (A:=AV.s) (j:=0) kr kr rfl rfl kr)<|Nd (AV.st [E2,(AV.i .i64 (5:Int)),FB])<|Aw.sn (x:=(AV.own 18 0 1)) (h':=⟨19,[(18,some Be),(17,some BG),(16,some Ba),(15,some B3),(14,some Hl),(13,some Bj),(12,some Bn),(11,some AK),(10,some Bq),(9,some Br),(8,some Bu),(7,some Bs),(6,some Bt),(5,some Bv),(4,some Bo),(3,some Bp),(2,some AK),(1,some BE),(0,some Bd)]⟩) kr le ?_
 refine Aw.se (by decide) (x:=(AV.own 19 0 1)) (h':=⟨20,[(19,some Be),(18,some Be),(17,some BG),(16,some Ba),(15,some B3),(14,some Hl),(13,some Bj),(12,some Bn),(11,some AK),(10,some Bq),(9,some Br),(8,some Bu),(7,some Bs),(6,some Bt),(5,some Bv),(4,some Bo),(3,some Bp),(2,some AK),(1,some BE),(0,some Bd)]⟩) kr le ?_
 refine Dq (AV.loc 14 0 6)<|Aw.st (by decide) (x:=AV.und) (h':=⟨20,[(19,some Be),(18,some Be),(17,some BG),(16,some Ba),(15,some B3),(14,some Hm),(13,some Bj),(12,some Bn),(11,some AK),(10,some Bq),(9,some Br),(8,some Bu),(7,some Bs),(6,some Bt),(5,some Bv),(4,some Bo),(3,some Bp),(2,some AK),(1,some BE),(0,some Bd)]⟩) kr ?_
 refine Aw.fin<|Rg<|Aq (AV.i .i64 (0:Int))<|Aq (AV.i .i64 (1:Int))<|Aq (AV.i .i64 (1:Int))<|Ad<|OC.next (m:=3)<|Sq<|Sq<|Rg<|Aq (AV.i .i64 (1:Int))<|Aq (AV.b true)<|Ad<|Ct<|Ah.skip<|Sq<|Ah.block<|Sq<|HC A6 E5 12 [10] kr kr kr le<|Dq (AV.loc 14 0 4)<|Dq FE<|Dq (AV.own 15 0 4)<|Dq (AV.i .i64 (1:Int))<|Dp (AV.loc 15 1 0) (Ft (e:=9) (id:=15) (len:=4) (kk:= .i64) (ob:=B3) (i:=1) kr kr kr rfl kr sd)<|Dp FI (D4 (e:=9) (k:=1) (i:=Hz) (id:=15) (xs:=[(⟨#[97,46,111]⟩:ByteArray),(⟨#[97,46,100]⟩:ByteArray),(⟨#[98,46,111]⟩:ByteArray),(⟨#[108,105,98]⟩:ByteArray)]) (A:=AV.s) (j:=1) kr kr rfl rfl kr)<|Dq (AV.i .i64 (1:Int))<|Aw.sc0 (vs:=[FE,FI,(AV.i .i64 (1:Int))]) (r0:=(AV.tup [(AN.av dk2),(AV.i .i64 (0:Int))])) kr kr (LQ (GI W (⟨(5:Int),dk1.files⟩:AN) (⟨#[97,46,100]⟩:ByteArray) (1:Int) sd) kr) kr le<|Dq (AV.tup [(AN.av dk2),(AV.i .i64 (0:Int))])<|Dq (AN.av dk2)<|Dq (AV.i .i64 (0:Int))<|Aw.sn (x:=(AV.loc 20 0 0)) (h':=⟨21,[(20,some FD),(19,some Be),(18,some Be),(17,some BG),(16,some Ba),(15,some B3),(14,some Hm),(13,some Bj),(12,some Bn),(11,some AK),(10,some Bq),(9,some Br),(8,some Bu),(7,some Bs),(6,some Bt),(5,some Bv),(4,some Bo),(3,some Bp),(2,some AK),(1,some BE),(0,some Bd)]⟩) kr le ?_
 refine Aw.st (by decide) (x:=AV.und) (h':=⟨21,[(20,some C1),(19,some Be),(18,some Be),(17,some BG),(16,some Ba),(15,some B3),(14,some Hm),(13,some Bj),(12,some Bn),(11,some AK),(10,some Bq),(9,some Br),(8,some Bu),(7,some Bs),(6,some Bt),(5,some Bv),(4,some Bo),(3,some Bp),(2,some AK),(1,some BE),(0,some Bd)]⟩) kr ?_
 refine Dq (AV.i .i64 (0:Int))<|Aw.fin<|Sq<|Rg<|Aq FF<|Aq (AV.loc 14 0 4)<|Sp 14 Hn<|Ad<|Ah.drawn A6 E5 14 kr le<|Dq (AV.loc 14 0 6)<|Dq (AV.own 19 0 1)<|Dq (AV.own 15 0 4)<|Dq (AV.i .i64 (1:Int))<|Dp (AV.loc 15 1 0) (Ft (e:=9) (id:=15) (len:=4) (kk:= .i64) (ob:=B3) (i:=1) kr kr kr rfl kr sd)<|Dp FI (D4 (e:=9) (k:=1) (i:=Hz) (id:=15) (xs:=[(⟨#[97,46,111]⟩:ByteArray),(⟨#[97,46,100]⟩:ByteArray),(⟨#[98,46,111]⟩:ByteArray),(⟨#[108,105,98]⟩:ByteArray)]) (A:=AV.s) (j:=1) kr kr rfl rfl kr)<|Dq (AV.loc 20 0 0)<|Dq (AV.i .i64 (6:Int))<|Dq (AV.own 16 0 4)<|Dq (AV.i .i64 (1:Int))<|Dp (AV.loc 16 1 0) (Ft (e:=9) (id:=16) (len:=4) (kk:= .i64) (ob:=Ba) (i:=1) kr kr kr rfl kr sd) ?_
 refine Dp FB (D4 (e:=9) (k:=1) (i:=Hz) (id:=16) (xs:=[(⟨#[97,46,111,32,97,46,100,124,97,46,99,124,97,46,104,124,100,124,99,99,32,97]⟩:ByteArray),(⟨#[97,46,111,32,97,46,100,124,97,46,99,124,97,46,104,124,100,124,99,99,32,97]⟩:ByteArray),(⟨#[98,46,111,124,98,46,99,124,124,110,124,99,99,32,98]⟩:ByteArray),(⟨#[108,105,98,124,97,46,111,32,98,46,111,124,124,110,124,97,114]⟩:ByteArray)]) (A:=AV.s) (j:=1) kr kr rfl rfl kr)<|Nd (AV.st [FI,(AV.i .i64 (6:Int)),FB])<|Aw.sn (x:=(AV.own 21 0 1)) (h':=⟨22,[(21,some C6),(20,some C1),(19,some Be),(18,some Be),(17,some BG),(16,some Ba),(15,some B3),(14,some Hn),(13,some Bj),(12,some Bn),(11,some AK),(10,some Bq),(9,some Br),(8,some Bu),(7,some Bs),(6,some Bt),(5,some Bv),(4,some Bo),(3,some Bp),(2,some AK),(1,some BE),(0,some Bd)]⟩) kr le ?_
 refine Aw.se (by decide) (x:=(AV.own 22 0 ([CC,CB].length))) (h':=⟨23,[(22,some EK),(21,some C6),(20,some C1),(19,none),(18,some Be),(17,some BG),(16,some Ba),(15,some B3),(14,some Hn),(13,some Bj),(12,some Bn),(11,some AK),(10,some Bq),(9,some Br),(8,some Bu),(7,some Bs),(6,some Bt),(5,some Bv),(4,some Bo),(3,some Bp),(2,some AK),(1,some BE),(0,some Bd)]⟩) (KL (len:=1) (e:=56) (X:=(AV.own 21 0 1)) (A:=Aa.av) (i:=X2) (p:=19) (xs:=[CC]) (ys:=[CB]) kr kr kr (hx:=kr) kr ⟨by decide,by kernel_rfl⟩ rfl sd (by show _*40≤140737488355328;first|omega|(simp only [List.length_append,List.length_cons,List.length_nil,List.length_set,List.length_replicate];omega)|(simp;omega)) sd) le ?_
 refine Dq (AV.loc 14 0 6)<|Aw.st (by decide) (x:=AV.und) (h':=⟨23,[(22,some EK),(21,some C6),(20,some C1),(19,none),(18,some Be),(17,some BG),(16,some Ba),(15,some B3),(14,some HS),(13,some Bj),(12,some Bn),(11,some AK),(10,some Bq),(9,some Br),(8,some Bu),(7,some Bs),(6,some Bt),(5,some Bv),(4,some Bo),(3,some Bp),(2,some AK),(1,some BE),(0,some Bd)]⟩) kr ?_
 refine Aw.fin<|Rg<|Aq (AV.i .i64 (1:Int))<|Aq (AV.i .i64 (2:Int))<|Aq (AV.i .i64 (2:Int))<|Ad<|OC.next (m:=2)<|Sq<|Sq<|Rg<|Aq (AV.i .i64 (2:Int))<|Aq (AV.b true)<|Ad<|Ct<|Ah.skip<|Sq<|Ah.block<|Sq<|HC A6 E5 12 [10] kr kr kr le<|Dq (AV.loc 14 0 4)<|Dq FF<|Dq (AV.own 15 0 4)<|Dq (AV.i .i64 (2:Int))<|Dp (AV.loc 15 2 0) (Ft (e:=9) (id:=15) (len:=4) (kk:= .i64) (ob:=B3) (i:=2) kr kr kr rfl kr sd)<|Dp FJ (D4 (e:=9) (k:=1) (i:=Hz) (id:=15) (xs:=[(⟨#[97,46,111]⟩:ByteArray),(⟨#[97,46,100]⟩:ByteArray),(⟨#[98,46,111]⟩:ByteArray),(⟨#[108,105,98]⟩:ByteArray)]) (A:=AV.s) (j:=2) kr kr rfl rfl kr)<|Dq (AV.i .i64 (2:Int))<|Aw.sc0 (vs:=[FF,FJ,(AV.i .i64 (2:Int))]) (r0:=(AV.tup [(AN.av dk3),(AV.i .i64 (0:Int))])) kr kr (LQ (GI W (⟨(6:Int),dk2.files⟩:AN) (⟨#[98,46,111]⟩:ByteArray) (2:Int) sd) kr) kr le<|Dq (AV.tup [(AN.av dk3),(AV.i .i64 (0:Int))])<|Dq (AN.av dk3)<|Dq (AV.i .i64 (0:Int))<|Aw.sn (x:=(AV.loc 23 0 0)) (h':=⟨24,[(23,some FD),(22,some EK),(21,some C6),(20,some C1),(19,none),(18,some Be),(17,some BG),(16,some Ba),(15,some B3),(14,some HS),(13,some Bj),(12,some Bn),(11,some AK),(10,some Bq),(9,some Br),(8,some Bu),(7,some Bs),(6,some Bt),(5,some Bv),(4,some Bo),(3,some Bp),(2,some AK),(1,some BE),(0,some Bd)]⟩) kr le ?_
 refine Aw.st (by decide) (x:=AV.und) (h':=⟨24,[(23,some CL),(22,some EK),(21,some C6),(20,some C1),(19,none),(18,some Be),(17,some BG),(16,some Ba),(15,some B3),(14,some HS),(13,some Bj),(12,some Bn),(11,some AK),(10,some Bq),(9,some Br),(8,some Bu),(7,some Bs),(6,some Bt),(5,some Bv),(4,some Bo),(3,some Bp),(2,some AK),(1,some BE),(0,some Bd)]⟩) kr ?_
 refine Dq (AV.i .i64 (0:Int))<|Aw.fin<|Sq<|Rg<|Aq FG<|Aq (AV.loc 14 0 4)<|Sp 14 HT<|Ad<|Ah.drawn A6 E5 14 kr le<|Dq (AV.loc 14 0 6)<|Dq (AV.own 22 0 ([CC,CB].length))<|Dq (AV.own 15 0 4)<|Dq (AV.i .i64 (2:Int))<|Dp (AV.loc 15 2 0) (Ft (e:=9) (id:=15) (len:=4) (kk:= .i64) (ob:=B3) (i:=2) kr kr kr rfl kr sd)<|Dp FJ (D4 (e:=9) (k:=1) (i:=Hz) (id:=15) (xs:=[(⟨#[97,46,111]⟩:ByteArray),(⟨#[97,46,100]⟩:ByteArray),(⟨#[98,46,111]⟩:ByteArray),(⟨#[108,105,98]⟩:ByteArray)]) (A:=AV.s) (j:=2) kr kr rfl rfl kr) ?_
 refine Dq (AV.loc 23 0 0)<|Dq (AV.i .i64 (7:Int))<|Dq (AV.own 16 0 4)<|Dq (AV.i .i64 (2:Int))<|Dp (AV.loc 16 2 0) (Ft (e:=9) (id:=16) (len:=4) (kk:= .i64) (ob:=Ba) (i:=2) kr kr kr rfl kr sd)<|Dp (AV.s (⟨#[98,46,111,124,98,46,99,124,124,110,124,99,99,32,98]⟩:ByteArray)) (D4 (e:=9) (k:=1) (i:=Hz) (id:=16) (xs:=[(⟨#[97,46,111,32,97,46,100,124,97,46,99,124,97,46,104,124,100,124,99,99,32,97]⟩:ByteArray),(⟨#[97,46,111,32,97,46,100,124,97,46,99,124,97,46,104,124,100,124,99,99,32,97]⟩:ByteArray),(⟨#[98,46,111,124,98,46,99,124,124,110,124,99,99,32,98]⟩:ByteArray),(⟨#[108,105,98,124,97,46,111,32,98,46,111,124,124,110,124,97,114]⟩:ByteArray)]) (A:=AV.s) (j:=2) kr kr rfl rfl kr)<|Nd (AV.st [FJ,(AV.i .i64 (7:Int)),(AV.s (⟨#[98,46,111,124,98,46,99,124,124,110,124,99,99,32,98]⟩:ByteArray))])<|Aw.sn (x:=(AV.own 24 0 1)) (h':=⟨25,[(24,some CY),(23,some CL),(22,some EK),(21,some C6),(20,some C1),(19,none),(18,some Be),(17,some BG),(16,some Ba),(15,some B3),(14,some HT),(13,some Bj),(12,some Bn),(11,some AK),(10,some Bq),(9,some Br),(8,some Bu),(7,some Bs),(6,some Bt),(5,some Bv),(4,some Bo),(3,some Bp),(2,some AK),(1,some BE),(0,some Bd)]⟩) kr le ?_
 refine Aw.se (by decide) (x:=(AV.own 25 0 ([CC,CB,Dw].length))) (h':=⟨26,[(25,some EY),(24,some CY),(23,some CL),(22,none),(21,some C6),(20,some C1),(19,none),(18,some Be),(17,some BG),(16,some Ba),(15,some B3),(14,some HT),(13,some Bj),(12,some Bn),(11,some AK),(10,some Bq),(9,some Br),(8,some Bu),(7,some Bs),(6,some Bt),(5,some Bv),(4,some Bo),(3,some Bp),(2,some AK),(1,some BE),(0,some Bd)]⟩) (KL (len:=([CC,CB].length)) (e:=56) (X:=(AV.own 24 0 1)) (A:=Aa.av) (i:=X2) (p:=22) (xs:=[CC,CB]) (ys:=[Dw]) kr kr kr (hx:=kr) kr ⟨by decide,by kernel_rfl⟩ rfl rfl (by show _*40≤140737488355328;first|omega|(simp only [List.length_append,List.length_cons,List.length_nil,List.length_set,List.length_replicate];omega)|(simp;omega)) sd) le ?_
 refine Dq (AV.loc 14 0 6)<|Aw.st (by decide) (x:=AV.und) (h':=⟨26,[(25,some EY),(24,some CY),(23,some CL),(22,none),(21,some C6),(20,some C1),(19,none),(18,some Be),(17,some BG),(16,some Ba),(15,some B3),(14,some HQ),(13,some Bj),(12,some Bn),(11,some AK),(10,some Bq),(9,some Br),(8,some Bu),(7,some Bs),(6,some Bt),(5,some Bv),(4,some Bo),(3,some Bp),(2,some AK),(1,some BE),(0,some Bd)]⟩) kr ?_
 refine Aw.fin<|Rg<|Aq (AV.i .i64 (2:Int))<|Aq (AV.i .i64 (3:Int))<|Aq (AV.i .i64 (3:Int))<|Ad<|OC.next (m:=1)<|Sq<|Sq<|Rg<|Aq (AV.i .i64 (3:Int))<|Aq (AV.b true)<|Ad<|Ct<|Ah.skip<|Sq<|Ah.block<|Sq<|HC A6 E5 12 [10] kr kr kr le<|Dq (AV.loc 14 0 4)<|Dq FG<|Dq (AV.own 15 0 4)<|Dq (AV.i .i64 (3:Int))<|Dp (AV.loc 15 3 0) (Ft (e:=9) (id:=15) (len:=4) (kk:= .i64) (ob:=B3) (i:=3) kr kr kr rfl kr sd)<|Dp FH (D4 (e:=9) (k:=1) (i:=Hz) (id:=15) (xs:=[(⟨#[97,46,111]⟩:ByteArray),(⟨#[97,46,100]⟩:ByteArray),(⟨#[98,46,111]⟩:ByteArray),(⟨#[108,105,98]⟩:ByteArray)]) (A:=AV.s) (j:=3) kr kr rfl rfl kr)<|Dq (AV.i .i64 (3:Int))<|Aw.sc0 (vs:=[FG,FH,(AV.i .i64 (3:Int))]) (r0:=(AV.tup [(AN.av Um),(AV.i .i64 (0:Int))])) kr kr (LQ (GI W (⟨(7:Int),dk3.files⟩:AN) (⟨#[108,105,98]⟩:ByteArray) (3:Int) sd) kr) kr le<|Dq (AV.tup [(AN.av Um),(AV.i .i64 (0:Int))])<|Dq (AN.av Um)<|Dq (AV.i .i64 (0:Int))<|Aw.sn (x:=(AV.loc 26 0 0)) (h':=⟨27,[(26,some FD),(25,some EY),(24,some CY),(23,some CL),(22,none),(21,some C6),(20,some C1),(19,none),(18,some Be),(17,some BG),(16,some Ba),(15,some B3),(14,some HQ),(13,some Bj),(12,some Bn),(11,some AK),(10,some Bq),(9,some Br),(8,some Bu),(7,some Bs),(6,some Bt),(5,some Bv),(4,some Bo),(3,some Bp),(2,some AK),(1,some BE),(0,some Bd)]⟩) kr le ?_
 refine Aw.st (by decide) (x:=AV.und) (h':=⟨27,[(26,some FC),(25,some EY),(24,some CY),(23,some CL),(22,none),(21,some C6),(20,some C1),(19,none),(18,some Be),(17,some BG),(16,some Ba),(15,some B3),(14,some HQ),(13,some Bj),(12,some Bn),(11,some AK),(10,some Bq),(9,some Br),(8,some Bu),(7,some Bs),(6,some Bt),(5,some Bv),(4,some Bo),(3,some Bp),(2,some AK),(1,some BE),(0,some Bd)]⟩) kr ?_
 refine Dq (AV.i .i64 (0:Int))<|Aw.fin<|Sq<|Rg<|Aq (AV.st [(AV.i .i64 (8:Int)),((AY 3 Ae.av) Um.files)])<|Aq (AV.loc 14 0 4)<|Sp 14 HR<|Ad<|Ah.drawn A6 E5 14 kr le<|Dq (AV.loc 14 0 6)<|Dq (AV.own 25 0 ([CC,CB,Dw].length))<|Dq (AV.own 15 0 4)<|Dq (AV.i .i64 (3:Int)) ?_
 refine Dp (AV.loc 15 3 0) (Ft (e:=9) (id:=15) (len:=4) (kk:= .i64) (ob:=B3) (i:=3) kr kr kr rfl kr sd)<|Dp FH (D4 (e:=9) (k:=1) (i:=Hz) (id:=15) (xs:=[(⟨#[97,46,111]⟩:ByteArray),(⟨#[97,46,100]⟩:ByteArray),(⟨#[98,46,111]⟩:ByteArray),(⟨#[108,105,98]⟩:ByteArray)]) (A:=AV.s) (j:=3) kr kr rfl rfl kr)<|Dq (AV.loc 26 0 0)<|Dq (AV.i .i64 (8:Int))<|Dq (AV.own 16 0 4)<|Dq (AV.i .i64 (3:Int))<|Dp (AV.loc 16 3 0) (Ft (e:=9) (id:=16) (len:=4) (kk:= .i64) (ob:=Ba) (i:=3) kr kr kr rfl kr sd)<|Dp (AV.s (⟨#[108,105,98,124,97,46,111,32,98,46,111,124,124,110,124,97,114]⟩:ByteArray)) (D4 (e:=9) (k:=1) (i:=Hz) (id:=16) (xs:=[(⟨#[97,46,111,32,97,46,100,124,97,46,99,124,97,46,104,124,100,124,99,99,32,97]⟩:ByteArray),(⟨#[97,46,111,32,97,46,100,124,97,46,99,124,97,46,104,124,100,124,99,99,32,97]⟩:ByteArray),(⟨#[98,46,111,124,98,46,99,124,124,110,124,99,99,32,98]⟩:ByteArray),(⟨#[108,105,98,124,97,46,111,32,98,46,111,124,124,110,124,97,114]⟩:ByteArray)]) (A:=AV.s) (j:=3) kr kr rfl rfl kr) ?_
 refine Nd (AV.st [FH,(AV.i .i64 (8:Int)),(AV.s (⟨#[108,105,98,124,97,46,111,32,98,46,111,124,124,110,124,97,114]⟩:ByteArray))])<|Aw.sn (x:=(AV.own 27 0 1)) (h':=⟨28,[(27,some Ho),(26,some FC),(25,some EY),(24,some CY),(23,some CL),(22,none),(21,some C6),(20,some C1),(19,none),(18,some Be),(17,some BG),(16,some Ba),(15,some B3),(14,some HR),(13,some Bj),(12,some Bn),(11,some AK),(10,some Bq),(9,some Br),(8,some Bu),(7,some Bs),(6,some Bt),(5,some Bv),(4,some Bo),(3,some Bp),(2,some AK),(1,some BE),(0,some Bd)]⟩) kr le ?_
 refine Aw.se (by decide) (x:=(AV.own 28 0 ([CC,CB,Dw,FO].length))) (h':=⟨29,[(28,some Ky),(27,some Ho),(26,some FC),(25,none),(24,some CY),(23,some CL),(22,none),(21,some C6),(20,some C1),(19,none),(18,some Be),(17,some BG),(16,some Ba),(15,some B3),(14,some HR),(13,some Bj),(12,some Bn),(11,some AK),(10,some Bq),(9,some Br),(8,some Bu),(7,some Bs),(6,some Bt),(5,some Bv),(4,some Bo),(3,some Bp),(2,some AK),(1,some BE),(0,some Bd)]⟩) (KL (len:=([CC,CB,Dw].length)) (e:=56) (X:=(AV.own 27 0 1)) (A:=Aa.av) (i:=X2) (p:=25) (xs:=[CC,CB,Dw]) (ys:=[FO]) kr kr kr (hx:=kr) kr ⟨by decide,by kernel_rfl⟩ rfl rfl (by show _*40≤140737488355328;first|omega|(simp only [List.length_append,List.length_cons,List.length_nil,List.length_set,List.length_replicate];omega)|(simp;omega)) sd) le ?_
 refine Dq (AV.loc 14 0 6)<|Aw.st (by decide) (x:=AV.und) (h':=⟨29,[(28,some Ky),(27,some Ho),(26,some FC),(25,none),(24,some CY),(23,some CL),(22,none),(21,some C6),(20,some C1),(19,none),(18,some Be),(17,some BG),(16,some Ba),(15,some B3),(14,some ⟨35,11,[(AV.st [(AV.own 1 0 3),(AV.own 10 0 1),(AV.own 11 0 1),(AV.own 12 0 1),(AV.i .i64 (8:Int)),((AY 3 Ae.av) Um.files),(AV.own 28 0 ([CC,CB,Dw,FO].length)),(AV.sl 3 true []),(AV.i .i64 (2:Int)),(AV.b false),(AV.sl 1 true [])])]⟩),(13,some Bj),(12,some Bn),(11,some AK),(10,some Bq),(9,some Br),(8,some Bu),(7,some Bs),(6,some Bt),(5,some Bv),(4,some Bo),(3,some Bp),(2,some AK),(1,some BE),(0,some Bd)]⟩) kr ?_
 refine Aw.fin<|Rg<|Aq (AV.i .i64 (3:Int))<|Aq (AV.i .i64 (4:Int))<|Aq (AV.i .i64 (4:Int))<|Ad<|OC.next (m:=0)<|Sq<|Sq<|Rg<|Aq (AV.i .i64 (4:Int))<|Aq (AV.b false)<|Ad<|Cf<|Ah.exit<|Sq<|Rg<|Nn (AV.own 29 0 1) Bj<|Nb (AV.st [E2,(AV.i .i64 (5:Int)),(AV.own 29 0 1)])<|Nn (AV.own 30 0 1) ⟨61,3,[(AV.st [E2,(AV.i .i64 (5:Int)),(AV.own 29 0 1)])]⟩<|Aq (AV.loc 14 0 7)<|Sp 14 Kx<|Ad<|Sq<|Rg<|Aq HP ?_
 refine Sp 0 Kx<|Ad<|Rt ?_
 have hM:MW=(⟨E4,[Cq],(⟨(8:Int),Um.files⟩:AN),[CC,CB,Dw,FO],[Pc],(2:Int),false,[]⟩:Av):=by simp only [MW,Bl]
 exact ⟨[1,2,3,4,5,6,7,8,9,10,11,12,13,28,30,29],Or.inr rfl,by decide,rfl,⟨kr,⟨kr,⟨kr,⟨kr,⟨kr,⟨kr,⟨kr,⟨kr,⟨kr,⟨kr,⟨kr,⟨kr,⟨kr,⟨kr,⟨kr,⟨kr,trivial⟩⟩⟩⟩⟩⟩⟩⟩⟩⟩⟩⟩⟩⟩⟩⟩,HP,kr,kr⟩
def Co:AV:=(AV.s (⟨#[]⟩:ByteArray))
def E1:AV:=(AV.s (⟨#[97,114]⟩:ByteArray))
def C0:AV:=(AV.s (⟨#[116,119,111]⟩:ByteArray))
def Dr:AV:=(AV.s (⟨#[99,99,32,98]⟩:ByteArray))
def BS:AV:=(AV.s (⟨#[99,99,32,97]⟩:ByteArray))
def FA:AV:=(AV.st [BS,(AV.own 12 0 1),(AV.b false)])
def JG:AV:=(AV.st [(AV.own 1 0 1),(AV.own 2 0 2),(AV.sl 1 true []),(AV.sl 1 true []),Co,(AV.b false),Co])
def Hj:AV:=(AV.st [(AV.own 1 0 1),(AV.own 2 0 2),(AV.sl 1 true []),(AV.sl 1 true []),E1,(AV.b false),Co])
def JF:AV:=(AV.st [(AV.own 15 0 1),(AV.own 16 0 2),(AV.sl 1 true []),(AV.sl 1 true []),E1,(AV.b false),Co])
def EJ:AV:=(AV.st [(AV.own 3 0 2),(AV.own 4 0 1),(AV.own 5 0 1),(AV.sl 1 true []),BS,(AV.b true),C0])
def EI:AV:=(AV.st [(AV.own 6 0 1),(AV.own 7 0 1),(AV.sl 1 true []),(AV.own 8 0 1),Dr,(AV.b false),C0])
def JE:AV:=(AV.st [(AV.own 17 0 2),(AV.own 18 0 1),(AV.own 19 0 1),(AV.sl 1 true []),BS,(AV.b true),C0])
def JD:AV:=(AV.st [(AV.own 20 0 1),(AV.own 21 0 1),(AV.sl 1 true []),(AV.own 22 0 1),Dr,(AV.b false),C0])
def EH:AV:=(AV.st [(AV.own 0 0 3),(AV.own 9 0 1),(AV.own 10 0 1),(AV.own 11 0 1),(AV.i .i64 (4:Int)),(AV.own 13 0 4),(AV.sl 3 true []),(AV.sl 3 true []),(AV.i .i64 (2:Int)),(AV.b false),(AV.sl 1 true [])])
def Fz:AV:=(AV.st [(AV.own 14 0 3),(AV.own 23 0 1),(AV.own 24 0 1),(AV.own 25 0 1),(AV.i .i64 (4:Int)),(AV.own 27 0 4),(AV.sl 3 true []),(AV.sl 3 true []),(AV.i .i64 (2:Int)),(AV.b false),(AV.sl 1 true [])])
def JC:AV:=((AY 3 Ae.av) [Bf,Bh,Bi,Bg])
def Fy:AV:=((AY 3 Ae.av) (([Bf,Bh,Bi,Bg].take [Bf,Bh,Bi,Bg].length).drop 1))
def Do:AV:=(AV.st [(AV.own 0 0 3),(AV.own 9 0 1),(AV.own 10 0 1),(AV.own 11 0 1),(AV.i .i64 (4:Int)),Fy,(AV.sl 3 true []),(AV.sl 3 true []),(AV.i .i64 (2:Int)),(AV.b false),(AV.sl 1 true [])])
def Fx:AV:=(Av.av BF)
def E0:AV:=(AV.i .i64 ((Cp BF).2))
def DA:AV:=((AY 1 AV.b) ((Cp BF).1))
def EX:AV:=(AV.i .i64 ((BJ BF (3:Int)).2))
def Dg:AV:=(AV.i .i64 ((BJ BF (1:Int)).2))
def EW:AV:=(AV.i .i64 ((Cp (⟨Hb,[Cq],(⟨(4:Int),(([Bf,Bh,Bi,Bg].take [Bf,Bh,Bi,Bg].length).drop 1)⟩:AN),[],[],(2:Int),false,[]⟩:Av)).2))
def EV:AV:=(AV.i .i64 ((BJ (⟨E4,[Cq],(⟨(4:Int),(([Bf,Bh,Bi,Bg].take [Bf,Bh,Bi,Bg].length).drop 1)⟩:AN),[],[],(2:Int),false,[]⟩:Av) (1:Int)).2))
def Kw:AV:=(AV.tup [AV.und,EW])
def Kv:AV:=(AV.tup [DA,E0])
def Ku:AV:=(AV.tup [(AV.b ((BJ BF (3:Int)).1)),EX])
def Kt:AV:=(AV.tup [(AV.b ((BJ (⟨E4,[Cq],(⟨(4:Int),(([Bf,Bh,Bi,Bg].take [Bf,Bh,Bi,Bg].length).drop 1)⟩:AN),[],[],(2:Int),false,[]⟩:Av) (1:Int)).1)),EV])
theorem Qr (W:World) {m0:Int} (hW:W.cell? ⟨0,0,none⟩=some (.int .i64 m0)):Ar Go.Proofs.Tryz.prog W 25 [] (AV.b MS) []:=by
 refine As (fn:=Go.Proofs.Tryz.f25) Go.Proofs.Tryz.func25 rfl (en25 W) (ts:=[0]) rfl le<|Sq<|Rg<|Aq (AV.b false)<|Ad<|Sq<|Rg<|Sc EH (G8 W)<|A4.sfw (vs:=[EH,(AV.i .i64 (1:Int))]) (ss:=[Fx,(AV.i .i64 (1:Int))]) (r0:=(AV.tup [(AV.b ((BJ BF (1:Int)).1)),Dg])) kr (show BP _ _ _ from ⟨(A1.w (A1.cast (x':=EH) kr kr (A1.st (A0.cons (A1.own (id:=0) (len:=3) (e:=65) (k:=7) (els:=[Hj,EJ,EI]) rfl rfl rfl sd (Am.cons (B7.st (A0.cons (A1.row (fun _=>rfl) (A:=AV.s) (id:=1) (e:=9) (k:=1) (xs:=[(⟨#[108,105,98]⟩:ByteArray)]) rfl rfl sd sd) (A0.cons (A1.row (fun _=>rfl) (A:=AV.s) (id:=2) (e:=9) (k:=1) (xs:=[(⟨#[97,46,111]⟩:ByteArray),(⟨#[98,46,111]⟩:ByteArray)]) rfl rfl sd sd) (A0.cons (A1.c rfl (AH.nil 1)) (A0.cons (A1.c rfl (AH.nil 1)) (A0.cons (A2 (x:=E1) kr) (A0.cons (A2 (x:=(AV.b false)) kr) (A0.cons (A2 (x:=Co) kr) A0.nil)))))))) (Am.cons (B7.st (A0.cons (A1.row (fun _=>rfl) (A:=AV.s) (id:=3) (e:=9) (k:=1) (xs:=[(⟨#[97,46,111]⟩:ByteArray),(⟨#[97,46,100]⟩:ByteArray)]) rfl rfl sd sd) (A0.cons (A1.row (fun _=>rfl) (A:=AV.s) (id:=4) (e:=9) (k:=1) (xs:=[(⟨#[97,46,99]⟩:ByteArray)]) rfl rfl sd sd) (A0.cons (A1.row (fun _=>rfl) (A:=AV.s) (id:=5) (e:=9) (k:=1) (xs:=[(⟨#[97,46,104]⟩:ByteArray)]) rfl rfl sd sd) (A0.cons (A1.c rfl (AH.nil 1)) (A0.cons (A2 (x:=BS) kr) (A0.cons (A2 (x:=(AV.b true)) kr) (A0.cons (A2 (x:=C0) kr) A0.nil)))))))) (Am.cons (B7.st (A0.cons (A1.row (fun _=>rfl) (A:=AV.s) (id:=6) (e:=9) (k:=1) (xs:=[(⟨#[98,46,111]⟩:ByteArray)]) rfl rfl sd sd) (A0.cons (A1.row (fun _=>rfl) (A:=AV.s) (id:=7) (e:=9) (k:=1) (xs:=[(⟨#[98,46,99]⟩:ByteArray)]) rfl rfl sd sd) (A0.cons (A1.c rfl (AH.nil 1)) (A0.cons (A1.row (fun _=>rfl) (A:=AV.s) (id:=8) (e:=9) (k:=1) (xs:=[(⟨#[97,46,111]⟩:ByteArray)]) rfl rfl sd sd) (A0.cons (A2 (x:=Dr) kr) (A0.cons (A2 (x:=(AV.b false)) kr) (A0.cons (A2 (x:=C0) kr) A0.nil)))))))) Am.nil)))) (A0.cons (A1.row (fun _=>rfl) (A:=BZ.av) (id:=9) (e:=122) (k:=2) (xs:=[(⟨(⟨#[116,119,111]⟩:ByteArray),(2:Int)⟩:BZ)]) rfl rfl sd sd) (A0.cons (A1.row (fun _=>rfl) (A:=AV.s) (id:=10) (e:=9) (k:=1) (xs:=[(⟨#[108,105,98]⟩:ByteArray)]) rfl rfl sd sd) (A0.cons (A1.own (id:=11) (len:=1) (e:=67) (k:=3) (els:=[FA]) rfl rfl rfl sd (Am.cons (B7.st (A0.cons (A2 (x:=BS) kr) (A0.cons (A1.row (fun _=>rfl) (A:=AV.s) (id:=12) (e:=9) (k:=1) (xs:=[(⟨#[122,46,104]⟩:ByteArray)]) rfl rfl sd sd) (A0.cons (A2 (x:=(AV.b false)) kr) A0.nil)))) Am.nil)) (A0.cons (A2 (x:=(AV.i .i64 (4:Int))) kr) (A0.cons (A1.row (fun _=>rfl) (A:=Ae.av) (id:=13) (e:=85) (k:=3) (xs:=[Bf,Bh,Bi,Bg]) rfl rfl sd sd) (A0.cons (A1.c rfl (AH.nil 3)) (A0.cons (A1.c rfl (AH.nil 3)) (A0.cons (A2 (x:=(AV.i .i64 (2:Int))) kr) (A0.cons (A2 (x:=(AV.b false)) kr) (A0.cons (A1.c rfl (AH.nil 1)) A0.nil)))))))))))))),⟨(BP.e kr),trivial⟩⟩) (Ca W hW BF (1:Int) sd) rfl kr le ?_
 refine Aq (AV.tup [(AV.b ((BJ BF (1:Int)).1)),Dg]) ?_
 refine Aq (AV.b ((BJ BF (1:Int)).1))<|Aq Dg ?_
 refine Aq (AV.b ((BJ BF (1:Int)).1))<|Aq Dg ?_
 refine Ad<|Sq<|DG<|DZ.run A6 1 le<|Sc Fz (G8 W)<|Ad<|EQ (Ke.fits [] (env1:=[(1,(AV.b ((BJ BF (1:Int)).1))),(2,Dg),(18,Fx)]) (h1:=⟨0,[]⟩) ⟨by decide,rfl,A3.nil,(Ee (Ee (AM.cons (BM.st ⟨(Cz.kk (x':=(AV.own 14 0 3)) kr kr rfl (A1.own (id:=14) (len:=3) (e:=65) (k:=7) (els:=[JF,JE,JD]) rfl rfl rfl sd (Am.cons (B7.st (A0.cons (A1.row (fun _=>rfl) (A:=AV.s) (id:=15) (e:=9) (k:=1) (xs:=[(⟨#[108,105,98]⟩:ByteArray)]) rfl rfl sd sd) (A0.cons (A1.row (fun _=>rfl) (A:=AV.s) (id:=16) (e:=9) (k:=1) (xs:=[(⟨#[97,46,111]⟩:ByteArray),(⟨#[98,46,111]⟩:ByteArray)]) rfl rfl sd sd) (A0.cons (A1.c rfl (AH.nil 1)) (A0.cons (A1.c rfl (AH.nil 1)) (A0.cons (A2 (x:=E1) kr) (A0.cons (A2 (x:=(AV.b false)) kr) (A0.cons (A2 (x:=Co) kr) A0.nil)))))))) (Am.cons (B7.st (A0.cons (A1.row (fun _=>rfl) (A:=AV.s) (id:=17) (e:=9) (k:=1) (xs:=[(⟨#[97,46,111]⟩:ByteArray),(⟨#[97,46,100]⟩:ByteArray)]) rfl rfl sd sd) (A0.cons (A1.row (fun _=>rfl) (A:=AV.s) (id:=18) (e:=9) (k:=1) (xs:=[(⟨#[97,46,99]⟩:ByteArray)]) rfl rfl sd sd) (A0.cons (A1.row (fun _=>rfl) (A:=AV.s) (id:=19) (e:=9) (k:=1) (xs:=[(⟨#[97,46,104]⟩:ByteArray)]) rfl rfl sd sd) (A0.cons (A1.c rfl (AH.nil 1)) (A0.cons (A2 (x:=BS) kr) (A0.cons (A2 (x:=(AV.b true)) kr) (A0.cons (A2 (x:=C0) kr) A0.nil)))))))) (Am.cons (B7.st (A0.cons (A1.row (fun _=>rfl) (A:=AV.s) (id:=20) (e:=9) (k:=1) (xs:=[(⟨#[98,46,111]⟩:ByteArray)]) rfl rfl sd sd) (A0.cons (A1.row (fun _=>rfl) (A:=AV.s) (id:=21) (e:=9) (k:=1) (xs:=[(⟨#[98,46,99]⟩:ByteArray)]) rfl rfl sd sd) (A0.cons (A1.c rfl (AH.nil 1)) (A0.cons (A1.row (fun _=>rfl) (A:=AV.s) (id:=22) (e:=9) (k:=1) (xs:=[(⟨#[97,46,111]⟩:ByteArray)]) rfl rfl sd sd) (A0.cons (A2 (x:=Dr) kr) (A0.cons (A2 (x:=(AV.b false)) kr) (A0.cons (A2 (x:=C0) kr) A0.nil)))))))) Am.nil))))),⟨(Cz.kk (x':=(AV.own 23 0 1)) kr kr rfl (A1.row (fun _=>rfl) (A:=BZ.av) (id:=23) (e:=122) (k:=2) (xs:=[(⟨(⟨#[116,119,111]⟩:ByteArray),(2:Int)⟩:BZ)]) rfl rfl sd sd)),⟨(Cz.kk (x':=(AV.own 24 0 1)) kr kr rfl (A1.row (fun _=>rfl) (A:=AV.s) (id:=24) (e:=9) (k:=1) (xs:=[(⟨#[108,105,98]⟩:ByteArray)]) rfl rfl sd sd)),⟨(Cz.kk (x':=(AV.own 25 0 1)) kr kr rfl (A1.own (id:=25) (len:=1) (e:=67) (k:=3) (els:=[(AV.st [BS,(AV.own 26 0 1),(AV.b false)])]) rfl rfl rfl sd (Am.cons (B7.st (A0.cons (A2 (x:=BS) kr) (A0.cons (A1.row (fun _=>rfl) (A:=AV.s) (id:=26) (e:=9) (k:=1) (xs:=[(⟨#[122,46,104]⟩:ByteArray)]) rfl rfl sd sd) (A0.cons (A2 (x:=(AV.b false)) kr) A0.nil)))) Am.nil))),⟨Ec,⟨(Cz.kk (x':=(AV.own 27 0 4)) kr kr rfl (A1.row (fun _=>rfl) (A:=Ae.av) (id:=27) (e:=85) (k:=3) (xs:=[Bf,Bh,Bi,Bg]) rfl rfl sd sd)),⟨(BM.w rfl (AH.nil 3)),⟨(BM.w rfl (AH.nil 3)),⟨Ec,⟨Ec,⟨(BM.w rfl (AH.nil 1)),trivial⟩⟩⟩⟩⟩⟩⟩⟩⟩⟩⟩ kr) AM.nil)))⟩ B4) ?_
 refine DZ.run A6 6 le<|A4.sc0 (vs:=[Fx]) (r0:=Kv) kr kr (E8 W hW BF sd) kr le ?_
 refine Aq Kv ?_
 refine Aq DA<|Aq E0 ?_
 refine Aq DA<|Aq E0 ?_
 refine Ad<|DZ.fin rfl<|Sq<|Rg<|Sc EH (G8 W)<|Nn (AV.loc 14 0 0) ⟨35,11,[(AV.st [(AV.sl 7 true []),(AV.sl 2 true []),(AV.sl 1 true []),(AV.sl 3 true []),(AV.i .i64 (0:Int)),(AV.sl 3 true []),(AV.sl 3 true []),(AV.sl 3 true []),(AV.i .i64 (0:Int)),(AV.b false),(AV.sl 1 true [])])]⟩<|Sp 14 ⟨35,11,[EH]⟩<|Ad<|Sq<|DG<|DZ.run A6 3 le<|Aq (AV.loc 14 0 4)<|Aq (AV.loc 14 0 5)<|Aq (AV.own 13 0 4)<|Ad<|EQ (Ke.fits [0,1,2,3,4,5,6,7,8,9,10,11,12,14] (env1:=[(1,(AV.b ((BJ BF (1:Int)).1))),(2,Dg),(3,DA),(4,E0),(5,(AV.loc 13 0 0)),(25,JC)]) (h1:=⟨14,[(13,some ⟨35,11,[(AV.st [(AV.own 0 0 3),(AV.own 9 0 1),(AV.own 10 0 1),(AV.own 11 0 1),(AV.i .i64 (4:Int)),JC,(AV.sl 3 true []),(AV.sl 3 true []),(AV.i .i64 (2:Int)),(AV.b false),(AV.sl 1 true [])])]⟩),(12,some ⟨9,1,[(⟨#[122,46,104]⟩:ByteArray)].map AV.s⟩),(11,some ⟨67,3,[FA]⟩),(10,some ⟨9,1,[(⟨#[108,105,98]⟩:ByteArray)].map AV.s⟩),(9,some ⟨122,2,[(⟨(⟨#[116,119,111]⟩:ByteArray),(2:Int)⟩:BZ)].map BZ.av⟩),(8,some ⟨9,1,[(⟨#[97,46,111]⟩:ByteArray)].map AV.s⟩),(7,some ⟨9,1,[(⟨#[98,46,99]⟩:ByteArray)].map AV.s⟩),(6,some ⟨9,1,[(⟨#[98,46,111]⟩:ByteArray)].map AV.s⟩),(5,some ⟨9,1,[(⟨#[97,46,104]⟩:ByteArray)].map AV.s⟩),(4,some ⟨9,1,[(⟨#[97,46,99]⟩:ByteArray)].map AV.s⟩),(3,some ⟨9,1,[(⟨#[97,46,111]⟩:ByteArray),(⟨#[97,46,100]⟩:ByteArray)].map AV.s⟩),(2,some ⟨9,1,[(⟨#[97,46,111]⟩:ByteArray),(⟨#[98,46,111]⟩:ByteArray)].map AV.s⟩),(1,some ⟨9,1,[(⟨#[108,105,98]⟩:ByteArray)].map AV.s⟩),(0,some ⟨65,7,[Hj,EJ,EI]⟩)]⟩) ⟨by decide,rfl,(A3.cons kr (A3.cons (BA (fun _=>rfl) (e:=9) (k:=1) (A:=AV.s) (xs:=[(⟨#[108,105,98]⟩:ByteArray)]) rfl rfl) (A3.cons (BA (fun _=>rfl) (e:=9) (k:=1) (A:=AV.s) (xs:=[(⟨#[97,46,111]⟩:ByteArray),(⟨#[98,46,111]⟩:ByteArray)]) rfl rfl) (A3.cons (BA (fun _=>rfl) (e:=9) (k:=1) (A:=AV.s) (xs:=[(⟨#[97,46,111]⟩:ByteArray),(⟨#[97,46,100]⟩:ByteArray)]) rfl rfl) (A3.cons (BA (fun _=>rfl) (e:=9) (k:=1) (A:=AV.s) (xs:=[(⟨#[97,46,99]⟩:ByteArray)]) rfl rfl) (A3.cons (BA (fun _=>rfl) (e:=9) (k:=1) (A:=AV.s) (xs:=[(⟨#[97,46,104]⟩:ByteArray)]) rfl rfl) (A3.cons (BA (fun _=>rfl) (e:=9) (k:=1) (A:=AV.s) (xs:=[(⟨#[98,46,111]⟩:ByteArray)]) rfl rfl) (A3.cons (BA (fun _=>rfl) (e:=9) (k:=1) (A:=AV.s) (xs:=[(⟨#[98,46,99]⟩:ByteArray)]) rfl rfl) (A3.cons (BA (fun _=>rfl) (e:=9) (k:=1) (A:=AV.s) (xs:=[(⟨#[97,46,111]⟩:ByteArray)]) rfl rfl) (A3.cons (BA (fun _=>rfl) (e:=122) (k:=2) (A:=BZ.av) (xs:=[(⟨(⟨#[116,119,111]⟩:ByteArray),(2:Int)⟩:BZ)]) rfl rfl) (A3.cons (BA (fun _=>rfl) (e:=9) (k:=1) (A:=AV.s) (xs:=[(⟨#[108,105,98]⟩:ByteArray)]) rfl rfl) (A3.cons kr (A3.cons (BA (fun _=>rfl) (e:=9) (k:=1) (A:=AV.s) (xs:=[(⟨#[122,46,104]⟩:ByteArray)]) rfl rfl) (A3.cons kr A3.nil)))))))))))))),(Ee (Ee (Ee (Ee (AM.cons (BM.f kr) (AM.cons (Cz.kk (x':=(AV.own 13 0 4)) kr kr rfl (A1.row (fun _=>rfl) (A:=Ae.av) (id:=13) (e:=85) (k:=3) (xs:=[Bf,Bh,Bi,Bg]) rfl rfl sd sd)) AM.nil))))))⟩ B4) ?_
 refine DZ.run A6 4 le<|Ap Fy (g_cutL (k:=3) (nl:=false) (e:=85) (l:=(some (1:Int))) (g:=none) (A:=Ae.av) (xs:=[Bf,Bh,Bi,Bg]) (a:=1) (b:=[Bf,Bh,Bi,Bg].length) kr kr ⟨by kernel_rfl,by decide⟩ kr kr rfl rfl sd sd)<|Aq (AV.loc 13 0 4)<|Aq (AV.loc 13 0 5)<|Sp 13 ⟨35,11,[Do]⟩ ?_
 refine Ad<|DZ.fin rfl<|Sq<|Rg<|Aq Do<|A4.sfw (vs:=[Do,(AV.i .i64 (1:Int))]) (ss:=[(Av.av (⟨E4,[Cq],(⟨(4:Int),(([Bf,Bh,Bi,Bg].take [Bf,Bh,Bi,Bg].length).drop 1)⟩:AN),[],[],(2:Int),false,[]⟩:Av)),(AV.i .i64 (1:Int))]) (r0:=Kt) kr (show BP _ _ _ from ⟨(A1.w (A1.cast (x':=Do) kr kr (A1.st (A0.cons (A1.own (id:=0) (len:=3) (e:=65) (k:=7) (els:=[Hj,EJ,EI]) rfl rfl rfl sd (Am.cons (B7.st (A0.cons (A1.row (fun _=>rfl) (A:=AV.s) (id:=1) (e:=9) (k:=1) (xs:=[(⟨#[108,105,98]⟩:ByteArray)]) rfl rfl sd sd) (A0.cons (A1.row (fun _=>rfl) (A:=AV.s) (id:=2) (e:=9) (k:=1) (xs:=[(⟨#[97,46,111]⟩:ByteArray),(⟨#[98,46,111]⟩:ByteArray)]) rfl rfl sd sd) (A0.cons (A1.c rfl (AH.nil 1)) (A0.cons (A1.c rfl (AH.nil 1)) (A0.cons (A2 (x:=E1) kr) (A0.cons (A2 (x:=(AV.b false)) kr) (A0.cons (A2 (x:=Co) kr) A0.nil)))))))) (Am.cons (B7.st (A0.cons (A1.row (fun _=>rfl) (A:=AV.s) (id:=3) (e:=9) (k:=1) (xs:=[(⟨#[97,46,111]⟩:ByteArray),(⟨#[97,46,100]⟩:ByteArray)]) rfl rfl sd sd) (A0.cons (A1.row (fun _=>rfl) (A:=AV.s) (id:=4) (e:=9) (k:=1) (xs:=[(⟨#[97,46,99]⟩:ByteArray)]) rfl rfl sd sd) (A0.cons (A1.row (fun _=>rfl) (A:=AV.s) (id:=5) (e:=9) (k:=1) (xs:=[(⟨#[97,46,104]⟩:ByteArray)]) rfl rfl sd sd) (A0.cons (A1.c rfl (AH.nil 1)) (A0.cons (A2 (x:=BS) kr) (A0.cons (A2 (x:=(AV.b true)) kr) (A0.cons (A2 (x:=C0) kr) A0.nil)))))))) (Am.cons (B7.st (A0.cons (A1.row (fun _=>rfl) (A:=AV.s) (id:=6) (e:=9) (k:=1) (xs:=[(⟨#[98,46,111]⟩:ByteArray)]) rfl rfl sd sd) (A0.cons (A1.row (fun _=>rfl) (A:=AV.s) (id:=7) (e:=9) (k:=1) (xs:=[(⟨#[98,46,99]⟩:ByteArray)]) rfl rfl sd sd) (A0.cons (A1.c rfl (AH.nil 1)) (A0.cons (A1.row (fun _=>rfl) (A:=AV.s) (id:=8) (e:=9) (k:=1) (xs:=[(⟨#[97,46,111]⟩:ByteArray)]) rfl rfl sd sd) (A0.cons (A2 (x:=Dr) kr) (A0.cons (A2 (x:=(AV.b false)) kr) (A0.cons (A2 (x:=C0) kr) A0.nil)))))))) Am.nil)))) (A0.cons (A1.row (fun _=>rfl) (A:=BZ.av) (id:=9) (e:=122) (k:=2) (xs:=[(⟨(⟨#[116,119,111]⟩:ByteArray),(2:Int)⟩:BZ)]) rfl rfl sd sd) (A0.cons (A1.row (fun _=>rfl) (A:=AV.s) (id:=10) (e:=9) (k:=1) (xs:=[(⟨#[108,105,98]⟩:ByteArray)]) rfl rfl sd sd) (A0.cons (A1.own (id:=11) (len:=1) (e:=67) (k:=3) (els:=[FA]) rfl rfl rfl sd (Am.cons (B7.st (A0.cons (A2 (x:=BS) kr) (A0.cons (A1.row (fun _=>rfl) (A:=AV.s) (id:=12) (e:=9) (k:=1) (xs:=[(⟨#[122,46,104]⟩:ByteArray)]) rfl rfl sd sd) (A0.cons (A2 (x:=(AV.b false)) kr) A0.nil)))) Am.nil)) (A0.cons (A2 (x:=(AV.i .i64 (4:Int))) kr) (A0.cons (A2 (x:=Fy) kr) (A0.cons (A1.c rfl (AH.nil 3)) (A0.cons (A1.c rfl (AH.nil 3)) (A0.cons (A2 (x:=(AV.i .i64 (2:Int))) kr) (A0.cons (A2 (x:=(AV.b false)) kr) (A0.cons (A1.c rfl (AH.nil 1)) A0.nil)))))))))))))),⟨(BP.e kr),trivial⟩⟩) (Ca W hW (⟨E4,[Cq],(⟨(4:Int),(([Bf,Bh,Bi,Bg].take [Bf,Bh,Bi,Bg].length).drop 1)⟩:AN),[],[],(2:Int),false,[]⟩:Av) (1:Int) sd) rfl kr le ?_
 refine Aq Kt ?_
 refine Aq (AV.b ((BJ (⟨E4,[Cq],(⟨(4:Int),(([Bf,Bh,Bi,Bg].take [Bf,Bh,Bi,Bg].length).drop 1)⟩:AN),[],[],(2:Int),false,[]⟩:Av) (1:Int)).1))<|Aq EV ?_
 refine Aq (AV.b ((BJ (⟨E4,[Cq],(⟨(4:Int),(([Bf,Bh,Bi,Bg].take [Bf,Bh,Bi,Bg].length).drop 1)⟩:AN),[],[],(2:Int),false,[]⟩:Av) (1:Int)).1))<|Aq EV ?_
 refine Ad<|Sq<|Rg<|Sc Fz (G8 W)<|A4.sfw (vs:=[Fz,(AV.i .i64 (3:Int))]) (ss:=[Fx,(AV.i .i64 (3:Int))]) (r0:=Ku) kr (show BP _ _ _ from ⟨(A1.w (A1.cast (x':=Fz) kr kr (A1.st (A0.cons (A1.own (id:=14) (len:=3) (e:=65) (k:=7) (els:=[JF,JE,JD]) rfl rfl rfl sd (Am.cons (B7.st (A0.cons (A1.row (fun _=>rfl) (A:=AV.s) (id:=15) (e:=9) (k:=1) (xs:=[(⟨#[108,105,98]⟩:ByteArray)]) rfl rfl sd sd) (A0.cons (A1.row (fun _=>rfl) (A:=AV.s) (id:=16) (e:=9) (k:=1) (xs:=[(⟨#[97,46,111]⟩:ByteArray),(⟨#[98,46,111]⟩:ByteArray)]) rfl rfl sd sd) (A0.cons (A1.c rfl (AH.nil 1)) (A0.cons (A1.c rfl (AH.nil 1)) (A0.cons (A2 (x:=E1) kr) (A0.cons (A2 (x:=(AV.b false)) kr) (A0.cons (A2 (x:=Co) kr) A0.nil)))))))) (Am.cons (B7.st (A0.cons (A1.row (fun _=>rfl) (A:=AV.s) (id:=17) (e:=9) (k:=1) (xs:=[(⟨#[97,46,111]⟩:ByteArray),(⟨#[97,46,100]⟩:ByteArray)]) rfl rfl sd sd) (A0.cons (A1.row (fun _=>rfl) (A:=AV.s) (id:=18) (e:=9) (k:=1) (xs:=[(⟨#[97,46,99]⟩:ByteArray)]) rfl rfl sd sd) (A0.cons (A1.row (fun _=>rfl) (A:=AV.s) (id:=19) (e:=9) (k:=1) (xs:=[(⟨#[97,46,104]⟩:ByteArray)]) rfl rfl sd sd) (A0.cons (A1.c rfl (AH.nil 1)) (A0.cons (A2 (x:=BS) kr) (A0.cons (A2 (x:=(AV.b true)) kr) (A0.cons (A2 (x:=C0) kr) A0.nil)))))))) (Am.cons (B7.st (A0.cons (A1.row (fun _=>rfl) (A:=AV.s) (id:=20) (e:=9) (k:=1) (xs:=[(⟨#[98,46,111]⟩:ByteArray)]) rfl rfl sd sd) (A0.cons (A1.row (fun _=>rfl) (A:=AV.s) (id:=21) (e:=9) (k:=1) (xs:=[(⟨#[98,46,99]⟩:ByteArray)]) rfl rfl sd sd) (A0.cons (A1.c rfl (AH.nil 1)) (A0.cons (A1.row (fun _=>rfl) (A:=AV.s) (id:=22) (e:=9) (k:=1) (xs:=[(⟨#[97,46,111]⟩:ByteArray)]) rfl rfl sd sd) (A0.cons (A2 (x:=Dr) kr) (A0.cons (A2 (x:=(AV.b false)) kr) (A0.cons (A2 (x:=C0) kr) A0.nil)))))))) Am.nil)))) (A0.cons (A1.row (fun _=>rfl) (A:=BZ.av) (id:=23) (e:=122) (k:=2) (xs:=[(⟨(⟨#[116,119,111]⟩:ByteArray),(2:Int)⟩:BZ)]) rfl rfl sd sd) (A0.cons (A1.row (fun _=>rfl) (A:=AV.s) (id:=24) (e:=9) (k:=1) (xs:=[(⟨#[108,105,98]⟩:ByteArray)]) rfl rfl sd sd) (A0.cons (A1.own (id:=25) (len:=1) (e:=67) (k:=3) (els:=[(AV.st [BS,(AV.own 26 0 1),(AV.b false)])]) rfl rfl rfl sd (Am.cons (B7.st (A0.cons (A2 (x:=BS) kr) (A0.cons (A1.row (fun _=>rfl) (A:=AV.s) (id:=26) (e:=9) (k:=1) (xs:=[(⟨#[122,46,104]⟩:ByteArray)]) rfl rfl sd sd) (A0.cons (A2 (x:=(AV.b false)) kr) A0.nil)))) Am.nil)) (A0.cons (A2 (x:=(AV.i .i64 (4:Int))) kr) (A0.cons (A1.row (fun _=>rfl) (A:=Ae.av) (id:=27) (e:=85) (k:=3) (xs:=[Bf,Bh,Bi,Bg]) rfl rfl sd sd) (A0.cons (A1.c rfl (AH.nil 3)) (A0.cons (A1.c rfl (AH.nil 3)) (A0.cons (A2 (x:=(AV.i .i64 (2:Int))) kr) (A0.cons (A2 (x:=(AV.b false)) kr) (A0.cons (A1.c rfl (AH.nil 1)) A0.nil)))))))))))))),⟨(BP.e kr),trivial⟩⟩) (Ca W hW BF (3:Int) sd) rfl kr le ?_
 refine Aq Ku ?_
 refine Aq (AV.b ((BJ BF (3:Int)).1))<|Aq EX ?_
 refine Aq (AV.b ((BJ BF (3:Int)).1))<|Aq EX ?_
 refine Ad<|Sq<|Rg<|Aq (AV.loc 13 0 0)<|Aq (AV.loc 13 0 0)<|Aq (AV.own 0 0 3)<|Aq (AV.loc 0 0 0)<|Aq (AV.loc 0 0 4)<|Sp 0 ⟨65,7,[JG,EJ,EI]⟩<|Ad<|Sq<|Rg<|Aq Do<|A4.sfw (vs:=[Do]) (ss:=[(Av.av (⟨Hb,[Cq],(⟨(4:Int),(([Bf,Bh,Bi,Bg].take [Bf,Bh,Bi,Bg].length).drop 1)⟩:AN),[],[],(2:Int),false,[]⟩:Av))]) (r0:=Kw) kr (show BP _ _ _ from ⟨(A1.w (A1.cast (x':=Do) kr kr (A1.st (A0.cons (A1.own (id:=0) (len:=3) (e:=65) (k:=7) (els:=[JG,EJ,EI]) rfl rfl rfl sd (Am.cons (B7.st (A0.cons (A1.row (fun _=>rfl) (A:=AV.s) (id:=1) (e:=9) (k:=1) (xs:=[(⟨#[108,105,98]⟩:ByteArray)]) rfl rfl sd sd) (A0.cons (A1.row (fun _=>rfl) (A:=AV.s) (id:=2) (e:=9) (k:=1) (xs:=[(⟨#[97,46,111]⟩:ByteArray),(⟨#[98,46,111]⟩:ByteArray)]) rfl rfl sd sd) (A0.cons (A1.c rfl (AH.nil 1)) (A0.cons (A1.c rfl (AH.nil 1)) (A0.cons (A2 (x:=Co) kr) (A0.cons (A2 (x:=(AV.b false)) kr) (A0.cons (A2 (x:=Co) kr) A0.nil)))))))) (Am.cons (B7.st (A0.cons (A1.row (fun _=>rfl) (A:=AV.s) (id:=3) (e:=9) (k:=1) (xs:=[(⟨#[97,46,111]⟩:ByteArray),(⟨#[97,46,100]⟩:ByteArray)]) rfl rfl sd sd) (A0.cons (A1.row (fun _=>rfl) (A:=AV.s) (id:=4) (e:=9) (k:=1) (xs:=[(⟨#[97,46,99]⟩:ByteArray)]) rfl rfl sd sd) (A0.cons (A1.row (fun _=>rfl) (A:=AV.s) (id:=5) (e:=9) (k:=1) (xs:=[(⟨#[97,46,104]⟩:ByteArray)]) rfl rfl sd sd) (A0.cons (A1.c rfl (AH.nil 1)) (A0.cons (A2 (x:=BS) kr) (A0.cons (A2 (x:=(AV.b true)) kr) (A0.cons (A2 (x:=C0) kr) A0.nil)))))))) (Am.cons (B7.st (A0.cons (A1.row (fun _=>rfl) (A:=AV.s) (id:=6) (e:=9) (k:=1) (xs:=[(⟨#[98,46,111]⟩:ByteArray)]) rfl rfl sd sd) (A0.cons (A1.row (fun _=>rfl) (A:=AV.s) (id:=7) (e:=9) (k:=1) (xs:=[(⟨#[98,46,99]⟩:ByteArray)]) rfl rfl sd sd) (A0.cons (A1.c rfl (AH.nil 1)) (A0.cons (A1.row (fun _=>rfl) (A:=AV.s) (id:=8) (e:=9) (k:=1) (xs:=[(⟨#[97,46,111]⟩:ByteArray)]) rfl rfl sd sd) (A0.cons (A2 (x:=Dr) kr) (A0.cons (A2 (x:=(AV.b false)) kr) (A0.cons (A2 (x:=C0) kr) A0.nil)))))))) Am.nil)))) (A0.cons (A1.row (fun _=>rfl) (A:=BZ.av) (id:=9) (e:=122) (k:=2) (xs:=[(⟨(⟨#[116,119,111]⟩:ByteArray),(2:Int)⟩:BZ)]) rfl rfl sd sd) (A0.cons (A1.row (fun _=>rfl) (A:=AV.s) (id:=10) (e:=9) (k:=1) (xs:=[(⟨#[108,105,98]⟩:ByteArray)]) rfl rfl sd sd) (A0.cons (A1.own (id:=11) (len:=1) (e:=67) (k:=3) (els:=[FA]) rfl rfl rfl sd (Am.cons (B7.st (A0.cons (A2 (x:=BS) kr) (A0.cons (A1.row (fun _=>rfl) (A:=AV.s) (id:=12) (e:=9) (k:=1) (xs:=[(⟨#[122,46,104]⟩:ByteArray)]) rfl rfl sd sd) (A0.cons (A2 (x:=(AV.b false)) kr) A0.nil)))) Am.nil)) (A0.cons (A2 (x:=(AV.i .i64 (4:Int))) kr) (A0.cons (A2 (x:=Fy) kr) (A0.cons (A1.c rfl (AH.nil 3)) (A0.cons (A1.c rfl (AH.nil 3)) (A0.cons (A2 (x:=(AV.i .i64 (2:Int))) kr) (A0.cons (A2 (x:=(AV.b false)) kr) (A0.cons (A1.c rfl (AH.nil 1)) A0.nil)))))))))))))),trivial⟩) ((E8 W hW (⟨Hb,[Cq],(⟨(4:Int),(([Bf,Bh,Bi,Bg].take [Bf,Bh,Bi,Bg].length).drop 1)⟩:AN),[],[],(2:Int),false,[]⟩:Av) sd).res (Lc.tup ⟨Lc.und _,Lc.refl _,trivial⟩)) rfl kr le ?_
 refine Aq Kw<|Aq AV.und<|Aq EW ?_
 refine Aq AV.und<|Aq EW<|Ad<|Sq<|Rg<|Aq (AV.b ((BJ BF (1:Int)).1)) ?_
 refine Aq (AV.b ((BJ BF (1:Int)).1)) ?_
 cases c_1:(BJ BF (1:Int)).1
 refine An<|An<|An<|Aq (AV.b false)<|Aq (AV.b false)<|An<|An<|An<|Aq (AV.b false)<|Aq (AV.b false)<|An<|An<|An<|Aq (AV.b false)<|Aq (AV.b false)<|An<|An<|An<|Aq (AV.b false)<|Aq (AV.b false)<|An<|An<|An<|Aq (AV.b false)<|Aq (AV.b false)<|An<|An<|An<|Aq (AV.b false)<|Aq (AV.b false)<|Ad<|Rt ?_
 exact Fb rfl (by simp only [MS,c_1,Bl])
 refine Ay<|Aq Dg<|Ay<|A4.sc0 (vs:=[Dg]) (r0:=(AV.i .i64 (Cn ((BJ BF (1:Int)).2)))) kr kr (BT W ((BJ BF (1:Int)).2)) kr le ?_
 refine Ay<|Aq (AV.b (decide ((Cn ((BJ BF (1:Int)).2))=(0:Int))))<|Aq (AV.b (decide ((Cn ((BJ BF (1:Int)).2))=(0:Int)))) ?_
 refine Aq (AV.b (decide ((Cn ((BJ BF (1:Int)).2))=(0:Int)))) ?_
 cases c_2:decide ((Cn ((BJ BF (1:Int)).2))=(0:Int))
 have k_2:=of_decide_eq_false c_2
 refine An<|An<|An<|Aq (AV.b false)<|Aq (AV.b false)<|An<|An<|An<|Aq (AV.b false)<|Aq (AV.b false)<|An<|An<|An<|Aq (AV.b false)<|Aq (AV.b false)<|An<|An<|An<|Aq (AV.b false)<|Aq (AV.b false)<|An<|An<|An<|Aq (AV.b false)<|Aq (AV.b false)<|Ad<|Rt ?_
 exact Fb rfl (by simp only [MS,c_1,c_2,Bl])
 have k_2:=of_decide_eq_true c_2
 refine Ay<|Aq DA<|Ay<|Nn (AV.own 28 0 3) ⟨4,1,[true,true,true].map AV.b⟩<|Ay<|A4.sfw (vs:=[DA,(AV.own 28 0 3)]) (ss:=[DA,((AY 1 AV.b) [true,true,true])]) (r0:=(AV.b (RN ((Cp BF).1) [true,true,true]))) kr (show BP _ _ _ from ⟨(BP.e kr),⟨(A1.w (A1.cast (x':=(AV.own 28 0 3)) kr kr (A1.row (fun _=>rfl) (A:=AV.b) (id:=28) (e:=4) (k:=1) (xs:=[true,true,true]) rfl rfl sd sd))),trivial⟩⟩) (NU W ((Cp BF).1) [true,true,true]) rfl kr le ?_
 refine Aq (AV.b (RN ((Cp BF).1) [true,true,true]))<|Aq (AV.b (RN ((Cp BF).1) [true,true,true])) ?_
 cases c_3:(RN ((Cp BF).1) [true,true,true])
 refine An<|An<|An<|Aq (AV.b false)<|Aq (AV.b false)<|An<|An<|An<|Aq (AV.b false)<|Aq (AV.b false)<|An<|An<|An<|Aq (AV.b false)<|Aq (AV.b false)<|An<|An<|An<|Aq (AV.b false)<|Aq (AV.b false)<|Ad<|Rt ?_
 exact Fb rfl (by simp only [MS,c_1,c_2,c_3,Bl])
 refine Ay<|Aq E0<|Ay<|A4.sc0 (vs:=[E0]) (r0:=(AV.i .i64 (Cn ((Cp BF).2)))) kr kr (BT W ((Cp BF).2)) kr le ?_
 refine Ay<|Aq (AV.b (decide ((Cn ((Cp BF).2))=(0:Int))))<|Aq (AV.b (decide ((Cn ((Cp BF).2))=(0:Int)))) ?_
 refine Aq (AV.b (decide ((Cn ((Cp BF).2))=(0:Int)))) ?_
 cases c_4:decide ((Cn ((Cp BF).2))=(0:Int))
 have k_4:=of_decide_eq_false c_4
 refine An<|An<|An<|Aq (AV.b false)<|Aq (AV.b false)<|An<|An<|An<|Aq (AV.b false)<|Aq (AV.b false)<|An<|An<|An<|Aq (AV.b false)<|Aq (AV.b false)<|Ad<|Rt ?_
 exact Fb rfl (by simp only [MS,c_1,c_2,c_3,c_4,Bl])
 have k_4:=of_decide_eq_true c_4
 refine Ay<|Aq EV<|Ay<|A4.sc0 (vs:=[EV]) (r0:=(AV.i .i64 (Cn ((BJ (⟨E4,[Cq],(⟨(4:Int),(([Bf,Bh,Bi,Bg].take [Bf,Bh,Bi,Bg].length).drop 1)⟩:AN),[],[],(2:Int),false,[]⟩:Av) (1:Int)).2)))) kr kr (BT W ((BJ (⟨E4,[Cq],(⟨(4:Int),(([Bf,Bh,Bi,Bg].take [Bf,Bh,Bi,Bg].length).drop 1)⟩:AN),[],[],(2:Int),false,[]⟩:Av) (1:Int)).2)) kr le ?_
 refine Ay<|Aq (AV.b (decide ((Cn ((BJ (⟨E4,[Cq],(⟨(4:Int),(([Bf,Bh,Bi,Bg].take [Bf,Bh,Bi,Bg].length).drop 1)⟩:AN),[],[],(2:Int),false,[]⟩:Av) (1:Int)).2))=(1901:Int)))) ?_
 refine Aq (AV.b (decide ((Cn ((BJ (⟨E4,[Cq],(⟨(4:Int),(([Bf,Bh,Bi,Bg].take [Bf,Bh,Bi,Bg].length).drop 1)⟩:AN),[],[],(2:Int),false,[]⟩:Av) (1:Int)).2))=(1901:Int)))) ?_
 refine Aq (AV.b (decide ((Cn ((BJ (⟨E4,[Cq],(⟨(4:Int),(([Bf,Bh,Bi,Bg].take [Bf,Bh,Bi,Bg].length).drop 1)⟩:AN),[],[],(2:Int),false,[]⟩:Av) (1:Int)).2))=(1901:Int)))) ?_
 cases c_5:decide ((Cn ((BJ (⟨E4,[Cq],(⟨(4:Int),(([Bf,Bh,Bi,Bg].take [Bf,Bh,Bi,Bg].length).drop 1)⟩:AN),[],[],(2:Int),false,[]⟩:Av) (1:Int)).2))=(1901:Int))
 have k_5:=of_decide_eq_false c_5
 refine An<|An<|An<|Aq (AV.b false)<|Aq (AV.b false)<|An<|An<|An<|Aq (AV.b false)<|Aq (AV.b false)<|Ad<|Rt ?_
 exact Fb rfl (by simp only [MS,c_1,c_2,c_3,c_4,c_5,Bl])
 have k_5:=of_decide_eq_true c_5
 refine Ay<|Aq EX<|Ay<|A4.sc0 (vs:=[EX]) (r0:=(AV.i .i64 (Cn ((BJ BF (3:Int)).2)))) kr kr (BT W ((BJ BF (3:Int)).2)) kr le ?_
 refine Ay<|Aq (AV.b (decide ((Cn ((BJ BF (3:Int)).2))=(1900:Int))))<|Aq (AV.b (decide ((Cn ((BJ BF (3:Int)).2))=(1900:Int)))) ?_
 refine Aq (AV.b (decide ((Cn ((BJ BF (3:Int)).2))=(1900:Int)))) ?_
 cases c_6:decide ((Cn ((BJ BF (3:Int)).2))=(1900:Int))
 have k_6:=of_decide_eq_false c_6
 refine An<|An<|An<|Aq (AV.b false)<|Aq (AV.b false)<|Ad<|Rt ?_
 exact Fb rfl (by simp only [MS,c_1,c_2,c_3,c_4,c_5,c_6,Bl])
 have k_6:=of_decide_eq_true c_6
 refine Ay<|Aq EW<|Ay<|A4.sc0 (vs:=[EW]) (r0:=(AV.i .i64 (Cn ((Cp (⟨Hb,[Cq],(⟨(4:Int),(([Bf,Bh,Bi,Bg].take [Bf,Bh,Bi,Bg].length).drop 1)⟩:AN),[],[],(2:Int),false,[]⟩:Av)).2)))) kr kr (BT W ((Cp (⟨Hb,[Cq],(⟨(4:Int),(([Bf,Bh,Bi,Bg].take [Bf,Bh,Bi,Bg].length).drop 1)⟩:AN),[],[],(2:Int),false,[]⟩:Av)).2)) kr le ?_
 refine Ay<|Aq (AV.b (decide ((Cn ((Cp (⟨Hb,[Cq],(⟨(4:Int),(([Bf,Bh,Bi,Bg].take [Bf,Bh,Bi,Bg].length).drop 1)⟩:AN),[],[],(2:Int),false,[]⟩:Av)).2))=(1900:Int))))<|Aq (AV.b (decide ((Cn ((Cp (⟨Hb,[Cq],(⟨(4:Int),(([Bf,Bh,Bi,Bg].take [Bf,Bh,Bi,Bg].length).drop 1)⟩:AN),[],[],(2:Int),false,[]⟩:Av)).2))=(1900:Int)))) ?_
 refine Aq (AV.b (decide ((Cn ((Cp (⟨Hb,[Cq],(⟨(4:Int),(([Bf,Bh,Bi,Bg].take [Bf,Bh,Bi,Bg].length).drop 1)⟩:AN),[],[],(2:Int),false,[]⟩:Av)).2))=(1900:Int))))<|Ad<|Rt ?_
 exact Fb rfl (by simp only [MS,c_1,c_2,c_3,c_4,c_5,c_6,Bl])
def BQ:AV:=(AV.i .i64 (1901:Int))
def Bx:AV:=(AV.i .i64 (1900:Int))
def AR:AV:=(AV.s (⟨#[]⟩:ByteArray))
def Bc:AV:=((AY 3 Ae.av) Um.files)
def B0:AV:=(AV.s (⟨#[97,114]⟩:ByteArray))
def B5:AV:=(AV.s (⟨#[97,46,111]⟩:ByteArray))
def A9:AV:=(AV.s (⟨#[116,119,111]⟩:ByteArray))
def AZ:AV:=(AV.s (⟨#[99,99,32,98]⟩:ByteArray))
def Ag:AV:=(AV.s (⟨#[99,99,32,97]⟩:ByteArray))
def Ck (which:Int):AV:=(AV.i .i64 (Ao .and .i64 which (1:Int)))
def Em:Obj:=⟨9,1,[(⟨#[97,46,99]⟩:ByteArray)].map AV.s⟩
def El:Obj:=⟨9,1,[(⟨#[98,46,99]⟩:ByteArray)].map AV.s⟩
def Ek:Obj:=⟨9,1,[(⟨#[97,46,104]⟩:ByteArray)].map AV.s⟩
def Ej:Obj:=⟨9,1,[(⟨#[98,46,111]⟩:ByteArray)].map AV.s⟩
def Ei:Obj:=⟨9,1,[(⟨#[97,46,111]⟩:ByteArray)].map AV.s⟩
def C9:Obj:=⟨9,1,[(⟨#[108,105,98]⟩:ByteArray)].map AV.s⟩
def Cj:Obj:=⟨9,1,[(⟨#[122,46,104]⟩:ByteArray)].map AV.s⟩
def Fu:AV:=(AV.st [AR,(AV.own 12 0 1),(AV.b false)])
def AQ (x':Int):AV:=(AV.i .i64 (IntKind.wrap .i64 ((1:Int)+(Ao .and .i64 x' (127:Int)))))
def EG:Obj:=⟨122,2,[AP].map BZ.av⟩
def EF:Obj:=⟨9,1,[(⟨#[97,46,111]⟩:ByteArray),(⟨#[98,46,111]⟩:ByteArray)].map AV.s⟩
def EE:Obj:=⟨9,1,[(⟨#[97,46,111]⟩:ByteArray),(⟨#[97,46,100]⟩:ByteArray)].map AV.s⟩
def B9:AV:=(AV.st [Ag,(AV.own 12 0 1),(AV.b false)])
def G4:AV:=(AV.st [(AV.s (⟨#[47,97]⟩:ByteArray)),(AV.i .i64 (5:Int)),(AV.own 15 0 1)])
def B8:AV:=(AV.st [B5,(AV.i .i64 (5:Int)),(AV.own 15 0 1)])
def ED:Obj:=⟨67,3,[B9]⟩
def EC:Obj:=⟨61,3,[B8]⟩
def C4 (x':Int):AV:=(AV.i .i64 (IntKind.wrap .i64 (0-(IntKind.wrap .i64 ((1:Int)+(Ao .and .i64 x' (127:Int)))))))
def EB (x':Int):AV:=(AV.i .i64 (IntKind.wrap .i64 ((1:Int)-(IntKind.wrap .i64 ((1:Int)+(Ao .and .i64 x' (127:Int)))))))
def Cw (x':Int):AV:=(AV.i .i64 (IntKind.wrap .i64 ((2:Int)+(IntKind.wrap .i64 ((1:Int)+(Ao .and .i64 x' (127:Int)))))))
def AX:AV:=(AV.st [(AV.own 1 0 1),(AV.own 2 0 2),(AV.sl 1 true []),(AV.sl 1 true []),B0,(AV.b false),AR])
def DT:AV:=(AV.st [(AV.own 3 0 2),(AV.own 4 0 1),(AV.own 5 0 1),(AV.own 17 0 1),Ag,(AV.b true),A9])
def Bw:AV:=(AV.st [(AV.own 3 0 2),(AV.own 4 0 1),(AV.own 5 0 1),(AV.sl 1 true []),Ag,(AV.b true),A9])
def G3:AV:=(AV.st [(AV.own 3 0 2),(AV.own 17 0 1),(AV.own 5 0 1),(AV.sl 1 true []),Ag,(AV.b true),A9])
def G2:AV:=(AV.st [(AV.own 3 0 2),(AV.own 4 0 1),(AV.own 17 0 2),(AV.sl 1 true []),Ag,(AV.b true),A9])
def AW:AV:=(AV.st [(AV.own 6 0 1),(AV.own 7 0 1),(AV.sl 1 true []),(AV.own 8 0 1),AZ,(AV.b false),A9])
def Im:AV:=(AV.s (Ac.out))
def Il:AV:=(AV.s (Ac.sign))
def B6 (x':Int) (which:Int):AV:=(AV.i .i64 ([(IntKind.wrap .i64 (0-(IntKind.wrap .i64 ((1:Int)+(Ao .and .i64 x' (127:Int)))))),(IntKind.wrap .i64 ((2:Int)+(IntKind.wrap .i64 ((1:Int)+(Ao .and .i64 x' (127:Int))))))].getD ((Ao .and .i64 which (1:Int)).toNat) default))
def Ik (x':Int):AV:=(AV.st [Im,(EB x'),Il])
def Ij:Obj:=⟨65,7,[AX,DT,AW]⟩
def EA:Obj:=⟨65,7,[AX,Bw,AW]⟩
def G1:Obj:=⟨56,3,[Ac,Aj,Al,Ak].map Aa.av⟩
def Af:AV:=(AV.st [(AV.own 0 0 3),(AV.own 9 0 1),(AV.own 10 0 1),(AV.own 11 0 1),(AV.i .i64 (8:Int)),Bc,(AV.own 13 0 ([Ac,Aj,Al,Ak].length)),(AV.own 14 0 1),(AV.i .i64 (2:Int)),(AV.b false),(AV.sl 1 true [])])
def G0:Obj:=⟨35,11,[Af]⟩
def DP (x':Int):AV:=(AV.st [(AV.own 0 0 3),(AV.own 9 0 1),(AV.own 10 0 1),(AV.own 11 0 1),(C4 x'),Bc,(AV.own 13 0 ([Ac,Aj,Al,Ak].length)),(AV.own 14 0 1),(AV.i .i64 (2:Int)),(AV.b false),(AV.sl 1 true [])])
def FZ:AV:=(Av.av AF)
def FY:AV:=(Av.av AE)
def Cv:AV:=(Av.av A5)
def DO:AV:=(AV.i .i64 ((Cp AF).2))
def Ez:AV:=((AY 1 AV.b) ((Cp AF).1))
def FX:AV:=(Av.av AD)
def DN:AV:=(AV.i .i64 ((Cp AE).2))
def De:AV:=(AV.i .i64 ((BJ AF (1:Int)).2))
def Ey:AV:=((AY 1 AV.b) ((Cp AE).1))
def Dd:AV:=(AV.i .i64 ((BJ AE (1:Int)).2))
def DM:AV:=(AV.i .i64 ((Cp AD).2))
def Ex:AV:=((AY 1 AV.b) ((Cp AD).1))
def FW:AV:=(Av.av AC)
def Dc:AV:=(AV.i .i64 ((BJ AD (1:Int)).2))
def FV:AV:=(Av.av AB)
def FU:AV:=(Av.av AA)
def DL:AV:=(AV.i .i64 ((Cp AC).2))
def Ew:AV:=((AY 1 AV.b) ((Cp AC).1))
def DK:AV:=(AV.i .i64 ((Cp AB).2))
def DJ:AV:=(AV.i .i64 ((Cp AA).2))
def Ev:AV:=((AY 1 AV.b) ((Cp AB).1))
def Db:AV:=(AV.i .i64 ((BJ AC (1:Int)).2))
def Eu:AV:=((AY 1 AV.b) ((Cp AA).1))
def Da:AV:=(AV.i .i64 ((BJ AB (1:Int)).2))
def D9:AV:=(AV.i .i64 ((BJ AA (1:Int)).2))
def FT (x':Int):AV:=(Av.av (Az x'))
def DI (x':Int):AV:=(AV.i .i64 ((Cp (Az x')).2))
def Et (x':Int):AV:=((AY 1 AV.b) ((Cp (Az x')).1))
def D8 (x':Int):AV:=(AV.i .i64 ((BJ (Az x') (1:Int)).2))
def FS (x':Int):AV:=(Av.av (Ax x'))
def DH (x':Int):AV:=(AV.i .i64 ((Cp (Ax x')).2))
def Es (x':Int):AV:=((AY 1 AV.b) ((Cp (Ax x')).1))
def D7 (x':Int):AV:=(AV.i .i64 ((BJ (Ax x') (1:Int)).2))
def AO (x':Int) (which:Int):AV:=(AV.i .i64 ((BJ A5 ([(IntKind.wrap .i64 (0-(IntKind.wrap .i64 ((1:Int)+(Ao .and .i64 x' (127:Int)))))),(IntKind.wrap .i64 ((2:Int)+(IntKind.wrap .i64 ((1:Int)+(Ao .and .i64 x' (127:Int))))))].getD ((Ao .and .i64 which (1:Int)).toNat) default)).2))
def Cu (x':Int) (which:Int):AV:=(AV.i .i64 (Cn ((BJ A5 ([(IntKind.wrap .i64 (0-(IntKind.wrap .i64 ((1:Int)+(Ao .and .i64 x' (127:Int)))))),(IntKind.wrap .i64 ((2:Int)+(IntKind.wrap .i64 ((1:Int)+(Ao .and .i64 x' (127:Int))))))].getD ((Ao .and .i64 which (1:Int)).toNat) default)).2)))
def Cs:A7:=⟨16,[(15,some Cj),(14,some EC),(13,some G1),(12,some Cj),(11,some ED),(10,some C9),(9,some EG),(8,some Ei),(7,some El),(6,some Ej),(5,some Ek),(4,some Em),(3,some EE),(2,some EF),(1,some C9),(0,some EA)]⟩
def Cr (x':Int):A7:=⟨17,[(16,some ⟨3,1,[(IntKind.wrap .i64 (0-(IntKind.wrap .i64 ((1:Int)+(Ao .and .i64 x' (127:Int)))))),(IntKind.wrap .i64 ((2:Int)+(IntKind.wrap .i64 ((1:Int)+(Ao .and .i64 x' (127:Int))))))].map (AV.i .i64)⟩),(15,some Cj),(14,some EC),(13,some G1),(12,some Cj),(11,some ED),(10,some C9),(9,some EG),(8,some Ei),(7,some El),(6,some Ej),(5,some Ek),(4,some Em),(3,some EE),(2,some EF),(1,some C9),(0,some EA)]⟩
def Ii:AV:=(AV.tup [Ez,DO])
def Ih:AV:=(AV.tup [(AV.b ((BJ AF (1:Int)).1)),De])
def Ig:AV:=(AV.tup [Ey,DN])
def Ie:AV:=(AV.tup [(AV.b ((BJ AE (1:Int)).1)),Dd])
def Id:AV:=(AV.tup [Ex,DM])
def Ic:AV:=(AV.tup [(AV.b ((BJ AD (1:Int)).1)),Dc])
def Ib:AV:=(AV.tup [Ew,DL])
def Ia:AV:=(AV.tup [(AV.b ((BJ AC (1:Int)).1)),Db])
def IM:AV:=(AV.tup [Ev,DK])
def IL:AV:=(AV.tup [Eu,DJ])
def IK:AV:=(AV.tup [(AV.b ((BJ AB (1:Int)).1)),Da])
def IJ:AV:=(AV.tup [(AV.b ((BJ AA (1:Int)).1)),D9])
def II (x':Int):AV:=(AV.tup [(Et x'),(DI x')])
def IH (x':Int):AV:=(AV.tup [(AV.b ((BJ (Az x') (1:Int)).1)),(D8 x')])
def IG (x':Int):AV:=(AV.tup [(Es x'),(DH x')])
def IF (x':Int):AV:=(AV.tup [(AV.b ((BJ (Ax x') (1:Int)).1)),(D7 x')])
def BI (x':Int) (which:Int):AV:=(AV.tup [(AV.b ((BJ A5 ([(IntKind.wrap .i64 (0-(IntKind.wrap .i64 ((1:Int)+(Ao .and .i64 x' (127:Int)))))),(IntKind.wrap .i64 ((2:Int)+(IntKind.wrap .i64 ((1:Int)+(Ao .and .i64 x' (127:Int))))))].getD ((Ao .and .i64 which (1:Int)).toNat) default)).1)),(AO x' which)])
end
end Go.Lift
