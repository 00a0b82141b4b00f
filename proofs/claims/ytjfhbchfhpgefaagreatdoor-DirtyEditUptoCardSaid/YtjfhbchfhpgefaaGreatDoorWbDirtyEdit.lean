/-
  Lemmas of this claim: a layer over the kit's calls, contracts of the functions that the law reaches, and the law's row. No condition of its own.
-/
import Derived.Test.YtjfhbchfhpgefaaGreatDoorWaDirtyEdit
set_option linter.unusedSimpArgs false
set_option linter.unusedVariables false
set_option linter.unusedSectionVars false
set_option maxRecDepth 20000
namespace Go.Lift
noncomputable section
open Go Go.RowKit
theorem GT (W:World) (x':ByteArray):Aj Go.Proofs.Tryz.prog W 201 [(AV.s x')] (AV.b (J4 x')) []:=by
 refine Ae (fn:=Go.Proofs.Tryz.f201) Go.Proofs.Tryz.func201 rfl (en201 W) (ts:=[2]) rfl le<|Sq<|Rg<|Aq (AV.b false)<|Ad<|Sq<|Rg<|Aq (AV.s x')<|Aq (AV.s x')<|Aq (AV.b (!decide (x'=x')))<|Aq (AV.b (!decide (x'=x')))<|Ad<|Rt ?_
 exact Fb rfl (by simp only [J4,AJ])
theorem Jt (W:World) (x':ByteArray) (y:ByteArray):Aj Go.Proofs.Tryz.prog W 169 [(AV.s x'),(AV.s y)] (AV.i .i64 (Kl x' y)) []:=by
 refine Ae (fn:=Go.Proofs.Tryz.f169) Go.Proofs.Tryz.func169 rfl (en169 W) (ts:=[4]) rfl le<|Sq<|Rg<|Aq (AV.i .i64 (0:Int))<|Ad<|Sq<|Rg<|Aq (AV.s x')<|A1.sc0 (vs:=[(AV.s x')]) (r0:=(AV.b (J4 x'))) kr kr (GT W x') kr le<|Aq (AV.b (J4 x'))<|Ad<|Sq<|Rg<|Aq (AV.s y)<|A1.sc0 (vs:=[(AV.s y)]) (r0:=(AV.b (J4 y))) kr kr (GT W y) kr le<|Aq (AV.b (J4 y))<|Ad<|Sq<|Sq<|Rg<|Aq (AV.b (J4 x'))<|Ad ?_
 cases c_1:(J4 x')
 refine Cf<|A8.skip<|Sq<|Sq<|Rg<|Aq (AV.b (J4 y))<|Ad ?_
 cases c_2:(J4 y)
 refine Cf<|A8.skip<|Sq<|Sq<|Rg<|Aq (AV.s x')<|Aq (AV.s y)<|Aq (AV.b (Op.bytesLess x'.toList y.toList))<|Ad ?_
 cases c_3:(Op.bytesLess x'.toList y.toList)
 refine Cf<|A8.skip<|Sq<|Sq<|Rg<|Aq (AV.s x')<|Aq (AV.s y)<|Aq (AV.b (!(Op.bytesLess x'.toList y.toList||decide (x'=y))))<|Ad ?_
 cases c_4:(!(Op.bytesLess x'.toList y.toList||decide (x'=y)))
 refine Cf<|A8.skip<|Sq<|Rg<|Aq (AV.i .i64 (0:Int))<|Ad<|Rt ?_
 try simp only [c_3,AJ] at c_4
 exact Fi rfl (by simp only [Kl,c_1,c_2,c_3,c_4,AJ])
 refine Ct<|Sq<|Rg<|Aq (AV.i .i64 (1:Int))<|Ad<|Rt ?_
 try simp only [c_3,AJ] at c_4
 exact Fi rfl (by simp only [Kl,c_1,c_2,c_3,c_4,AJ])
 refine Ct<|Sq<|Rg<|Aq (AV.i .i64 (-1:Int))<|Ad<|Rt ?_
 exact Fi rfl (by simp only [Kl,c_1,c_2,c_3,AJ])
 refine Ct<|Sq<|Rg<|Aq (AV.i .i64 (1:Int))<|Ad<|Rt ?_
 exact Fi rfl (by simp only [Kl,c_1,c_2,AJ])
 refine Ct<|Sq<|Sq<|Rg<|Aq (AV.b (J4 y))<|Ad ?_
 cases c_5:(J4 y)
 refine Cf<|A8.skip<|Sq<|Rg<|Aq (AV.i .i64 (-1:Int))<|Ad<|Rt ?_
 exact Fi rfl (by simp only [Kl,c_1,c_5,AJ])
 refine Ct<|Sq<|Rg<|Aq (AV.i .i64 (0:Int))<|Ad<|Rt ?_
 exact Fi rfl (by simp only [Kl,c_1,c_5,AJ])
theorem Oa (W:World) (f:A2) (s':ByteArray):Aj Go.Proofs.Tryz.prog W 168 [(A2.av f),(AV.s s')] (AV.i .i64 (GW f s')) []:=by
 refine Ae (fn:=Go.Proofs.Tryz.f168) Go.Proofs.Tryz.func168 rfl (en168 W) (ts:=[4]) rfl le<|Sq<|Rg<|Nn (AV.loc 0 0 0) ⟨85,3,[(A2.av f)]⟩<|Aq (AV.i .i64 (0:Int))<|Ad<|Sq<|Rg<|Aq (AV.loc 0 0 0)<|Aq (AV.s f.name)<|Aq (AV.s s')<|A1.sc0 (vs:=[(AV.s f.name),(AV.s s')]) (r0:=(AV.i .i64 (Kl f.name s'))) kr kr (Jt W f.name s') kr le<|Aq (AV.i .i64 (Kl f.name s'))<|Ad<|Rt ?_
 exact Fi rfl (by simp only [GW,AJ])
theorem CA (W:World) (x':List A2) (target:ByteArray) (f_cmp:FuncId) (c_cmp:List AV) (cmp:A2→ByteArray→Int) (hcl_cmp:A6 c_cmp=true) (hp_cmp: ∀(z0:A2) (z1:ByteArray),Aj Go.Proofs.Tryz.prog W f_cmp ((A2.av z0)::(AV.s z1)::c_cmp) (AV.i .i64 (cmp z0 z1)) []) (hz:x'.length≤1049600):Aj Go.Proofs.Tryz.prog W 167 [((Ar 3 A2.av) x'),(AV.s target),(AV.fn f_cmp c_cmp)] (AV.tup [(AV.i .i64 ((MK x' target cmp).1)),(AV.b ((MK x' target cmp).2))]) []:=by
 refine Ae (fn:=Go.Proofs.Tryz.f167) Go.Proofs.Tryz.func167 rfl (en167 W) (ts:=[6,7]) rfl le<|Sq<|Rg<|Aq (AV.i .i64 (0:Int))<|Aq (AV.b false)<|Ad<|Sq<|Rg<|Aq ((Ar 3 A2.av) x')<|Ap (Ai x'.length) (BI (k:=3) (nl:=false) (e:=85) (A:=A2.av) (xs:=x') kr kr)<|Aq (Ai x'.length)<|Ad<|Sq<|Rg<|Aq (Ai x'.length)<|Aq (AV.i .i64 (0:Int))<|Aq (Ai x'.length)<|Ad<|Sq<|A8.block ?_
 obtain ⟨R1,hR1⟩: ∃R,VK cmp x' target ((((x'.length:Nat):Int)-(0:Int)).toNat+1) (0:Int) ((x'.length:Nat):Int)=R:=⟨_,rfl⟩
 refine AN (fun ((kf1,(i,j)):Nat×(Int×Int))=>[(0,((Ar 3 A2.av) x')),(1,(AV.s target)),(2,(AV.fn f_cmp c_cmp)),(8,(Ai x'.length)),(9,(AV.i .i64 i)),(10,(AV.i .i64 j))]) (fun ((kf1,(i,j)):Nat×(Int×Int))=>⟨0,[]⟩) (fun ((kf1,(i,j)):Nat×(Int×Int))=>(j-i).toNat<kf1∧0≤i∧i≤j∧j≤((x'.length:Nat):Int)∧VK cmp x' target kf1 i j=R1) (fun ((kf1,(i,j)):Nat×(Int×Int))=>kf1) ((((x'.length:Nat):Int)-(0:Int)).toNat+1,((0:Int),((x'.length:Nat):Int))) ?_ ?_ ?_
 exact ⟨[],⟨by decide,rfl,A0.nil,(Ee (Ee (Am.cons (AU.c kr hcl_cmp) (Ee (Ee (Ee Am.nil))))))⟩,Au⟩
 exact ⟨od,HG,HG,HG,hR1⟩
 rintro ⟨kf1,i,j⟩ ⟨hi1,h0,h1,h2,hE1⟩
 try dsimp only
 rcases kf1 with _|kf1
 exact absurd hi1 (Nat.not_lt_zero _)
 rw [VK.eq_2] at hE1
 refine Sq<|Sq<|Rg<|Aq (AV.i .i64 i)<|Aq (AV.i .i64 j)<|Aq (AV.b (decide (i<j)))<|Ad ?_
 cases c_1:decide (i<j)
 have k_1:=of_decide_eq_false c_1
 refine Cf<|A8.exit ?_
 try simp only [c_1,AJ] at hE1
 subst hE1
 refine Sq<|Rg<|Aq (AV.i .i64 i)<|Aq (AV.i .i64 i)<|Aq (Ai x'.length)<|Aq (AV.b (decide (i<((x'.length:Nat):Int))))<|Aq (AV.b (decide (i<((x'.length:Nat):Int)))) ?_
 cases c_2:decide (i<((x'.length:Nat):Int))
 have k_2:=of_decide_eq_false c_2
 refine An<|An<|An<|An<|An<|An<|An<|An<|Aq (AV.b false)<|Aq (AV.i .i64 i)<|Aq (AV.b false)<|Ad<|Rt ?_
 have hM:MK x' target cmp=(i,false):=by simp only [MK,hR1,c_2,AJ]
 refine ⟨Or.inr rfl,?_⟩
 rw [hM]
 exact AU.cast (x':=(AV.tup [(AV.i .i64 i),(AV.b false)])) (y':=(AV.tup [(AV.i .i64 ((i,false).1)),(AV.b ((i,false).2))])) kr kr (AU.tup ⟨Ec,⟨Ec,trivial⟩⟩ kr)
 have k_2:=of_decide_eq_true c_2
 have q_2:=of_decide_eq_true c_2
 refine Ay<|Aq (AV.fn f_cmp c_cmp)<|Ay<|Aq ((Ar 3 A2.av) x')<|Ay<|Aq (AV.i .i64 i)<|Ay<|Ap (AV.pt (A2.av (x'.getD i.toNat default)).cells) (IY (k:=3) (nl:=false) (e:=85) (kk:= .i64) (A:=A2.av) (xs:=x') (n:=i) kr kr kr ⟨by kernel_rfl,by decide⟩ sd (getD_some sd))<|Ay<|Aq (A2.av (x'.getD i.toNat default))<|Ay<|Aq (AV.s target)<|Ay<|A1.sc0 (vs:=((A2.av (x'.getD i.toNat default))::(AV.s target)::c_cmp)) (r0:=(AV.i .i64 (cmp (x'.getD i.toNat default) target))) kr (by simp only [A6,Bool.and_eq_true];exact ⟨by kernel_rfl,⟨by kernel_rfl,hcl_cmp⟩⟩) (hp_cmp (x'.getD i.toNat default) target) kr le<|Ay<|Aq (AV.b (decide ((cmp (x'.getD i.toNat default) target)=(0:Int))))<|Aq (AV.b (decide ((cmp (x'.getD i.toNat default) target)=(0:Int))))<|Aq (AV.i .i64 i)<|Aq (AV.b (decide ((cmp (x'.getD i.toNat default) target)=(0:Int))))<|Ad<|Rt ?_
 have hM:MK x' target cmp=(i,decide ((cmp (x'.getD i.toNat default) target)=(0:Int))):=by simp only [MK,hR1,c_2,AJ]
 refine ⟨Or.inr rfl,?_⟩
 rw [hM]
 exact AU.cast (x':=(AV.tup [(AV.i .i64 i),(AV.b (decide ((cmp (x'.getD i.toNat default) target)=(0:Int))))])) (y':=(AV.tup [(AV.i .i64 ((i,decide ((cmp (x'.getD i.toNat default) target)=(0:Int))).1)),(AV.b ((i,decide ((cmp (x'.getD i.toNat default) target)=(0:Int))).2))])) kr kr (AU.tup ⟨Ec,⟨Ec,trivial⟩⟩ kr)
 have k_1:=of_decide_eq_true c_1
 have q_1:=St h0 (of_decide_eq_true c_1) h2 hz
 refine Ct<|A8.skip<|A8.block<|Sq<|Rg<|Aq (AV.i .i64 i)<|Aq (AV.i .i64 j)<|Aq (AV.i .i64 (IntKind.wrap .i64 (i+j)))<|Aq (AV.i .u64 (IntKind.wrap .u64 (IntKind.wrap .i64 (i+j))))<|Ap (AV.i .u64 (Int.fdiv (IntKind.wrap .u64 (IntKind.wrap .i64 (i+j))) (2^(min 1 IntKind.u64.bits)))) (g_shr (k:= .u64) (k':= .u64) (a:=(IntKind.wrap .u64 (IntKind.wrap .i64 (i+j)))) (n:=1) kr kr)<|Aq (AV.i .i64 (IntKind.wrap .i64 (Int.fdiv (IntKind.wrap .u64 (IntKind.wrap .i64 (i+j))) (2^(min 1 IntKind.u64.bits)))))<|Aq (AV.i .i64 (IntKind.wrap .i64 (Int.fdiv (IntKind.wrap .u64 (IntKind.wrap .i64 (i+j))) (2^(min 1 IntKind.u64.bits)))))<|Ad<|Sq<|Rg<|Aq (AV.fn f_cmp c_cmp)<|Aq ((Ar 3 A2.av) x')<|Aq (AV.i .i64 (IntKind.wrap .i64 (Int.fdiv (IntKind.wrap .u64 (IntKind.wrap .i64 (i+j))) (2^(min 1 IntKind.u64.bits)))))<|Ap (AV.pt (A2.av (x'.getD (IntKind.wrap .i64 (Int.fdiv (IntKind.wrap .u64 (IntKind.wrap .i64 (i+j))) (2^(min 1 IntKind.u64.bits)))).toNat default)).cells) (IY (k:=3) (nl:=false) (e:=85) (kk:= .i64) (A:=A2.av) (xs:=x') (n:=(IntKind.wrap .i64 (Int.fdiv (IntKind.wrap .u64 (IntKind.wrap .i64 (i+j))) (2^(min 1 IntKind.u64.bits))))) kr kr kr ⟨by kernel_rfl,by decide⟩ sd (getD_some sd))<|Aq (A2.av (x'.getD (IntKind.wrap .i64 (Int.fdiv (IntKind.wrap .u64 (IntKind.wrap .i64 (i+j))) (2^(min 1 IntKind.u64.bits)))).toNat default))<|Aq (AV.s target)<|A1.sc0 (vs:=((A2.av (x'.getD (IntKind.wrap .i64 (Int.fdiv (IntKind.wrap .u64 (IntKind.wrap .i64 (i+j))) (2^(min 1 IntKind.u64.bits)))).toNat default))::(AV.s target)::c_cmp)) (r0:=(AV.i .i64 (cmp (x'.getD (IntKind.wrap .i64 (Int.fdiv (IntKind.wrap .u64 (IntKind.wrap .i64 (i+j))) (2^(min 1 IntKind.u64.bits)))).toNat default) target))) kr (by simp only [A6,Bool.and_eq_true];exact ⟨by kernel_rfl,⟨by kernel_rfl,hcl_cmp⟩⟩) (hp_cmp (x'.getD (IntKind.wrap .i64 (Int.fdiv (IntKind.wrap .u64 (IntKind.wrap .i64 (i+j))) (2^(min 1 IntKind.u64.bits)))).toNat default) target) kr le ?_
 refine Aq (AV.b (decide ((cmp (x'.getD (IntKind.wrap .i64 (Int.fdiv (IntKind.wrap .u64 (IntKind.wrap .i64 (i+j))) (2^(min 1 IntKind.u64.bits)))).toNat default) target)<(0:Int))))<|Ad ?_
 cases c_3:decide ((cmp (x'.getD (IntKind.wrap .i64 (Int.fdiv (IntKind.wrap .u64 (IntKind.wrap .i64 (i+j))) (2^(min 1 IntKind.u64.bits)))).toNat default) target)<(0:Int))
 have k_3:=of_decide_eq_false c_3
 refine Cf<|Rg<|Aq (AV.i .i64 (IntKind.wrap .i64 (Int.fdiv (IntKind.wrap .u64 (IntKind.wrap .i64 (i+j))) (2^(min 1 IntKind.u64.bits)))))<|Aq (AV.i .i64 (IntKind.wrap .i64 (Int.fdiv (IntKind.wrap .u64 (IntKind.wrap .i64 (i+j))) (2^(min 1 IntKind.u64.bits)))))<|Ad ?_
 try simp only [c_1,c_3,AJ] at hE1
 refine ⟨(kf1,(i,(IntKind.wrap .i64 (Int.fdiv (IntKind.wrap .u64 (IntKind.wrap .i64 (i+j))) (2^(min 1 IntKind.u64.bits)))))),od,⟨HG,HG,HG,HG,hE1⟩,?_⟩
 exact ⟨[],⟨by decide,rfl,A0.nil,(Ee (Ee (Am.cons (AU.c kr hcl_cmp) (Ee (Ee (Ee Am.nil))))))⟩,Au⟩
 have k_3:=of_decide_eq_true c_3
 refine Ct<|Rg<|Aq (AV.i .i64 (IntKind.wrap .i64 (Int.fdiv (IntKind.wrap .u64 (IntKind.wrap .i64 (i+j))) (2^(min 1 IntKind.u64.bits)))))<|Aq (AV.i .i64 (IntKind.wrap .i64 ((IntKind.wrap .i64 (Int.fdiv (IntKind.wrap .u64 (IntKind.wrap .i64 (i+j))) (2^(min 1 IntKind.u64.bits))))+(1:Int))))<|Aq (AV.i .i64 (IntKind.wrap .i64 ((IntKind.wrap .i64 (Int.fdiv (IntKind.wrap .u64 (IntKind.wrap .i64 (i+j))) (2^(min 1 IntKind.u64.bits))))+(1:Int))))<|Ad ?_
 try simp only [c_1,c_3,AJ] at hE1
 refine ⟨(kf1,((IntKind.wrap .i64 ((IntKind.wrap .i64 (Int.fdiv (IntKind.wrap .u64 (IntKind.wrap .i64 (i+j))) (2^(min 1 IntKind.u64.bits))))+(1:Int))),j)),od,⟨HG,HG,HG,HG,hE1⟩,?_⟩
 exact ⟨[],⟨by decide,rfl,A0.nil,(Ee (Ee (Am.cons (AU.c kr hcl_cmp) (Ee (Ee (Ee Am.nil))))))⟩,Au⟩
theorem Qq (W:World) (d:A9) (s':ByteArray) (hz:d.sz≤1049600):Aj Go.Proofs.Tryz.prog W 129 [(AV.pt (A9.av d).cells),(AV.s s')] (AV.tup [(AV.i .i64 ((Ir d s').1)),(AV.b ((Ir d s').2))]) []:=by
 have hl:=Hh A2.sz_one d.files
 have hl2:=d.sz_files
 refine Ae (fn:=Go.Proofs.Tryz.f129) Go.Proofs.Tryz.func129 rfl (en129 W) (ts:=[4,5]) rfl le<|Sq<|Rg<|Aq (AV.i .i64 (0:Int))<|Aq (AV.b false)<|Ad<|Sq<|Rg<|Aq (AV.pt (A9.av d).cells)<|Aq (AV.pt (A9.av d).cells)<|Aq (AV.pt ((A9.av d).cells.drop 1))<|Aq ((Ar 3 A2.av) d.files)<|Aq (AV.s s')<|A1.sc0 (vs:=[((Ar 3 A2.av) d.files),(AV.s s'),(AV.fn 168 [])]) (r0:=(AV.tup [(AV.i .i64 ((MK d.files s' (fun z0 z1=>GW z0 z1)).1)),(AV.b ((MK d.files s' (fun z0 z1=>GW z0 z1)).2))])) kr (by simp only [A6,Bool.and_eq_true];exact ⟨by kernel_rfl,by kernel_rfl,kr,trivial⟩) (CA W d.files s' 168 [] (fun z0 z1=>GW z0 z1) kr (fun z0 z1=>(Oa W z0 z1)) sd) kr le<|Aq (AV.i .i64 ((MK d.files s' (fun z0 z1=>GW z0 z1)).1))<|Aq (AV.b ((MK d.files s' (fun z0 z1=>GW z0 z1)).2))<|Aq (AV.i .i64 ((MK d.files s' (fun z0 z1=>GW z0 z1)).1))<|Aq (AV.b ((MK d.files s' (fun z0 z1=>GW z0 z1)).2))<|Ad<|Rt ?_
 have hM:Ir d s'=((MK d.files s' (fun z0 z1=>GW z0 z1)).1,(MK d.files s' (fun z0 z1=>GW z0 z1)).2):=by simp only [Ir,AJ]
 refine ⟨Or.inr rfl,?_⟩
 rw [hM]
 exact AU.cast (x':=(AV.tup [(AV.i .i64 ((MK d.files s' (fun z0 z1=>GW z0 z1)).1)),(AV.b ((MK d.files s' (fun z0 z1=>GW z0 z1)).2))])) (y':=(AV.tup [(AV.i .i64 (((MK d.files s' (fun z0 z1=>GW z0 z1)).1,(MK d.files s' (fun z0 z1=>GW z0 z1)).2).1)),(AV.b (((MK d.files s' (fun z0 z1=>GW z0 z1)).1,(MK d.files s' (fun z0 z1=>GW z0 z1)).2).2))])) kr kr (AU.tup ⟨Ec,⟨Ec,trivial⟩⟩ kr)
def DK (d:A9) (s':ByteArray):AV:=(AV.i .i64 ((Ir d s').1))
def EU:AV:=(AV.st [(AV.s (⟨#[]⟩:ByteArray)),(AV.i .i64 (0:Int)),(AV.i .i64 (0:Int))])
def GK:Obj:=⟨85,3,[EU]⟩
def ET:AV:=(AV.tup [EU,(AV.b false)])
def Jh:AV:=(AV.tup [(A2.av (((⟨(⟨#[]⟩:ByteArray),(0:Int),(0:Int)⟩:A2),false).1)),(AV.b (((⟨(⟨#[]⟩:ByteArray),(0:Int),(0:Int)⟩:A2),false).2))])
def Jg (d:A9) (s':ByteArray):AV:=(AV.st [(AV.s ((d.files.getD ((Ir d s').1).toNat default).name)),(AV.i .i64 ((d.files.getD ((Ir d s').1).toNat default).content)),(AV.i .i64 ((d.files.getD ((Ir d s').1).toNat default).time))])
def Jf (d:A9) (s':ByteArray):AV:=(AV.tup [(Jg d s'),(AV.b true)])
theorem Hm (W:World) {m0:Int} (hW:W.cell? ⟨0,0,none⟩=some (.int .i64 m0)) (d:A9) (s':ByteArray) (hz:d.sz≤1049600):Aj Go.Proofs.Tryz.prog W 82 [(A9.av d),(AV.s s')] (AV.tup [(A2.av ((Cc d s').1)),(AV.b ((Cc d s').2))]) []:=by
 have hl:=Hh A2.sz_one d.files
 have hl2:=d.sz_files
 refine Ef A5 (fn:=Go.Proofs.Tryz.f82) Go.Proofs.Tryz.func82 rfl (en82 W) le<|Sq<|Rg<|Nn (AV.loc 0 0 0) ⟨30,2,[(A9.av d)]⟩<|Nn (AV.loc 1 0 0) GK<|Aq (AV.b false)<|Ad<|Sq<|Sq<|Rg<|Aq (AV.s s')<|A1.sfw (vs:=[(AV.loc 0 0 0),(AV.s s')]) (ss:=[(AV.pt (A9.av d).cells),(AV.s s')]) (r0:=(AV.tup [(DK d s'),(AV.b ((Ir d s').2))])) kr (show Bp _ _ _ from ⟨(Ak.w (Ak.cast (x':=(AV.loc 0 0 0)) kr kr (Cv A9.av d (id:=0) rfl rfl kr))),⟨(Bp.e kr),trivial⟩⟩) (Qq W d s' sd) rfl kr le<|Aq (AV.tup [(DK d s'),(AV.b ((Ir d s').2))])<|Aq (DK d s')<|Aq (AV.b ((Ir d s').2))<|Aq (DK d s')<|Aq (AV.b ((Ir d s').2))<|Ad<|Sq<|Rg<|Aq (AV.b ((Ir d s').2))<|Aq (AV.b ((Ir d s').2)) ?_
 cases c_1:(Ir d s').2
 refine An<|An<|Aq (AV.b false)<|Ad<|Cf<|A8.skip<|Sq<|Rg<|Nb EU<|Sp 1 GK<|Aq (AV.b false)<|Ad<|Rt ?_
 have hM:Cc d s'=((⟨(⟨#[]⟩:ByteArray),(0:Int),(0:Int)⟩:A2),false):=by simp only [Cc,c_1,AJ]
 refine ⟨Or.inr rfl,ET,kr,?_⟩
 rw [hM]
 exact AU.cast (x':=ET) (y':=Jh) kr kr (AU.tup ⟨Ec,⟨Ec,trivial⟩⟩ kr)
 have q_1:=W8 hz c_1
 refine Ay<|Aq (A9.av d)<|Ay<|A1.sc0 (vs:=[(A9.av d)]) (r0:=(AV.b (C4 D6 d))) kr kr (O8 W hW d) kr le<|Aq (AV.b (C4 D6 d))<|Ad ?_
 cases c_2:(C4 D6 d)
 refine Cf<|A8.skip<|Sq<|Rg<|Nb EU<|Sp 1 GK<|Aq (AV.b false)<|Ad<|Rt ?_
 have hM:Cc d s'=((⟨(⟨#[]⟩:ByteArray),(0:Int),(0:Int)⟩:A2),false):=by simp only [Cc,c_1,c_2,AJ]
 refine ⟨Or.inr rfl,ET,kr,?_⟩
 rw [hM]
 exact AU.cast (x':=ET) (y':=Jh) kr kr (AU.tup ⟨Ec,⟨Ec,trivial⟩⟩ kr)
 refine Ct<|Sq<|Rg<|Aq (AV.loc 0 0 1)<|Aq ((Ar 3 A2.av) d.files)<|Aq (DK d s')<|Ap (AV.pt (A2.av (d.files.getD ((Ir d s').1).toNat default)).cells) (IY (k:=3) (nl:=false) (e:=85) (kk:= .i64) (A:=A2.av) (xs:=d.files) (n:=((Ir d s').1)) kr kr kr ⟨by kernel_rfl,by decide⟩ sd (getD_some sd))<|Aq (A2.av (d.files.getD ((Ir d s').1).toNat default))<|Sp 1 ⟨85,3,[(Jg d s')]⟩<|Aq (AV.b true)<|Ad<|Rt ?_
 have hM:Cc d s'=((⟨(d.files.getD ((Ir d s').1).toNat default).name,(d.files.getD ((Ir d s').1).toNat default).content,(d.files.getD ((Ir d s').1).toNat default).time⟩:A2),true):=by simp only [Cc,c_1,c_2,AJ]
 refine ⟨Or.inr rfl,(Jf d s'),kr,?_⟩
 rw [hM]
 exact AU.cast (x':=(Jf d s')) (y':=(AV.tup [(A2.av (((⟨(d.files.getD ((Ir d s').1).toNat default).name,(d.files.getD ((Ir d s').1).toNat default).content,(d.files.getD ((Ir d s').1).toNat default).time⟩:A2),true).1)),(AV.b (((⟨(d.files.getD ((Ir d s').1).toNat default).name,(d.files.getD ((Ir d s').1).toNat default).content,(d.files.getD ((Ir d s').1).toNat default).time⟩:A2),true).2))])) kr kr (AU.tup ⟨Ec,⟨Ec,trivial⟩⟩ kr)
theorem UM (W:World) {m0:Int} (hW:W.cell? ⟨0,0,none⟩=some (.int .i64 m0)) (e:Ao) (hz:e.sz≤1049600):Aj Go.Proofs.Tryz.prog W 144 [(Ao.av e)] (AV.tup [(AV.s ((IH e).1)),(AV.i .i64 ((IH e).2))]) []:=by
 have hs:=Sa hz
 have hl1:=CB e.outs
 have hl2:=CB e.ins
 have hl3:=CB e.implicit
 have hl4:=e.sz_outs
 have hl5:=e.sz_ins
 have hl6:=e.sz_implicit
 refine Ae (fn:=Go.Proofs.Tryz.f144) Go.Proofs.Tryz.func144 rfl (en144 W) (ts:=[2,3]) rfl le<|Sq<|Rg<|Nn (AV.loc 0 0 0) ⟨65,7,[(Ao.av e)]⟩<|Aq (AV.s (⟨#[]⟩:ByteArray))<|Aq (AV.i .i64 (0:Int))<|Ad<|Sq<|Sq<|Rg<|A1.sfw (vs:=[(AV.loc 0 0 0)]) (ss:=[(AV.pt (Ao.av e).cells)]) (r0:=(AV.b (LH e))) kr (show Bp _ _ _ from ⟨(Ak.w (Ak.cast (x':=(AV.loc 0 0 0)) kr kr (Cv Ao.av e (id:=0) rfl rfl kr))),trivial⟩) (Qr W hW e) rfl kr le<|Aq (AV.b (!(LH e)))<|Ad ?_
 cases c_1:(!(LH e))
 refine Cf<|A8.skip<|Sq<|Rg<|Aq (AV.s (⟨#[110]⟩:ByteArray))<|Ad ?_
 refine Pr [(1,(AV.loc 0 0 0)),(4,(AV.s (bif e.deps then (⟨#[100]⟩:ByteArray) else (⟨#[110]⟩:ByteArray))))] ⟨1,[(0,some ⟨65,7,[(Ao.av e)]⟩)]⟩ ?_ ?_
 refine Sq<|Rg<|Aq (AV.loc 0 0 5)<|Aq (AV.b e.deps)<|Ad ?_
 cases c_2:e.deps
 refine Cf<|A8.skip ?_
 exact ⟨[0],⟨by decide,rfl,(A0.cons kr A0.nil),(Am.cons (AU.f kr) (Ee Am.nil))⟩,Au⟩
 refine Ct<|Rg<|Aq (AV.s (⟨#[100]⟩:ByteArray))<|Ad ?_
 exact ⟨[0],⟨by decide,rfl,(A0.cons kr A0.nil),(Am.cons (AU.f kr) (Ee Am.nil))⟩,Au⟩
 refine Sq<|A8.drawn A5 FR 12 kr le<|Dq (AV.loc 0 0 0)<|Dq ((Ar 1 AV.s) e.outs)<|Av.sc0 (vs:=[((Ar 1 AV.s) e.outs),(AV.s (⟨#[32]⟩:ByteArray))]) (r0:=(AV.s (BV e.outs (⟨#[32]⟩:ByteArray)))) kr kr (Fd W e.outs (⟨#[32]⟩:ByteArray) sd sd) kr le<|Dq (AV.loc 0 0 1)<|Dq ((Ar 1 AV.s) e.ins)<|Av.sc0 (vs:=[((Ar 1 AV.s) e.ins),(AV.s (⟨#[32]⟩:ByteArray))]) (r0:=(AV.s (BV e.ins (⟨#[32]⟩:ByteArray)))) kr kr (Fd W e.ins (⟨#[32]⟩:ByteArray) sd sd) kr le<|Dq (AV.loc 0 0 2)<|Dq ((Ar 1 AV.s) e.implicit)<|Av.sc0 (vs:=[((Ar 1 AV.s) e.implicit),(AV.s (⟨#[32]⟩:ByteArray))]) (r0:=(AV.s (BV e.implicit (⟨#[32]⟩:ByteArray)))) kr kr (Fd W e.implicit (⟨#[32]⟩:ByteArray) sd sd) kr le<|Dq (AV.s (bif e.deps then (⟨#[100]⟩:ByteArray) else (⟨#[110]⟩:ByteArray)))<|Dq (AV.loc 0 0 4)<|Dq (AV.s e.command)<|Av.sn (x:=(AV.own 1 0 5)) (h':=⟨2,[(1,some ⟨9,1,[(BV e.outs (⟨#[32]⟩:ByteArray)),(BV e.ins (⟨#[32]⟩:ByteArray)),(BV e.implicit (⟨#[32]⟩:ByteArray)),(bif e.deps then (⟨#[100]⟩:ByteArray) else (⟨#[110]⟩:ByteArray)),e.command].map AV.s⟩),(0,some ⟨65,7,[(Ao.av e)]⟩)]⟩) kr le<|Av.sfw (vs:=[(AV.own 1 0 5),(AV.s (⟨#[124]⟩:ByteArray))]) (ss:=[((Ar 1 AV.s) [(BV e.outs (⟨#[32]⟩:ByteArray)),(BV e.ins (⟨#[32]⟩:ByteArray)),(BV e.implicit (⟨#[32]⟩:ByteArray)),(bif e.deps then (⟨#[100]⟩:ByteArray) else (⟨#[110]⟩:ByteArray)),e.command]),(AV.s (⟨#[124]⟩:ByteArray))]) (r0:=(AV.s (BV [(BV e.outs (⟨#[32]⟩:ByteArray)),(BV e.ins (⟨#[32]⟩:ByteArray)),(BV e.implicit (⟨#[32]⟩:ByteArray)),(bif e.deps then (⟨#[100]⟩:ByteArray) else (⟨#[110]⟩:ByteArray)),e.command] (⟨#[124]⟩:ByteArray)))) kr (show Bp _ _ _ from ⟨(Ak.w (Ak.cast (x':=(AV.own 1 0 5)) kr kr (Ak.row (fun _=>rfl) (A:=AV.s) (id:=1) (e:=9) (k:=1) (xs:=[(BV e.outs (⟨#[32]⟩:ByteArray)),(BV e.ins (⟨#[32]⟩:ByteArray)),(BV e.implicit (⟨#[32]⟩:ByteArray)),(bif e.deps then (⟨#[100]⟩:ByteArray) else (⟨#[110]⟩:ByteArray)),e.command]) rfl rfl sd sd))),⟨(Bp.e kr),trivial⟩⟩) (Fd W [(BV e.outs (⟨#[32]⟩:ByteArray)),(BV e.ins (⟨#[32]⟩:ByteArray)),(BV e.implicit (⟨#[32]⟩:ByteArray)),(bif e.deps then (⟨#[100]⟩:ByteArray) else (⟨#[110]⟩:ByteArray)),e.command] (⟨#[124]⟩:ByteArray) (signs5 hz) (by simp only [List.length_cons,List.length_nil];decide)) rfl kr le ?_
 refine Dq (AV.s (BV [(BV e.outs (⟨#[32]⟩:ByteArray)),(BV e.ins (⟨#[32]⟩:ByteArray)),(BV e.implicit (⟨#[32]⟩:ByteArray)),(bif e.deps then (⟨#[100]⟩:ByteArray) else (⟨#[110]⟩:ByteArray)),e.command] (⟨#[124]⟩:ByteArray)))<|Dq (AV.i .i64 (0:Int))<|Av.fin<|Rt ?_
 exact Fsi rfl (by simp only [IH,c_1,AJ])
 refine Ct<|Sq<|Rg<|Aq (AV.s (⟨#[]⟩:ByteArray))<|Aq (AV.i .i64 (1100:Int))<|Ad<|Rt ?_
 exact Fsi rfl (by simp only [IH,c_1,AJ])
def FL:AV:=(AV.st [(AV.s (⟨#[]⟩:ByteArray)),(AV.i .i64 (0:Int)),(AV.s (⟨#[]⟩:ByteArray))])
def HC:Obj:=⟨56,3,[FL]⟩
def FK:AV:=(AV.tup [FL,(AV.b false)])
def JY:AV:=(AV.tup [(Ab.av ((GE,false).1)),(AV.b ((GE,false).2))])
theorem T6 (W:World) {m0:Int} (hW:W.cell? ⟨0,0,none⟩=some (.int .i64 m0)) (rs:List Ab) (out:ByteArray) (hz:Dj Ab.sz rs≤1049600):Aj Go.Proofs.Tryz.prog W 145 [((Ar 3 Ab.av) rs),(AV.s out)] (AV.tup [(Ab.av ((CO rs out).1)),(AV.b ((CO rs out).2))]) []:=by
 have hl:=Hh Ab.sz_one rs
 have hla:=Rp rs out
 refine Ef A5 (fn:=Go.Proofs.Tryz.f145) Go.Proofs.Tryz.func145 rfl (en145 W) le<|Sq<|Rg<|Nn (AV.loc 0 0 0) HC<|Aq (AV.b false)<|Ad<|Sq<|Rg<|Aq ((Ar 3 Ab.av) rs)<|Aq (AV.s out)<|A1.sc0 (vs:=[((Ar 3 Ab.av) rs),(AV.s out)]) (r0:=(AV.i .i64 (AO rs out))) kr kr (T7 W rs out sd) kr le<|Aq (AV.i .i64 (AO rs out))<|Ad<|Sq<|Sq<|Rg<|Aq (AV.i .i64 (AO rs out))<|Aq (AV.b (decide ((AO rs out)<(0:Int))))<|Aq (AV.b (decide ((AO rs out)<(0:Int)))) ?_
 cases c_1:decide ((AO rs out)<(0:Int))
 have k_1:=of_decide_eq_false c_1
 refine Ay<|Aq ((Ar 3 Ab.av) rs)<|Ay<|A1.sc0 (vs:=[((Ar 3 Ab.av) rs)]) (r0:=(AV.b (JP rs))) kr kr (Po W hW rs) kr le<|Ay<|Aq (AV.b (!(JP rs)))<|Aq (AV.b (!(JP rs)))<|Ad ?_
 cases c_2:(!(JP rs))
 refine Cf<|A8.skip<|Sq<|Rg<|Aq ((Ar 3 Ab.av) rs)<|Aq (AV.i .i64 (AO rs out))<|Ap (AV.pt (Ab.av (rs.getD (AO rs out).toNat default)).cells) (IY (k:=3) (nl:=false) (e:=56) (kk:= .i64) (A:=Ab.av) (xs:=rs) (n:=(AO rs out)) kr kr kr ⟨by kernel_rfl,by decide⟩ sd (getD_some sd))<|Aq (Ab.av (rs.getD (AO rs out).toNat default))<|Sp 0 ⟨56,3,[(AV.st [(AV.s ((rs.getD (AO rs out).toNat default).out)),(AV.i .i64 ((rs.getD (AO rs out).toNat default).time)),(AV.s ((rs.getD (AO rs out).toNat default).sign))])]⟩<|Aq (AV.b true)<|Ad<|Rt ?_
 have hM:CO rs out=((⟨(rs.getD (AO rs out).toNat default).out,(rs.getD (AO rs out).toNat default).time,(rs.getD (AO rs out).toNat default).sign⟩:Ab),true):=by simp only [CO,c_1,c_2,AJ]
 refine ⟨Or.inr rfl,(AV.tup [(AV.st [(AV.s ((rs.getD (AO rs out).toNat default).out)),(AV.i .i64 ((rs.getD (AO rs out).toNat default).time)),(AV.s ((rs.getD (AO rs out).toNat default).sign))]),(AV.b true)]),kr,?_⟩
 rw [hM]
 exact AU.cast (x':=(AV.tup [(AV.st [(AV.s ((rs.getD (AO rs out).toNat default).out)),(AV.i .i64 ((rs.getD (AO rs out).toNat default).time)),(AV.s ((rs.getD (AO rs out).toNat default).sign))]),(AV.b true)])) (y':=(AV.tup [(Ab.av (((⟨(rs.getD (AO rs out).toNat default).out,(rs.getD (AO rs out).toNat default).time,(rs.getD (AO rs out).toNat default).sign⟩:Ab),true).1)),(AV.b (((⟨(rs.getD (AO rs out).toNat default).out,(rs.getD (AO rs out).toNat default).time,(rs.getD (AO rs out).toNat default).sign⟩:Ab),true).2))])) kr kr (AU.tup ⟨Ec,⟨Ec,trivial⟩⟩ kr)
 refine Ct<|Sq<|Rg<|Nb FL<|Sp 0 HC<|Aq (AV.b false)<|Ad<|Rt ?_
 have hM:CO rs out=(GE,false):=by simp only [CO,c_1,c_2,AJ]
 refine ⟨Or.inr rfl,FK,kr,?_⟩
 rw [hM]
 exact AU.cast (x':=FK) (y':=JY) kr kr (AU.tup ⟨Ec,⟨Ec,trivial⟩⟩ kr)
 have k_1:=of_decide_eq_true c_1
 refine An<|An<|An<|Aq (AV.b true)<|Ad<|Ct<|Sq<|Rg<|Nb FL<|Sp 0 HC<|Aq (AV.b false)<|Ad<|Rt ?_
 have hM:CO rs out=(GE,false):=by simp only [CO,c_1,AJ]
 refine ⟨Or.inr rfl,FK,kr,?_⟩
 rw [hM]
 exact AU.cast (x':=FK) (y':=JY) kr kr (AU.tup ⟨Ec,⟨Ec,trivial⟩⟩ kr)
theorem OG (W:World) (f:Aa) (hz:f.sz≤1049600):Aj Go.Proofs.Tryz.prog W 148 [(Aa.av f)] (Aa.av (G4 f)) []:=by
 have hr1:=CB f.ins
 have hr2:=f.sz_ins
 refine Ef A5 (fn:=Go.Proofs.Tryz.f148) Go.Proofs.Tryz.func148 rfl (en148 W) le<|Sq<|Rg<|Nn (AV.loc 0 0 0) ⟨61,3,[(Aa.av f)]⟩<|Nn (AV.loc 1 0 0) ⟨61,3,[(AV.st [(AV.s (⟨#[]⟩:ByteArray)),(AV.i .i64 (0:Int)),(AV.sl 1 true [])])]⟩<|Ad<|Sq<|Rg<|Aq (AV.loc 0 0 2)<|Aq ((Ar 1 AV.s) f.ins)<|A1.sc0 (vs:=[((Ar 1 AV.s) f.ins)]) (r0:=((Ar 1 AV.s) (Hr f.ins))) kr kr (Gb W f.ins sd) kr le<|Aq (AV.loc 0 0 2)<|Sp 0 ⟨61,3,[(AV.st [(AV.s f.out),(AV.i .i64 f.time),((Ar 1 AV.s) (Hr f.ins))])]⟩<|Ad<|Sq<|Rg<|Aq (AV.st [(AV.s f.out),(AV.i .i64 f.time),((Ar 1 AV.s) (Hr f.ins))])<|Sp 1 ⟨61,3,[(AV.st [(AV.s f.out),(AV.i .i64 f.time),((Ar 1 AV.s) (Hr f.ins))])]⟩<|Ad<|Rt ?_
 have hM:G4 f=(⟨f.out,f.time,(Hr f.ins)⟩:Aa):=by simp only [G4,AJ]
 refine ⟨Or.inr rfl,(AV.st [(AV.s f.out),(AV.i .i64 f.time),((Ar 1 AV.s) (Hr f.ins))]),kr,?_⟩
 rw [hM]
 exact Ec
def DX:AV:=(AV.st [(AV.s (⟨#[]⟩:ByteArray)),(AV.i .i64 (0:Int)),(AV.sl 1 true [])])
def FA:Obj:=⟨61,3,[DX]⟩
def DW:AV:=(AV.tup [DX,(AV.b false)])
def HX:AV:=(AV.tup [(Aa.av (((⟨(⟨#[]⟩:ByteArray),(0:Int),[]⟩:Aa),false).1)),(AV.b (((⟨(⟨#[]⟩:ByteArray),(0:Int),[]⟩:Aa),false).2))])
theorem OH (W:World) {m0:Int} (hW:W.cell? ⟨0,0,none⟩=some (.int .i64 m0)) (fs:List Aa) (out:ByteArray) (hz:Dj Aa.sz fs≤1049600):Aj Go.Proofs.Tryz.prog W 99 [((Ar 3 Aa.av) fs),(AV.s out)] (AV.tup [(Aa.av ((J8 fs out).1)),(AV.b ((J8 fs out).2))]) []:=by
 have hl:=Hh Aa.sz_one fs
 have hla:=GD fs out
 refine Ef A5 (fn:=Go.Proofs.Tryz.f99) Go.Proofs.Tryz.func99 rfl (en99 W) le<|Sq<|Rg<|Nn (AV.loc 0 0 0) FA<|Aq (AV.b false)<|Ad<|Sq<|Rg<|Aq ((Ar 3 Aa.av) fs)<|Aq (AV.s out)<|A1.sc0 (vs:=[((Ar 3 Aa.av) fs),(AV.s out)]) (r0:=(AV.i .i64 (As fs out))) kr kr (OI W fs out sd) kr le<|Aq (AV.i .i64 (As fs out))<|Ad<|Sq<|Sq<|Rg<|Aq (AV.i .i64 (As fs out))<|Aq (AV.b (decide ((As fs out)<(0:Int))))<|Aq (AV.b (decide ((As fs out)<(0:Int)))) ?_
 cases c_1:decide ((As fs out)<(0:Int))
 have k_1:=of_decide_eq_false c_1
 refine Ay<|Aq ((Ar 3 Aa.av) fs)<|Ay<|A1.sc0 (vs:=[((Ar 3 Aa.av) fs)]) (r0:=(AV.b (JO fs))) kr kr (Lc W hW fs) kr le<|Ay<|Aq (AV.b (!(JO fs)))<|Aq (AV.b (!(JO fs)))<|Ad ?_
 cases c_2:(!(JO fs))
 refine Cf<|A8.skip<|Sq<|Rg<|Aq ((Ar 3 Aa.av) fs)<|Aq (AV.i .i64 (As fs out))<|Ap (AV.pt (Aa.av (fs.getD (As fs out).toNat default)).cells) (IY (k:=3) (nl:=false) (e:=61) (kk:= .i64) (A:=Aa.av) (xs:=fs) (n:=(As fs out)) kr kr kr ⟨by kernel_rfl,by decide⟩ sd (getD_some sd))<|Aq (Aa.av (fs.getD (As fs out).toNat default))<|A1.sc0 (vs:=[(Aa.av (fs.getD (As fs out).toNat default))]) (r0:=(Aa.av (G4 (fs.getD (As fs out).toNat default)))) kr kr (OG W (fs.getD (As fs out).toNat default) (N8 hz sd)) kr le<|Sp 0 ⟨61,3,[(AV.st [(AV.s ((G4 (fs.getD (As fs out).toNat default)).out)),(AV.i .i64 ((G4 (fs.getD (As fs out).toNat default)).time)),((Ar 1 AV.s) ((G4 (fs.getD (As fs out).toNat default)).ins))])]⟩<|Aq (AV.b true)<|Ad<|Rt ?_
 have hM:J8 fs out=((⟨(G4 (fs.getD (As fs out).toNat default)).out,(G4 (fs.getD (As fs out).toNat default)).time,(G4 (fs.getD (As fs out).toNat default)).ins⟩:Aa),true):=by simp only [J8,c_1,c_2,AJ]
 refine ⟨Or.inr rfl,(AV.tup [(AV.st [(AV.s ((G4 (fs.getD (As fs out).toNat default)).out)),(AV.i .i64 ((G4 (fs.getD (As fs out).toNat default)).time)),((Ar 1 AV.s) ((G4 (fs.getD (As fs out).toNat default)).ins))]),(AV.b true)]),kr,?_⟩
 rw [hM]
 exact AU.cast (x':=(AV.tup [(AV.st [(AV.s ((G4 (fs.getD (As fs out).toNat default)).out)),(AV.i .i64 ((G4 (fs.getD (As fs out).toNat default)).time)),((Ar 1 AV.s) ((G4 (fs.getD (As fs out).toNat default)).ins))]),(AV.b true)])) (y':=(AV.tup [(Aa.av (((⟨(G4 (fs.getD (As fs out).toNat default)).out,(G4 (fs.getD (As fs out).toNat default)).time,(G4 (fs.getD (As fs out).toNat default)).ins⟩:Aa),true).1)),(AV.b (((⟨(G4 (fs.getD (As fs out).toNat default)).out,(G4 (fs.getD (As fs out).toNat default)).time,(G4 (fs.getD (As fs out).toNat default)).ins⟩:Aa),true).2))])) kr kr (AU.tup ⟨Ec,⟨Ec,trivial⟩⟩ kr)
 refine Ct<|Sq<|Rg<|Nb DX<|Sp 0 FA<|Aq (AV.b false)<|Ad<|Rt ?_
 have hM:J8 fs out=((⟨(⟨#[]⟩:ByteArray),(0:Int),[]⟩:Aa),false):=by simp only [J8,c_1,c_2,AJ]
 refine ⟨Or.inr rfl,DW,kr,?_⟩
 rw [hM]
 exact AU.cast (x':=DW) (y':=HX) kr kr (AU.tup ⟨(AU.st ⟨Ec,⟨Ec,⟨(AU.w rfl (AL.nil 1)),trivial⟩⟩⟩ kr),⟨Ec,trivial⟩⟩ kr)
 have k_1:=of_decide_eq_true c_1
 refine An<|An<|An<|Aq (AV.b true)<|Ad<|Ct<|Sq<|Rg<|Nb DX<|Sp 0 FA<|Aq (AV.b false)<|Ad<|Rt ?_
 have hM:J8 fs out=((⟨(⟨#[]⟩:ByteArray),(0:Int),[]⟩:Aa),false):=by simp only [J8,c_1,AJ]
 refine ⟨Or.inr rfl,DW,kr,?_⟩
 rw [hM]
 exact AU.cast (x':=DW) (y':=HX) kr kr (AU.tup ⟨(AU.st ⟨Ec,⟨Ec,⟨(AU.w rfl (AL.nil 1)),trivial⟩⟩⟩ kr),⟨Ec,trivial⟩⟩ kr)
theorem Fa (W:World) {m0:Int} (hW:W.cell? ⟨0,0,none⟩=some (.int .i64 m0)) (l:Ac) (s':ByteArray) (hz:l.state.sz≤1049600) (he:l.edge.sz≤1049600):Aj Go.Proofs.Tryz.prog W 56 [(Ac.av l),(AV.s s')] (AV.b (LC l s')) []:=by
 have hg1:=l.state.sz_graph
 have hg3:=l.state.sz_disk
 have hg4:=l.state.sz_log
 have hg5:=l.state.sz_deps
 refine Ae (fn:=Go.Proofs.Tryz.f56) Go.Proofs.Tryz.func56 rfl (en56 W) (ts:=[4]) rfl le<|Sq<|Rg<|Nn (AV.loc 0 0 0) ⟨104,2,[(Ac.av l)]⟩<|Aq (AV.b false)<|Ad<|Sq<|Rg<|Aq (AV.loc 0 0 0)<|Aq (AV.pt (A7.av l.state).cells)<|Aq (AV.pt (A7.av l.state).cells)<|Aq (AV.pt ((A7.av l.state).cells.drop 4))<|Aq (A9.av l.state.disk)<|Aq (AV.s s')<|A1.sc0 (vs:=[(A9.av l.state.disk),(AV.s s')]) (r0:=(AV.tup [(A2.av ((Cc l.state.disk s').1)),(AV.b ((Cc l.state.disk s').2))])) kr kr (Hm W hW l.state.disk s' sd) kr le<|Aq (AV.tup [(A2.av ((Cc l.state.disk s').1)),(AV.b ((Cc l.state.disk s').2))])<|Aq (A2.av ((Cc l.state.disk s').1))<|Aq (AV.b ((Cc l.state.disk s').2))<|Nn (AV.loc 1 0 0) ⟨85,3,[(AV.st [(AV.s (⟨#[]⟩:ByteArray)),(AV.i .i64 (0:Int)),(AV.i .i64 (0:Int))])]⟩<|Sp 1 ⟨85,3,[(AV.st [(AV.s (((Cc l.state.disk s').1).name)),(AV.i .i64 (((Cc l.state.disk s').1).content)),(AV.i .i64 (((Cc l.state.disk s').1).time))])]⟩<|Aq (AV.b ((Cc l.state.disk s').2))<|Ad<|Sq<|Rg<|Aq (AV.b ((Cc l.state.disk s').2))<|Aq (AV.b (!(Cc l.state.disk s').2))<|Aq (AV.b (!(Cc l.state.disk s').2)) ?_
 cases c_1:(!(Cc l.state.disk s').2)
 refine An<|An<|An<|An<|An<|An<|An<|Aq (AV.b false)<|Aq (AV.b false)<|Ad<|Rt ?_
 exact Fb rfl (by simp only [LC,c_1,AJ])
 refine Ay<|Aq (AV.loc 0 0 0)<|Ay<|Aq (AV.pt (A7.av l.state).cells)<|Ay<|Aq (AV.pt (A7.av l.state).cells)<|Ay<|Aq (AV.pt ((A7.av l.state).cells.drop 0))<|Ay<|Aq (AV.s s')<|Ay<|A1.sc0 (vs:=[(AV.pt ((A7.av l.state).cells.drop 0)),(AV.s s')]) (r0:=(AV.i .i64 (DP l.state.graph s'))) kr kr ((FN W l.state.graph s').wk ⟨Lo 3 kr,⟨AL.refl _,trivial⟩⟩) kr le<|Ay<|Aq (AV.b (decide ((DP l.state.graph s')<(0:Int))))<|Aq (AV.b (decide ((DP l.state.graph s')<(0:Int))))<|Aq (AV.b (decide ((DP l.state.graph s')<(0:Int))))<|Ad<|Rt ?_
 exact Fb rfl (by simp only [LC,c_1,AJ])
def Bu (l:Ac):AV:=(AV.s ((IH l.edge).1))
def Bt (l:Ac):AV:=(AV.pt (A7.av l.state).cells)
theorem IJ (W:World) {m0:Int} (hW:W.cell? ⟨0,0,none⟩=some (.int .i64 m0)) (l:Ac) (hz:l.state.sz≤1049600) (he:l.edge.sz≤1049600):Aj Go.Proofs.Tryz.prog W 97 [(Ac.av l)] (AV.i .i64 (Lh l)) []:=by
 have hg1:=l.state.sz_graph
 have hg3:=l.state.sz_disk
 have hg4:=l.state.sz_log
 have hg5:=l.state.sz_deps
 refine Ae (fn:=Go.Proofs.Tryz.f97) Go.Proofs.Tryz.func97 rfl (en97 W) (ts:=[2]) rfl le<|Sq<|Rg<|Nn (AV.loc 0 0 0) ⟨104,2,[(Ac.av l)]⟩<|Aq (AV.i .i64 (0:Int))<|Ad<|Sq<|Rg<|Aq (AV.loc 0 0 1)<|Aq (AV.pt (Ao.av l.edge).cells)<|Aq (AV.pt (Ao.av l.edge).cells)<|Aq (Ao.av l.edge)<|A1.sc0 (vs:=[(Ao.av l.edge)]) (r0:=(AV.tup [(Bu l),(AV.i .i64 ((IH l.edge).2))])) kr kr (UM W hW l.edge sd) kr le<|Aq (AV.tup [(Bu l),(AV.i .i64 ((IH l.edge).2))])<|Aq (Bu l)<|Aq (AV.i .i64 ((IH l.edge).2))<|Aq (Bu l)<|Aq (AV.i .i64 ((IH l.edge).2))<|Ad<|Sq<|Rg<|Aq (AV.loc 0 0 0)<|Aq (Bt l)<|Aq (Bt l)<|Aq (AV.pt ((A7.av l.state).cells.drop 4))<|Aq (AV.pt ((A7.av l.state).cells.drop 4))<|Aq (AV.i .i64 l.state.disk.clock)<|Aq (AV.i .i64 l.state.disk.clock)<|Ad<|Sq<|Sq<|Rg<|Aq (AV.loc 0 0 1)<|Aq (AV.pt (Ao.av l.edge).cells)<|Aq (AV.pt (Ao.av l.edge).cells)<|Aq (AV.pt ((Ao.av l.edge).cells.drop 0))<|Aq ((Ar 1 AV.s) l.edge.outs)<|Ap (Ai l.edge.outs.length) (BI (k:=1) (nl:=false) (e:=9) (A:=AV.s) (xs:=l.edge.outs) kr kr)<|Aq (AV.i .i64 (0:Int))<|Ad<|A8.block<|A8.lim 30 (x:=((Ar 1 AV.s) l.edge.outs)) kr fun hlm1=> ?_
 have hB1:l.edge.outs.length≤281474976710656:=BJ hlm1
 obtain ⟨R1,hR1⟩: ∃R,Sk l l.edge.outs 0 l.state.disk.clock=R:=⟨_,rfl⟩
 refine AN (fun ((out,v32):Int×Nat)=>[(1,(AV.loc 0 0 0)),(3,(Bu l)),(30,((Ar 1 AV.s) l.edge.outs)),(31,(Ai l.edge.outs.length)),(5,(AV.i .i64 out)),(32,(Ai v32))]) (fun ((out,v32):Int×Nat)=>⟨1,[(0,some ⟨104,2,[(Ac.av l)]⟩)]⟩) (fun ((out,v32):Int×Nat)=>v32≤l.edge.outs.length∧Sk l (l.edge.outs.drop v32) v32 out=R1) (fun ((out,v32):Int×Nat)=>l.edge.outs.length-v32) (l.state.disk.clock,0) ?_ ?_ ?_
 exact ⟨[0],⟨by decide,rfl,(A0.cons kr A0.nil),(Am.cons (AU.f kr) (Ee (Ee (Ee (Ee (Ee Am.nil))))))⟩,Au⟩
 exact ⟨od,hR1⟩
 rintro ⟨out,v32⟩ ⟨hi1,hE1⟩
 try dsimp only
 refine Sq<|Rg<|Aq (AV.b (decide (((v32:Nat):Int)<((l.edge.outs.length:Nat):Int))))<|Ad<|Sq ?_
 rcases Nat.lt_or_ge v32 l.edge.outs.length with hl1|hl1
 have hc1:decide (((v32:Nat):Int)<((l.edge.outs.length:Nat):Int))=true:=decide_eq_true (by omega)
 refine A8.cond (t:=true) (by rw [←hc1]<;>kernel_rfl) (A8.skip ?_)
 obtain ⟨x1,hx1⟩: ∃x,l.edge.outs[v32]? =some x:=⟨_,List.getElem?_eq_getElem hl1⟩
 rw [AP hx1,Sk.eq_2] at hE1
 refine Sq<|A8.block<|Sq<|Rg<|Ap (AV.pt (AV.s x1).cells) (Bo (k:=1) (nl:=false) (e:=9) (kk:= .i64) (A:=AV.s) (xs:=l.edge.outs) (i:=v32) kr kr kr ⟨by kernel_rfl,by decide⟩ hx1)<|Aq (AV.s x1)<|Aq (AV.s x1)<|Ad<|Sq<|Rg<|Aq (AV.loc 0 0 0)<|Aq (Bt l)<|Aq (Bt l)<|Aq (AV.pt ((A7.av l.state).cells.drop 4))<|Aq (A9.av l.state.disk)<|Aq (AV.s x1)<|A1.sc0 (vs:=[(A9.av l.state.disk),(AV.s x1)]) (r0:=(AV.tup [(A2.av ((Cc l.state.disk x1).1)),(AV.b ((Cc l.state.disk x1).2))])) kr kr (Hm W hW l.state.disk x1 sd) kr le<|Aq (AV.tup [(A2.av ((Cc l.state.disk x1).1)),(AV.b ((Cc l.state.disk x1).2))])<|Aq (A2.av ((Cc l.state.disk x1).1))<|Aq (AV.b ((Cc l.state.disk x1).2))<|Nn (AV.loc 1 0 0) ⟨85,3,[(AV.st [(AV.s (⟨#[]⟩:ByteArray)),(AV.i .i64 (0:Int)),(AV.i .i64 (0:Int))])]⟩<|Sp 1 ⟨85,3,[(AV.st [(AV.s (((Cc l.state.disk x1).1).name)),(AV.i .i64 (((Cc l.state.disk x1).1).content)),(AV.i .i64 (((Cc l.state.disk x1).1).time))])]⟩<|Aq (AV.b ((Cc l.state.disk x1).2))<|Ad<|Sq<|Rg<|Aq (AV.loc 0 0 0)<|Aq (Bt l)<|Aq (Bt l)<|Aq (AV.pt ((A7.av l.state).cells.drop 6))<|Aq ((Ar 3 Ab.av) l.state.log)<|Aq (AV.s x1)<|A1.sc0 (vs:=[((Ar 3 Ab.av) l.state.log),(AV.s x1)]) (r0:=(AV.tup [(Ab.av ((CO l.state.log x1).1)),(AV.b ((CO l.state.log x1).2))])) kr kr (T6 W hW l.state.log x1 sd) kr le ?_
 refine Aq (AV.tup [(Ab.av ((CO l.state.log x1).1)),(AV.b ((CO l.state.log x1).2))])<|Aq (Ab.av ((CO l.state.log x1).1))<|Aq (AV.b ((CO l.state.log x1).2))<|Nn (AV.loc 2 0 0) ⟨56,3,[(AV.st [(AV.s (⟨#[]⟩:ByteArray)),(AV.i .i64 (0:Int)),(AV.s (⟨#[]⟩:ByteArray))])]⟩<|Sp 2 ⟨56,3,[(AV.st [(AV.s (((CO l.state.log x1).1).out)),(AV.i .i64 (((CO l.state.log x1).1).time)),(AV.s (((CO l.state.log x1).1).sign))])]⟩<|Aq (AV.b ((CO l.state.log x1).2))<|Ad<|Sq<|Sq<|Rg<|Aq (AV.b ((Cc l.state.disk x1).2))<|Aq (AV.b (!(Cc l.state.disk x1).2))<|Aq (AV.b (!(Cc l.state.disk x1).2)) ?_
 cases c_1:(!(Cc l.state.disk x1).2)
 refine Ay<|Aq (AV.b ((CO l.state.log x1).2))<|Ay<|Aq (AV.b (!(CO l.state.log x1).2))<|Aq (AV.b (!(CO l.state.log x1).2))<|Aq (AV.b (!(CO l.state.log x1).2)) ?_
 cases c_2:(!(CO l.state.log x1).2)
 refine Ay<|Aq (AV.loc 2 0 2)<|Ay<|Aq (AV.s (((CO l.state.log x1).1).sign))<|Ay<|Aq (Bu l)<|Ay<|Aq (AV.b (!decide (((CO l.state.log x1).1).sign=(IH l.edge).1)))<|Aq (AV.b (!decide (((CO l.state.log x1).1).sign=(IH l.edge).1)))<|Aq (AV.b (!decide (((CO l.state.log x1).1).sign=(IH l.edge).1))) ?_
 cases c_3:(!decide (((CO l.state.log x1).1).sign=(IH l.edge).1))
 have k_3:=VP c_3
 refine Ay<|Aq (AV.loc 2 0 1)<|Ay<|Aq (AV.i .i64 (((CO l.state.log x1).1).time))<|Ay<|Aq (AV.loc 1 0 2)<|Ay<|Aq (AV.i .i64 (((Cc l.state.disk x1).1).time))<|Ay<|Aq (AV.b (!decide (((CO l.state.log x1).1).time=((Cc l.state.disk x1).1).time)))<|Aq (AV.b (!decide (((CO l.state.log x1).1).time=((Cc l.state.disk x1).1).time)))<|Ad ?_
 cases c_4:(!decide (((CO l.state.log x1).1).time=((Cc l.state.disk x1).1).time))
 have k_4:=VP c_4
 refine Cf<|A8.skip<|Rg<|Aq (AV.i .i64 out)<|Aq (AV.loc 1 0 2)<|Aq (AV.i .i64 (((Cc l.state.disk x1).1).time))<|Aq (AV.i .i64 (if ((Cc l.state.disk x1).1).time<out then ((Cc l.state.disk x1).1).time else out))<|Aq (AV.i .i64 (if ((Cc l.state.disk x1).1).time<out then ((Cc l.state.disk x1).1).time else out))<|Ad<|Rg<|Ap (Ai (v32+1)) (AH (i:=v32) (m:=1) kr kr sd)<|Aq (Ai (v32+1))<|Ad ?_
 try simp only [c_1,c_2,c_3,c_4,AJ] at hE1
 refine ⟨((if ((Cc l.state.disk x1).1).time<out then ((Cc l.state.disk x1).1).time else out),v32+1),od,⟨od,hE1⟩,?_⟩
 exact ⟨[0],⟨by decide,rfl,(A0.cons kr A0.nil),(Am.cons (AU.f kr) (Ee (Ee (Ee (Ee (Ee Am.nil))))))⟩,Au⟩
 have k_4:=VQ c_4
 refine Ct<|Sq<|Rg<|Aq (AV.i .i64 (-1:Int))<|Ad<|Rt ?_
 try simp only [c_1,c_2,c_3,c_4,AJ] at hE1
 subst hE1
 exact Fi rfl (by simp only [Lh,hR1,AJ])
 have k_3:=VQ c_3
 refine An<|An<|An<|An<|An<|Aq (AV.b true)<|Ad<|Ct<|Sq<|Rg<|Aq (AV.i .i64 (-1:Int))<|Ad<|Rt ?_
 try simp only [c_1,c_2,c_3,AJ] at hE1
 subst hE1
 exact Fi rfl (by simp only [Lh,hR1,AJ])
 refine An<|An<|An<|An<|Aq (AV.b true)<|Aq (AV.b true)<|An<|An<|An<|An<|An<|Aq (AV.b true)<|Ad<|Ct<|Sq<|Rg<|Aq (AV.i .i64 (-1:Int))<|Ad<|Rt ?_
 try simp only [c_1,c_2,AJ] at hE1
 subst hE1
 exact Fi rfl (by simp only [Lh,hR1,AJ])
 refine An<|An<|Aq (AV.b true)<|Aq (AV.b true)<|An<|An<|An<|An<|Aq (AV.b true)<|Aq (AV.b true)<|An<|An<|An<|An<|An<|Aq (AV.b true)<|Ad<|Ct<|Sq<|Rg<|Aq (AV.i .i64 (-1:Int))<|Ad<|Rt ?_
 try simp only [c_1,AJ] at hE1
 subst hE1
 exact Fi rfl (by simp only [Lh,hR1,AJ])
 have hc1:decide (((v32:Nat):Int)<((l.edge.outs.length:Nat):Int))=false:=decide_eq_false (by omega)
 refine A8.cond (t:=false) (by rw [←hc1]<;>kernel_rfl) (A8.exit ?_)
 rw [List.drop_eq_nil_of_le (hl1),Sk.eq_1] at hE1
 subst hE1
 refine Sq<|Rg<|Aq (AV.i .i64 out)<|Aq (AV.i .i64 out)<|Ad<|Rt ?_
 exact Fi rfl (by simp only [Lh,hR1,AJ])
theorem Iw (W:World) {m0:Int} (hW:W.cell? ⟨0,0,none⟩=some (.int .i64 m0)) (s':ByteArray) (l:Ac) (time:Int) (hz:l.state.sz≤1049600) (he:l.edge.sz≤1049600):Aj Go.Proofs.Tryz.prog W 146 [(AV.s s'),(AV.pt (Ac.av l).cells),(AV.pt ((AV.i .i64) time).cells)] (AV.b (Rr s' l time)) []:=by
 have hg1:=l.state.sz_graph
 have hg3:=l.state.sz_disk
 have hg4:=l.state.sz_log
 have hg5:=l.state.sz_deps
 refine Ae (fn:=Go.Proofs.Tryz.f146) Go.Proofs.Tryz.func146 rfl (en146 W) (ts:=[4]) rfl le<|Sq<|Rg<|Aq (AV.b false)<|Ad<|Sq<|Rg<|Aq (AV.pt ((Ac.av l).cells.drop 0))<|Aq (AV.pt (A7.av l.state).cells)<|Aq (AV.pt (A7.av l.state).cells)<|Aq (AV.pt ((A7.av l.state).cells.drop 4))<|Aq (A9.av l.state.disk)<|Aq (AV.s s')<|A1.sc0 (vs:=[(A9.av l.state.disk),(AV.s s')]) (r0:=(AV.tup [(A2.av ((Cc l.state.disk s').1)),(AV.b ((Cc l.state.disk s').2))])) kr kr (Hm W hW l.state.disk s' sd) kr le<|Aq (AV.tup [(A2.av ((Cc l.state.disk s').1)),(AV.b ((Cc l.state.disk s').2))])<|Aq (A2.av ((Cc l.state.disk s').1))<|Aq (AV.b ((Cc l.state.disk s').2))<|Nn (AV.loc 0 0 0) ⟨85,3,[(AV.st [(AV.s (⟨#[]⟩:ByteArray)),(AV.i .i64 (0:Int)),(AV.i .i64 (0:Int))])]⟩<|Sp 0 ⟨85,3,[(AV.st [(AV.s (((Cc l.state.disk s').1).name)),(AV.i .i64 (((Cc l.state.disk s').1).content)),(AV.i .i64 (((Cc l.state.disk s').1).time))])]⟩<|Aq (AV.b ((Cc l.state.disk s').2))<|Ad<|Sq<|Rg<|Aq (AV.b ((Cc l.state.disk s').2))<|Aq (AV.b (!(Cc l.state.disk s').2))<|Aq (AV.b (!(Cc l.state.disk s').2)) ?_
 cases c_1:(!(Cc l.state.disk s').2)
 refine Ay<|Aq (AV.loc 0 0 2)<|Ay<|Aq (AV.i .i64 (((Cc l.state.disk s').1).time))<|Ay<|Aq (AV.i .i64 time)<|Ay<|Aq (AV.b (decide (time<((Cc l.state.disk s').1).time)))<|Aq (AV.b (decide (time<((Cc l.state.disk s').1).time)))<|Aq (AV.b (decide (time<((Cc l.state.disk s').1).time)))<|Ad<|Rt ?_
 exact Fb rfl (by simp only [Rr,c_1,AJ])
 refine An<|An<|An<|An<|Aq (AV.b true)<|Aq (AV.b true)<|Ad<|Rt ?_
 exact Fb rfl (by simp only [Rr,c_1,AJ])
theorem Fc (W:World) (s':List ByteArray) (f_f:FuncId) (c_f:List AV) (f:ByteArray→Bool) (hcl_f:A6 c_f=true) (hp_f: ∀(z0:ByteArray),Aj Go.Proofs.Tryz.prog W f_f ((AV.s z0)::c_f) (AV.b (f z0)) []):Aj Go.Proofs.Tryz.prog W 95 [((Ar 1 AV.s) s'),(AV.fn f_f c_f)] (AV.i .i64 (Ru s' f)) []:=by
 refine Ae (fn:=Go.Proofs.Tryz.f95) Go.Proofs.Tryz.func95 rfl (en95 W) (ts:=[4]) rfl le<|Sq<|Rg<|Aq (AV.i .i64 (0:Int))<|Ad<|Sq<|Sq<|Rg<|Aq ((Ar 1 AV.s) s')<|Ap (Ai s'.length) (BI (k:=1) (nl:=false) (e:=9) (A:=AV.s) (xs:=s') kr kr)<|Aq (AV.i .i64 (0:Int))<|Ad<|A8.block<|A8.lim 0 (x:=((Ar 1 AV.s) s')) kr fun hlm1=> ?_
 have hB1:s'.length≤281474976710656:=BJ hlm1
 obtain ⟨R1,hR1⟩: ∃R,SQ f s' 0=R:=⟨_,rfl⟩
 refine AN (fun (v8:Nat)=>[(0,((Ar 1 AV.s) s')),(1,(AV.fn f_f c_f)),(7,(Ai s'.length)),(8,(Ai v8))]) (fun (v8:Nat)=>⟨0,[]⟩) (fun (v8:Nat)=>v8≤s'.length∧SQ f (s'.drop v8) v8=R1) (fun (v8:Nat)=>s'.length-v8) 0 ?_ ?_ ?_
 exact ⟨[],⟨by decide,rfl,A0.nil,(Ee (Am.cons (AU.c kr hcl_f) (Ee (Ee Am.nil))))⟩,Au⟩
 exact ⟨od,hR1⟩
 rintro v8 ⟨hi1,hE1⟩
 try dsimp only
 refine Sq<|Rg<|Aq (AV.b (decide (((v8:Nat):Int)<((s'.length:Nat):Int))))<|Ad<|Sq ?_
 rcases Nat.lt_or_ge v8 s'.length with hl1|hl1
 have hc1:decide (((v8:Nat):Int)<((s'.length:Nat):Int))=true:=decide_eq_true (by omega)
 refine A8.cond (t:=true) (by rw [←hc1]<;>kernel_rfl) (A8.skip ?_)
 obtain ⟨x1,hx1⟩: ∃x,s'[v8]? =some x:=⟨_,List.getElem?_eq_getElem hl1⟩
 rw [AP hx1,SQ.eq_2] at hE1
 refine Sq<|A8.block<|Sq<|Rg<|Aq (Ai v8)<|Aq (Ai v8)<|Ad<|Sq<|Rg<|Aq (AV.fn f_f c_f)<|Aq ((Ar 1 AV.s) s')<|Aq (Ai v8)<|Ap (AV.pt (AV.s x1).cells) (Bo (k:=1) (nl:=false) (e:=9) (kk:= .i64) (A:=AV.s) (xs:=s') (i:=v8) kr kr kr ⟨by kernel_rfl,by decide⟩ hx1)<|Aq (AV.s x1)<|A1.sc0 (vs:=((AV.s x1)::c_f)) (r0:=(AV.b (f x1))) kr (by simp only [A6,Bool.and_eq_true];exact ⟨by kernel_rfl,hcl_f⟩) (hp_f x1) kr le<|Ad ?_
 cases c_1:(f x1)
 refine Cf<|A8.skip<|Rg<|Ap (Ai (v8+1)) (AH (i:=v8) (m:=1) kr kr sd)<|Aq (Ai (v8+1))<|Ad ?_
 try simp only [c_1,AJ] at hE1
 refine ⟨v8+1,od,⟨od,hE1⟩,?_⟩
 exact ⟨[],⟨by decide,rfl,A0.nil,(Ee (Am.cons (AU.c kr hcl_f) (Ee (Ee Am.nil))))⟩,Au⟩
 refine Ct<|Sq<|Rg<|Aq (Ai v8)<|Aq (Ai v8)<|Ad<|Rt ?_
 try simp only [c_1,AJ] at hE1
 subst hE1
 exact Fi rfl (by simp only [Ru,hR1,AJ])
 have hc1:decide (((v8:Nat):Int)<((s'.length:Nat):Int))=false:=decide_eq_false (by omega)
 refine A8.cond (t:=false) (by rw [←hc1]<;>kernel_rfl) (A8.exit ?_)
 rw [List.drop_eq_nil_of_le (hl1),SQ.eq_1] at hE1
 subst hE1
 refine Sq<|Rg<|Aq (AV.i .i64 (-1:Int))<|Ad<|Rt ?_
 exact Fi rfl (by simp only [Ru,hR1,AJ])
theorem BQ (W:World) (s':List ByteArray) (f_f:FuncId) (c_f:List AV) (f:ByteArray→Bool) (hcl_f:A6 c_f=true) (hp_f: ∀(z0:ByteArray),Aj Go.Proofs.Tryz.prog W f_f ((AV.s z0)::c_f) (AV.b (f z0)) []):Aj Go.Proofs.Tryz.prog W 54 [((Ar 1 AV.s) s'),(AV.fn f_f c_f)] (AV.b (Tz s' f)) []:=by
 refine Ae (fn:=Go.Proofs.Tryz.f54) Go.Proofs.Tryz.func54 rfl (en54 W) (ts:=[4]) rfl le<|Sq<|Rg<|Aq (AV.b false)<|Ad<|Sq<|Rg<|Aq ((Ar 1 AV.s) s')<|Aq (AV.fn f_f c_f)<|A1.sc0 (vs:=[((Ar 1 AV.s) s'),(AV.fn f_f c_f)]) (r0:=(AV.i .i64 (Ru s' f))) kr (by simp only [A6,Bool.and_eq_true];exact ⟨by kernel_rfl,hcl_f,trivial⟩) (Fc W s' f_f c_f f hcl_f hp_f) kr le<|Aq (AV.b (decide ((0:Int)≤(Ru s' f))))<|Aq (AV.b (decide ((0:Int)≤(Ru s' f))))<|Ad<|Rt ?_
 exact Fb rfl (by simp only [Tz,AJ])
theorem DM (W:World) {m0:Int} (hW:W.cell? ⟨0,0,none⟩=some (.int .i64 m0)) (l:Ac) (ss:List ByteArray) (time:Int) (hz:l.state.sz≤1049600) (he:l.edge.sz≤1049600):Aj Go.Proofs.Tryz.prog W 98 [(Ac.av l),((Ar 1 AV.s) ss),(AV.i .i64 time)] (AV.b (Rq l ss time)) []:=by
 have hg1:=l.state.sz_graph
 have hg3:=l.state.sz_disk
 have hg4:=l.state.sz_log
 have hg5:=l.state.sz_deps
 refine Ae (fn:=Go.Proofs.Tryz.f98) Go.Proofs.Tryz.func98 rfl (en98 W) (ts:=[6]) rfl le<|Sq<|Rg<|Nn (AV.loc 0 0 0) ⟨104,2,[(Ac.av l)]⟩<|Nn (AV.loc 1 0 0) ⟨3,1,[(AV.i .i64 time)]⟩<|Aq (AV.b false)<|Ad<|Sq<|Rg<|Aq ((Ar 1 AV.s) ss)<|Aq (AV.fn 146 [(AV.loc 0 0 0),(AV.loc 1 0 0)])<|A1.sfw (vs:=[((Ar 1 AV.s) ss),(AV.fn 146 [(AV.loc 0 0 0),(AV.loc 1 0 0)])]) (ss:=[((Ar 1 AV.s) ss),(AV.fn 146 [(AV.pt (Ac.av l).cells),(AV.pt ((AV.i .i64) time).cells)])]) (r0:=(AV.b (Tz ss (fun z0=>Rr z0 l time)))) kr (show Bp _ _ _ from ⟨(Bp.e kr),⟨(Ak.w (Ak.cast (x':=(AV.fn 146 [(AV.loc 0 0 0),(AV.loc 1 0 0)])) kr kr (Ak.fn (Ah.cons (Cv Ac.av l (id:=0) rfl rfl kr) (Ah.cons (HI (id:=1) (j:=0) (ob:=⟨3,1,[(AV.i .i64 time)]⟩) (x:=(AV.i .i64 time)) rfl rfl rfl rfl (Aw (x:=(AV.i .i64 time)) kr)) Ah.nil))))),trivial⟩⟩) (BQ W ss 146 [(AV.pt (Ac.av l).cells),(AV.pt ((AV.i .i64) time).cells)] (fun z0=>Rr z0 l time) kr (fun z0=>(Iw W hW z0 l time sd sd))) rfl kr le<|Aq (AV.b (Tz ss (fun z0=>Rr z0 l time)))<|Ad<|Rt ?_
 exact Fb rfl (by simp only [Rq,AJ])
def B0 (l:Ac):AV:=(AV.pt (Ao.av l.edge).cells)
def BW (l:Ac):Obj:=⟨104,2,[(Ac.av l)]⟩
def BF (l:Ac):AV:=(AV.s (l.edge.outs.getD 0 default))
def B7 (l:Ac):AV:=(AV.i .i64 (Lh l))
def CV (l:Ac):AV:=((Ar 1 AV.s) (((J8 l.state.deps (l.edge.outs.getD 0 default)).1).ins))
def EA (l:Ac):AV:=(AV.tup [(A2.av ((Cc l.state.disk (l.edge.outs.getD 0 default)).1)),(AV.b ((Cc l.state.disk (l.edge.outs.getD 0 default)).2))])
def Ez (l:Ac):AV:=(AV.tup [(Aa.av ((J8 l.state.deps (l.edge.outs.getD 0 default)).1)),(AV.b ((J8 l.state.deps (l.edge.outs.getD 0 default)).2))])
def CU (l:Ac):Obj:=⟨61,3,[(AV.st [(AV.s (((J8 l.state.deps (l.edge.outs.getD 0 default)).1).out)),(AV.i .i64 (((J8 l.state.deps (l.edge.outs.getD 0 default)).1).time)),(CV l)])]⟩
theorem G2 (W:World) {m0:Int} (hW:W.cell? ⟨0,0,none⟩=some (.int .i64 m0)) (l:Ac) (hz:l.state.sz≤1049600) (he:l.edge.sz≤1049600) (ho:0<l.edge.outs.length):Aj Go.Proofs.Tryz.prog W 57 [(Ac.av l)] (AV.b (Sj l)) []:=by
 have hg1:=l.state.sz_graph
 have hg3:=l.state.sz_disk
 have hg4:=l.state.sz_log
 have hg5:=l.state.sz_deps
 refine Ae (fn:=Go.Proofs.Tryz.f57) Go.Proofs.Tryz.func57 rfl (en57 W) (ts:=[2]) rfl le<|Sq<|Rg<|Nn (AV.loc 0 0 0) (BW l)<|Aq (AV.b false)<|Ad<|Sq<|Rg<|Aq (Ac.av l)<|A1.sc0 (vs:=[(Ac.av l)]) (r0:=(B7 l)) kr kr (IJ W hW l sd sd) kr le<|Aq (B7 l)<|Ad<|Sq<|Sq<|A8.drawn A5 FR 20 kr le<|Dq (B7 l)<|Dq (AV.b (decide ((Lh l)<(0:Int))))<|Dq (AV.b (decide ((Lh l)<(0:Int)))) ?_
 cases c_1:decide ((Lh l)<(0:Int))
 have k_1:=of_decide_eq_false c_1
 refine Dy<|Dq (Ac.av l)<|Dy<|Dq (AV.loc 0 0 1)<|Dy<|Dq (B0 l)<|Dy<|Dq (B0 l)<|Dy<|Dq (AV.pt ((Ao.av l.edge).cells.drop 1))<|Dy<|Dq ((Ar 1 AV.s) l.edge.ins)<|Dy<|Dq (B7 l)<|Dy<|Av.sc0 (vs:=[(Ac.av l),((Ar 1 AV.s) l.edge.ins),(B7 l)]) (r0:=(AV.b (Rq l l.edge.ins (Lh l)))) kr kr (DM W hW l l.edge.ins (Lh l) sd sd) kr le<|Dq (AV.b (Rq l l.edge.ins (Lh l)))<|Dq (AV.b (Rq l l.edge.ins (Lh l))) ?_
 cases c_2:(Rq l l.edge.ins (Lh l))
 refine Dy<|Dq (Ac.av l)<|Dy<|Dq (AV.loc 0 0 1)<|Dy<|Dq (B0 l)<|Dy<|Dq (B0 l)<|Dy<|Dq (AV.pt ((Ao.av l.edge).cells.drop 2))<|Dy<|Dq ((Ar 1 AV.s) l.edge.implicit)<|Dy<|Dq (B7 l)<|Dy<|Av.sc0 (vs:=[(Ac.av l),((Ar 1 AV.s) l.edge.implicit),(B7 l)]) (r0:=(AV.b (Rq l l.edge.implicit (Lh l)))) kr kr (DM W hW l l.edge.implicit (Lh l) sd sd) kr le<|Dq (AV.b (Rq l l.edge.implicit (Lh l)))<|Av.fin ?_
 cases c_3:(Rq l l.edge.implicit (Lh l))
 refine Cf<|A8.skip<|Sq<|Sq<|Rg<|Aq (AV.loc 0 0 1)<|Aq (B0 l)<|Aq (B0 l)<|Aq (AV.pt ((Ao.av l.edge).cells.drop 5))<|Aq (AV.b l.edge.deps)<|Aq (AV.b (!l.edge.deps))<|Ad ?_
 cases c_4:(!l.edge.deps)
 refine Cf<|A8.skip<|Sq<|MN A5 FR 17 [15] kr kr kr le<|Dq (AV.loc 0 0 0)<|Dq (AV.pt (A7.av l.state).cells)<|Dq (AV.pt (A7.av l.state).cells)<|Dq (AV.pt ((A7.av l.state).cells.drop 7))<|Dq ((Ar 3 Aa.av) l.state.deps)<|Dq (AV.loc 0 0 1)<|Dq (B0 l)<|Dq (B0 l)<|Dq (AV.pt ((Ao.av l.edge).cells.drop 0))<|Dq ((Ar 1 AV.s) l.edge.outs)<|Dp (AV.pt (BF l).cells) (Bo (k:=1) (nl:=false) (e:=9) (kk:= .i64) (A:=AV.s) (xs:=l.edge.outs) (i:=0) kr kr kr ⟨by kernel_rfl,by decide⟩ (getD_some sd))<|Dq (BF l)<|Av.sc0 (vs:=[((Ar 3 Aa.av) l.state.deps),(BF l)]) (r0:=(Ez l)) kr kr (OH W hW l.state.deps (l.edge.outs.getD 0 default) sd) kr le<|Dq (Ez l)<|Dq (Aa.av ((J8 l.state.deps (l.edge.outs.getD 0 default)).1))<|Dq (AV.b ((J8 l.state.deps (l.edge.outs.getD 0 default)).2))<|Av.sn (x:=(AV.loc 1 0 0)) (h':=⟨2,[(1,some ⟨61,3,[(AV.st [(AV.s (⟨#[]⟩:ByteArray)),(AV.i .i64 (0:Int)),(AV.sl 1 true [])])]⟩),(0,some (BW l))]⟩) kr le ?_
 refine Av.st (by decide) (x:=AV.und) (h':=⟨2,[(1,some (CU l)),(0,some (BW l))]⟩) kr<|Dq (AV.b ((J8 l.state.deps (l.edge.outs.getD 0 default)).2))<|Av.fin<|Sq<|MN A5 FR 17 [15] kr kr kr le<|Dq (AV.loc 0 0 0)<|Dq (AV.pt (A7.av l.state).cells)<|Dq (AV.pt (A7.av l.state).cells)<|Dq (AV.pt ((A7.av l.state).cells.drop 4))<|Dq (A9.av l.state.disk)<|Dq (AV.loc 0 0 1)<|Dq (B0 l)<|Dq (B0 l)<|Dq (AV.pt ((Ao.av l.edge).cells.drop 0))<|Dq ((Ar 1 AV.s) l.edge.outs)<|Dp (AV.pt (BF l).cells) (Bo (k:=1) (nl:=false) (e:=9) (kk:= .i64) (A:=AV.s) (xs:=l.edge.outs) (i:=0) kr kr kr ⟨by kernel_rfl,by decide⟩ (getD_some sd))<|Dq (BF l)<|Av.sc0 (vs:=[(A9.av l.state.disk),(BF l)]) (r0:=(EA l)) kr kr (Hm W hW l.state.disk (l.edge.outs.getD 0 default) sd) kr le<|Dq (EA l) ?_
 refine Dq (A2.av ((Cc l.state.disk (l.edge.outs.getD 0 default)).1))<|Dq (AV.b ((Cc l.state.disk (l.edge.outs.getD 0 default)).2))<|Av.sn (x:=(AV.loc 2 0 0)) (h':=⟨3,[(2,some ⟨85,3,[(AV.st [(AV.s (⟨#[]⟩:ByteArray)),(AV.i .i64 (0:Int)),(AV.i .i64 (0:Int))])]⟩),(1,some (CU l)),(0,some (BW l))]⟩) kr le<|Av.st (by decide) (x:=AV.und) (h':=⟨3,[(2,some ⟨85,3,[(AV.st [(AV.s (((Cc l.state.disk (l.edge.outs.getD 0 default)).1).name)),(AV.i .i64 (((Cc l.state.disk (l.edge.outs.getD 0 default)).1).content)),(AV.i .i64 (((Cc l.state.disk (l.edge.outs.getD 0 default)).1).time))])]⟩),(1,some (CU l)),(0,some (BW l))]⟩) kr<|Dq (AV.b ((Cc l.state.disk (l.edge.outs.getD 0 default)).2))<|Av.fin<|Sq<|Rg<|Aq (AV.b ((J8 l.state.deps (l.edge.outs.getD 0 default)).2))<|Aq (AV.b (!(J8 l.state.deps (l.edge.outs.getD 0 default)).2)) ?_
 refine Aq (AV.b (!(J8 l.state.deps (l.edge.outs.getD 0 default)).2)) ?_
 cases c_5:(!(J8 l.state.deps (l.edge.outs.getD 0 default)).2)
 refine Ay<|Aq (AV.loc 1 0 1)<|Ay<|Aq (AV.i .i64 (((J8 l.state.deps (l.edge.outs.getD 0 default)).1).time))<|Ay<|Aq (AV.loc 2 0 2)<|Ay<|Aq (AV.i .i64 (((Cc l.state.disk (l.edge.outs.getD 0 default)).1).time))<|Ay<|Aq (AV.b (!decide (((J8 l.state.deps (l.edge.outs.getD 0 default)).1).time=((Cc l.state.disk (l.edge.outs.getD 0 default)).1).time)))<|Aq (AV.b (!decide (((J8 l.state.deps (l.edge.outs.getD 0 default)).1).time=((Cc l.state.disk (l.edge.outs.getD 0 default)).1).time)))<|Aq (AV.b (!decide (((J8 l.state.deps (l.edge.outs.getD 0 default)).1).time=((Cc l.state.disk (l.edge.outs.getD 0 default)).1).time))) ?_
 cases c_6:(!decide (((J8 l.state.deps (l.edge.outs.getD 0 default)).1).time=((Cc l.state.disk (l.edge.outs.getD 0 default)).1).time))
 have k_6:=VP c_6
 refine Ay<|Aq (Ac.av l)<|Ay<|Aq (AV.loc 1 0 2)<|Ay<|Aq (CV l)<|Ay<|Aq (B7 l)<|Ay<|A1.sc0 (vs:=[(Ac.av l),(CV l),(B7 l)]) (r0:=(AV.b (Rq l (((J8 l.state.deps (l.edge.outs.getD 0 default)).1).ins) (Lh l)))) kr kr (DM W hW l (((J8 l.state.deps (l.edge.outs.getD 0 default)).1).ins) (Lh l) sd sd) kr le<|Aq (AV.b (Rq l (((J8 l.state.deps (l.edge.outs.getD 0 default)).1).ins) (Lh l)))<|Aq (AV.b (Rq l (((J8 l.state.deps (l.edge.outs.getD 0 default)).1).ins) (Lh l)))<|Ad<|Rt ?_
 exact Fb rfl (by simp only [Sj,c_1,c_2,c_3,c_4,c_5,c_6,AJ])
 have k_6:=VQ c_6
 refine An<|An<|An<|An<|An<|Aq (AV.b true)<|Aq (AV.b true)<|Ad<|Rt ?_
 exact Fb rfl (by simp only [Sj,c_1,c_2,c_3,c_4,c_5,c_6,AJ])
 refine An<|An<|An<|An<|An<|Aq (AV.b true)<|Aq (AV.b true)<|An<|An<|An<|An<|An<|Aq (AV.b true)<|Aq (AV.b true)<|Ad<|Rt ?_
 exact Fb rfl (by simp only [Sj,c_1,c_2,c_3,c_4,c_5,AJ])
 refine Ct<|Sq<|Rg<|Aq (AV.b false)<|Ad<|Rt ?_
 exact Fb rfl (by simp only [Sj,c_1,c_2,c_3,c_4,AJ])
 refine Ct<|Sq<|Rg<|Aq (AV.b true)<|Ad<|Rt ?_
 exact Fb rfl (by simp only [Sj,c_1,c_2,c_3,AJ])
 refine Dn<|Dn<|Dn<|Dn<|Dn<|Dn<|Dn<|Dn<|Dq (AV.b true)<|Av.fin<|Ct<|Sq<|Rg<|Aq (AV.b true)<|Ad<|Rt ?_
 exact Fb rfl (by simp only [Sj,c_1,c_2,AJ])
 have k_1:=of_decide_eq_true c_1
 refine Dn<|Dn<|Dn<|Dn<|Dn<|Dn<|Dn<|Dn<|Dq (AV.b true)<|Dq (AV.b true)<|Dn<|Dn<|Dn<|Dn<|Dn<|Dn<|Dn<|Dn<|Dq (AV.b true)<|Av.fin<|Ct<|Sq<|Rg<|Aq (AV.b true)<|Ad<|Rt ?_
 exact Fb rfl (by simp only [Sj,c_1,AJ])
def ES (s':A7) (edge:Int):AV:=(Ao.av (s'.graph.edges.getD edge.toNat default))
def Br (s':A7) (edge:Int):AV:=(AV.pt (ES s' edge).cells)
def Ck (s':A7) (edge:Int):AV:=(Ac.av (⟨s',(s'.graph.edges.getD edge.toNat default)⟩:Ac))
def Bq (s':A7) (edge:Int):AV:=(AV.st [(AV.loc 0 0 0),(Br s' edge)])
def CT (s':A7) (edge:Int):AV:=(AV.fn 1000056 [(Bq s' edge)])
def Je (s':A7) (edge:Int):AV:=((Ar 1 (Ar 1 AV.s)) [(s'.graph.edges.getD edge.toNat default).ins,(s'.graph.edges.getD edge.toNat default).implicit,(s'.graph.edges.getD edge.toNat default).order])
theorem Hl (W:World) {m0:Int} (hW:W.cell? ⟨0,0,none⟩=some (.int .i64 m0)) (s':A7) (edge:Int) (hz:s'.sz≤1049600):Aj Go.Proofs.Tryz.prog W 17 [(A7.av s'),(AV.i .i64 edge)] (AV.tup [(AV.b ((Db s' edge).1)),(AV.i .i64 ((Db s' edge).2))]) []:=by
 have hzg:=s'.sz_graph
 refine Ae (fn:=Go.Proofs.Tryz.f17) Go.Proofs.Tryz.func17 rfl (en17 W) (ts:=[4,5]) rfl le<|Sq<|Rg<|Nn (AV.loc 0 0 0) ⟨35,11,[(A7.av s')]⟩<|Aq (AV.b false)<|Aq (AV.i .i64 (0:Int))<|Ad<|Sq<|Sq<|Rg<|A1.sfw (vs:=[(AV.loc 0 0 0)]) (ss:=[(AV.pt (A7.av s').cells)]) (r0:=(AV.b (Hx s'))) kr (show Bp _ _ _ from ⟨(Ak.w (Ak.cast (x':=(AV.loc 0 0 0)) kr kr (Cv A7.av s' (id:=0) rfl rfl kr))),trivial⟩) (Me W hW s' sd) rfl kr le<|Aq (AV.b (!(Hx s')))<|Aq (AV.b (!(Hx s'))) ?_
 cases c_1:(!(Hx s'))
 refine Ay<|Aq (AV.i .i64 edge)<|Ay<|Aq (AV.b (decide (edge<(0:Int))))<|Aq (AV.b (decide (edge<(0:Int))))<|Aq (AV.b (decide (edge<(0:Int)))) ?_
 cases c_2:decide (edge<(0:Int))
 have k_2:=of_decide_eq_false c_2
 refine Ay<|Aq (AV.i .i64 edge)<|Ay<|Aq (AV.loc 0 0 0)<|Ay<|Aq (AV.loc 0 0 0)<|Ay<|Aq ((Ar 7 Ao.av) s'.graph.edges)<|Ay<|Ap (Ai s'.graph.edges.length) (BI (k:=7) (nl:=false) (e:=65) (A:=Ao.av) (xs:=s'.graph.edges) kr kr)<|Ay<|Aq (AV.b (decide (((s'.graph.edges.length:Nat):Int)≤edge)))<|Aq (AV.b (decide (((s'.graph.edges.length:Nat):Int)≤edge)))<|Ad ?_
 cases c_3:decide (((s'.graph.edges.length:Nat):Int)≤edge)
 have k_3:=of_decide_eq_false c_3
 have q_3:=SY hz (by assumption) (by assumption) c_3
 refine Cf<|A8.skip<|Sq<|Rg<|Aq (AV.loc 0 0 0)<|Aq (AV.loc 0 0 0)<|Aq ((Ar 7 Ao.av) s'.graph.edges)<|Aq (AV.i .i64 edge)<|Ap (Br s' edge) (IY (k:=7) (nl:=false) (e:=65) (kk:= .i64) (A:=Ao.av) (xs:=s'.graph.edges) (n:=edge) kr kr kr ⟨by kernel_rfl,by decide⟩ sd (getD_some sd))<|Nb (Bq s' edge)<|Nn (AV.loc 1 0 0) ⟨104,2,[(AV.st [AV.nilp,AV.nilp])]⟩<|Sp 1 ⟨104,2,[(Bq s' edge)]⟩<|Ad<|Sq<|Sq<|A8.drawn A5 FR 19 kr le<|Dq (AV.loc 1 0 1)<|Dq (Br s' edge)<|Dq (Br s' edge)<|Dq (AV.pt ((ES s' edge).cells.drop 1))<|Dq ((Ar 1 AV.s) ((s'.graph.edges.getD edge.toNat default).ins))<|Dq (AV.loc 1 0 1)<|Dq (Br s' edge)<|Dq (Br s' edge)<|Dq (AV.pt ((ES s' edge).cells.drop 2))<|Dq ((Ar 1 AV.s) ((s'.graph.edges.getD edge.toNat default).implicit))<|Dq (AV.loc 1 0 1)<|Dq (Br s' edge)<|Dq (Br s' edge)<|Dq (AV.pt ((ES s' edge).cells.drop 3)) ?_
 refine Dq ((Ar 1 AV.s) ((s'.graph.edges.getD edge.toNat default).order))<|Av.sn (x:=(AV.own 2 0 3)) (h':=⟨3,[(2,some ⟨24,1,[(s'.graph.edges.getD edge.toNat default).ins,(s'.graph.edges.getD edge.toNat default).implicit,(s'.graph.edges.getD edge.toNat default).order].map (Ar 1 AV.s)⟩),(1,some ⟨104,2,[(Bq s' edge)]⟩),(0,some ⟨35,11,[(A7.av s')]⟩)]⟩) kr le ?_
 by_cases z_4:(CN [(s'.graph.edges.getD edge.toNat default).ins,(s'.graph.edges.getD edge.toNat default).implicit,(s'.graph.edges.getD edge.toNat default).order])=[]
 refine Av.sfw (vs:=[(AV.own 2 0 3)]) (ss:=[(Je s' edge)]) (r0:=((Ar 1 AV.s) ([]:List ByteArray))) kr (show Bp _ _ _ from ⟨(Ak.w (Ak.cast (x':=(AV.own 2 0 3)) kr kr (Ak.row (fun _=>rfl) (A:=(Ar 1 AV.s)) (id:=2) (e:=24) (k:=1) (xs:=[(s'.graph.edges.getD edge.toNat default).ins,(s'.graph.edges.getD edge.toNat default).implicit,(s'.graph.edges.getD edge.toNat default).order]) rfl rfl sd sd))),trivial⟩) (by rw [←show (CN [(s'.graph.edges.getD edge.toNat default).ins,(s'.graph.edges.getD edge.toNat default).implicit,(s'.graph.edges.getD edge.toNat default).order])=[] from z_4];exact (Cm W [(s'.graph.edges.getD edge.toNat default).ins,(s'.graph.edges.getD edge.toNat default).implicit,(s'.graph.edges.getD edge.toNat default).order] (by simp only [List.flatten_cons,List.flatten_nil,List.append_nil,List.length_append];have:=NJ hz (by assumption) (by assumption) (by assumption);omega))) rfl kr le<|Dq (Bq s' edge)<|Dq (CT s' edge)<|Av.sfw (vs:=[((Ar 1 AV.s) ([]:List ByteArray)),(CT s' edge)]) (ss:=[((Ar 1 AV.s) ([]:List ByteArray)),(AV.fn 1000056 [(Ck s' edge)])]) (r0:=(AV.b (Tz ([]:List ByteArray) (fun z0=>LC (⟨s',(s'.graph.edges.getD edge.toNat default)⟩:Ac) z0)))) kr (show Bp _ _ _ from ⟨(Bp.e kr),⟨(Ak.w (Ak.cast (x':=(CT s' edge)) kr kr (Ak.fn (Ah.cons (Ak.st (Ah.cons (Cv A7.av s' (id:=0) rfl rfl kr) (Ah.cons (Aw (x:=(Br s' edge)) kr) Ah.nil))) Ah.nil)))),trivial⟩⟩) (BQ W ([]:List ByteArray) 1000056 [(Ck s' edge)] (fun z0=>LC (⟨s',(s'.graph.edges.getD edge.toNat default)⟩:Ac) z0) kr (fun z0=>(Ky (f:=56) (bs:=[(Ck s' edge)]) (ys:=[(AV.s z0)]) (Fa W hW (⟨s',(s'.graph.edges.getD edge.toNat default)⟩:Ac) z0 hz (Dc hz (by assumption) (by assumption) (by assumption)).2.2.1) (by decide) (by simp) rfl))) rfl kr le ?_
 refine Av.fin ?_
 cases c_5:(Tz ([]:List ByteArray) (fun z0=>LC (⟨s',(s'.graph.edges.getD edge.toNat default)⟩:Ac) z0))
 refine Cf<|A8.skip<|Sq<|Rg<|Aq (Bq s' edge)<|A1.sfw (vs:=[(Bq s' edge)]) (ss:=[(Ck s' edge)]) (r0:=(AV.b (Sj (⟨s',(s'.graph.edges.getD edge.toNat default)⟩:Ac)))) kr (show Bp _ _ _ from ⟨(Ak.w (Ak.cast (x':=(Bq s' edge)) kr kr (Ak.st (Ah.cons (Cv A7.av s' (id:=0) rfl rfl kr) (Ah.cons (Aw (x:=(Br s' edge)) kr) Ah.nil))))),trivial⟩) (G2 W hW (⟨s',(s'.graph.edges.getD edge.toNat default)⟩:Ac) hz (Dc hz (by assumption) (by assumption) (by assumption)).2.2.1 (Dc hz (by assumption) (by assumption) (by assumption)).2.2.2) rfl kr le<|Aq (AV.b (Sj (⟨s',(s'.graph.edges.getD edge.toNat default)⟩:Ac)))<|Aq (AV.i .i64 (0:Int))<|Ad<|Rt ?_
 exact Fbi rfl (by simp only [Db,c_1,c_2,c_3,z_4,c_5,AJ])
 refine Ct<|Sq<|Rg<|Aq (AV.b false)<|Aq (AV.i .i64 (1901:Int))<|Ad<|Rt ?_
 exact Fbi rfl (by simp only [Db,c_1,c_2,c_3,z_4,c_5,AJ])
 refine Li (A:=AV.s) (xs:=(CN [(s'.graph.edges.getD edge.toNat default).ins,(s'.graph.edges.getD edge.toNat default).implicit,(s'.graph.edges.getD edge.toNat default).order])) (vs:=[(AV.own 2 0 3)]) (ss:=[(Je s' edge)]) kr (show Bp _ _ _ from ⟨(Ak.w (Ak.cast (x':=(AV.own 2 0 3)) kr kr (Ak.row (fun _=>rfl) (A:=(Ar 1 AV.s)) (id:=2) (e:=24) (k:=1) (xs:=[(s'.graph.edges.getD edge.toNat default).ins,(s'.graph.edges.getD edge.toNat default).implicit,(s'.graph.edges.getD edge.toNat default).order]) rfl rfl sd sd))),trivial⟩) (Cg W [(s'.graph.edges.getD edge.toNat default).ins,(s'.graph.edges.getD edge.toNat default).implicit,(s'.graph.edges.getD edge.toNat default).order] (by simp only [List.flatten_cons,List.flatten_nil,List.append_nil,List.length_append];have:=NJ hz (by assumption) (by assumption) (by assumption);omega) z_4) (fun _=>rfl) (fun _=>rfl) le<|Dq (Bq s' edge)<|Dq (CT s' edge)<|Av.sfw (vs:=[(AV.own 3 0 ((CN [(s'.graph.edges.getD edge.toNat default).ins,(s'.graph.edges.getD edge.toNat default).implicit,(s'.graph.edges.getD edge.toNat default).order]).length)),(CT s' edge)]) (ss:=[((Ar 1 AV.s) (CN [(s'.graph.edges.getD edge.toNat default).ins,(s'.graph.edges.getD edge.toNat default).implicit,(s'.graph.edges.getD edge.toNat default).order])),(AV.fn 1000056 [(Ck s' edge)])]) (r0:=(AV.b (Tz (CN [(s'.graph.edges.getD edge.toNat default).ins,(s'.graph.edges.getD edge.toNat default).implicit,(s'.graph.edges.getD edge.toNat default).order]) (fun z0=>LC (⟨s',(s'.graph.edges.getD edge.toNat default)⟩:Ac) z0)))) kr (show Bp _ _ _ from ⟨(Ak.w (Ak.cast (x':=(AV.own 3 0 ((CN [(s'.graph.edges.getD edge.toNat default).ins,(s'.graph.edges.getD edge.toNat default).implicit,(s'.graph.edges.getD edge.toNat default).order]).length))) kr kr (Ak.row (fun _=>rfl) (A:=AV.s) (id:=3) (e:=9) (k:=1) (xs:=(CN [(s'.graph.edges.getD edge.toNat default).ins,(s'.graph.edges.getD edge.toNat default).implicit,(s'.graph.edges.getD edge.toNat default).order])) rfl rfl rfl sd))),⟨(Ak.w (Ak.cast (x':=(CT s' edge)) kr kr (Ak.fn (Ah.cons (Ak.st (Ah.cons (Cv A7.av s' (id:=0) rfl rfl kr) (Ah.cons (Aw (x:=(Br s' edge)) kr) Ah.nil))) Ah.nil)))),trivial⟩⟩) (BQ W (CN [(s'.graph.edges.getD edge.toNat default).ins,(s'.graph.edges.getD edge.toNat default).implicit,(s'.graph.edges.getD edge.toNat default).order]) 1000056 [(Ck s' edge)] (fun z0=>LC (⟨s',(s'.graph.edges.getD edge.toNat default)⟩:Ac) z0) kr (fun z0=>(Ky (f:=56) (bs:=[(Ck s' edge)]) (ys:=[(AV.s z0)]) (Fa W hW (⟨s',(s'.graph.edges.getD edge.toNat default)⟩:Ac) z0 hz (Dc hz (by assumption) (by assumption) (by assumption)).2.2.1) (by decide) (by simp) rfl))) rfl kr le ?_
 refine Av.fin ?_
 cases c_6:(Tz (CN [(s'.graph.edges.getD edge.toNat default).ins,(s'.graph.edges.getD edge.toNat default).implicit,(s'.graph.edges.getD edge.toNat default).order]) (fun z0=>LC (⟨s',(s'.graph.edges.getD edge.toNat default)⟩:Ac) z0))
 refine Cf<|A8.skip<|Sq<|Rg<|Aq (Bq s' edge)<|A1.sfw (vs:=[(Bq s' edge)]) (ss:=[(Ck s' edge)]) (r0:=(AV.b (Sj (⟨s',(s'.graph.edges.getD edge.toNat default)⟩:Ac)))) kr (show Bp _ _ _ from ⟨(Ak.w (Ak.cast (x':=(Bq s' edge)) kr kr (Ak.st (Ah.cons (Cv A7.av s' (id:=0) rfl rfl kr) (Ah.cons (Aw (x:=(Br s' edge)) kr) Ah.nil))))),trivial⟩) (G2 W hW (⟨s',(s'.graph.edges.getD edge.toNat default)⟩:Ac) hz (Dc hz (by assumption) (by assumption) (by assumption)).2.2.1 (Dc hz (by assumption) (by assumption) (by assumption)).2.2.2) rfl kr le<|Aq (AV.b (Sj (⟨s',(s'.graph.edges.getD edge.toNat default)⟩:Ac)))<|Aq (AV.i .i64 (0:Int))<|Ad<|Rt ?_
 exact Fbi rfl (by simp only [Db,c_1,c_2,c_3,c_6,AJ])
 refine Ct<|Sq<|Rg<|Aq (AV.b false)<|Aq (AV.i .i64 (1901:Int))<|Ad<|Rt ?_
 exact Fbi rfl (by simp only [Db,c_1,c_2,c_3,c_6,AJ])
 have k_3:=of_decide_eq_true c_3
 refine Ct<|Sq<|Rg<|Aq (AV.b false)<|Aq (AV.i .i64 (1900:Int))<|Ad<|Rt ?_
 exact Fbi rfl (by simp only [Db,c_1,c_2,c_3,AJ])
 have k_2:=of_decide_eq_true c_2
 refine An<|An<|An<|An<|An<|An<|Aq (AV.b true)<|Ad<|Ct<|Sq<|Rg<|Aq (AV.b false)<|Aq (AV.i .i64 (1900:Int))<|Ad<|Rt ?_
 exact Fbi rfl (by simp only [Db,c_1,c_2,AJ])
 refine An<|An<|Aq (AV.b true)<|Aq (AV.b true)<|An<|An<|An<|An<|An<|An<|Aq (AV.b true)<|Ad<|Ct<|Sq<|Rg<|Aq (AV.b false)<|Aq (AV.i .i64 (1900:Int))<|Ad<|Rt ?_
 exact Fbi rfl (by simp only [Db,c_1,AJ])
def BP (s':A7):Obj:=⟨35,11,[(A7.av s')]⟩
def GJ (s':A7):AV:=(AV.i .i64 ((Fl (⟨s'.graph.edges,s'.graph.pools,s'.graph.defaults⟩:Af)).2))
def Cj (s':A7):AV:=((Ar 1 (AV.i .i64)) ((Fl (⟨s'.graph.edges,s'.graph.pools,s'.graph.defaults⟩:Af)).1))
def Jd (s':A7):AV:=(AV.st [((Ar 7 Ao.av) s'.graph.edges),((Ar 2 BD.av) s'.graph.pools),((Ar 1 AV.s) s'.graph.defaults)])
def ER (s':A7):AV:=(AV.i .i64 ((((Fl (⟨s'.graph.edges,s'.graph.pools,s'.graph.defaults⟩:Af)).1).length:Nat):Int))
def Jc (s':A7):AV:=(AV.tup [(Cj s'),(GJ s')])
theorem Hk (W:World) {m0:Int} (hW:W.cell? ⟨0,0,none⟩=some (.int .i64 m0)) (s':A7) (hz:s'.sz≤1049600):Aj Go.Proofs.Tryz.prog W 19 [(A7.av s')] (AV.tup [((Ar 1 AV.b) ((DI s').1)),(AV.i .i64 ((DI s').2))]) []:=by
 have hzg:=s'.sz_graph
 have hgl:=Nat.le_trans s'.graph.sz_len (Nat.le_trans s'.sz_graph hz)
 refine Ae (fn:=Go.Proofs.Tryz.f19) Go.Proofs.Tryz.func19 rfl (en19 W) (ts:=[2,3]) rfl le<|Sq<|Rg<|Nn (AV.loc 0 0 0) (BP s')<|Aq (AV.sl 1 true [])<|Aq (AV.i .i64 (0:Int))<|Ad<|Sq<|Sq<|Rg<|A1.sfw (vs:=[(AV.loc 0 0 0)]) (ss:=[(AV.pt (A7.av s').cells)]) (r0:=(AV.b (Hx s'))) kr (show Bp _ _ _ from ⟨(Ak.w (Ak.cast (x':=(AV.loc 0 0 0)) kr kr (Cv A7.av s' (id:=0) rfl rfl kr))),trivial⟩) (Me W hW s' sd) rfl kr le<|Aq (AV.b (!(Hx s')))<|Ad ?_
 cases c_1:(!(Hx s'))
 refine Cf<|A8.skip<|Sq<|Rg<|Aq (AV.loc 0 0 0)<|Aq (AV.loc 0 0 0)<|Aq ((Ar 7 Ao.av) s'.graph.edges)<|Ap (Ai s'.graph.edges.length) (BI (k:=7) (nl:=false) (e:=65) (A:=Ao.av) (xs:=s'.graph.edges) kr kr)<|A1.sn (x:=(AV.own 1 0 s'.graph.edges.length)) (h':=⟨2,[(1,some ⟨4,1,(List.replicate s'.graph.edges.length false).map AV.b⟩),(0,some (BP s'))]⟩) (Vu (e:=4) (i:=UL) (A:=AV.b) (z:=false) (n:=s'.graph.edges.length) kr kr kr kr ⟨by decide,by kernel_rfl⟩ kr (by show _*1≤140737488355328;first|omega|(simp only [List.length_append,List.length_cons,List.length_nil,List.length_set,List.length_replicate];omega)|(simp;omega)) sd) le<|Aq (AV.own 1 0 s'.graph.edges.length)<|Ad<|Sq<|Sq<|Rg<|Aq (AV.own 1 0 s'.graph.edges.length)<|Aq (Ai s'.graph.edges.length)<|Aq (AV.i .i64 (0:Int))<|Ad<|A8.block ?_
 have hB1:s'.graph.edges.length≤281474976710656:=by first|omega|(simp;done)|(simp;omega)
 obtain ⟨R1,hR1⟩: ∃R,Mp s' (List.replicate s'.graph.edges.length false) 0 (List.replicate s'.graph.edges.length false)=R:=⟨_,rfl⟩
 refine AN (fun ((v25,row):Nat×(List Bool))=>[(1,(AV.loc 0 0 0)),(4,(AV.own 1 0 s'.graph.edges.length)),(24,(Ai s'.graph.edges.length)),(25,(Ai v25))]) (fun ((v25,row):Nat×(List Bool))=>⟨2,[(0,some (BP s')),(1,some ⟨4,1,row.map AV.b⟩)]⟩) (fun ((v25,row):Nat×(List Bool))=>v25≤s'.graph.edges.length∧row.length=s'.graph.edges.length∧Mp s' ((List.replicate s'.graph.edges.length false).drop v25) v25 row=R1) (fun ((v25,row):Nat×(List Bool))=>s'.graph.edges.length-v25) (0,(List.replicate s'.graph.edges.length false)) ?_ ?_ ?_
 exact ⟨[0,1],⟨by decide,rfl,(A0.cons kr (A0.cons (AQ (fun _=>rfl) (e:=4) (k:=1) (A:=AV.b) (xs:=(List.replicate s'.graph.edges.length false)) rfl rfl) A0.nil)),(Am.cons (AU.f kr) (Am.cons (AU.f kr) (Ee (Ee Am.nil))))⟩,Au⟩
 exact ⟨od,by (try dsimp only)<;>(simp),hR1⟩
 rintro ⟨v25,row⟩ ⟨hi1,hq,hE1⟩
 try dsimp only
 refine Sq<|Rg<|Aq (AV.b (decide (((v25:Nat):Int)<((s'.graph.edges.length:Nat):Int))))<|Ad<|Sq ?_
 rcases Nat.lt_or_ge v25 s'.graph.edges.length with hl1|hl1
 have hc1:decide (((v25:Nat):Int)<((s'.graph.edges.length:Nat):Int))=true:=decide_eq_true (by omega)
 refine A8.cond (t:=true) (by rw [←hc1]<;>kernel_rfl) (A8.skip ?_)
 obtain ⟨x1,hx1⟩: ∃x,(List.replicate s'.graph.edges.length false)[v25]? =some x:=⟨_,List.getElem?_eq_getElem (by first|(simpa using hl1)|omega)⟩
 rw [AP hx1,Mp.eq_2] at hE1
 refine Sq<|A8.block<|Sq<|Rg<|Aq (Ai v25)<|Aq (Ai v25)<|Ad<|Sq<|Rg<|Aq (A7.av s')<|Aq (Ai v25)<|A1.sc0 (vs:=[(A7.av s'),(Ai v25)]) (r0:=(AV.tup [(AV.b ((Db s' ((v25:Nat):Int)).1)),(AV.i .i64 ((Db s' ((v25:Nat):Int)).2))])) kr kr (Hl W hW s' ((v25:Nat):Int) hz) kr le<|Aq (AV.tup [(AV.b ((Db s' ((v25:Nat):Int)).1)),(AV.i .i64 ((Db s' ((v25:Nat):Int)).2))])<|Aq (AV.b ((Db s' ((v25:Nat):Int)).1))<|Aq (AV.i .i64 ((Db s' ((v25:Nat):Int)).2))<|Aq (AV.b ((Db s' ((v25:Nat):Int)).1))<|Aq (AV.i .i64 ((Db s' ((v25:Nat):Int)).2))<|Ad<|Sq<|Sq<|Rg<|Aq (AV.i .i64 ((Db s' ((v25:Nat):Int)).2))<|Aq (AV.b (!decide ((Db s' ((v25:Nat):Int)).2=(0:Int))))<|Ad ?_
 cases c_2:(!decide ((Db s' ((v25:Nat):Int)).2=(0:Int)))
 have k_2:=VP c_2
 refine Cf<|A8.skip<|Rg<|Aq (AV.own 1 0 s'.graph.edges.length)<|Aq (Ai v25)<|Aq (AV.b ((Db s' ((v25:Nat):Int)).1))<|Ap (AV.loc 1 v25 0) (Ly (e:=4) (id:=1) (len:=s'.graph.edges.length) (kk:= .i64) (ob:=⟨4,1,row.map AV.b⟩) (i:=v25) kr kr kr rfl kr sd)<|A1.st (x:=AV.und) (h':=⟨2,[(0,some (BP s')),(1,some ⟨4,1,(row.set v25 ((Db s' ((v25:Nat):Int)).1)).map AV.b⟩)]⟩) (Tu (e:=4) (k:=1) (i:=UL) (id:=1) (A:=AV.b) (xs:=row) (y:=((Db s' ((v25:Nat):Int)).1)) (j:=v25) kr kr kr rfl sd (fun _=>rfl) kr (fun _=>rfl) (fun _=>rfl))<|Ad<|Rg<|Ap (Ai (v25+1)) (AH (i:=v25) (m:=1) kr kr sd)<|Aq (Ai (v25+1))<|Ad ?_
 try simp only [c_2,AJ] at hE1
 refine ⟨(v25+1,(row.set v25 ((Db s' ((v25:Nat):Int)).1))),od,⟨od,by (try dsimp only)<;>(simp only [List.length_set];exact hq),hE1⟩,?_⟩
 exact ⟨[0,1],⟨by decide,rfl,(A0.cons kr (A0.cons (AQ (fun _=>rfl) (e:=4) (k:=1) (A:=AV.b) (xs:=(row.set v25 ((Db s' ((v25:Nat):Int)).1))) rfl rfl) A0.nil)),(Am.cons (AU.f kr) (Am.cons (AU.f kr) (Ee (Ee Am.nil))))⟩,Au⟩
 have k_2:=VQ c_2
 refine Ct<|Sq<|Rg<|Aq (AV.i .i64 ((Db s' ((v25:Nat):Int)).2))<|Aq (AV.sl 1 true [])<|Aq (AV.i .i64 ((Db s' ((v25:Nat):Int)).2))<|Ad<|Rt ?_
 try simp only [c_2,AJ] at hE1
 subst hE1
 have hM:DI s'=(([]:List Bool),(Db s' ((v25:Nat):Int)).2):=by simp only [DI,c_1,hR1,AJ]
 refine ⟨Or.inr rfl,?_⟩
 rw [hM]
 exact AU.cast (x':=(AV.tup [(AV.sl 1 true []),(AV.i .i64 ((Db s' ((v25:Nat):Int)).2))])) (y':=(AV.tup [((Ar 1 AV.b) ((([]:List Bool),(Db s' ((v25:Nat):Int)).2).1)),(AV.i .i64 ((([]:List Bool),(Db s' ((v25:Nat):Int)).2).2))])) kr kr (AU.tup ⟨(AU.w rfl (AL.nil 1)),⟨Ec,trivial⟩⟩ kr)
 have hc1:decide (((v25:Nat):Int)<((s'.graph.edges.length:Nat):Int))=false:=decide_eq_false (by omega)
 refine A8.cond (t:=false) (by rw [←hc1]<;>kernel_rfl) (A8.exit ?_)
 rw [List.drop_eq_nil_of_le (by first|(simpa using hl1)|omega),Mp.eq_1] at hE1
 subst hE1
 refine Sq<|Rg<|Aq (AV.loc 0 0 0)<|Aq (Jd s')<|A1.sc0 (vs:=[(Jd s')]) (r0:=(Jc s')) kr kr (Ob W hW (⟨s'.graph.edges,s'.graph.pools,s'.graph.defaults⟩:Af) (Nat.le_trans s'.sz_graph hz)) kr le<|Aq (Jc s')<|Aq (Cj s')<|Aq (GJ s')<|Aq (Cj s')<|Aq (GJ s')<|Ad<|Sq<|Sq<|Rg<|Aq (Cj s')<|Ap (ER s') (BI (k:=1) (nl:=false) (e:=3) (A:=(AV.i .i64)) (xs:=((Fl (⟨s'.graph.edges,s'.graph.pools,s'.graph.defaults⟩:Af)).1)) kr kr) ?_
 refine Aq (AV.i .i64 (0:Int))<|Ad<|A8.block<|A8.lim 46 (x:=(Cj s')) kr fun hlm2=> ?_
 have hB2:((Fl (⟨s'.graph.edges,s'.graph.pools,s'.graph.defaults⟩:Af)).1).length≤281474976710656:=BJ hlm2
 obtain ⟨R2,hR2⟩: ∃R,KM s' ((Fl (⟨s'.graph.edges,s'.graph.pools,s'.graph.defaults⟩:Af)).1) 0 row=R:=⟨_,rfl⟩
 refine AN (fun ((v50,row2):Nat×(List Bool))=>[(1,(AV.loc 0 0 0)),(4,(AV.own 1 0 s'.graph.edges.length)),(48,(Cj s')),(49,(ER s')),(50,(Ai v50))]) (fun ((v50,row2):Nat×(List Bool))=>⟨2,[(0,some (BP s')),(1,some ⟨4,1,row2.map AV.b⟩)]⟩) (fun ((v50,row2):Nat×(List Bool))=>v50≤((Fl (⟨s'.graph.edges,s'.graph.pools,s'.graph.defaults⟩:Af)).1).length∧row2.length=s'.graph.edges.length∧KM s' (((Fl (⟨s'.graph.edges,s'.graph.pools,s'.graph.defaults⟩:Af)).1).drop v50) v50 row2=R2) (fun ((v50,row2):Nat×(List Bool))=>((Fl (⟨s'.graph.edges,s'.graph.pools,s'.graph.defaults⟩:Af)).1).length-v50) (0,row) ?_ ?_ ?_
 exact ⟨[0,1],⟨by decide,rfl,(A0.cons kr (A0.cons (AQ (fun _=>rfl) (e:=4) (k:=1) (A:=AV.b) (xs:=row) rfl rfl) A0.nil)),(Am.cons (AU.f kr) (Am.cons (AU.f kr) (Ee (Ee (Ee Am.nil)))))⟩,Au⟩
 exact ⟨od,by (try dsimp only)<;>(exact hq),hR2⟩
 rintro ⟨v50,row2⟩ ⟨hi2,hq2,hE2⟩
 try dsimp only
 refine Sq<|Rg<|Aq (AV.b (decide (((v50:Nat):Int)<((((Fl (⟨s'.graph.edges,s'.graph.pools,s'.graph.defaults⟩:Af)).1).length:Nat):Int))))<|Ad<|Sq ?_
 rcases Nat.lt_or_ge v50 ((Fl (⟨s'.graph.edges,s'.graph.pools,s'.graph.defaults⟩:Af)).1).length with hl2|hl2
 have hc2:decide (((v50:Nat):Int)<((((Fl (⟨s'.graph.edges,s'.graph.pools,s'.graph.defaults⟩:Af)).1).length:Nat):Int))=true:=decide_eq_true (by omega)
 refine A8.cond (t:=true) (by rw [←hc2]<;>kernel_rfl) (A8.skip ?_)
 obtain ⟨x2,hx2⟩: ∃x,((Fl (⟨s'.graph.edges,s'.graph.pools,s'.graph.defaults⟩:Af)).1)[v50]? =some x:=⟨_,List.getElem?_eq_getElem hl2⟩
 rw [AP hx2,KM.eq_2] at hE2
 have ha:=SB hz (by assumption) (List.mem_of_getElem? hx2)
 have hcl:(CN [(s'.graph.edges.getD x2.toNat default).ins,(s'.graph.edges.getD x2.toNat default).implicit]).length≤1049600:=by rw [GA];simp only [List.flatten_cons,List.flatten_nil,List.append_nil,List.length_append];omega
 refine Sq<|A8.block<|Sq<|Rg<|Ap (AV.pt ((AV.i .i64) x2).cells) (Bo (k:=1) (nl:=false) (e:=3) (kk:= .i64) (A:=(AV.i .i64)) (xs:=((Fl (⟨s'.graph.edges,s'.graph.pools,s'.graph.defaults⟩:Af)).1)) (i:=v50) kr kr kr ⟨by kernel_rfl,by decide⟩ hx2)<|Aq (AV.i .i64 x2)<|Aq (AV.i .i64 x2)<|Ad<|Sq<|Rg<|Aq (AV.loc 0 0 0)<|Aq (AV.loc 0 0 0)<|Aq ((Ar 7 Ao.av) s'.graph.edges)<|Aq (AV.i .i64 x2)<|Ap (AV.pt (Ao.av (s'.graph.edges.getD x2.toNat default)).cells) (IY (k:=7) (nl:=false) (e:=65) (kk:= .i64) (A:=Ao.av) (xs:=s'.graph.edges) (n:=x2) kr kr kr ⟨by kernel_rfl,by decide⟩ sd (getD_some sd))<|Aq (AV.pt (Ao.av (s'.graph.edges.getD x2.toNat default)).cells)<|Ad<|Sq<|A8.drawn A5 FR 12 kr le<|Dq (AV.pt (Ao.av (s'.graph.edges.getD x2.toNat default)).cells)<|Dq (AV.pt (Ao.av (s'.graph.edges.getD x2.toNat default)).cells)<|Dq (AV.pt ((Ao.av (s'.graph.edges.getD x2.toNat default)).cells.drop 1))<|Dq ((Ar 1 AV.s) ((s'.graph.edges.getD x2.toNat default).ins))<|Dq (AV.pt (Ao.av (s'.graph.edges.getD x2.toNat default)).cells)<|Dq (AV.pt (Ao.av (s'.graph.edges.getD x2.toNat default)).cells)<|Dq (AV.pt ((Ao.av (s'.graph.edges.getD x2.toNat default)).cells.drop 2))<|Dq ((Ar 1 AV.s) ((s'.graph.edges.getD x2.toNat default).implicit))<|Av.sn (x:=(AV.own 2 0 2)) (h':=⟨3,[(2,some ⟨24,1,[(s'.graph.edges.getD x2.toNat default).ins,(s'.graph.edges.getD x2.toNat default).implicit].map (Ar 1 AV.s)⟩),(0,some (BP s')),(1,some ⟨4,1,row2.map AV.b⟩)]⟩) kr le ?_
 by_cases z_3:(CN [(s'.graph.edges.getD x2.toNat default).ins,(s'.graph.edges.getD x2.toNat default).implicit])=[]
 refine Av.sfw (vs:=[(AV.own 2 0 2)]) (ss:=[((Ar 1 (Ar 1 AV.s)) [(s'.graph.edges.getD x2.toNat default).ins,(s'.graph.edges.getD x2.toNat default).implicit])]) (r0:=((Ar 1 AV.s) ([]:List ByteArray))) kr (show Bp _ _ _ from ⟨(Ak.w (Ak.cast (x':=(AV.own 2 0 2)) kr kr (Ak.row (fun _=>rfl) (A:=(Ar 1 AV.s)) (id:=2) (e:=24) (k:=1) (xs:=[(s'.graph.edges.getD x2.toNat default).ins,(s'.graph.edges.getD x2.toNat default).implicit]) rfl rfl sd sd))),trivial⟩) (by rw [←show (CN [(s'.graph.edges.getD x2.toNat default).ins,(s'.graph.edges.getD x2.toNat default).implicit])=[] from z_3];exact (Cm W [(s'.graph.edges.getD x2.toNat default).ins,(s'.graph.edges.getD x2.toNat default).implicit] (by simp only [List.flatten_cons,List.flatten_nil,List.append_nil,List.length_append];omega))) rfl kr le<|Dp (AV.i .i64 ((([]:List ByteArray).length:Nat):Int)) (BI (k:=1) (nl:=false) (e:=9) (A:=AV.s) (xs:=([]:List ByteArray)) kr kr)<|Dq (AV.i .i64 (0:Int))<|Av.fin<|A8.block<|A8.lim 68 (x:=((Ar 1 AV.s) ([]:List ByteArray))) kr fun hlm3=> ?_
 have hB3:([]:List ByteArray).length≤281474976710656:=BJ hlm3
 obtain ⟨R3,hR3⟩: ∃R,IF s' x2 ([]:List ByteArray) 0 row2=R:=⟨_,rfl⟩
 refine AN (fun ((v70,row3):Nat×(List Bool))=>[(1,(AV.loc 0 0 0)),(4,(AV.own 1 0 s'.graph.edges.length)),(11,(AV.i .i64 x2)),(48,(Cj s')),(49,(ER s')),(50,(Ai v50)),(68,((Ar 1 AV.s) ([]:List ByteArray))),(69,(AV.i .i64 ((([]:List ByteArray).length:Nat):Int))),(70,(Ai v70))]) (fun ((v70,row3):Nat×(List Bool))=>⟨2,[(0,some (BP s')),(1,some ⟨4,1,row3.map AV.b⟩)]⟩) (fun ((v70,row3):Nat×(List Bool))=>v70≤([]:List ByteArray).length∧row3.length=s'.graph.edges.length∧IF s' x2 (([]:List ByteArray).drop v70) v70 row3=R3) (fun ((v70,row3):Nat×(List Bool))=>([]:List ByteArray).length-v70) (0,row2) ?_ ?_ ?_
 exact ⟨[0,1],⟨by decide,rfl,(A0.cons kr (A0.cons (AQ (fun _=>rfl) (e:=4) (k:=1) (A:=AV.b) (xs:=row2) rfl rfl) A0.nil)),(Am.cons (AU.f kr) (Am.cons (AU.f kr) (Ee (Ee (Ee (Ee (Ee (Ee (Ee Am.nil)))))))))⟩,Au⟩
 exact ⟨od,by (try dsimp only)<;>(exact hq2),hR3⟩
 rintro ⟨v70,row3⟩ ⟨hi3,hq3,hE3⟩
 try dsimp only
 refine Sq<|Rg<|Aq (AV.b (decide (((v70:Nat):Int)<((([]:List ByteArray).length:Nat):Int))))<|Ad<|Sq ?_
 rcases Nat.lt_or_ge v70 ([]:List ByteArray).length with hl3|hl3
 have hc3:decide (((v70:Nat):Int)<((([]:List ByteArray).length:Nat):Int))=true:=decide_eq_true (by omega)
 refine A8.cond (t:=true) (by rw [←hc3]<;>kernel_rfl) (A8.skip ?_)
 obtain ⟨x3,hx3⟩: ∃x,([]:List ByteArray)[v70]? =some x:=⟨_,List.getElem?_eq_getElem hl3⟩
 rw [AP hx3,IF.eq_2] at hE3
 have hmk:=RJ s'.graph x3
 refine Sq<|A8.block<|Sq<|Rg<|Ap (AV.pt (AV.s x3).cells) (Bo (k:=1) (nl:=false) (e:=9) (kk:= .i64) (A:=AV.s) (xs:=([]:List ByteArray)) (i:=v70) kr kr kr ⟨by kernel_rfl,by decide⟩ hx3)<|Aq (AV.s x3)<|Aq (AV.s x3)<|Ad<|Sq<|Rg<|Aq (AV.loc 0 0 0)<|Aq (AV.s x3)<|A1.sfw (vs:=[(AV.loc 0 0 0),(AV.s x3)]) (ss:=[(AV.pt (Af.av s'.graph).cells),(AV.s x3)]) (r0:=(AV.i .i64 (DP s'.graph x3))) kr (show Bp _ _ _ from ⟨(Ak.w (Ak.cast (x':=(AV.loc 0 0 0)) kr kr (Ak.wk (y':=(AV.pt (Af.av s'.graph).cells)) (Cv A7.av s' (id:=0) rfl rfl kr) (Lo 3 kr)))),⟨(Bp.e kr),trivial⟩⟩) (FN W s'.graph x3) rfl kr le<|Aq (AV.i .i64 (DP s'.graph x3))<|Ad<|Sq<|Rg<|Aq (AV.i .i64 (DP s'.graph x3))<|Aq (AV.b (decide ((0:Int)≤(DP s'.graph x3))))<|Aq (AV.b (decide ((0:Int)≤(DP s'.graph x3)))) ?_
 cases c_4:decide ((0:Int)≤(DP s'.graph x3))
 have k_4:=of_decide_eq_false c_4
 refine An<|An<|An<|An<|Aq (AV.b false)<|Ad<|Cf<|A8.skip<|Rg<|Ap (Ai (v70+1)) (AH (i:=v70) (m:=1) kr kr sd)<|Aq (Ai (v70+1))<|Ad ?_
 try simp only [c_4,AJ] at hE3
 refine ⟨(v70+1,row3),od,⟨od,by (try dsimp only)<;>(first|exact hq3|(simp only [List.length_set];exact hq3)),hE3⟩,?_⟩
 exact ⟨[0,1],⟨by decide,rfl,(A0.cons kr (A0.cons (AQ (fun _=>rfl) (e:=4) (k:=1) (A:=AV.b) (xs:=row3) rfl rfl) A0.nil)),(Am.cons (AU.f kr) (Am.cons (AU.f kr) (Ee (Ee (Ee (Ee (Ee (Ee (Ee Am.nil)))))))))⟩,Au⟩
 have k_4:=of_decide_eq_true c_4
 refine Ay<|Aq (AV.own 1 0 s'.graph.edges.length)<|Ay<|Aq (AV.i .i64 (DP s'.graph x3))<|Ay<|Ap (AV.loc 1 ((DP s'.graph x3).toNat) 0) (MJ (e:=4) (id:=1) (len:=s'.graph.edges.length) (kk:= .i64) (ob:=⟨4,1,row3.map AV.b⟩) (n:=(DP s'.graph x3)) kr kr kr rfl kr sd sd)<|Ay<|Ap (AV.b (row3.getD ((DP s'.graph x3).toNat) default)) (JF (e:=4) (k:=1) (i:=UL) (id:=1) (xs:=row3) (A:=AV.b) (j:=(DP s'.graph x3).toNat) kr kr rfl (getD_some sd) kr)<|Aq (AV.b (row3.getD ((DP s'.graph x3).toNat) default))<|Ad ?_
 cases c_5:(row3.getD ((DP s'.graph x3).toNat) default)
 refine Cf<|A8.skip<|Rg<|Ap (Ai (v70+1)) (AH (i:=v70) (m:=1) kr kr sd)<|Aq (Ai (v70+1))<|Ad ?_
 try simp only [c_4,c_5,AJ] at hE3
 refine ⟨(v70+1,row3),od,⟨od,by (try dsimp only)<;>(first|exact hq3|(simp only [List.length_set];exact hq3)),hE3⟩,?_⟩
 exact ⟨[0,1],⟨by decide,rfl,(A0.cons kr (A0.cons (AQ (fun _=>rfl) (e:=4) (k:=1) (A:=AV.b) (xs:=row3) rfl rfl) A0.nil)),(Am.cons (AU.f kr) (Am.cons (AU.f kr) (Ee (Ee (Ee (Ee (Ee (Ee (Ee Am.nil)))))))))⟩,Au⟩
 refine Ct<|Rg<|Aq (AV.own 1 0 s'.graph.edges.length)<|Aq (AV.i .i64 x2)<|Ap (AV.loc 1 x2.toNat 0) (MJ (e:=4) (id:=1) (len:=s'.graph.edges.length) (kk:= .i64) (ob:=⟨4,1,row3.map AV.b⟩) (n:=x2) kr kr kr rfl kr sd sd)<|A1.st (x:=AV.und) (h':=⟨2,[(0,some (BP s')),(1,some ⟨4,1,(row3.set x2.toNat true).map AV.b⟩)]⟩) (Tu (e:=4) (k:=1) (i:=UL) (id:=1) (A:=AV.b) (xs:=row3) (y:=true) (j:=x2.toNat) kr kr kr rfl sd (fun _=>rfl) kr (fun _=>rfl) (fun _=>rfl))<|Ad<|Rg<|Ap (Ai (v70+1)) (AH (i:=v70) (m:=1) kr kr sd)<|Aq (Ai (v70+1))<|Ad ?_
 try simp only [c_4,c_5,AJ] at hE3
 refine ⟨(v70+1,(row3.set x2.toNat true)),od,⟨od,by (try dsimp only)<;>(first|exact hq3|(simp only [List.length_set];exact hq3)),hE3⟩,?_⟩
 exact ⟨[0,1],⟨by decide,rfl,(A0.cons kr (A0.cons (AQ (fun _=>rfl) (e:=4) (k:=1) (A:=AV.b) (xs:=(row3.set x2.toNat true)) rfl rfl) A0.nil)),(Am.cons (AU.f kr) (Am.cons (AU.f kr) (Ee (Ee (Ee (Ee (Ee (Ee (Ee Am.nil)))))))))⟩,Au⟩
 have hc3:decide (((v70:Nat):Int)<((([]:List ByteArray).length:Nat):Int))=false:=decide_eq_false (by omega)
 refine A8.cond (t:=false) (by rw [←hc3]<;>kernel_rfl) (A8.exit ?_)
 rw [List.drop_eq_nil_of_le (hl3),IF.eq_1] at hE3
 subst hE3
 refine Rg<|Ap (Ai (v50+1)) (AH (i:=v50) (m:=1) kr kr sd)<|Aq (Ai (v50+1))<|Ad ?_
 try simp only [z_3,hR3,AJ] at hE2
 refine ⟨(v50+1,row3),od,⟨od,by (try dsimp only)<;>(exact hq3),hE2⟩,?_⟩
 exact ⟨[0,1],⟨by decide,rfl,(A0.cons kr (A0.cons (AQ (fun _=>rfl) (e:=4) (k:=1) (A:=AV.b) (xs:=row3) rfl rfl) A0.nil)),(Am.cons (AU.f kr) (Am.cons (AU.f kr) (Ee (Ee (Ee Am.nil)))))⟩,Au⟩
 refine Li (A:=AV.s) (xs:=(CN [(s'.graph.edges.getD x2.toNat default).ins,(s'.graph.edges.getD x2.toNat default).implicit])) (vs:=[(AV.own 2 0 2)]) (ss:=[((Ar 1 (Ar 1 AV.s)) [(s'.graph.edges.getD x2.toNat default).ins,(s'.graph.edges.getD x2.toNat default).implicit])]) kr (show Bp _ _ _ from ⟨(Ak.w (Ak.cast (x':=(AV.own 2 0 2)) kr kr (Ak.row (fun _=>rfl) (A:=(Ar 1 AV.s)) (id:=2) (e:=24) (k:=1) (xs:=[(s'.graph.edges.getD x2.toNat default).ins,(s'.graph.edges.getD x2.toNat default).implicit]) rfl rfl sd sd))),trivial⟩) (Cg W [(s'.graph.edges.getD x2.toNat default).ins,(s'.graph.edges.getD x2.toNat default).implicit] (by simp only [List.flatten_cons,List.flatten_nil,List.append_nil,List.length_append];omega) z_3) (fun _=>rfl) (fun _=>rfl) le<|Dq (AV.i .i64 (((CN [(s'.graph.edges.getD x2.toNat default).ins,(s'.graph.edges.getD x2.toNat default).implicit]).length:Nat):Int))<|Dq (AV.i .i64 (0:Int))<|Av.fin<|A8.block ?_
 have hB3:((CN [(s'.graph.edges.getD x2.toNat default).ins,(s'.graph.edges.getD x2.toNat default).implicit]).length)≤281474976710656:=by first|omega|(simp;done)|(simp;omega)
 obtain ⟨R3,hR3⟩: ∃R,IF s' x2 (CN [(s'.graph.edges.getD x2.toNat default).ins,(s'.graph.edges.getD x2.toNat default).implicit]) 0 row2=R:=⟨_,rfl⟩
 refine AN (fun ((v702,row4):Nat×(List Bool))=>[(1,(AV.loc 0 0 0)),(4,(AV.own 1 0 s'.graph.edges.length)),(11,(AV.i .i64 x2)),(48,(Cj s')),(49,(ER s')),(50,(Ai v50)),(68,(AV.own 2 0 ((CN [(s'.graph.edges.getD x2.toNat default).ins,(s'.graph.edges.getD x2.toNat default).implicit]).length))),(69,(AV.i .i64 (((CN [(s'.graph.edges.getD x2.toNat default).ins,(s'.graph.edges.getD x2.toNat default).implicit]).length:Nat):Int))),(70,(Ai v702))]) (fun ((v702,row4):Nat×(List Bool))=>⟨3,[(0,some (BP s')),(1,some ⟨4,1,row4.map AV.b⟩),(2,some ⟨9,1,(CN [(s'.graph.edges.getD x2.toNat default).ins,(s'.graph.edges.getD x2.toNat default).implicit]).map AV.s⟩)]⟩) (fun ((v702,row4):Nat×(List Bool))=>v702≤((CN [(s'.graph.edges.getD x2.toNat default).ins,(s'.graph.edges.getD x2.toNat default).implicit]).length)∧row4.length=s'.graph.edges.length∧IF s' x2 ((CN [(s'.graph.edges.getD x2.toNat default).ins,(s'.graph.edges.getD x2.toNat default).implicit]).drop v702) v702 row4=R3) (fun ((v702,row4):Nat×(List Bool))=>((CN [(s'.graph.edges.getD x2.toNat default).ins,(s'.graph.edges.getD x2.toNat default).implicit]).length)-v702) (0,row2) ?_ ?_ ?_
 exact ⟨[0,1,3],⟨by decide,rfl,(A0.cons kr (A0.cons (AQ (fun _=>rfl) (e:=4) (k:=1) (A:=AV.b) (xs:=row2) rfl rfl) (A0.cons (AQ (fun _=>rfl) (e:=9) (k:=1) (A:=AV.s) (xs:=(CN [(s'.graph.edges.getD x2.toNat default).ins,(s'.graph.edges.getD x2.toNat default).implicit])) rfl rfl) A0.nil))),(Am.cons (AU.f kr) (Am.cons (AU.f kr) (Ee (Ee (Ee (Ee (Am.cons (AU.f kr) (Ee (Ee Am.nil)))))))))⟩,Au⟩
 exact ⟨od,by (try dsimp only)<;>(exact hq2),hR3⟩
 rintro ⟨v702,row4⟩ ⟨hi3,hq3,hE3⟩
 try dsimp only
 refine Sq<|Rg<|Aq (AV.b (decide (((v702:Nat):Int)<(((CN [(s'.graph.edges.getD x2.toNat default).ins,(s'.graph.edges.getD x2.toNat default).implicit]).length:Nat):Int))))<|Ad<|Sq ?_
 rcases Nat.lt_or_ge v702 ((CN [(s'.graph.edges.getD x2.toNat default).ins,(s'.graph.edges.getD x2.toNat default).implicit]).length) with hl3|hl3
 have hc3:decide (((v702:Nat):Int)<((((CN [(s'.graph.edges.getD x2.toNat default).ins,(s'.graph.edges.getD x2.toNat default).implicit]).length):Nat):Int))=true:=decide_eq_true (by omega)
 refine A8.cond (t:=true) (by rw [←hc3]<;>kernel_rfl) (A8.skip ?_)
 obtain ⟨x32,hx3⟩: ∃x,(CN [(s'.graph.edges.getD x2.toNat default).ins,(s'.graph.edges.getD x2.toNat default).implicit])[v702]? =some x:=⟨_,List.getElem?_eq_getElem (by first|(simpa using hl3)|omega)⟩
 rw [AP hx3,IF.eq_2] at hE3
 have hmk:=RJ s'.graph x32
 refine Sq<|A8.block<|Sq<|Rg<|Ap (AV.loc 2 v702 0) (Ly (e:=9) (id:=2) (len:=((CN [(s'.graph.edges.getD x2.toNat default).ins,(s'.graph.edges.getD x2.toNat default).implicit]).length)) (kk:= .i64) (ob:=⟨9,1,(CN [(s'.graph.edges.getD x2.toNat default).ins,(s'.graph.edges.getD x2.toNat default).implicit]).map AV.s⟩) (i:=v702) kr kr kr rfl kr sd)<|Ap (AV.s x32) (JF (e:=9) (k:=1) (i:=HH) (id:=2) (xs:=(CN [(s'.graph.edges.getD x2.toNat default).ins,(s'.graph.edges.getD x2.toNat default).implicit])) (A:=AV.s) (j:=v702) kr kr rfl hx3 kr)<|Aq (AV.s x32)<|Ad<|Sq<|Rg<|Aq (AV.loc 0 0 0)<|Aq (AV.s x32)<|A1.sfw (vs:=[(AV.loc 0 0 0),(AV.s x32)]) (ss:=[(AV.pt (Af.av s'.graph).cells),(AV.s x32)]) (r0:=(AV.i .i64 (DP s'.graph x32))) kr (show Bp _ _ _ from ⟨(Ak.w (Ak.cast (x':=(AV.loc 0 0 0)) kr kr (Ak.wk (y':=(AV.pt (Af.av s'.graph).cells)) (Cv A7.av s' (id:=0) rfl rfl kr) (Lo 3 kr)))),⟨(Bp.e kr),trivial⟩⟩) (FN W s'.graph x32) rfl kr le<|Aq (AV.i .i64 (DP s'.graph x32))<|Ad<|Sq<|Rg<|Aq (AV.i .i64 (DP s'.graph x32))<|Aq (AV.b (decide ((0:Int)≤(DP s'.graph x32))))<|Aq (AV.b (decide ((0:Int)≤(DP s'.graph x32)))) ?_
 cases c_6:decide ((0:Int)≤(DP s'.graph x32))
 have k_6:=of_decide_eq_false c_6
 refine An<|An<|An<|An<|Aq (AV.b false)<|Ad<|Cf<|A8.skip<|Rg<|Ap (Ai (v702+1)) (AH (i:=v702) (m:=1) kr kr sd)<|Aq (Ai (v702+1))<|Ad ?_
 try simp only [c_6,AJ] at hE3
 refine ⟨(v702+1,row4),od,⟨od,by (try dsimp only)<;>(first|exact hq3|(simp only [List.length_set];exact hq3)),hE3⟩,?_⟩
 exact ⟨[0,1,2],⟨by decide,rfl,(A0.cons kr (A0.cons (AQ (fun _=>rfl) (e:=4) (k:=1) (A:=AV.b) (xs:=row4) rfl rfl) (A0.cons (AQ (fun _=>rfl) (e:=9) (k:=1) (A:=AV.s) (xs:=(CN [(s'.graph.edges.getD x2.toNat default).ins,(s'.graph.edges.getD x2.toNat default).implicit])) rfl rfl) A0.nil))),(Am.cons (AU.f kr) (Am.cons (AU.f kr) (Ee (Ee (Ee (Ee (Am.cons (AU.f kr) (Ee (Ee Am.nil)))))))))⟩,Au⟩
 have k_6:=of_decide_eq_true c_6
 refine Ay<|Aq (AV.own 1 0 s'.graph.edges.length)<|Ay<|Aq (AV.i .i64 (DP s'.graph x32))<|Ay<|Ap (AV.loc 1 ((DP s'.graph x32).toNat) 0) (MJ (e:=4) (id:=1) (len:=s'.graph.edges.length) (kk:= .i64) (ob:=⟨4,1,row4.map AV.b⟩) (n:=(DP s'.graph x32)) kr kr kr rfl kr sd sd)<|Ay<|Ap (AV.b (row4.getD ((DP s'.graph x32).toNat) default)) (JF (e:=4) (k:=1) (i:=UL) (id:=1) (xs:=row4) (A:=AV.b) (j:=(DP s'.graph x32).toNat) kr kr rfl (getD_some sd) kr)<|Aq (AV.b (row4.getD ((DP s'.graph x32).toNat) default))<|Ad ?_
 cases c_7:(row4.getD ((DP s'.graph x32).toNat) default)
 refine Cf<|A8.skip<|Rg<|Ap (Ai (v702+1)) (AH (i:=v702) (m:=1) kr kr sd)<|Aq (Ai (v702+1))<|Ad ?_
 try simp only [c_6,c_7,AJ] at hE3
 refine ⟨(v702+1,row4),od,⟨od,by (try dsimp only)<;>(first|exact hq3|(simp only [List.length_set];exact hq3)),hE3⟩,?_⟩
 exact ⟨[0,1,2],⟨by decide,rfl,(A0.cons kr (A0.cons (AQ (fun _=>rfl) (e:=4) (k:=1) (A:=AV.b) (xs:=row4) rfl rfl) (A0.cons (AQ (fun _=>rfl) (e:=9) (k:=1) (A:=AV.s) (xs:=(CN [(s'.graph.edges.getD x2.toNat default).ins,(s'.graph.edges.getD x2.toNat default).implicit])) rfl rfl) A0.nil))),(Am.cons (AU.f kr) (Am.cons (AU.f kr) (Ee (Ee (Ee (Ee (Am.cons (AU.f kr) (Ee (Ee Am.nil)))))))))⟩,Au⟩
 refine Ct<|Rg<|Aq (AV.own 1 0 s'.graph.edges.length)<|Aq (AV.i .i64 x2)<|Ap (AV.loc 1 x2.toNat 0) (MJ (e:=4) (id:=1) (len:=s'.graph.edges.length) (kk:= .i64) (ob:=⟨4,1,row4.map AV.b⟩) (n:=x2) kr kr kr rfl kr sd sd)<|A1.st (x:=AV.und) (h':=⟨3,[(0,some (BP s')),(1,some ⟨4,1,(row4.set x2.toNat true).map AV.b⟩),(2,some ⟨9,1,(CN [(s'.graph.edges.getD x2.toNat default).ins,(s'.graph.edges.getD x2.toNat default).implicit]).map AV.s⟩)]⟩) (Tu (e:=4) (k:=1) (i:=UL) (id:=1) (A:=AV.b) (xs:=row4) (y:=true) (j:=x2.toNat) kr kr kr rfl sd (fun _=>rfl) kr (fun _=>rfl) (fun _=>rfl))<|Ad<|Rg<|Ap (Ai (v702+1)) (AH (i:=v702) (m:=1) kr kr sd)<|Aq (Ai (v702+1))<|Ad ?_
 try simp only [c_6,c_7,AJ] at hE3
 refine ⟨(v702+1,(row4.set x2.toNat true)),od,⟨od,by (try dsimp only)<;>(first|exact hq3|(simp only [List.length_set];exact hq3)),hE3⟩,?_⟩
 exact ⟨[0,1,2],⟨by decide,rfl,(A0.cons kr (A0.cons (AQ (fun _=>rfl) (e:=4) (k:=1) (A:=AV.b) (xs:=(row4.set x2.toNat true)) rfl rfl) (A0.cons (AQ (fun _=>rfl) (e:=9) (k:=1) (A:=AV.s) (xs:=(CN [(s'.graph.edges.getD x2.toNat default).ins,(s'.graph.edges.getD x2.toNat default).implicit])) rfl rfl) A0.nil))),(Am.cons (AU.f kr) (Am.cons (AU.f kr) (Ee (Ee (Ee (Ee (Am.cons (AU.f kr) (Ee (Ee Am.nil)))))))))⟩,Au⟩
 have hc3:decide (((v702:Nat):Int)<((((CN [(s'.graph.edges.getD x2.toNat default).ins,(s'.graph.edges.getD x2.toNat default).implicit]).length):Nat):Int))=false:=decide_eq_false (by omega)
 refine A8.cond (t:=false) (by rw [←hc3]<;>kernel_rfl) (A8.exit ?_)
 rw [List.drop_eq_nil_of_le (by first|(simpa using hl3)|omega),IF.eq_1] at hE3
 subst hE3
 refine Rg<|Ap (Ai (v50+1)) (AH (i:=v50) (m:=1) kr kr sd)<|Aq (Ai (v50+1))<|Ad ?_
 try simp only [hR3,AJ] at hE2
 refine ⟨(v50+1,row4),od,⟨od,by (try dsimp only)<;>(exact hq3),hE2⟩,?_⟩
 exact ⟨[0,1],⟨by decide,rfl,(A0.cons kr (A0.cons (AQ (fun _=>rfl) (e:=4) (k:=1) (A:=AV.b) (xs:=row4) rfl rfl) A0.nil)),(Am.cons (AU.f kr) (Am.cons (AU.f kr) (Ee (Ee (Ee Am.nil)))))⟩,Au⟩
 have hc2:decide (((v50:Nat):Int)<((((Fl (⟨s'.graph.edges,s'.graph.pools,s'.graph.defaults⟩:Af)).1).length:Nat):Int))=false:=decide_eq_false (by omega)
 refine A8.cond (t:=false) (by rw [←hc2]<;>kernel_rfl) (A8.exit ?_)
 rw [List.drop_eq_nil_of_le (hl2),KM.eq_1] at hE2
 subst hE2
 refine Sq<|Rg<|Aq (AV.own 1 0 s'.graph.edges.length)<|Aq (AV.own 1 0 s'.graph.edges.length)<|Aq (AV.i .i64 (0:Int))<|Ad<|Rt ?_
 have hM:DI s'=(row2,(0:Int)):=by simp only [DI,c_1,hR1,hR2,AJ]
 refine ⟨Or.inr rfl,?_⟩
 rw [hM]
 exact AU.cast (x':=(AV.tup [(AV.own 1 0 s'.graph.edges.length),(AV.i .i64 (0:Int))])) (y':=(AV.tup [((Ar 1 AV.b) ((row2,(0:Int)).1)),(AV.i .i64 ((row2,(0:Int)).2))])) kr kr (AU.tup ⟨(EF.kk (x':=(AV.own 1 0 s'.graph.edges.length)) kr kr rfl (Ak.row (fun _=>rfl) (A:=AV.b) (id:=1) (e:=4) (k:=1) (xs:=row2) rfl rfl sd sd)),⟨Ec,trivial⟩⟩ kr)
 refine Ct<|Sq<|Rg<|Aq (AV.sl 1 true [])<|Aq (AV.i .i64 (1900:Int))<|Ad<|Rt ?_
 have hM:DI s'=(([]:List Bool),(1900:Int)):=by simp only [DI,c_1,AJ]
 refine ⟨Or.inr rfl,?_⟩
 rw [hM]
 exact AU.cast (x':=(AV.tup [(AV.sl 1 true []),(AV.i .i64 (1900:Int))])) (y':=(AV.tup [((Ar 1 AV.b) ((([]:List Bool),(1900:Int)).1)),(AV.i .i64 ((([]:List Bool),(1900:Int)).2))])) kr kr (AU.tup ⟨(AU.w rfl (AL.nil 1)),⟨Ec,trivial⟩⟩ kr)
def Bw (d:A9):AV:=((Ar 3 A2.av) d.files)
def Bc:AV:=(AV.st [(AV.i .i64 (0:Int)),(AV.sl 3 true [])])
def Ag (d:A9):AV:=(AV.i .i64 (IntKind.wrap .i64 (d.clock+(1:Int))))
def Ax:Obj:=⟨30,2,[Bc]⟩
def Cy (d:A9):AV:=(AV.st [(Ag d),(AV.sl 3 true [])])
def Ce:AV:=(AV.tup [Bc,(AV.i .i64 (1200:Int))])
def BH:AV:=(AV.tup [Bc,(AV.i .i64 (1201:Int))])
def BT (name:ByteArray) (content:Int) (d:A9):Obj:=⟨85,3,[(⟨name,content,(IntKind.wrap .i64 (d.clock+(1:Int)))⟩:A2)].map A2.av⟩
def De (name:ByteArray) (content:Int) (d:A9):AV:=(AV.st [(AV.s name),(AV.i .i64 content),(Ag d)])
def B3 (name:ByteArray) (content:Int) (d:A9):Obj:=⟨85,3,[(De name content d)]⟩
def GL (d:A9):AV:=(AV.tup [(Cy d),(AV.i .i64 (0:Int))])
def Eu:AV:=(AV.tup [(A9.av (((⟨(0:Int),[]⟩:A9),(1200:Int)).1)),(AV.i .i64 (((⟨(0:Int),[]⟩:A9),(1200:Int)).2))])
def Dd:AV:=(AV.tup [(A9.av (((⟨(0:Int),[]⟩:A9),(1201:Int)).1)),(AV.i .i64 (((⟨(0:Int),[]⟩:A9),(1201:Int)).2))])
theorem MC (W:World) (d:A9) (name:ByteArray) (content:Int) (hz:d.sz≤1049600):Aj Go.Proofs.Tryz.prog W 28 [(A9.av d),(AV.s name),(AV.i .i64 content)] (AV.tup [(A9.av ((E5 d name content).1)),(AV.i .i64 ((E5 d name content).2))]) []:=by
 have hl:=Hh A2.sz_one d.files
 have hl2:=d.sz_files
 refine Ef A5 (fn:=Go.Proofs.Tryz.f28) Go.Proofs.Tryz.func28 rfl (en28 W) le<|Sq<|Rg<|Nn (AV.loc 0 0 0) ⟨30,2,[(A9.av d)]⟩<|Nn (AV.loc 1 0 0) Ax<|Aq (AV.i .i64 (0:Int))<|Ad<|Sq<|Sq<|Rg<|Aq (A9.av d)<|A1.sc0 (vs:=[(A9.av d)]) (r0:=(AV.b (Hz d))) kr kr (MB W d) kr le<|Aq (AV.b (!(Hz d)))<|Aq (AV.b (!(Hz d))) ?_
 cases c_1:(!(Hz d))
 refine Ay<|Aq (AV.s name)<|Ay<|A1.sc0 (vs:=[(AV.s name)]) (r0:=(AV.b (HT name))) kr kr (Jv W name) kr le<|Ay<|Aq (AV.b (!(HT name)))<|Aq (AV.b (!(HT name)))<|Aq (AV.b (!(HT name))) ?_
 cases c_2:(!(HT name))
 refine Ay<|Aq (AV.i .i64 content)<|Ay<|A1.sc0 (vs:=[(AV.i .i64 content),(AV.i .i64 (0:Int)),(AV.i .i64 (2147483647:Int))]) (r0:=(AV.b (J2 content (0:Int) (2147483647:Int)))) kr kr (Gv W content (0:Int) (2147483647:Int)) kr le<|Ay<|Aq (AV.b (!(J2 content (0:Int) (2147483647:Int))))<|Aq (AV.b (!(J2 content (0:Int) (2147483647:Int))))<|Ad ?_
 cases c_3:(!(J2 content (0:Int) (2147483647:Int)))
 refine Cf<|A8.skip<|Sq<|Rg<|Aq (AV.s name)<|Aq (AV.i .i64 content)<|Aq (AV.loc 0 0 0)<|Aq (AV.i .i64 d.clock)<|Aq (Ag d)<|Nb (De name content d)<|Nn (AV.loc 2 0 0) ⟨85,3,[(AV.st [(AV.s (⟨#[]⟩:ByteArray)),(AV.i .i64 (0:Int)),(AV.i .i64 (0:Int))])]⟩<|Sp 2 (B3 name content d)<|Ad<|Sq<|Rg<|Aq (AV.loc 0 0 0)<|Aq (AV.i .i64 d.clock)<|Aq (Ag d)<|Nb (Cy d)<|Nn (AV.loc 3 0 0) Ax<|Sp 3 ⟨30,2,[(Cy d)]⟩<|Ad<|Sq<|Rg<|Aq (AV.b false)<|Ad<|Sq<|Sq<|Rg<|Aq (AV.i .i64 (0:Int))<|Ad<|A8.block<|A8.lim 0 (x:=(A9.av d)) kr fun hlm1=> ?_
 have hB1:d.files.length≤281474976710656:=BJ (IA hlm1)
 obtain ⟨R1,hR1⟩: ∃R,J5 name content d d.files 0 false []=R:=⟨_,rfl⟩
 refine AN (fun ((in',i,cell):Bool×Nat×(List A2))=>[(1,(AV.s name)),(3,(AV.loc 0 0 0)),(6,(AV.loc 1 0 0)),(8,(AV.loc 2 0 0)),(9,(AV.loc 3 0 0)),(10,(AV.b in')),(11,(Ai i))]) (fun ((in',i,cell):Bool×Nat×(List A2))=>⟨5,[(0,some ⟨30,2,[(A9.av d)]⟩),(1,some Ax),(2,some (B3 name content d)),(4,IE 85 3 A2.av cell),(3,some ⟨30,2,[(AV.st [(Ag d),(Bj 4 3 A2.av cell)])]⟩)]⟩) (fun ((in',i,cell):Bool×Nat×(List A2))=>i≤d.files.length∧cell.length≤2*i∧J5 name content d (d.files.drop i) i in' cell=R1) (fun ((in',i,cell):Bool×Nat×(List A2))=>d.files.length-i) (false,0,[]) ?_ ?_ ?_
 exact ⟨[0,1,2,3,1000004],⟨by decide,rfl,(A0.cons kr (A0.cons kr (A0.cons kr (A0.cons (Ss (e:=30) (k:=2) (xs:=[(Cy d)]) (ys:=[(AV.st [(Ag d),(Bj 4 3 A2.av [])])]) rfl (BE.cons (Kc (BE.cons (Nh kr) (BE.cons rfl BE.nil))) BE.nil) rfl) (A0.cons rfl A0.nil))))),(Ee (Am.cons (AU.f kr) (Am.cons (AU.f kr) (Am.cons (AU.f kr) (Am.cons (AU.f kr) (Ee (Ee Am.nil)))))))⟩,Au⟩
 exact ⟨od,HG,hR1⟩
 rintro ⟨in',i,cell⟩ ⟨hi1,ha,hE1⟩
 try dsimp only
 refine Sq<|Sq<|Rg<|Aq (Ai i)<|Aq (AV.loc 0 0 1)<|Aq (Bw d)<|Ap (Ai d.files.length) (BI (k:=3) (nl:=false) (e:=85) (A:=A2.av) (xs:=d.files) kr kr)<|Aq (AV.b (decide (((i:Nat):Int)<((d.files.length:Nat):Int))))<|Ad ?_
 rcases Nat.lt_or_ge i d.files.length with hl1|hl1
 have hc1:decide (((i:Nat):Int)<((d.files.length:Nat):Int))=true:=decide_eq_true (by omega)
 refine A8.cond (t:=true) (by rw [←hc1]<;>kernel_rfl) (A8.skip ?_)
 obtain ⟨x1,hx1⟩: ∃x,d.files[i]? =some x:=⟨_,List.getElem?_eq_getElem hl1⟩
 rw [AP hx1,J5.eq_2] at hE1
 refine Sq<|A8.block<|Sq<|Sq<|Rg<|Aq (AV.b in')<|Aq (AV.b (!in'))<|Aq (AV.b (!in')) ?_
 cases c_4:(!in')
 refine An<|An<|An<|An<|An<|An<|An<|An<|Aq (AV.b false)<|Ad<|Cf<|A8.skip<|Sq<|Rg<|Aq (AV.loc 0 0 1)<|Aq (Bw d)<|Aq (Ai i)<|Ap (AV.pt (A2.av x1).cells) (Bo (k:=3) (nl:=false) (e:=85) (kk:= .i64) (A:=A2.av) (xs:=d.files) (i:=i) kr kr kr ⟨by kernel_rfl,by decide⟩ hx1)<|Aq (AV.pt ((A2.av x1).cells.drop 0))<|Aq (AV.s x1.name)<|Aq (AV.s name)<|Aq (AV.b (!decide (x1.name=name)))<|Ad ?_
 cases c_5:(!decide (x1.name=name))
 refine Cf<|A8.skip<|Rg<|Aq (Ai i)<|Ap (Ai (i+1)) (AH (i:=i) (m:=1) kr kr sd)<|Aq (Ai (i+1))<|Ad ?_
 try simp only [c_4,c_5,AJ] at hE1
 refine ⟨(in',i+1,cell),od,⟨od,HG,hE1⟩,?_⟩
 exact ⟨[0,1,2,3,4],⟨by decide,rfl,(A0.cons kr (A0.cons kr (A0.cons kr (A0.cons (Ss (e:=30) (k:=2) (xs:=[(AV.st [(Ag d),(Bj 4 3 A2.av cell)])]) (ys:=[(AV.st [(Ag d),(Bj 4 3 A2.av cell)])]) rfl (BE.cons (Kc (BE.cons (Nh kr) (BE.cons (Tt rfl) BE.nil))) BE.nil) rfl) (A0.cons (FJ (fun _=>rfl) (e:=85) (k:=3) (A:=A2.av) (xs:=cell) rfl rfl) A0.nil))))),(Ee (Am.cons (AU.f kr) (Am.cons (AU.f kr) (Am.cons (AU.f kr) (Am.cons (AU.f kr) (Ee (Ee Am.nil)))))))⟩,Au⟩
 refine Ct<|A8.drawn A5 FR 8 kr le<|Dq (AV.loc 3 0 1)<|Dq (Bj 4 3 A2.av cell)<|Dq (AV.loc 0 0 1)<|Dq (Bw d)<|Dq (Ai i)<|Dp (AV.pt (A2.av x1).cells) (Bo (k:=3) (nl:=false) (e:=85) (kk:= .i64) (A:=A2.av) (xs:=d.files) (i:=i) kr kr kr ⟨by kernel_rfl,by decide⟩ hx1)<|Dq (A2.av x1)<|Av.sn (x:=(AV.own 5 0 1)) (h':=⟨6,[(5,some ⟨85,3,[x1].map A2.av⟩),(0,some ⟨30,2,[(A9.av d)]⟩),(1,some Ax),(2,some (B3 name content d)),(4,IE 85 3 A2.av cell),(3,some ⟨30,2,[(AV.st [(Ag d),(Bj 4 3 A2.av cell)])]⟩)]⟩) kr le<|Av.se (by decide) (x:=(AV.own 6 0 ((cell++[x1]).length))) (h':=⟨7,[(6,some ⟨85,3,(cell++[x1]).map A2.av⟩),(5,some ⟨85,3,[x1].map A2.av⟩),(0,some ⟨30,2,[(A9.av d)]⟩),(1,some Ax),(2,some (B3 name content d)),(4,none),(3,some ⟨30,2,[(AV.st [(Ag d),(Bj 4 3 A2.av cell)])]⟩)]⟩) (Nj (e:=85) (X:=(AV.own 5 0 1)) (A:=A2.av) (i:=Sf) (p:=4) (xs:=cell) (ys:=[x1]) kr kr kr (hx:=kr) kr (by simp) ⟨by decide,by kernel_rfl⟩ rfl (by intro q;first|(subst q;rfl)|(rw [q];rfl)|(simp only [q];rfl)) (by show _*32≤140737488355328;first|omega|(simp only [List.length_append,List.length_cons,List.length_nil,List.length_set,List.length_replicate];omega)|(simp;omega)) sd) le ?_
 refine Dq (AV.loc 3 0 1)<|Av.st (by decide) (x:=AV.und) (h':=⟨7,[(6,some ⟨85,3,(cell++[x1]).map A2.av⟩),(5,some ⟨85,3,[x1].map A2.av⟩),(0,some ⟨30,2,[(A9.av d)]⟩),(1,some Ax),(2,some (B3 name content d)),(4,none),(3,some ⟨30,2,[(AV.st [(Ag d),(AV.own 6 0 ((cell++[x1]).length))])]⟩)]⟩) kr<|Av.fin<|Rg<|Aq (Ai i)<|Ap (Ai (i+1)) (AH (i:=i) (m:=1) kr kr sd)<|Aq (Ai (i+1))<|Ad ?_
 try simp only [c_4,c_5,AJ] at hE1
 refine ⟨(in',i+1,(cell++[x1])),od,⟨od,HG,hE1⟩,?_⟩
 exact ⟨[0,1,2,3,6],⟨by decide,rfl,(A0.cons kr (A0.cons kr (A0.cons kr (A0.cons (Ss (e:=30) (k:=2) (xs:=[(AV.st [(Ag d),(AV.own 6 0 ((cell++[x1]).length))])]) (ys:=[(AV.st [(Ag d),(Bj 4 3 A2.av (cell++[x1]))])]) rfl (BE.cons (Kc (BE.cons (Nh kr) (BE.cons (MH (A:=A2.av) (k:=3) (xs:=(cell++[x1])) (by simp) rfl rfl) BE.nil))) BE.nil) rfl) (A0.cons (GH (fun _=>rfl) (e:=85) (k:=3) (A:=A2.av) (xs:=(cell++[x1])) (by simp) rfl rfl) A0.nil))))),(Ee (Am.cons (AU.f kr) (Am.cons (AU.f kr) (Am.cons (AU.f kr) (Am.cons (AU.f kr) (Ee (Ee Am.nil)))))))⟩,Au⟩
 refine Ay<|Aq (AV.loc 0 0 1)<|Ay<|Aq (Bw d)<|Ay<|Aq (Ai i)<|Ay<|Ap (AV.pt (A2.av x1).cells) (Bo (k:=3) (nl:=false) (e:=85) (kk:= .i64) (A:=A2.av) (xs:=d.files) (i:=i) kr kr kr ⟨by kernel_rfl,by decide⟩ hx1)<|Ay<|Aq (AV.pt ((A2.av x1).cells.drop 0))<|Ay<|Aq (AV.s x1.name)<|Ay<|Aq (AV.s name)<|Ay<|Aq (AV.b (!Op.bytesLess x1.name.toList name.toList))<|Aq (AV.b (!Op.bytesLess x1.name.toList name.toList))<|Ad ?_
 cases c_6:(!Op.bytesLess x1.name.toList name.toList)
 refine Cf<|A8.skip<|Sq<|Rg<|Aq (AV.loc 0 0 1)<|Aq (Bw d)<|Aq (Ai i)<|Ap (AV.pt (A2.av x1).cells) (Bo (k:=3) (nl:=false) (e:=85) (kk:= .i64) (A:=A2.av) (xs:=d.files) (i:=i) kr kr kr ⟨by kernel_rfl,by decide⟩ hx1)<|Aq (AV.pt ((A2.av x1).cells.drop 0))<|Aq (AV.s x1.name)<|Aq (AV.s name)<|Aq (AV.b (!decide (x1.name=name)))<|Ad ?_
 cases c_7:(!decide (x1.name=name))
 refine Cf<|A8.skip<|Rg<|Aq (Ai i)<|Ap (Ai (i+1)) (AH (i:=i) (m:=1) kr kr sd)<|Aq (Ai (i+1))<|Ad ?_
 try simp only [c_4,c_6,c_7,AJ] at hE1
 refine ⟨(in',i+1,cell),od,⟨od,HG,hE1⟩,?_⟩
 exact ⟨[0,1,2,3,4],⟨by decide,rfl,(A0.cons kr (A0.cons kr (A0.cons kr (A0.cons (Ss (e:=30) (k:=2) (xs:=[(AV.st [(Ag d),(Bj 4 3 A2.av cell)])]) (ys:=[(AV.st [(Ag d),(Bj 4 3 A2.av cell)])]) rfl (BE.cons (Kc (BE.cons (Nh kr) (BE.cons (Tt rfl) BE.nil))) BE.nil) rfl) (A0.cons (FJ (fun _=>rfl) (e:=85) (k:=3) (A:=A2.av) (xs:=cell) rfl rfl) A0.nil))))),(Ee (Am.cons (AU.f kr) (Am.cons (AU.f kr) (Am.cons (AU.f kr) (Am.cons (AU.f kr) (Ee (Ee Am.nil)))))))⟩,Au⟩
 refine Ct<|A8.drawn A5 FR 8 kr le<|Dq (AV.loc 3 0 1)<|Dq (Bj 4 3 A2.av cell)<|Dq (AV.loc 0 0 1)<|Dq (Bw d)<|Dq (Ai i)<|Dp (AV.pt (A2.av x1).cells) (Bo (k:=3) (nl:=false) (e:=85) (kk:= .i64) (A:=A2.av) (xs:=d.files) (i:=i) kr kr kr ⟨by kernel_rfl,by decide⟩ hx1)<|Dq (A2.av x1)<|Av.sn (x:=(AV.own 5 0 1)) (h':=⟨6,[(5,some ⟨85,3,[x1].map A2.av⟩),(0,some ⟨30,2,[(A9.av d)]⟩),(1,some Ax),(2,some (B3 name content d)),(4,IE 85 3 A2.av cell),(3,some ⟨30,2,[(AV.st [(Ag d),(Bj 4 3 A2.av cell)])]⟩)]⟩) kr le<|Av.se (by decide) (x:=(AV.own 6 0 ((cell++[x1]).length))) (h':=⟨7,[(6,some ⟨85,3,(cell++[x1]).map A2.av⟩),(5,some ⟨85,3,[x1].map A2.av⟩),(0,some ⟨30,2,[(A9.av d)]⟩),(1,some Ax),(2,some (B3 name content d)),(4,none),(3,some ⟨30,2,[(AV.st [(Ag d),(Bj 4 3 A2.av cell)])]⟩)]⟩) (Nj (e:=85) (X:=(AV.own 5 0 1)) (A:=A2.av) (i:=Sf) (p:=4) (xs:=cell) (ys:=[x1]) kr kr kr (hx:=kr) kr (by simp) ⟨by decide,by kernel_rfl⟩ rfl (by intro q;first|(subst q;rfl)|(rw [q];rfl)|(simp only [q];rfl)) (by show _*32≤140737488355328;first|omega|(simp only [List.length_append,List.length_cons,List.length_nil,List.length_set,List.length_replicate];omega)|(simp;omega)) sd) le ?_
 refine Dq (AV.loc 3 0 1)<|Av.st (by decide) (x:=AV.und) (h':=⟨7,[(6,some ⟨85,3,(cell++[x1]).map A2.av⟩),(5,some ⟨85,3,[x1].map A2.av⟩),(0,some ⟨30,2,[(A9.av d)]⟩),(1,some Ax),(2,some (B3 name content d)),(4,none),(3,some ⟨30,2,[(AV.st [(Ag d),(AV.own 6 0 ((cell++[x1]).length))])]⟩)]⟩) kr<|Av.fin<|Rg<|Aq (Ai i)<|Ap (Ai (i+1)) (AH (i:=i) (m:=1) kr kr sd)<|Aq (Ai (i+1))<|Ad ?_
 try simp only [c_4,c_6,c_7,AJ] at hE1
 refine ⟨(in',i+1,(cell++[x1])),od,⟨od,HG,hE1⟩,?_⟩
 exact ⟨[0,1,2,3,6],⟨by decide,rfl,(A0.cons kr (A0.cons kr (A0.cons kr (A0.cons (Ss (e:=30) (k:=2) (xs:=[(AV.st [(Ag d),(AV.own 6 0 ((cell++[x1]).length))])]) (ys:=[(AV.st [(Ag d),(Bj 4 3 A2.av (cell++[x1]))])]) rfl (BE.cons (Kc (BE.cons (Nh kr) (BE.cons (MH (A:=A2.av) (k:=3) (xs:=(cell++[x1])) (by simp) rfl rfl) BE.nil))) BE.nil) rfl) (A0.cons (GH (fun _=>rfl) (e:=85) (k:=3) (A:=A2.av) (xs:=(cell++[x1])) (by simp) rfl rfl) A0.nil))))),(Ee (Am.cons (AU.f kr) (Am.cons (AU.f kr) (Am.cons (AU.f kr) (Am.cons (AU.f kr) (Ee (Ee Am.nil)))))))⟩,Au⟩
 refine Ct<|Sq<|Rg<|Aq (AV.loc 3 0 1)<|Aq (Bj 4 3 A2.av cell)<|Aq (De name content d)<|Nn (AV.own 5 0 1) (BT name content d)<|A1.se (x:=(AV.own 6 0 ((cell++[(⟨name,content,(IntKind.wrap .i64 (d.clock+(1:Int)))⟩:A2)]).length))) (h':=⟨7,[(6,some ⟨85,3,(cell++[(⟨name,content,(IntKind.wrap .i64 (d.clock+(1:Int)))⟩:A2)]).map A2.av⟩),(5,some (BT name content d)),(0,some ⟨30,2,[(A9.av d)]⟩),(1,some Ax),(2,some (B3 name content d)),(4,none),(3,some ⟨30,2,[(AV.st [(Ag d),(Bj 4 3 A2.av cell)])]⟩)]⟩) (Nj (e:=85) (X:=(AV.own 5 0 1)) (A:=A2.av) (i:=Sf) (p:=4) (xs:=cell) (ys:=[(⟨name,content,(IntKind.wrap .i64 (d.clock+(1:Int)))⟩:A2)]) kr kr kr (hx:=kr) kr (by simp) ⟨by decide,by kernel_rfl⟩ rfl (by intro q;first|(subst q;rfl)|(rw [q];rfl)|(simp only [q];rfl)) (by show _*32≤140737488355328;first|omega|(simp only [List.length_append,List.length_cons,List.length_nil,List.length_set,List.length_replicate];omega)|(simp;omega)) sd) le<|Aq (AV.loc 3 0 1) ?_
 refine Sp 3 ⟨30,2,[(AV.st [(Ag d),(AV.own 6 0 ((cell++[(⟨name,content,(IntKind.wrap .i64 (d.clock+(1:Int)))⟩:A2)]).length))])]⟩<|Ad<|Rg<|Aq (AV.b true)<|Ad<|Sq<|Rg<|Aq (AV.loc 0 0 1)<|Aq (Bw d)<|Aq (Ai i)<|Ap (AV.pt (A2.av x1).cells) (Bo (k:=3) (nl:=false) (e:=85) (kk:= .i64) (A:=A2.av) (xs:=d.files) (i:=i) kr kr kr ⟨by kernel_rfl,by decide⟩ hx1)<|Aq (AV.pt ((A2.av x1).cells.drop 0))<|Aq (AV.s x1.name)<|Aq (AV.s name)<|Aq (AV.b (!decide (x1.name=name)))<|Ad ?_
 cases c_8:(!decide (x1.name=name))
 refine Cf<|A8.skip<|Rg<|Aq (Ai i)<|Ap (Ai (i+1)) (AH (i:=i) (m:=1) kr kr sd)<|Aq (Ai (i+1))<|Ad ?_
 try simp only [c_4,c_6,c_8,AJ] at hE1
 refine ⟨(true,i+1,(cell++[(⟨name,content,(IntKind.wrap .i64 (d.clock+(1:Int)))⟩:A2)])),od,⟨od,HG,hE1⟩,?_⟩
 exact ⟨[0,1,2,3,6],⟨by decide,rfl,(A0.cons kr (A0.cons kr (A0.cons kr (A0.cons (Ss (e:=30) (k:=2) (xs:=[(AV.st [(Ag d),(AV.own 6 0 ((cell++[(⟨name,content,(IntKind.wrap .i64 (d.clock+(1:Int)))⟩:A2)]).length))])]) (ys:=[(AV.st [(Ag d),(Bj 4 3 A2.av (cell++[(⟨name,content,(IntKind.wrap .i64 (d.clock+(1:Int)))⟩:A2)]))])]) rfl (BE.cons (Kc (BE.cons (Nh kr) (BE.cons (MH (A:=A2.av) (k:=3) (xs:=(cell++[(⟨name,content,(IntKind.wrap .i64 (d.clock+(1:Int)))⟩:A2)])) (by simp) rfl rfl) BE.nil))) BE.nil) rfl) (A0.cons (GH (fun _=>rfl) (e:=85) (k:=3) (A:=A2.av) (xs:=(cell++[(⟨name,content,(IntKind.wrap .i64 (d.clock+(1:Int)))⟩:A2)])) (by simp) rfl rfl) A0.nil))))),(Ee (Am.cons (AU.f kr) (Am.cons (AU.f kr) (Am.cons (AU.f kr) (Am.cons (AU.f kr) (Ee (Ee Am.nil)))))))⟩,Au⟩
 refine Ct<|A8.drawn A5 FR 8 kr le<|Dq (AV.loc 3 0 1)<|Dq (AV.own 6 0 ((cell++[(⟨name,content,(IntKind.wrap .i64 (d.clock+(1:Int)))⟩:A2)]).length))<|Dq (AV.loc 0 0 1)<|Dq (Bw d)<|Dq (Ai i)<|Dp (AV.pt (A2.av x1).cells) (Bo (k:=3) (nl:=false) (e:=85) (kk:= .i64) (A:=A2.av) (xs:=d.files) (i:=i) kr kr kr ⟨by kernel_rfl,by decide⟩ hx1)<|Dq (A2.av x1)<|Av.sn (x:=(AV.own 7 0 1)) (h':=⟨8,[(7,some ⟨85,3,[x1].map A2.av⟩),(6,some ⟨85,3,(cell++[(⟨name,content,(IntKind.wrap .i64 (d.clock+(1:Int)))⟩:A2)]).map A2.av⟩),(5,some (BT name content d)),(0,some ⟨30,2,[(A9.av d)]⟩),(1,some Ax),(2,some (B3 name content d)),(4,none),(3,some ⟨30,2,[(AV.st [(Ag d),(AV.own 6 0 ((cell++[(⟨name,content,(IntKind.wrap .i64 (d.clock+(1:Int)))⟩:A2)]).length))])]⟩)]⟩) kr le<|Av.se (by decide) (x:=(AV.own 8 0 (((cell++[(⟨name,content,(IntKind.wrap .i64 (d.clock+(1:Int)))⟩:A2)])++[x1]).length))) (h':=⟨9,[(8,some ⟨85,3,((cell++[(⟨name,content,(IntKind.wrap .i64 (d.clock+(1:Int)))⟩:A2)])++[x1]).map A2.av⟩),(7,some ⟨85,3,[x1].map A2.av⟩),(6,none),(5,some (BT name content d)),(0,some ⟨30,2,[(A9.av d)]⟩),(1,some Ax),(2,some (B3 name content d)),(4,none),(3,some ⟨30,2,[(AV.st [(Ag d),(AV.own 6 0 ((cell++[(⟨name,content,(IntKind.wrap .i64 (d.clock+(1:Int)))⟩:A2)]).length))])]⟩)]⟩) (Hu (len:=((cell++[(⟨name,content,(IntKind.wrap .i64 (d.clock+(1:Int)))⟩:A2)]).length)) (e:=85) (X:=(AV.own 7 0 1)) (A:=A2.av) (i:=Sf) (p:=6) (xs:=(cell++[(⟨name,content,(IntKind.wrap .i64 (d.clock+(1:Int)))⟩:A2)])) (ys:=[x1]) kr kr kr (hx:=kr) kr ⟨by decide,by kernel_rfl⟩ rfl rfl (by show _*32≤140737488355328;first|omega|(simp only [List.length_append,List.length_cons,List.length_nil,List.length_set,List.length_replicate];omega)|(simp;omega)) sd) le ?_
 refine Dq (AV.loc 3 0 1)<|Av.st (by decide) (x:=AV.und) (h':=⟨9,[(8,some ⟨85,3,((cell++[(⟨name,content,(IntKind.wrap .i64 (d.clock+(1:Int)))⟩:A2)])++[x1]).map A2.av⟩),(7,some ⟨85,3,[x1].map A2.av⟩),(6,none),(5,some (BT name content d)),(0,some ⟨30,2,[(A9.av d)]⟩),(1,some Ax),(2,some (B3 name content d)),(4,none),(3,some ⟨30,2,[(AV.st [(Ag d),(AV.own 8 0 (((cell++[(⟨name,content,(IntKind.wrap .i64 (d.clock+(1:Int)))⟩:A2)])++[x1]).length))])]⟩)]⟩) kr<|Av.fin<|Rg<|Aq (Ai i)<|Ap (Ai (i+1)) (AH (i:=i) (m:=1) kr kr sd)<|Aq (Ai (i+1))<|Ad ?_
 try simp only [c_4,c_6,c_8,AJ] at hE1
 refine ⟨(true,i+1,((cell++[(⟨name,content,(IntKind.wrap .i64 (d.clock+(1:Int)))⟩:A2)])++[x1])),od,⟨od,HG,hE1⟩,?_⟩
 exact ⟨[0,1,2,3,8],⟨by decide,rfl,(A0.cons kr (A0.cons kr (A0.cons kr (A0.cons (Ss (e:=30) (k:=2) (xs:=[(AV.st [(Ag d),(AV.own 8 0 (((cell++[(⟨name,content,(IntKind.wrap .i64 (d.clock+(1:Int)))⟩:A2)])++[x1]).length))])]) (ys:=[(AV.st [(Ag d),(Bj 4 3 A2.av ((cell++[(⟨name,content,(IntKind.wrap .i64 (d.clock+(1:Int)))⟩:A2)])++[x1]))])]) rfl (BE.cons (Kc (BE.cons (Nh kr) (BE.cons (MH (A:=A2.av) (k:=3) (xs:=((cell++[(⟨name,content,(IntKind.wrap .i64 (d.clock+(1:Int)))⟩:A2)])++[x1])) (by simp) rfl rfl) BE.nil))) BE.nil) rfl) (A0.cons (GH (fun _=>rfl) (e:=85) (k:=3) (A:=A2.av) (xs:=((cell++[(⟨name,content,(IntKind.wrap .i64 (d.clock+(1:Int)))⟩:A2)])++[x1])) (by simp) rfl rfl) A0.nil))))),(Ee (Am.cons (AU.f kr) (Am.cons (AU.f kr) (Am.cons (AU.f kr) (Am.cons (AU.f kr) (Ee (Ee Am.nil)))))))⟩,Au⟩
 have hc1:decide (((i:Nat):Int)<((d.files.length:Nat):Int))=false:=decide_eq_false (by omega)
 refine A8.cond (t:=false) (by rw [←hc1]<;>kernel_rfl) (A8.exit ?_)
 rw [List.drop_eq_nil_of_le (hl1),J5.eq_1] at hE1
 subst hE1
 refine Sq<|Sq<|Rg<|Aq (AV.b in')<|Aq (AV.b (!in'))<|Ad ?_
 cases c_9:(!in')
 refine Cf<|A8.skip<|Sq<|Sq<|Rg<|Aq (AV.loc 3 0 0)<|Aq (Ag d)<|Aq (AV.b (decide ((1048576:Int)<(IntKind.wrap .i64 (d.clock+(1:Int))))))<|Aq (AV.b (decide ((1048576:Int)<(IntKind.wrap .i64 (d.clock+(1:Int)))))) ?_
 cases c_10:decide ((1048576:Int)<(IntKind.wrap .i64 (d.clock+(1:Int))))
 have k_10:=of_decide_eq_false c_10
 refine Ay<|Aq (AV.loc 3 0 1)<|Ay<|Aq (Bj 4 3 A2.av cell)<|Ay<|Ap (Ai cell.length) (Ra (e:=85) (A:=A2.av) (xs:=cell) (p:=4) (k:=3) kr kr (fun q=>QO (e:=85) (k:=3) (A:=A2.av) q rfl))<|Ay<|Aq (AV.b (decide ((64:Int)<((cell.length:Nat):Int))))<|Aq (AV.b (decide ((64:Int)<((cell.length:Nat):Int))))<|Ad ?_
 cases c_11:decide ((64:Int)<((cell.length:Nat):Int))
 have k_11:=of_decide_eq_false c_11
 refine Cf<|A8.skip<|Sq<|Rg<|Aq (AV.st [(Ag d),(Bj 4 3 A2.av cell)]) ?_
 by_cases z_12:cell=[]
 simp only [accV_e z_12,accO_e z_12]
 refine Sp 1 ⟨30,2,[(Cy d)]⟩<|Aq (AV.i .i64 (0:Int))<|Ad<|Rt ?_
 have hM:E5 d name content=((⟨(IntKind.wrap .i64 (d.clock+(1:Int))),[]⟩:A9),(0:Int)):=by simp only [E5,c_1,c_2,c_3,hR1,c_9,c_10,c_11,AJ];rw [z_12]
 refine ⟨Or.inr rfl,(GL d),kr,?_⟩
 rw [hM]
 exact AU.cast (x':=(GL d)) (y':=(AV.tup [(A9.av (((⟨(IntKind.wrap .i64 (d.clock+(1:Int))),[]⟩:A9),(0:Int)).1)),(AV.i .i64 (((⟨(IntKind.wrap .i64 (d.clock+(1:Int))),[]⟩:A9),(0:Int)).2))])) kr kr (AU.tup ⟨(AU.st ⟨Ec,⟨(AU.w rfl (AL.nil 3)),trivial⟩⟩ kr),⟨Ec,trivial⟩⟩ kr)
 simp only [V2 z_12,V1 z_12]
 refine Sp 1 ⟨30,2,[(AV.st [(Ag d),(AV.own 4 0 cell.length)])]⟩<|Aq (AV.i .i64 (0:Int))<|Ad<|Rt ?_
 have hM:E5 d name content=((⟨(IntKind.wrap .i64 (d.clock+(1:Int))),cell⟩:A9),(0:Int)):=by simp only [E5,c_1,c_2,c_3,hR1,c_9,c_10,c_11,AJ]
 refine ⟨Or.inr rfl,(AV.tup [(AV.st [(Ag d),(AV.own 4 0 cell.length)]),(AV.i .i64 (0:Int))]),kr,?_⟩
 rw [hM]
 exact AU.cast (x':=(AV.tup [(AV.st [(Ag d),(AV.own 4 0 cell.length)]),(AV.i .i64 (0:Int))])) (y':=(AV.tup [(A9.av (((⟨(IntKind.wrap .i64 (d.clock+(1:Int))),cell⟩:A9),(0:Int)).1)),(AV.i .i64 (((⟨(IntKind.wrap .i64 (d.clock+(1:Int))),cell⟩:A9),(0:Int)).2))])) kr kr (AU.tup ⟨(AU.st ⟨Ec,⟨(EF.kk (x':=(AV.own 4 0 cell.length)) kr kr rfl (Ak.row (fun _=>rfl) (A:=A2.av) (id:=4) (e:=85) (k:=3) (xs:=cell) rfl rfl rfl sd)),trivial⟩⟩ kr),⟨Ec,trivial⟩⟩ kr)
 have k_11:=of_decide_eq_true c_11
 refine Ct<|Sq<|Rg<|Nb Bc<|Sp 1 Ax<|Aq (AV.i .i64 (1201:Int))<|Ad<|Rt ?_
 have hM:E5 d name content=((⟨(0:Int),[]⟩:A9),(1201:Int)):=by simp only [E5,c_1,c_2,c_3,hR1,c_9,c_10,c_11,AJ]
 refine ⟨Or.inr rfl,BH,kr,?_⟩
 rw [hM]
 exact AU.cast (x':=BH) (y':=Dd) kr kr (AU.tup ⟨(AU.st ⟨Ec,⟨(AU.w rfl (AL.nil 3)),trivial⟩⟩ kr),⟨Ec,trivial⟩⟩ kr)
 have k_10:=of_decide_eq_true c_10
 refine An<|An<|An<|An<|Aq (AV.b true)<|Ad<|Ct<|Sq<|Rg<|Nb Bc<|Sp 1 Ax<|Aq (AV.i .i64 (1201:Int))<|Ad<|Rt ?_
 have hM:E5 d name content=((⟨(0:Int),[]⟩:A9),(1201:Int)):=by simp only [E5,c_1,c_2,c_3,hR1,c_9,c_10,AJ]
 refine ⟨Or.inr rfl,BH,kr,?_⟩
 rw [hM]
 exact AU.cast (x':=BH) (y':=Dd) kr kr (AU.tup ⟨(AU.st ⟨Ec,⟨(AU.w rfl (AL.nil 3)),trivial⟩⟩ kr),⟨Ec,trivial⟩⟩ kr)
 refine Ct<|Rg<|Aq (AV.loc 3 0 1)<|Aq (Bj 4 3 A2.av cell)<|Aq (De name content d)<|Nn (AV.own 5 0 1) (BT name content d)<|A1.se (x:=(AV.own 6 0 ((cell++[(⟨name,content,(IntKind.wrap .i64 (d.clock+(1:Int)))⟩:A2)]).length))) (h':=⟨7,[(6,some ⟨85,3,(cell++[(⟨name,content,(IntKind.wrap .i64 (d.clock+(1:Int)))⟩:A2)]).map A2.av⟩),(5,some (BT name content d)),(0,some ⟨30,2,[(A9.av d)]⟩),(1,some Ax),(2,some (B3 name content d)),(4,none),(3,some ⟨30,2,[(AV.st [(Ag d),(Bj 4 3 A2.av cell)])]⟩)]⟩) (Nj (e:=85) (X:=(AV.own 5 0 1)) (A:=A2.av) (i:=Sf) (p:=4) (xs:=cell) (ys:=[(⟨name,content,(IntKind.wrap .i64 (d.clock+(1:Int)))⟩:A2)]) kr kr kr (hx:=kr) kr (by simp) ⟨by decide,by kernel_rfl⟩ rfl (by intro q;first|(subst q;rfl)|(rw [q];rfl)|(simp only [q];rfl)) (by show _*32≤140737488355328;first|omega|(simp only [List.length_append,List.length_cons,List.length_nil,List.length_set,List.length_replicate];omega)|(simp;omega)) sd) le<|Aq (AV.loc 3 0 1) ?_
 refine Sp 3 ⟨30,2,[(AV.st [(Ag d),(AV.own 6 0 ((cell++[(⟨name,content,(IntKind.wrap .i64 (d.clock+(1:Int)))⟩:A2)]).length))])]⟩<|Ad<|Sq<|Sq<|Rg<|Aq (AV.loc 3 0 0)<|Aq (Ag d)<|Aq (AV.b (decide ((1048576:Int)<(IntKind.wrap .i64 (d.clock+(1:Int))))))<|Aq (AV.b (decide ((1048576:Int)<(IntKind.wrap .i64 (d.clock+(1:Int)))))) ?_
 cases c_13:decide ((1048576:Int)<(IntKind.wrap .i64 (d.clock+(1:Int))))
 have k_13:=of_decide_eq_false c_13
 refine Ay<|Aq (AV.loc 3 0 1)<|Ay<|Aq (AV.own 6 0 ((cell++[(⟨name,content,(IntKind.wrap .i64 (d.clock+(1:Int)))⟩:A2)]).length))<|Ay<|Aq (AV.i .i64 (((cell++[(⟨name,content,(IntKind.wrap .i64 (d.clock+(1:Int)))⟩:A2)]).length:Nat):Int))<|Ay<|Aq (AV.b (decide ((64:Int)<(((cell++[(⟨name,content,(IntKind.wrap .i64 (d.clock+(1:Int)))⟩:A2)]).length:Nat):Int))))<|Aq (AV.b (decide ((64:Int)<(((cell++[(⟨name,content,(IntKind.wrap .i64 (d.clock+(1:Int)))⟩:A2)]).length:Nat):Int))))<|Ad ?_
 cases c_14:decide ((64:Int)<(((cell++[(⟨name,content,(IntKind.wrap .i64 (d.clock+(1:Int)))⟩:A2)]).length:Nat):Int))
 have k_14:=of_decide_eq_false c_14
 refine Cf<|A8.skip<|Sq<|Rg<|Aq (AV.st [(Ag d),(AV.own 6 0 ((cell++[(⟨name,content,(IntKind.wrap .i64 (d.clock+(1:Int)))⟩:A2)]).length))])<|Sp 1 ⟨30,2,[(AV.st [(Ag d),(AV.own 6 0 ((cell++[(⟨name,content,(IntKind.wrap .i64 (d.clock+(1:Int)))⟩:A2)]).length))])]⟩<|Aq (AV.i .i64 (0:Int))<|Ad<|Rt ?_
 have hM:E5 d name content=((⟨(IntKind.wrap .i64 (d.clock+(1:Int))),(cell++[(⟨name,content,(IntKind.wrap .i64 (d.clock+(1:Int)))⟩:A2)])⟩:A9),(0:Int)):=by simp only [E5,c_1,c_2,c_3,hR1,c_9,c_13,c_14,AJ]
 refine ⟨Or.inr rfl,(AV.tup [(AV.st [(Ag d),(AV.own 6 0 ((cell++[(⟨name,content,(IntKind.wrap .i64 (d.clock+(1:Int)))⟩:A2)]).length))]),(AV.i .i64 (0:Int))]),kr,?_⟩
 rw [hM]
 exact AU.cast (x':=(AV.tup [(AV.st [(Ag d),(AV.own 6 0 ((cell++[(⟨name,content,(IntKind.wrap .i64 (d.clock+(1:Int)))⟩:A2)]).length))]),(AV.i .i64 (0:Int))])) (y':=(AV.tup [(A9.av (((⟨(IntKind.wrap .i64 (d.clock+(1:Int))),(cell++[(⟨name,content,(IntKind.wrap .i64 (d.clock+(1:Int)))⟩:A2)])⟩:A9),(0:Int)).1)),(AV.i .i64 (((⟨(IntKind.wrap .i64 (d.clock+(1:Int))),(cell++[(⟨name,content,(IntKind.wrap .i64 (d.clock+(1:Int)))⟩:A2)])⟩:A9),(0:Int)).2))])) kr kr (AU.tup ⟨(AU.st ⟨Ec,⟨(EF.kk (x':=(AV.own 6 0 ((cell++[(⟨name,content,(IntKind.wrap .i64 (d.clock+(1:Int)))⟩:A2)]).length))) kr kr rfl (Ak.row (fun _=>rfl) (A:=A2.av) (id:=6) (e:=85) (k:=3) (xs:=(cell++[(⟨name,content,(IntKind.wrap .i64 (d.clock+(1:Int)))⟩:A2)])) rfl rfl rfl sd)),trivial⟩⟩ kr),⟨Ec,trivial⟩⟩ kr)
 have k_14:=of_decide_eq_true c_14
 refine Ct<|Sq<|Rg<|Nb Bc<|Sp 1 Ax<|Aq (AV.i .i64 (1201:Int))<|Ad<|Rt ?_
 have hM:E5 d name content=((⟨(0:Int),[]⟩:A9),(1201:Int)):=by simp only [E5,c_1,c_2,c_3,hR1,c_9,c_13,c_14,AJ]
 refine ⟨Or.inr rfl,BH,kr,?_⟩
 rw [hM]
 exact AU.cast (x':=BH) (y':=Dd) kr kr (AU.tup ⟨(AU.st ⟨Ec,⟨(AU.w rfl (AL.nil 3)),trivial⟩⟩ kr),⟨Ec,trivial⟩⟩ kr)
 have k_13:=of_decide_eq_true c_13
 refine An<|An<|An<|An<|Aq (AV.b true)<|Ad<|Ct<|Sq<|Rg<|Nb Bc<|Sp 1 Ax<|Aq (AV.i .i64 (1201:Int))<|Ad<|Rt ?_
 have hM:E5 d name content=((⟨(0:Int),[]⟩:A9),(1201:Int)):=by simp only [E5,c_1,c_2,c_3,hR1,c_9,c_13,AJ]
 refine ⟨Or.inr rfl,BH,kr,?_⟩
 rw [hM]
 exact AU.cast (x':=BH) (y':=Dd) kr kr (AU.tup ⟨(AU.st ⟨Ec,⟨(AU.w rfl (AL.nil 3)),trivial⟩⟩ kr),⟨Ec,trivial⟩⟩ kr)
 refine Ct<|Sq<|Rg<|Nb Bc<|Sp 1 Ax<|Aq (AV.i .i64 (1200:Int))<|Ad<|Rt ?_
 have hM:E5 d name content=((⟨(0:Int),[]⟩:A9),(1200:Int)):=by simp only [E5,c_1,c_2,c_3,AJ]
 refine ⟨Or.inr rfl,Ce,kr,?_⟩
 rw [hM]
 exact AU.cast (x':=Ce) (y':=Eu) kr kr (AU.tup ⟨(AU.st ⟨Ec,⟨(AU.w rfl (AL.nil 3)),trivial⟩⟩ kr),⟨Ec,trivial⟩⟩ kr)
 refine An<|An<|An<|Aq (AV.b true)<|Ad<|Ct<|Sq<|Rg<|Nb Bc<|Sp 1 Ax<|Aq (AV.i .i64 (1200:Int))<|Ad<|Rt ?_
 have hM:E5 d name content=((⟨(0:Int),[]⟩:A9),(1200:Int)):=by simp only [E5,c_1,c_2,AJ]
 refine ⟨Or.inr rfl,Ce,kr,?_⟩
 rw [hM]
 exact AU.cast (x':=Ce) (y':=Eu) kr kr (AU.tup ⟨(AU.st ⟨Ec,⟨(AU.w rfl (AL.nil 3)),trivial⟩⟩ kr),⟨Ec,trivial⟩⟩ kr)
 refine An<|An<|An<|Aq (AV.b true)<|Aq (AV.b true)<|An<|An<|An<|Aq (AV.b true)<|Ad<|Ct<|Sq<|Rg<|Nb Bc<|Sp 1 Ax<|Aq (AV.i .i64 (1200:Int))<|Ad<|Rt ?_
 have hM:E5 d name content=((⟨(0:Int),[]⟩:A9),(1200:Int)):=by simp only [E5,c_1,AJ]
 refine ⟨Or.inr rfl,Ce,kr,?_⟩
 rw [hM]
 exact AU.cast (x':=Ce) (y':=Eu) kr kr (AU.tup ⟨(AU.st ⟨Ec,⟨(AU.w rfl (AL.nil 3)),trivial⟩⟩ kr),⟨Ec,trivial⟩⟩ kr)
def EX:AV:=(AV.st [(AV.own 9 0 3),(AV.own 10 0 1),(AV.own 11 0 1)])
def Hd:AV:=(AV.st [(AV.own 1 0 1),(AV.own 2 0 2),(AV.sl 1 true []),(AV.sl 1 true []),(AV.s (⟨#[97,114]⟩:ByteArray)),(AV.b false),(AV.s (⟨#[]⟩:ByteArray))])
def Hc:AV:=(AV.st [(AV.own 3 0 2),(AV.own 4 0 1),(AV.own 5 0 1),(AV.sl 1 true []),(AV.s (⟨#[99,99,32,97]⟩:ByteArray)),(AV.b true),(AV.s (⟨#[116,119,111]⟩:ByteArray))])
def Hb:AV:=(AV.st [(AV.own 6 0 1),(AV.own 7 0 1),(AV.sl 1 true []),(AV.own 8 0 1),(AV.s (⟨#[99,99,32,98]⟩:ByteArray)),(AV.b false),(AV.s (⟨#[116,119,111]⟩:ByteArray))])
def EW:AV:=(AV.st [(AV.own 9 0 3),(AV.own 10 0 1),(AV.own 11 0 1),(AV.own 16 0 1),(AV.i .i64 (4:Int)),(AV.own 13 0 4),(AV.sl 3 true []),(AV.sl 3 true []),(AV.i .i64 (2:Int)),(AV.b false),(AV.sl 1 true [])])
theorem Fe (W:World):Aj Go.Proofs.Tryz.prog W 29 [] (AV.st [(AV.own 0 0 3),(AV.own 9 0 1),(AV.own 10 0 1),(AV.own 11 0 1),(AV.i .i64 (4:Int)),(AV.own 13 0 4),(AV.sl 3 true []),(AV.sl 3 true []),(AV.i .i64 (2:Int)),(AV.b false),(AV.sl 1 true [])]) [⟨65,7,[(AV.st [(AV.own 1 0 1),(AV.own 2 0 2),(AV.sl 1 true []),(AV.sl 1 true []),(AV.s (⟨#[97,114]⟩:ByteArray)),(AV.b false),(AV.s (⟨#[]⟩:ByteArray))]),(AV.st [(AV.own 3 0 2),(AV.own 4 0 1),(AV.own 5 0 1),(AV.sl 1 true []),(AV.s (⟨#[99,99,32,97]⟩:ByteArray)),(AV.b true),(AV.s (⟨#[116,119,111]⟩:ByteArray))]),(AV.st [(AV.own 6 0 1),(AV.own 7 0 1),(AV.sl 1 true []),(AV.own 8 0 1),(AV.s (⟨#[99,99,32,98]⟩:ByteArray)),(AV.b false),(AV.s (⟨#[116,119,111]⟩:ByteArray))])]⟩,⟨9,1,[(⟨#[108,105,98]⟩:ByteArray)].map AV.s⟩,⟨9,1,[(⟨#[97,46,111]⟩:ByteArray),(⟨#[98,46,111]⟩:ByteArray)].map AV.s⟩,⟨9,1,[(⟨#[97,46,111]⟩:ByteArray),(⟨#[97,46,100]⟩:ByteArray)].map AV.s⟩,⟨9,1,[(⟨#[97,46,99]⟩:ByteArray)].map AV.s⟩,⟨9,1,[(⟨#[97,46,104]⟩:ByteArray)].map AV.s⟩,⟨9,1,[(⟨#[98,46,111]⟩:ByteArray)].map AV.s⟩,⟨9,1,[(⟨#[98,46,99]⟩:ByteArray)].map AV.s⟩,⟨9,1,[(⟨#[97,46,111]⟩:ByteArray)].map AV.s⟩,⟨122,2,[(⟨(⟨#[116,119,111]⟩:ByteArray),(2:Int)⟩:BD)].map BD.av⟩,⟨9,1,[(⟨#[108,105,98]⟩:ByteArray)].map AV.s⟩,⟨67,3,[(AV.st [(AV.s (⟨#[99,99,32,97]⟩:ByteArray)),(AV.own 12 0 1),(AV.b false)])]⟩,⟨9,1,[(⟨#[122,46,104]⟩:ByteArray)].map AV.s⟩,⟨85,3,[AA,AC,AD,AB].map A2.av⟩]:=by
 refine RV A5 (fn:=Go.Proofs.Tryz.f29) Go.Proofs.Tryz.func29 rfl (en29 W) le<|Sq<|Rg<|Nn (AV.loc 0 0 0) ⟨35,11,[(AV.st [(AV.sl 7 true []),(AV.sl 2 true []),(AV.sl 1 true []),(AV.sl 3 true []),(AV.i .i64 (0:Int)),(AV.sl 3 true []),(AV.sl 3 true []),(AV.sl 3 true []),(AV.i .i64 (0:Int)),(AV.b false),(AV.sl 1 true [])])]⟩<|Ad<|Sq<|Rg<|Nn (AV.own 1 0 1) ⟨9,1,[(⟨#[108,105,98]⟩:ByteArray)].map AV.s⟩<|Nn (AV.own 2 0 2) ⟨9,1,[(⟨#[97,46,111]⟩:ByteArray),(⟨#[98,46,111]⟩:ByteArray)].map AV.s⟩<|Nb Hd<|Nn (AV.own 3 0 2) ⟨9,1,[(⟨#[97,46,111]⟩:ByteArray),(⟨#[97,46,100]⟩:ByteArray)].map AV.s⟩<|Nn (AV.own 4 0 1) ⟨9,1,[(⟨#[97,46,99]⟩:ByteArray)].map AV.s⟩<|Nn (AV.own 5 0 1) ⟨9,1,[(⟨#[97,46,104]⟩:ByteArray)].map AV.s⟩<|Nb Hc<|Nn (AV.own 6 0 1) ⟨9,1,[(⟨#[98,46,111]⟩:ByteArray)].map AV.s⟩<|Nn (AV.own 7 0 1) ⟨9,1,[(⟨#[98,46,99]⟩:ByteArray)].map AV.s⟩<|Nn (AV.own 8 0 1) ⟨9,1,[(⟨#[97,46,111]⟩:ByteArray)].map AV.s⟩<|Nb Hb ?_
 refine Nn (AV.own 9 0 3) ⟨65,7,[Hd,Hc,Hb]⟩<|Nb (AV.st [(AV.s (⟨#[116,119,111]⟩:ByteArray)),(AV.i .i64 (2:Int))])<|Nn (AV.own 10 0 1) ⟨122,2,[(⟨(⟨#[116,119,111]⟩:ByteArray),(2:Int)⟩:BD)].map BD.av⟩<|Nn (AV.own 11 0 1) ⟨9,1,[(⟨#[108,105,98]⟩:ByteArray)].map AV.s⟩<|Nb EX<|Nn (AV.loc 12 0 0) ⟨26,3,[(AV.st [(AV.sl 7 true []),(AV.sl 2 true []),(AV.sl 1 true [])])]⟩<|Sp 12 ⟨26,3,[EX]⟩<|Ad<|Sq<|Rg<|Nb (AV.st [(AV.s (⟨#[97,46,99]⟩:ByteArray)),(AV.i .i64 (1:Int)),(AV.i .i64 (1:Int))])<|Nb (AV.st [(AV.s (⟨#[97,46,104]⟩:ByteArray)),(AV.i .i64 (2:Int)),(AV.i .i64 (2:Int))])<|Nb (AV.st [(AV.s (⟨#[98,46,99]⟩:ByteArray)),(AV.i .i64 (3:Int)),(AV.i .i64 (3:Int))])<|Nb (AV.st [(AV.s (⟨#[122,46,104]⟩:ByteArray)),(AV.i .i64 (4:Int)),(AV.i .i64 (4:Int))])<|Nn (AV.own 13 0 4) ⟨85,3,[AA,AC,AD,AB].map A2.av⟩ ?_
 refine Nb (AV.st [(AV.i .i64 (4:Int)),(AV.own 13 0 4)])<|Nn (AV.loc 14 0 0) ⟨30,2,[(AV.st [(AV.i .i64 (0:Int)),(AV.sl 3 true [])])]⟩<|Sp 14 ⟨30,2,[(AV.st [(AV.i .i64 (4:Int)),(AV.own 13 0 4)])]⟩<|Ad<|Sq<|Rg<|Aq EX<|Nn (AV.own 15 0 1) ⟨9,1,[(⟨#[122,46,104]⟩:ByteArray)].map AV.s⟩<|Nb (AV.st [(AV.s (⟨#[99,99,32,97]⟩:ByteArray)),(AV.own 15 0 1),(AV.b false)])<|Nn (AV.own 16 0 1) ⟨67,3,[(AV.st [(AV.s (⟨#[99,99,32,97]⟩:ByteArray)),(AV.own 15 0 1),(AV.b false)])]⟩<|Aq (AV.st [(AV.i .i64 (4:Int)),(AV.own 13 0 4)])<|Nb EW<|Sp 0 ⟨35,11,[EW]⟩<|Ad<|Rt ?_
 have hM:JW=AK:=by simp only [JW,AJ]
 exact ⟨[9,1,2,3,4,5,6,7,8,10,11,16,15,13],Or.inr rfl,by decide,rfl,⟨kr,⟨kr,⟨kr,⟨kr,⟨kr,⟨kr,⟨kr,⟨kr,⟨kr,⟨kr,⟨kr,⟨kr,⟨kr,⟨kr,trivial⟩⟩⟩⟩⟩⟩⟩⟩⟩⟩⟩⟩⟩⟩,EW,kr,kr⟩
def Bm:AV:=(AV.s (⟨#[]⟩:ByteArray))
def Cp:AV:=(AV.s (⟨#[97,114]⟩:ByteArray))
def B2:AV:=(AV.s (⟨#[116,119,111]⟩:ByteArray))
def C6:AV:=(AV.s (⟨#[99,99,32,98]⟩:ByteArray))
def AW:AV:=(AV.s (⟨#[99,99,32,97]⟩:ByteArray))
def DB:AV:=(AV.st [AW,(AV.own 12 0 1),(AV.b false)])
def Ha:AV:=(AV.st [(AV.own 1 0 1),(AV.own 2 0 2),(AV.sl 1 true []),(AV.sl 1 true []),Bm,(AV.b false),Bm])
def EV:AV:=(AV.st [(AV.own 1 0 1),(AV.own 2 0 2),(AV.sl 1 true []),(AV.sl 1 true []),Cp,(AV.b false),Bm])
def H9:AV:=(AV.st [(AV.own 15 0 1),(AV.own 16 0 2),(AV.sl 1 true []),(AV.sl 1 true []),Cp,(AV.b false),Bm])
def CL:AV:=(AV.st [(AV.own 3 0 2),(AV.own 4 0 1),(AV.own 5 0 1),(AV.sl 1 true []),AW,(AV.b true),B2])
def CK:AV:=(AV.st [(AV.own 6 0 1),(AV.own 7 0 1),(AV.sl 1 true []),(AV.own 8 0 1),C6,(AV.b false),B2])
def H8:AV:=(AV.st [(AV.own 17 0 2),(AV.own 18 0 1),(AV.own 19 0 1),(AV.sl 1 true []),AW,(AV.b true),B2])
def H7:AV:=(AV.st [(AV.own 20 0 1),(AV.own 21 0 1),(AV.sl 1 true []),(AV.own 22 0 1),C6,(AV.b false),B2])
def CJ:AV:=(AV.st [(AV.own 0 0 3),(AV.own 9 0 1),(AV.own 10 0 1),(AV.own 11 0 1),(AV.i .i64 (4:Int)),(AV.own 13 0 4),(AV.sl 3 true []),(AV.sl 3 true []),(AV.i .i64 (2:Int)),(AV.b false),(AV.sl 1 true [])])
def DA:AV:=(AV.st [(AV.own 14 0 3),(AV.own 23 0 1),(AV.own 24 0 1),(AV.own 25 0 1),(AV.i .i64 (4:Int)),(AV.own 27 0 4),(AV.sl 3 true []),(AV.sl 3 true []),(AV.i .i64 (2:Int)),(AV.b false),(AV.sl 1 true [])])
def H6:AV:=((Ar 3 A2.av) [AA,AC,AD,AB])
def Dz:AV:=((Ar 3 A2.av) (([AA,AC,AD,AB].take [AA,AC,AD,AB].length).drop 1))
def C5:AV:=(AV.st [(AV.own 0 0 3),(AV.own 9 0 1),(AV.own 10 0 1),(AV.own 11 0 1),(AV.i .i64 (4:Int)),Dz,(AV.sl 3 true []),(AV.sl 3 true []),(AV.i .i64 (2:Int)),(AV.b false),(AV.sl 1 true [])])
def Dx:AV:=(A7.av AK)
def Co:AV:=(AV.i .i64 ((DI AK).2))
def Cd:AV:=((Ar 1 AV.b) ((DI AK).1))
def CY:AV:=(AV.i .i64 ((Db AK (3:Int)).2))
def BX:AV:=(AV.i .i64 ((Db AK (1:Int)).2))
def CX:AV:=(AV.i .i64 ((DI (⟨EM,[BG],(⟨(4:Int),(([AA,AC,AD,AB].take [AA,AC,AD,AB].length).drop 1)⟩:A9),[],[],(2:Int),false,[]⟩:A7)).2))
def CW:AV:=(AV.i .i64 ((Db (⟨CG,[BG],(⟨(4:Int),(([AA,AC,AD,AB].take [AA,AC,AD,AB].length).drop 1)⟩:A9),[],[],(2:Int),false,[]⟩:A7) (1:Int)).2))
def I1:AV:=(AV.tup [AV.und,CX])
def I0:AV:=(AV.tup [Cd,Co])
def HZ:AV:=(AV.tup [(AV.b ((Db AK (3:Int)).1)),CY])
def HY:AV:=(AV.tup [(AV.b ((Db (⟨CG,[BG],(⟨(4:Int),(([AA,AC,AD,AB].take [AA,AC,AD,AB].length).drop 1)⟩:A9),[],[],(2:Int),false,[]⟩:A7) (1:Int)).1)),CW])
theorem OK (W:World) {m0:Int} (hW:W.cell? ⟨0,0,none⟩=some (.int .i64 m0)):Aj Go.Proofs.Tryz.prog W 25 [] (AV.b KN) []:=by
 refine Ae (fn:=Go.Proofs.Tryz.f25) Go.Proofs.Tryz.func25 rfl (en25 W) (ts:=[0]) rfl le<|Sq<|Rg<|Aq (AV.b false)<|Ad<|Sq<|Rg<|Sc CJ (Fe W)<|A1.sfw (vs:=[CJ,(AV.i .i64 (1:Int))]) (ss:=[Dx,(AV.i .i64 (1:Int))]) (r0:=(AV.tup [(AV.b ((Db AK (1:Int)).1)),BX])) kr (show Bp _ _ _ from ⟨(Ak.w (Ak.cast (x':=CJ) kr kr (Ak.st (Ah.cons (Ak.own (id:=0) (len:=3) (e:=65) (k:=7) (els:=[EV,CL,CK]) rfl rfl rfl sd (Bn.cons (Dw.st (Ah.cons (Ak.row (fun _=>rfl) (A:=AV.s) (id:=1) (e:=9) (k:=1) (xs:=[(⟨#[108,105,98]⟩:ByteArray)]) rfl rfl sd sd) (Ah.cons (Ak.row (fun _=>rfl) (A:=AV.s) (id:=2) (e:=9) (k:=1) (xs:=[(⟨#[97,46,111]⟩:ByteArray),(⟨#[98,46,111]⟩:ByteArray)]) rfl rfl sd sd) (Ah.cons (Ak.c rfl (AL.nil 1)) (Ah.cons (Ak.c rfl (AL.nil 1)) (Ah.cons (Aw (x:=Cp) kr) (Ah.cons (Aw (x:=(AV.b false)) kr) (Ah.cons (Aw (x:=Bm) kr) Ah.nil)))))))) (Bn.cons (Dw.st (Ah.cons (Ak.row (fun _=>rfl) (A:=AV.s) (id:=3) (e:=9) (k:=1) (xs:=[(⟨#[97,46,111]⟩:ByteArray),(⟨#[97,46,100]⟩:ByteArray)]) rfl rfl sd sd) (Ah.cons (Ak.row (fun _=>rfl) (A:=AV.s) (id:=4) (e:=9) (k:=1) (xs:=[(⟨#[97,46,99]⟩:ByteArray)]) rfl rfl sd sd) (Ah.cons (Ak.row (fun _=>rfl) (A:=AV.s) (id:=5) (e:=9) (k:=1) (xs:=[(⟨#[97,46,104]⟩:ByteArray)]) rfl rfl sd sd) (Ah.cons (Ak.c rfl (AL.nil 1)) (Ah.cons (Aw (x:=AW) kr) (Ah.cons (Aw (x:=(AV.b true)) kr) (Ah.cons (Aw (x:=B2) kr) Ah.nil)))))))) (Bn.cons (Dw.st (Ah.cons (Ak.row (fun _=>rfl) (A:=AV.s) (id:=6) (e:=9) (k:=1) (xs:=[(⟨#[98,46,111]⟩:ByteArray)]) rfl rfl sd sd) (Ah.cons (Ak.row (fun _=>rfl) (A:=AV.s) (id:=7) (e:=9) (k:=1) (xs:=[(⟨#[98,46,99]⟩:ByteArray)]) rfl rfl sd sd) (Ah.cons (Ak.c rfl (AL.nil 1)) (Ah.cons (Ak.row (fun _=>rfl) (A:=AV.s) (id:=8) (e:=9) (k:=1) (xs:=[(⟨#[97,46,111]⟩:ByteArray)]) rfl rfl sd sd) (Ah.cons (Aw (x:=C6) kr) (Ah.cons (Aw (x:=(AV.b false)) kr) (Ah.cons (Aw (x:=B2) kr) Ah.nil)))))))) Bn.nil)))) (Ah.cons (Ak.row (fun _=>rfl) (A:=BD.av) (id:=9) (e:=122) (k:=2) (xs:=[(⟨(⟨#[116,119,111]⟩:ByteArray),(2:Int)⟩:BD)]) rfl rfl sd sd) (Ah.cons (Ak.row (fun _=>rfl) (A:=AV.s) (id:=10) (e:=9) (k:=1) (xs:=[(⟨#[108,105,98]⟩:ByteArray)]) rfl rfl sd sd) (Ah.cons (Ak.own (id:=11) (len:=1) (e:=67) (k:=3) (els:=[DB]) rfl rfl rfl sd (Bn.cons (Dw.st (Ah.cons (Aw (x:=AW) kr) (Ah.cons (Ak.row (fun _=>rfl) (A:=AV.s) (id:=12) (e:=9) (k:=1) (xs:=[(⟨#[122,46,104]⟩:ByteArray)]) rfl rfl sd sd) (Ah.cons (Aw (x:=(AV.b false)) kr) Ah.nil)))) Bn.nil)) (Ah.cons (Aw (x:=(AV.i .i64 (4:Int))) kr) (Ah.cons (Ak.row (fun _=>rfl) (A:=A2.av) (id:=13) (e:=85) (k:=3) (xs:=[AA,AC,AD,AB]) rfl rfl sd sd) (Ah.cons (Ak.c rfl (AL.nil 3)) (Ah.cons (Ak.c rfl (AL.nil 3)) (Ah.cons (Aw (x:=(AV.i .i64 (2:Int))) kr) (Ah.cons (Aw (x:=(AV.b false)) kr) (Ah.cons (Ak.c rfl (AL.nil 1)) Ah.nil)))))))))))))),⟨(Bp.e kr),trivial⟩⟩) (Hl W hW AK (1:Int) sd) rfl kr le ?_
 refine Aq (AV.tup [(AV.b ((Db AK (1:Int)).1)),BX]) ?_
 refine Aq (AV.b ((Db AK (1:Int)).1))<|Aq BX ?_
 refine Aq (AV.b ((Db AK (1:Int)).1))<|Aq BX ?_
 refine Ad<|Sq<|M2<|IP.run A5 1 le<|Sc DA (Fe W)<|Ad<|OQ (UW.fits [] (env1:=[(1,(AV.b ((Db AK (1:Int)).1))),(2,BX),(18,Dx)]) (h1:=⟨0,[]⟩) ⟨by decide,rfl,A0.nil,(Ee (Ee (Am.cons (AU.st ⟨(EF.kk (x':=(AV.own 14 0 3)) kr kr rfl (Ak.own (id:=14) (len:=3) (e:=65) (k:=7) (els:=[H9,H8,H7]) rfl rfl rfl sd (Bn.cons (Dw.st (Ah.cons (Ak.row (fun _=>rfl) (A:=AV.s) (id:=15) (e:=9) (k:=1) (xs:=[(⟨#[108,105,98]⟩:ByteArray)]) rfl rfl sd sd) (Ah.cons (Ak.row (fun _=>rfl) (A:=AV.s) (id:=16) (e:=9) (k:=1) (xs:=[(⟨#[97,46,111]⟩:ByteArray),(⟨#[98,46,111]⟩:ByteArray)]) rfl rfl sd sd) (Ah.cons (Ak.c rfl (AL.nil 1)) (Ah.cons (Ak.c rfl (AL.nil 1)) (Ah.cons (Aw (x:=Cp) kr) (Ah.cons (Aw (x:=(AV.b false)) kr) (Ah.cons (Aw (x:=Bm) kr) Ah.nil)))))))) (Bn.cons (Dw.st (Ah.cons (Ak.row (fun _=>rfl) (A:=AV.s) (id:=17) (e:=9) (k:=1) (xs:=[(⟨#[97,46,111]⟩:ByteArray),(⟨#[97,46,100]⟩:ByteArray)]) rfl rfl sd sd) (Ah.cons (Ak.row (fun _=>rfl) (A:=AV.s) (id:=18) (e:=9) (k:=1) (xs:=[(⟨#[97,46,99]⟩:ByteArray)]) rfl rfl sd sd) (Ah.cons (Ak.row (fun _=>rfl) (A:=AV.s) (id:=19) (e:=9) (k:=1) (xs:=[(⟨#[97,46,104]⟩:ByteArray)]) rfl rfl sd sd) (Ah.cons (Ak.c rfl (AL.nil 1)) (Ah.cons (Aw (x:=AW) kr) (Ah.cons (Aw (x:=(AV.b true)) kr) (Ah.cons (Aw (x:=B2) kr) Ah.nil)))))))) (Bn.cons (Dw.st (Ah.cons (Ak.row (fun _=>rfl) (A:=AV.s) (id:=20) (e:=9) (k:=1) (xs:=[(⟨#[98,46,111]⟩:ByteArray)]) rfl rfl sd sd) (Ah.cons (Ak.row (fun _=>rfl) (A:=AV.s) (id:=21) (e:=9) (k:=1) (xs:=[(⟨#[98,46,99]⟩:ByteArray)]) rfl rfl sd sd) (Ah.cons (Ak.c rfl (AL.nil 1)) (Ah.cons (Ak.row (fun _=>rfl) (A:=AV.s) (id:=22) (e:=9) (k:=1) (xs:=[(⟨#[97,46,111]⟩:ByteArray)]) rfl rfl sd sd) (Ah.cons (Aw (x:=C6) kr) (Ah.cons (Aw (x:=(AV.b false)) kr) (Ah.cons (Aw (x:=B2) kr) Ah.nil)))))))) Bn.nil))))),⟨(EF.kk (x':=(AV.own 23 0 1)) kr kr rfl (Ak.row (fun _=>rfl) (A:=BD.av) (id:=23) (e:=122) (k:=2) (xs:=[(⟨(⟨#[116,119,111]⟩:ByteArray),(2:Int)⟩:BD)]) rfl rfl sd sd)),⟨(EF.kk (x':=(AV.own 24 0 1)) kr kr rfl (Ak.row (fun _=>rfl) (A:=AV.s) (id:=24) (e:=9) (k:=1) (xs:=[(⟨#[108,105,98]⟩:ByteArray)]) rfl rfl sd sd)),⟨(EF.kk (x':=(AV.own 25 0 1)) kr kr rfl (Ak.own (id:=25) (len:=1) (e:=67) (k:=3) (els:=[(AV.st [AW,(AV.own 26 0 1),(AV.b false)])]) rfl rfl rfl sd (Bn.cons (Dw.st (Ah.cons (Aw (x:=AW) kr) (Ah.cons (Ak.row (fun _=>rfl) (A:=AV.s) (id:=26) (e:=9) (k:=1) (xs:=[(⟨#[122,46,104]⟩:ByteArray)]) rfl rfl sd sd) (Ah.cons (Aw (x:=(AV.b false)) kr) Ah.nil)))) Bn.nil))),⟨Ec,⟨(EF.kk (x':=(AV.own 27 0 4)) kr kr rfl (Ak.row (fun _=>rfl) (A:=A2.av) (id:=27) (e:=85) (k:=3) (xs:=[AA,AC,AD,AB]) rfl rfl sd sd)),⟨(AU.w rfl (AL.nil 3)),⟨(AU.w rfl (AL.nil 3)),⟨Ec,⟨Ec,⟨(AU.w rfl (AL.nil 1)),trivial⟩⟩⟩⟩⟩⟩⟩⟩⟩⟩⟩ kr) Am.nil)))⟩ Au) ?_
 refine IP.run A5 6 le<|A1.sc0 (vs:=[Dx]) (r0:=I0) kr kr (Hk W hW AK sd) kr le ?_
 refine Aq I0 ?_
 refine Aq Cd<|Aq Co ?_
 refine Aq Cd<|Aq Co ?_
 refine Ad<|IP.fin rfl<|Sq<|Rg<|Sc CJ (Fe W)<|Nn (AV.loc 14 0 0) ⟨35,11,[(AV.st [(AV.sl 7 true []),(AV.sl 2 true []),(AV.sl 1 true []),(AV.sl 3 true []),(AV.i .i64 (0:Int)),(AV.sl 3 true []),(AV.sl 3 true []),(AV.sl 3 true []),(AV.i .i64 (0:Int)),(AV.b false),(AV.sl 1 true [])])]⟩<|Sp 14 ⟨35,11,[CJ]⟩<|Ad<|Sq<|M2<|IP.run A5 3 le<|Aq (AV.loc 14 0 4)<|Aq (AV.loc 14 0 5)<|Aq (AV.own 13 0 4)<|Ad<|OQ (UW.fits [0,1,2,3,4,5,6,7,8,9,10,11,12,14] (env1:=[(1,(AV.b ((Db AK (1:Int)).1))),(2,BX),(3,Cd),(4,Co),(5,(AV.loc 13 0 0)),(25,H6)]) (h1:=⟨14,[(13,some ⟨35,11,[(AV.st [(AV.own 0 0 3),(AV.own 9 0 1),(AV.own 10 0 1),(AV.own 11 0 1),(AV.i .i64 (4:Int)),H6,(AV.sl 3 true []),(AV.sl 3 true []),(AV.i .i64 (2:Int)),(AV.b false),(AV.sl 1 true [])])]⟩),(12,some ⟨9,1,[(⟨#[122,46,104]⟩:ByteArray)].map AV.s⟩),(11,some ⟨67,3,[DB]⟩),(10,some ⟨9,1,[(⟨#[108,105,98]⟩:ByteArray)].map AV.s⟩),(9,some ⟨122,2,[(⟨(⟨#[116,119,111]⟩:ByteArray),(2:Int)⟩:BD)].map BD.av⟩),(8,some ⟨9,1,[(⟨#[97,46,111]⟩:ByteArray)].map AV.s⟩),(7,some ⟨9,1,[(⟨#[98,46,99]⟩:ByteArray)].map AV.s⟩),(6,some ⟨9,1,[(⟨#[98,46,111]⟩:ByteArray)].map AV.s⟩),(5,some ⟨9,1,[(⟨#[97,46,104]⟩:ByteArray)].map AV.s⟩),(4,some ⟨9,1,[(⟨#[97,46,99]⟩:ByteArray)].map AV.s⟩),(3,some ⟨9,1,[(⟨#[97,46,111]⟩:ByteArray),(⟨#[97,46,100]⟩:ByteArray)].map AV.s⟩),(2,some ⟨9,1,[(⟨#[97,46,111]⟩:ByteArray),(⟨#[98,46,111]⟩:ByteArray)].map AV.s⟩),(1,some ⟨9,1,[(⟨#[108,105,98]⟩:ByteArray)].map AV.s⟩),(0,some ⟨65,7,[EV,CL,CK]⟩)]⟩) ⟨by decide,rfl,(A0.cons kr (A0.cons (AQ (fun _=>rfl) (e:=9) (k:=1) (A:=AV.s) (xs:=[(⟨#[108,105,98]⟩:ByteArray)]) rfl rfl) (A0.cons (AQ (fun _=>rfl) (e:=9) (k:=1) (A:=AV.s) (xs:=[(⟨#[97,46,111]⟩:ByteArray),(⟨#[98,46,111]⟩:ByteArray)]) rfl rfl) (A0.cons (AQ (fun _=>rfl) (e:=9) (k:=1) (A:=AV.s) (xs:=[(⟨#[97,46,111]⟩:ByteArray),(⟨#[97,46,100]⟩:ByteArray)]) rfl rfl) (A0.cons (AQ (fun _=>rfl) (e:=9) (k:=1) (A:=AV.s) (xs:=[(⟨#[97,46,99]⟩:ByteArray)]) rfl rfl) (A0.cons (AQ (fun _=>rfl) (e:=9) (k:=1) (A:=AV.s) (xs:=[(⟨#[97,46,104]⟩:ByteArray)]) rfl rfl) (A0.cons (AQ (fun _=>rfl) (e:=9) (k:=1) (A:=AV.s) (xs:=[(⟨#[98,46,111]⟩:ByteArray)]) rfl rfl) (A0.cons (AQ (fun _=>rfl) (e:=9) (k:=1) (A:=AV.s) (xs:=[(⟨#[98,46,99]⟩:ByteArray)]) rfl rfl) (A0.cons (AQ (fun _=>rfl) (e:=9) (k:=1) (A:=AV.s) (xs:=[(⟨#[97,46,111]⟩:ByteArray)]) rfl rfl) (A0.cons (AQ (fun _=>rfl) (e:=122) (k:=2) (A:=BD.av) (xs:=[(⟨(⟨#[116,119,111]⟩:ByteArray),(2:Int)⟩:BD)]) rfl rfl) (A0.cons (AQ (fun _=>rfl) (e:=9) (k:=1) (A:=AV.s) (xs:=[(⟨#[108,105,98]⟩:ByteArray)]) rfl rfl) (A0.cons kr (A0.cons (AQ (fun _=>rfl) (e:=9) (k:=1) (A:=AV.s) (xs:=[(⟨#[122,46,104]⟩:ByteArray)]) rfl rfl) (A0.cons kr A0.nil)))))))))))))),(Ee (Ee (Ee (Ee (Am.cons (AU.f kr) (Am.cons (EF.kk (x':=(AV.own 13 0 4)) kr kr rfl (Ak.row (fun _=>rfl) (A:=A2.av) (id:=13) (e:=85) (k:=3) (xs:=[AA,AC,AD,AB]) rfl rfl sd sd)) Am.nil))))))⟩ Au) ?_
 refine IP.run A5 4 le<|Ap Dz (g_cutL (k:=3) (nl:=false) (e:=85) (l:=(some (1:Int))) (g:=none) (A:=A2.av) (xs:=[AA,AC,AD,AB]) (a:=1) (b:=[AA,AC,AD,AB].length) kr kr ⟨by kernel_rfl,by decide⟩ kr kr rfl rfl sd sd)<|Aq (AV.loc 13 0 4)<|Aq (AV.loc 13 0 5)<|Sp 13 ⟨35,11,[C5]⟩ ?_
 refine Ad<|IP.fin rfl<|Sq<|Rg<|Aq C5<|A1.sfw (vs:=[C5,(AV.i .i64 (1:Int))]) (ss:=[(A7.av (⟨CG,[BG],(⟨(4:Int),(([AA,AC,AD,AB].take [AA,AC,AD,AB].length).drop 1)⟩:A9),[],[],(2:Int),false,[]⟩:A7)),(AV.i .i64 (1:Int))]) (r0:=HY) kr (show Bp _ _ _ from ⟨(Ak.w (Ak.cast (x':=C5) kr kr (Ak.st (Ah.cons (Ak.own (id:=0) (len:=3) (e:=65) (k:=7) (els:=[EV,CL,CK]) rfl rfl rfl sd (Bn.cons (Dw.st (Ah.cons (Ak.row (fun _=>rfl) (A:=AV.s) (id:=1) (e:=9) (k:=1) (xs:=[(⟨#[108,105,98]⟩:ByteArray)]) rfl rfl sd sd) (Ah.cons (Ak.row (fun _=>rfl) (A:=AV.s) (id:=2) (e:=9) (k:=1) (xs:=[(⟨#[97,46,111]⟩:ByteArray),(⟨#[98,46,111]⟩:ByteArray)]) rfl rfl sd sd) (Ah.cons (Ak.c rfl (AL.nil 1)) (Ah.cons (Ak.c rfl (AL.nil 1)) (Ah.cons (Aw (x:=Cp) kr) (Ah.cons (Aw (x:=(AV.b false)) kr) (Ah.cons (Aw (x:=Bm) kr) Ah.nil)))))))) (Bn.cons (Dw.st (Ah.cons (Ak.row (fun _=>rfl) (A:=AV.s) (id:=3) (e:=9) (k:=1) (xs:=[(⟨#[97,46,111]⟩:ByteArray),(⟨#[97,46,100]⟩:ByteArray)]) rfl rfl sd sd) (Ah.cons (Ak.row (fun _=>rfl) (A:=AV.s) (id:=4) (e:=9) (k:=1) (xs:=[(⟨#[97,46,99]⟩:ByteArray)]) rfl rfl sd sd) (Ah.cons (Ak.row (fun _=>rfl) (A:=AV.s) (id:=5) (e:=9) (k:=1) (xs:=[(⟨#[97,46,104]⟩:ByteArray)]) rfl rfl sd sd) (Ah.cons (Ak.c rfl (AL.nil 1)) (Ah.cons (Aw (x:=AW) kr) (Ah.cons (Aw (x:=(AV.b true)) kr) (Ah.cons (Aw (x:=B2) kr) Ah.nil)))))))) (Bn.cons (Dw.st (Ah.cons (Ak.row (fun _=>rfl) (A:=AV.s) (id:=6) (e:=9) (k:=1) (xs:=[(⟨#[98,46,111]⟩:ByteArray)]) rfl rfl sd sd) (Ah.cons (Ak.row (fun _=>rfl) (A:=AV.s) (id:=7) (e:=9) (k:=1) (xs:=[(⟨#[98,46,99]⟩:ByteArray)]) rfl rfl sd sd) (Ah.cons (Ak.c rfl (AL.nil 1)) (Ah.cons (Ak.row (fun _=>rfl) (A:=AV.s) (id:=8) (e:=9) (k:=1) (xs:=[(⟨#[97,46,111]⟩:ByteArray)]) rfl rfl sd sd) (Ah.cons (Aw (x:=C6) kr) (Ah.cons (Aw (x:=(AV.b false)) kr) (Ah.cons (Aw (x:=B2) kr) Ah.nil)))))))) Bn.nil)))) (Ah.cons (Ak.row (fun _=>rfl) (A:=BD.av) (id:=9) (e:=122) (k:=2) (xs:=[(⟨(⟨#[116,119,111]⟩:ByteArray),(2:Int)⟩:BD)]) rfl rfl sd sd) (Ah.cons (Ak.row (fun _=>rfl) (A:=AV.s) (id:=10) (e:=9) (k:=1) (xs:=[(⟨#[108,105,98]⟩:ByteArray)]) rfl rfl sd sd) (Ah.cons (Ak.own (id:=11) (len:=1) (e:=67) (k:=3) (els:=[DB]) rfl rfl rfl sd (Bn.cons (Dw.st (Ah.cons (Aw (x:=AW) kr) (Ah.cons (Ak.row (fun _=>rfl) (A:=AV.s) (id:=12) (e:=9) (k:=1) (xs:=[(⟨#[122,46,104]⟩:ByteArray)]) rfl rfl sd sd) (Ah.cons (Aw (x:=(AV.b false)) kr) Ah.nil)))) Bn.nil)) (Ah.cons (Aw (x:=(AV.i .i64 (4:Int))) kr) (Ah.cons (Aw (x:=Dz) kr) (Ah.cons (Ak.c rfl (AL.nil 3)) (Ah.cons (Ak.c rfl (AL.nil 3)) (Ah.cons (Aw (x:=(AV.i .i64 (2:Int))) kr) (Ah.cons (Aw (x:=(AV.b false)) kr) (Ah.cons (Ak.c rfl (AL.nil 1)) Ah.nil)))))))))))))),⟨(Bp.e kr),trivial⟩⟩) (Hl W hW (⟨CG,[BG],(⟨(4:Int),(([AA,AC,AD,AB].take [AA,AC,AD,AB].length).drop 1)⟩:A9),[],[],(2:Int),false,[]⟩:A7) (1:Int) sd) rfl kr le ?_
 refine Aq HY ?_
 refine Aq (AV.b ((Db (⟨CG,[BG],(⟨(4:Int),(([AA,AC,AD,AB].take [AA,AC,AD,AB].length).drop 1)⟩:A9),[],[],(2:Int),false,[]⟩:A7) (1:Int)).1))<|Aq CW ?_
 refine Aq (AV.b ((Db (⟨CG,[BG],(⟨(4:Int),(([AA,AC,AD,AB].take [AA,AC,AD,AB].length).drop 1)⟩:A9),[],[],(2:Int),false,[]⟩:A7) (1:Int)).1))<|Aq CW ?_
 refine Ad<|Sq<|Rg<|Sc DA (Fe W)<|A1.sfw (vs:=[DA,(AV.i .i64 (3:Int))]) (ss:=[Dx,(AV.i .i64 (3:Int))]) (r0:=HZ) kr (show Bp _ _ _ from ⟨(Ak.w (Ak.cast (x':=DA) kr kr (Ak.st (Ah.cons (Ak.own (id:=14) (len:=3) (e:=65) (k:=7) (els:=[H9,H8,H7]) rfl rfl rfl sd (Bn.cons (Dw.st (Ah.cons (Ak.row (fun _=>rfl) (A:=AV.s) (id:=15) (e:=9) (k:=1) (xs:=[(⟨#[108,105,98]⟩:ByteArray)]) rfl rfl sd sd) (Ah.cons (Ak.row (fun _=>rfl) (A:=AV.s) (id:=16) (e:=9) (k:=1) (xs:=[(⟨#[97,46,111]⟩:ByteArray),(⟨#[98,46,111]⟩:ByteArray)]) rfl rfl sd sd) (Ah.cons (Ak.c rfl (AL.nil 1)) (Ah.cons (Ak.c rfl (AL.nil 1)) (Ah.cons (Aw (x:=Cp) kr) (Ah.cons (Aw (x:=(AV.b false)) kr) (Ah.cons (Aw (x:=Bm) kr) Ah.nil)))))))) (Bn.cons (Dw.st (Ah.cons (Ak.row (fun _=>rfl) (A:=AV.s) (id:=17) (e:=9) (k:=1) (xs:=[(⟨#[97,46,111]⟩:ByteArray),(⟨#[97,46,100]⟩:ByteArray)]) rfl rfl sd sd) (Ah.cons (Ak.row (fun _=>rfl) (A:=AV.s) (id:=18) (e:=9) (k:=1) (xs:=[(⟨#[97,46,99]⟩:ByteArray)]) rfl rfl sd sd) (Ah.cons (Ak.row (fun _=>rfl) (A:=AV.s) (id:=19) (e:=9) (k:=1) (xs:=[(⟨#[97,46,104]⟩:ByteArray)]) rfl rfl sd sd) (Ah.cons (Ak.c rfl (AL.nil 1)) (Ah.cons (Aw (x:=AW) kr) (Ah.cons (Aw (x:=(AV.b true)) kr) (Ah.cons (Aw (x:=B2) kr) Ah.nil)))))))) (Bn.cons (Dw.st (Ah.cons (Ak.row (fun _=>rfl) (A:=AV.s) (id:=20) (e:=9) (k:=1) (xs:=[(⟨#[98,46,111]⟩:ByteArray)]) rfl rfl sd sd) (Ah.cons (Ak.row (fun _=>rfl) (A:=AV.s) (id:=21) (e:=9) (k:=1) (xs:=[(⟨#[98,46,99]⟩:ByteArray)]) rfl rfl sd sd) (Ah.cons (Ak.c rfl (AL.nil 1)) (Ah.cons (Ak.row (fun _=>rfl) (A:=AV.s) (id:=22) (e:=9) (k:=1) (xs:=[(⟨#[97,46,111]⟩:ByteArray)]) rfl rfl sd sd) (Ah.cons (Aw (x:=C6) kr) (Ah.cons (Aw (x:=(AV.b false)) kr) (Ah.cons (Aw (x:=B2) kr) Ah.nil)))))))) Bn.nil)))) (Ah.cons (Ak.row (fun _=>rfl) (A:=BD.av) (id:=23) (e:=122) (k:=2) (xs:=[(⟨(⟨#[116,119,111]⟩:ByteArray),(2:Int)⟩:BD)]) rfl rfl sd sd) (Ah.cons (Ak.row (fun _=>rfl) (A:=AV.s) (id:=24) (e:=9) (k:=1) (xs:=[(⟨#[108,105,98]⟩:ByteArray)]) rfl rfl sd sd) (Ah.cons (Ak.own (id:=25) (len:=1) (e:=67) (k:=3) (els:=[(AV.st [AW,(AV.own 26 0 1),(AV.b false)])]) rfl rfl rfl sd (Bn.cons (Dw.st (Ah.cons (Aw (x:=AW) kr) (Ah.cons (Ak.row (fun _=>rfl) (A:=AV.s) (id:=26) (e:=9) (k:=1) (xs:=[(⟨#[122,46,104]⟩:ByteArray)]) rfl rfl sd sd) (Ah.cons (Aw (x:=(AV.b false)) kr) Ah.nil)))) Bn.nil)) (Ah.cons (Aw (x:=(AV.i .i64 (4:Int))) kr) (Ah.cons (Ak.row (fun _=>rfl) (A:=A2.av) (id:=27) (e:=85) (k:=3) (xs:=[AA,AC,AD,AB]) rfl rfl sd sd) (Ah.cons (Ak.c rfl (AL.nil 3)) (Ah.cons (Ak.c rfl (AL.nil 3)) (Ah.cons (Aw (x:=(AV.i .i64 (2:Int))) kr) (Ah.cons (Aw (x:=(AV.b false)) kr) (Ah.cons (Ak.c rfl (AL.nil 1)) Ah.nil)))))))))))))),⟨(Bp.e kr),trivial⟩⟩) (Hl W hW AK (3:Int) sd) rfl kr le ?_
 refine Aq HZ ?_
 refine Aq (AV.b ((Db AK (3:Int)).1))<|Aq CY ?_
 refine Aq (AV.b ((Db AK (3:Int)).1))<|Aq CY ?_
 refine Ad<|Sq<|Rg<|Aq (AV.loc 13 0 0)<|Aq (AV.loc 13 0 0)<|Aq (AV.own 0 0 3)<|Aq (AV.loc 0 0 0)<|Aq (AV.loc 0 0 4)<|Sp 0 ⟨65,7,[Ha,CL,CK]⟩<|Ad<|Sq<|Rg<|Aq C5<|A1.sfw (vs:=[C5]) (ss:=[(A7.av (⟨EM,[BG],(⟨(4:Int),(([AA,AC,AD,AB].take [AA,AC,AD,AB].length).drop 1)⟩:A9),[],[],(2:Int),false,[]⟩:A7))]) (r0:=I1) kr (show Bp _ _ _ from ⟨(Ak.w (Ak.cast (x':=C5) kr kr (Ak.st (Ah.cons (Ak.own (id:=0) (len:=3) (e:=65) (k:=7) (els:=[Ha,CL,CK]) rfl rfl rfl sd (Bn.cons (Dw.st (Ah.cons (Ak.row (fun _=>rfl) (A:=AV.s) (id:=1) (e:=9) (k:=1) (xs:=[(⟨#[108,105,98]⟩:ByteArray)]) rfl rfl sd sd) (Ah.cons (Ak.row (fun _=>rfl) (A:=AV.s) (id:=2) (e:=9) (k:=1) (xs:=[(⟨#[97,46,111]⟩:ByteArray),(⟨#[98,46,111]⟩:ByteArray)]) rfl rfl sd sd) (Ah.cons (Ak.c rfl (AL.nil 1)) (Ah.cons (Ak.c rfl (AL.nil 1)) (Ah.cons (Aw (x:=Bm) kr) (Ah.cons (Aw (x:=(AV.b false)) kr) (Ah.cons (Aw (x:=Bm) kr) Ah.nil)))))))) (Bn.cons (Dw.st (Ah.cons (Ak.row (fun _=>rfl) (A:=AV.s) (id:=3) (e:=9) (k:=1) (xs:=[(⟨#[97,46,111]⟩:ByteArray),(⟨#[97,46,100]⟩:ByteArray)]) rfl rfl sd sd) (Ah.cons (Ak.row (fun _=>rfl) (A:=AV.s) (id:=4) (e:=9) (k:=1) (xs:=[(⟨#[97,46,99]⟩:ByteArray)]) rfl rfl sd sd) (Ah.cons (Ak.row (fun _=>rfl) (A:=AV.s) (id:=5) (e:=9) (k:=1) (xs:=[(⟨#[97,46,104]⟩:ByteArray)]) rfl rfl sd sd) (Ah.cons (Ak.c rfl (AL.nil 1)) (Ah.cons (Aw (x:=AW) kr) (Ah.cons (Aw (x:=(AV.b true)) kr) (Ah.cons (Aw (x:=B2) kr) Ah.nil)))))))) (Bn.cons (Dw.st (Ah.cons (Ak.row (fun _=>rfl) (A:=AV.s) (id:=6) (e:=9) (k:=1) (xs:=[(⟨#[98,46,111]⟩:ByteArray)]) rfl rfl sd sd) (Ah.cons (Ak.row (fun _=>rfl) (A:=AV.s) (id:=7) (e:=9) (k:=1) (xs:=[(⟨#[98,46,99]⟩:ByteArray)]) rfl rfl sd sd) (Ah.cons (Ak.c rfl (AL.nil 1)) (Ah.cons (Ak.row (fun _=>rfl) (A:=AV.s) (id:=8) (e:=9) (k:=1) (xs:=[(⟨#[97,46,111]⟩:ByteArray)]) rfl rfl sd sd) (Ah.cons (Aw (x:=C6) kr) (Ah.cons (Aw (x:=(AV.b false)) kr) (Ah.cons (Aw (x:=B2) kr) Ah.nil)))))))) Bn.nil)))) (Ah.cons (Ak.row (fun _=>rfl) (A:=BD.av) (id:=9) (e:=122) (k:=2) (xs:=[(⟨(⟨#[116,119,111]⟩:ByteArray),(2:Int)⟩:BD)]) rfl rfl sd sd) (Ah.cons (Ak.row (fun _=>rfl) (A:=AV.s) (id:=10) (e:=9) (k:=1) (xs:=[(⟨#[108,105,98]⟩:ByteArray)]) rfl rfl sd sd) (Ah.cons (Ak.own (id:=11) (len:=1) (e:=67) (k:=3) (els:=[DB]) rfl rfl rfl sd (Bn.cons (Dw.st (Ah.cons (Aw (x:=AW) kr) (Ah.cons (Ak.row (fun _=>rfl) (A:=AV.s) (id:=12) (e:=9) (k:=1) (xs:=[(⟨#[122,46,104]⟩:ByteArray)]) rfl rfl sd sd) (Ah.cons (Aw (x:=(AV.b false)) kr) Ah.nil)))) Bn.nil)) (Ah.cons (Aw (x:=(AV.i .i64 (4:Int))) kr) (Ah.cons (Aw (x:=Dz) kr) (Ah.cons (Ak.c rfl (AL.nil 3)) (Ah.cons (Ak.c rfl (AL.nil 3)) (Ah.cons (Aw (x:=(AV.i .i64 (2:Int))) kr) (Ah.cons (Aw (x:=(AV.b false)) kr) (Ah.cons (Ak.c rfl (AL.nil 1)) Ah.nil)))))))))))))),trivial⟩) ((Hk W hW (⟨EM,[BG],(⟨(4:Int),(([AA,AC,AD,AB].take [AA,AC,AD,AB].length).drop 1)⟩:A9),[],[],(2:Int),false,[]⟩:A7) sd).res (IR.tup ⟨IR.und _,IR.refl _,trivial⟩)) rfl kr le ?_
 refine Aq I1<|Aq AV.und<|Aq CX ?_
 refine Aq AV.und<|Aq CX<|Ad<|Sq<|Rg<|Aq (AV.b ((Db AK (1:Int)).1)) ?_
 refine Aq (AV.b ((Db AK (1:Int)).1)) ?_
 cases c_1:(Db AK (1:Int)).1
 refine An<|An<|An<|Aq (AV.b false)<|Aq (AV.b false)<|An<|An<|An<|Aq (AV.b false)<|Aq (AV.b false)<|An<|An<|An<|Aq (AV.b false)<|Aq (AV.b false)<|An<|An<|An<|Aq (AV.b false)<|Aq (AV.b false)<|An<|An<|An<|Aq (AV.b false)<|Aq (AV.b false)<|An<|An<|An<|Aq (AV.b false)<|Aq (AV.b false)<|Ad<|Rt ?_
 exact Fb rfl (by simp only [KN,c_1,AJ])
 refine Ay<|Aq BX<|Ay<|A1.sc0 (vs:=[BX]) (r0:=(AV.i .i64 (CH ((Db AK (1:Int)).2)))) kr kr (Ew W ((Db AK (1:Int)).2)) kr le ?_
 refine Ay<|Aq (AV.b (decide ((CH ((Db AK (1:Int)).2))=(0:Int))))<|Aq (AV.b (decide ((CH ((Db AK (1:Int)).2))=(0:Int)))) ?_
 refine Aq (AV.b (decide ((CH ((Db AK (1:Int)).2))=(0:Int)))) ?_
 cases c_2:decide ((CH ((Db AK (1:Int)).2))=(0:Int))
 have k_2:=of_decide_eq_false c_2
 refine An<|An<|An<|Aq (AV.b false)<|Aq (AV.b false)<|An<|An<|An<|Aq (AV.b false)<|Aq (AV.b false)<|An<|An<|An<|Aq (AV.b false)<|Aq (AV.b false)<|An<|An<|An<|Aq (AV.b false)<|Aq (AV.b false)<|An<|An<|An<|Aq (AV.b false)<|Aq (AV.b false)<|Ad<|Rt ?_
 exact Fb rfl (by simp only [KN,c_1,c_2,AJ])
 have k_2:=of_decide_eq_true c_2
 refine Ay<|Aq Cd<|Ay<|Nn (AV.own 28 0 3) ⟨4,1,[true,true,true].map AV.b⟩<|Ay<|A1.sfw (vs:=[Cd,(AV.own 28 0 3)]) (ss:=[Cd,((Ar 1 AV.b) [true,true,true])]) (r0:=(AV.b (JN ((DI AK).1) [true,true,true]))) kr (show Bp _ _ _ from ⟨(Bp.e kr),⟨(Ak.w (Ak.cast (x':=(AV.own 28 0 3)) kr kr (Ak.row (fun _=>rfl) (A:=AV.b) (id:=28) (e:=4) (k:=1) (xs:=[true,true,true]) rfl rfl sd sd))),trivial⟩⟩) (I8 W ((DI AK).1) [true,true,true]) rfl kr le ?_
 refine Aq (AV.b (JN ((DI AK).1) [true,true,true]))<|Aq (AV.b (JN ((DI AK).1) [true,true,true])) ?_
 cases c_3:(JN ((DI AK).1) [true,true,true])
 refine An<|An<|An<|Aq (AV.b false)<|Aq (AV.b false)<|An<|An<|An<|Aq (AV.b false)<|Aq (AV.b false)<|An<|An<|An<|Aq (AV.b false)<|Aq (AV.b false)<|An<|An<|An<|Aq (AV.b false)<|Aq (AV.b false)<|Ad<|Rt ?_
 exact Fb rfl (by simp only [KN,c_1,c_2,c_3,AJ])
 refine Ay<|Aq Co<|Ay<|A1.sc0 (vs:=[Co]) (r0:=(AV.i .i64 (CH ((DI AK).2)))) kr kr (Ew W ((DI AK).2)) kr le ?_
 refine Ay<|Aq (AV.b (decide ((CH ((DI AK).2))=(0:Int))))<|Aq (AV.b (decide ((CH ((DI AK).2))=(0:Int)))) ?_
 refine Aq (AV.b (decide ((CH ((DI AK).2))=(0:Int)))) ?_
 cases c_4:decide ((CH ((DI AK).2))=(0:Int))
 have k_4:=of_decide_eq_false c_4
 refine An<|An<|An<|Aq (AV.b false)<|Aq (AV.b false)<|An<|An<|An<|Aq (AV.b false)<|Aq (AV.b false)<|An<|An<|An<|Aq (AV.b false)<|Aq (AV.b false)<|Ad<|Rt ?_
 exact Fb rfl (by simp only [KN,c_1,c_2,c_3,c_4,AJ])
 have k_4:=of_decide_eq_true c_4
 refine Ay<|Aq CW<|Ay<|A1.sc0 (vs:=[CW]) (r0:=(AV.i .i64 (CH ((Db (⟨CG,[BG],(⟨(4:Int),(([AA,AC,AD,AB].take [AA,AC,AD,AB].length).drop 1)⟩:A9),[],[],(2:Int),false,[]⟩:A7) (1:Int)).2)))) kr kr (Ew W ((Db (⟨CG,[BG],(⟨(4:Int),(([AA,AC,AD,AB].take [AA,AC,AD,AB].length).drop 1)⟩:A9),[],[],(2:Int),false,[]⟩:A7) (1:Int)).2)) kr le ?_
 refine Ay<|Aq (AV.b (decide ((CH ((Db (⟨CG,[BG],(⟨(4:Int),(([AA,AC,AD,AB].take [AA,AC,AD,AB].length).drop 1)⟩:A9),[],[],(2:Int),false,[]⟩:A7) (1:Int)).2))=(1901:Int)))) ?_
 refine Aq (AV.b (decide ((CH ((Db (⟨CG,[BG],(⟨(4:Int),(([AA,AC,AD,AB].take [AA,AC,AD,AB].length).drop 1)⟩:A9),[],[],(2:Int),false,[]⟩:A7) (1:Int)).2))=(1901:Int)))) ?_
 refine Aq (AV.b (decide ((CH ((Db (⟨CG,[BG],(⟨(4:Int),(([AA,AC,AD,AB].take [AA,AC,AD,AB].length).drop 1)⟩:A9),[],[],(2:Int),false,[]⟩:A7) (1:Int)).2))=(1901:Int)))) ?_
 cases c_5:decide ((CH ((Db (⟨CG,[BG],(⟨(4:Int),(([AA,AC,AD,AB].take [AA,AC,AD,AB].length).drop 1)⟩:A9),[],[],(2:Int),false,[]⟩:A7) (1:Int)).2))=(1901:Int))
 have k_5:=of_decide_eq_false c_5
 refine An<|An<|An<|Aq (AV.b false)<|Aq (AV.b false)<|An<|An<|An<|Aq (AV.b false)<|Aq (AV.b false)<|Ad<|Rt ?_
 exact Fb rfl (by simp only [KN,c_1,c_2,c_3,c_4,c_5,AJ])
 have k_5:=of_decide_eq_true c_5
 refine Ay<|Aq CY<|Ay<|A1.sc0 (vs:=[CY]) (r0:=(AV.i .i64 (CH ((Db AK (3:Int)).2)))) kr kr (Ew W ((Db AK (3:Int)).2)) kr le ?_
 refine Ay<|Aq (AV.b (decide ((CH ((Db AK (3:Int)).2))=(1900:Int))))<|Aq (AV.b (decide ((CH ((Db AK (3:Int)).2))=(1900:Int)))) ?_
 refine Aq (AV.b (decide ((CH ((Db AK (3:Int)).2))=(1900:Int)))) ?_
 cases c_6:decide ((CH ((Db AK (3:Int)).2))=(1900:Int))
 have k_6:=of_decide_eq_false c_6
 refine An<|An<|An<|Aq (AV.b false)<|Aq (AV.b false)<|Ad<|Rt ?_
 exact Fb rfl (by simp only [KN,c_1,c_2,c_3,c_4,c_5,c_6,AJ])
 have k_6:=of_decide_eq_true c_6
 refine Ay<|Aq CX<|Ay<|A1.sc0 (vs:=[CX]) (r0:=(AV.i .i64 (CH ((DI (⟨EM,[BG],(⟨(4:Int),(([AA,AC,AD,AB].take [AA,AC,AD,AB].length).drop 1)⟩:A9),[],[],(2:Int),false,[]⟩:A7)).2)))) kr kr (Ew W ((DI (⟨EM,[BG],(⟨(4:Int),(([AA,AC,AD,AB].take [AA,AC,AD,AB].length).drop 1)⟩:A9),[],[],(2:Int),false,[]⟩:A7)).2)) kr le ?_
 refine Ay<|Aq (AV.b (decide ((CH ((DI (⟨EM,[BG],(⟨(4:Int),(([AA,AC,AD,AB].take [AA,AC,AD,AB].length).drop 1)⟩:A9),[],[],(2:Int),false,[]⟩:A7)).2))=(1900:Int))))<|Aq (AV.b (decide ((CH ((DI (⟨EM,[BG],(⟨(4:Int),(([AA,AC,AD,AB].take [AA,AC,AD,AB].length).drop 1)⟩:A9),[],[],(2:Int),false,[]⟩:A7)).2))=(1900:Int)))) ?_
 refine Aq (AV.b (decide ((CH ((DI (⟨EM,[BG],(⟨(4:Int),(([AA,AC,AD,AB].take [AA,AC,AD,AB].length).drop 1)⟩:A9),[],[],(2:Int),false,[]⟩:A7)).2))=(1900:Int))))<|Ad<|Rt ?_
 exact Fb rfl (by simp only [KN,c_1,c_2,c_3,c_4,c_5,c_6,AJ])
def B1 (s':A7):Obj:=⟨35,11,[(A7.av s')]⟩
def B9 (s':A7):AV:=(AV.i .i64 ((DI s').2))
def B8 (s':A7):AV:=((Ar 1 AV.b) ((DI s').1))
def Fm (s':A7) (content:Int):AV:=(A9.av ((E5 (⟨s'.disk.clock,s'.disk.files⟩:A9) (⟨#[113,47,117,110,117,115,101,100,46,102,105,108,101]⟩:ByteArray) (Bv .and .i64 content (65535:Int))).1))
def CI (s':A7) (content:Int):AV:=(AV.i .i64 ((E5 (⟨s'.disk.clock,s'.disk.files⟩:A9) (⟨#[113,47,117,110,117,115,101,100,46,102,105,108,101]⟩:ByteArray) (Bv .and .i64 content (65535:Int))).2))
def FX (s':A7) (content:Int):AV:=(AV.i .i64 (((E5 (⟨s'.disk.clock,s'.disk.files⟩:A9) (⟨#[113,47,117,110,117,115,101,100,46,102,105,108,101]⟩:ByteArray) (Bv .and .i64 content (65535:Int))).1).clock))
def FW (s':A7) (content:Int):AV:=((Ar 3 A2.av) (((E5 (⟨s'.disk.clock,s'.disk.files⟩:A9) (⟨#[113,47,117,110,117,115,101,100,46,102,105,108,101]⟩:ByteArray) (Bv .and .i64 content (65535:Int))).1).files))
def FV (s':A7) (content:Int):AV:=(AV.tup [(Fm s' content),(CI s' content)])
def FU (s':A7) (content:Int):AV:=(AV.st [(FX s' content),(FW s' content)])
def Bh (s':A7) (content:Int):AV:=(AV.i .i64 ((DI (⟨(⟨s'.graph.edges,s'.graph.pools,s'.graph.defaults⟩:Af),s'.actions,(⟨((E5 (⟨s'.disk.clock,s'.disk.files⟩:A9) (⟨#[113,47,117,110,117,115,101,100,46,102,105,108,101]⟩:ByteArray) (Bv .and .i64 content (65535:Int))).1).clock,((E5 (⟨s'.disk.clock,s'.disk.files⟩:A9) (⟨#[113,47,117,110,117,115,101,100,46,102,105,108,101]⟩:ByteArray) (Bv .and .i64 content (65535:Int))).1).files⟩:A9),s'.log,s'.deps,s'.jobs,s'.going,s'.status⟩:A7)).2))
def Bg (s':A7) (content:Int):AV:=((Ar 1 AV.b) ((DI (⟨(⟨s'.graph.edges,s'.graph.pools,s'.graph.defaults⟩:Af),s'.actions,(⟨((E5 (⟨s'.disk.clock,s'.disk.files⟩:A9) (⟨#[113,47,117,110,117,115,101,100,46,102,105,108,101]⟩:ByteArray) (Bv .and .i64 content (65535:Int))).1).clock,((E5 (⟨s'.disk.clock,s'.disk.files⟩:A9) (⟨#[113,47,117,110,117,115,101,100,46,102,105,108,101]⟩:ByteArray) (Bv .and .i64 content (65535:Int))).1).files⟩:A9),s'.log,s'.deps,s'.jobs,s'.going,s'.status⟩:A7)).1))
def DL (s':A7) (content:Int):AV:=(AV.st [((Ar 7 Ao.av) s'.graph.edges),((Ar 2 BD.av) s'.graph.pools),((Ar 1 AV.s) s'.graph.defaults),((Ar 3 Az.av) s'.actions),(FX s' content),(FW s' content),((Ar 3 Ab.av) s'.log),((Ar 3 Aa.av) s'.deps),(AV.i .i64 s'.jobs),(AV.b s'.going),((Ar 1 (AV.i .i64)) s'.status)])
def FT (s':A7) (content:Int):AV:=(AV.tup [(Bg s' content),(Bh s' content)])
theorem Ld (W:World) {m0:Int} (hW:W.cell? ⟨0,0,none⟩=some (.int .i64 m0)) (s':A7) (content:Int) (hz:s'.sz≤1048500+76):Aj Go.Proofs.Tryz.prog W 9 [(A7.av s'),(AV.i .i64 content)] (AV.b (Q3 s' content)) []:=by
 have hzg:=s'.sz_graph
 have hzd:=s'.sz_disk
 have hzf:=s'.sz_deps
 refine Ae (fn:=Go.Proofs.Tryz.f9) Go.Proofs.Tryz.func9 rfl (en9 W) (ts:=[4]) rfl le<|Sq<|Rg<|Nn (AV.loc 0 0 0) (B1 s')<|Aq (AV.b false)<|Ad<|Sq<|Sq<|Rg<|A1.sc0 (vs:=[]) (r0:=(AV.b KN)) kr kr (OK W hW) kr le<|Aq (AV.b (!KN))<|Ad ?_
 cases c_1:(!KN)
 refine Cf<|A8.skip<|Sq<|Rg<|Aq (A7.av s')<|Nn (AV.loc 1 0 0) ⟨35,11,[(AV.st [(AV.sl 7 true []),(AV.sl 2 true []),(AV.sl 1 true []),(AV.sl 3 true []),(AV.i .i64 (0:Int)),(AV.sl 3 true []),(AV.sl 3 true []),(AV.sl 3 true []),(AV.i .i64 (0:Int)),(AV.b false),(AV.sl 1 true [])])]⟩<|Sp 1 (B1 s')<|Ad<|Sq<|Rg<|Aq (AV.loc 0 0 4)<|Aq (AV.st [(AV.i .i64 s'.disk.clock),((Ar 3 A2.av) s'.disk.files)])<|Aq (AV.i .i64 content)<|Aq (AV.i .i64 (Bv .and .i64 content (65535:Int)))<|A1.sc0 (vs:=[(AV.st [(AV.i .i64 s'.disk.clock),((Ar 3 A2.av) s'.disk.files)]),(AV.s (⟨#[113,47,117,110,117,115,101,100,46,102,105,108,101]⟩:ByteArray)),(AV.i .i64 (Bv .and .i64 content (65535:Int)))]) (r0:=(FV s' content)) kr kr (MC W (⟨s'.disk.clock,s'.disk.files⟩:A9) (⟨#[113,47,117,110,117,115,101,100,46,102,105,108,101]⟩:ByteArray) (Bv .and .i64 content (65535:Int)) (Nat.le_trans hzd (by omega))) kr le ?_
 refine Aq (FV s' content)<|Aq (Fm s' content)<|Aq (CI s' content)<|Nn (AV.loc 2 0 0) ⟨30,2,[(AV.st [(AV.i .i64 (0:Int)),(AV.sl 3 true [])])]⟩<|Sp 2 ⟨30,2,[(FU s' content)]⟩<|Aq (CI s' content) ?_
 refine Ad<|Sq<|Sq<|Rg<|Aq (CI s' content)<|Aq (AV.b (!decide ((E5 (⟨s'.disk.clock,s'.disk.files⟩:A9) (⟨#[113,47,117,110,117,115,101,100,46,102,105,108,101]⟩:ByteArray) (Bv .and .i64 content (65535:Int))).2=(0:Int))))<|Ad ?_
 cases c_2:(!decide ((E5 (⟨s'.disk.clock,s'.disk.files⟩:A9) (⟨#[113,47,117,110,117,115,101,100,46,102,105,108,101]⟩:ByteArray) (Bv .and .i64 content (65535:Int))).2=(0:Int)))
 have k_2:=VP c_2
 refine Cf<|A8.skip<|Sq<|Rg<|Aq (FU s' content)<|Aq (AV.loc 1 0 4)<|Sp 1 ⟨35,11,[(DL s' content)]⟩<|Ad<|Sq<|Rg<|Aq (A7.av s')<|A1.sc0 (vs:=[(A7.av s')]) (r0:=(AV.tup [(B8 s'),(B9 s')])) kr kr (Hk W hW s' (by first|omega|exact Nat.le_trans (ed_sz hz) (by decide))) kr le<|Aq (AV.tup [(B8 s'),(B9 s')]) ?_
 refine Aq (B8 s')<|Aq (B9 s')<|Aq (B8 s')<|Aq (B9 s')<|Ad<|Sq<|Rg<|Aq (DL s' content)<|A1.sc0 (vs:=[(DL s' content)]) (r0:=(FT s' content)) kr kr (Hk W hW (⟨(⟨s'.graph.edges,s'.graph.pools,s'.graph.defaults⟩:Af),s'.actions,(⟨((E5 (⟨s'.disk.clock,s'.disk.files⟩:A9) (⟨#[113,47,117,110,117,115,101,100,46,102,105,108,101]⟩:ByteArray) (Bv .and .i64 content (65535:Int))).1).clock,((E5 (⟨s'.disk.clock,s'.disk.files⟩:A9) (⟨#[113,47,117,110,117,115,101,100,46,102,105,108,101]⟩:ByteArray) (Bv .and .i64 content (65535:Int))).1).files⟩:A9),s'.log,s'.deps,s'.jobs,s'.going,s'.status⟩:A7) (by first|omega|exact Nat.le_trans (ed_sz hz) (by decide))) kr le ?_
 refine Aq (FT s' content)<|Aq (Bg s' content) ?_
 refine Aq (Bh s' content)<|Aq (Bg s' content)<|Aq (Bh s' content) ?_
 refine Ad<|Sq<|Sq<|Rg<|Aq (AV.i .i64 (0:Int))<|Ad<|A8.block<|A8.lim 0 (x:=(A7.av s')) kr fun hlm1=> ?_
 have hB1:s'.deps.length≤281474976710656:=BJ (Mf hlm1)
 obtain ⟨R1,hR1⟩: ∃R,Rz s'.deps 0=R:=⟨_,rfl⟩
 refine AN (fun (i:Nat)=>[(2,(AV.loc 0 0 0)),(8,(B8 s')),(9,(B9 s')),(10,(Bg s' content)),(11,(Bh s' content)),(12,(Ai i))]) (fun (i:Nat)=>⟨1,[(0,some (B1 s'))]⟩) (fun (i:Nat)=>i≤s'.deps.length∧Rz (s'.deps.drop i) i=R1) (fun (i:Nat)=>s'.deps.length-i) 0 ?_ ?_ ?_
 exact ⟨[0],⟨by decide,rfl,(A0.cons kr A0.nil),(Am.cons (AU.f kr) (Ee (Ee (Ee (Ee (Ee Am.nil))))))⟩,Au⟩
 exact ⟨od,hR1⟩
 rintro i ⟨hi1,hE1⟩
 try dsimp only
 refine Sq<|Sq<|Rg<|Aq (Ai i)<|Aq (AV.loc 0 0 7)<|Aq ((Ar 3 Aa.av) s'.deps)<|Ap (Ai s'.deps.length) (BI (k:=3) (nl:=false) (e:=61) (A:=Aa.av) (xs:=s'.deps) kr kr)<|Aq (AV.b (decide (((i:Nat):Int)<((s'.deps.length:Nat):Int))))<|Ad ?_
 rcases Nat.lt_or_ge i s'.deps.length with hl1|hl1
 have hc1:decide (((i:Nat):Int)<((s'.deps.length:Nat):Int))=true:=decide_eq_true (by omega)
 refine A8.cond (t:=true) (by rw [←hc1]<;>kernel_rfl) (A8.skip ?_)
 obtain ⟨x1,hx1⟩: ∃x,s'.deps[i]? =some x:=⟨_,List.getElem?_eq_getElem hl1⟩
 rw [AP hx1,Rz.eq_2] at hE1
 have hsx:=R9 (Nat.le_trans hzf (by omega)) (List.mem_of_getElem? hx1)
 refine Sq<|A8.block<|Sq<|Rg<|Aq (AV.i .i64 (0:Int))<|Ad<|A8.block<|A8.lim 45 (x:=((Ar 3 Aa.av) s'.deps)) kr fun hlm2=> ?_
 have hB2:x1.ins.length≤281474976710656:=BJ (MQ (lim_mem hlm2 hx1))
 obtain ⟨R2,hR2⟩: ∃R,RC x1.ins 0=R:=⟨_,rfl⟩
 refine AN (fun (k:Nat)=>[(2,(AV.loc 0 0 0)),(8,(B8 s')),(9,(B9 s')),(10,(Bg s' content)),(11,(Bh s' content)),(12,(Ai i)),(13,(Ai k))]) (fun (k:Nat)=>⟨1,[(0,some (B1 s'))]⟩) (fun (k:Nat)=>k≤x1.ins.length∧RC (x1.ins.drop k) k=R2) (fun (k:Nat)=>x1.ins.length-k) 0 ?_ ?_ ?_
 exact ⟨[0],⟨by decide,rfl,(A0.cons kr A0.nil),(Am.cons (AU.f kr) (Ee (Ee (Ee (Ee (Ee (Ee Am.nil)))))))⟩,Au⟩
 exact ⟨od,hR2⟩
 rintro k ⟨hi2,hE2⟩
 try dsimp only
 refine Sq<|Sq<|Rg<|Aq (Ai k)<|Aq (AV.loc 0 0 7)<|Aq ((Ar 3 Aa.av) s'.deps)<|Aq (Ai i)<|Ap (AV.pt (Aa.av x1).cells) (Bo (k:=3) (nl:=false) (e:=61) (kk:= .i64) (A:=Aa.av) (xs:=s'.deps) (i:=i) kr kr kr ⟨by kernel_rfl,by decide⟩ hx1)<|Aq (AV.pt ((Aa.av x1).cells.drop 2))<|Aq ((Ar 1 AV.s) x1.ins)<|Ap (Ai x1.ins.length) (BI (k:=1) (nl:=false) (e:=9) (A:=AV.s) (xs:=x1.ins) kr kr)<|Aq (AV.b (decide (((k:Nat):Int)<((x1.ins.length:Nat):Int))))<|Ad ?_
 rcases Nat.lt_or_ge k x1.ins.length with hl2|hl2
 have hc2:decide (((k:Nat):Int)<((x1.ins.length:Nat):Int))=true:=decide_eq_true (by omega)
 refine A8.cond (t:=true) (by rw [←hc2]<;>kernel_rfl) (A8.skip ?_)
 obtain ⟨x2,hx2⟩: ∃x,x1.ins[k]? =some x:=⟨_,List.getElem?_eq_getElem hl2⟩
 rw [AP hx2,RC.eq_2] at hE2
 refine Sq<|A8.block<|Sq<|Rg<|Aq (AV.loc 0 0 7)<|Aq ((Ar 3 Aa.av) s'.deps)<|Aq (Ai i)<|Ap (AV.pt (Aa.av x1).cells) (Bo (k:=3) (nl:=false) (e:=61) (kk:= .i64) (A:=Aa.av) (xs:=s'.deps) (i:=i) kr kr kr ⟨by kernel_rfl,by decide⟩ hx1)<|Aq (AV.pt ((Aa.av x1).cells.drop 2))<|Aq ((Ar 1 AV.s) x1.ins)<|Aq (Ai k)<|Ap (AV.pt (AV.s x2).cells) (Bo (k:=1) (nl:=false) (e:=9) (kk:= .i64) (A:=AV.s) (xs:=x1.ins) (i:=k) kr kr kr ⟨by kernel_rfl,by decide⟩ hx2)<|Aq (AV.s x2)<|Aq (AV.b (decide (x2=(⟨#[113,47,117,110,117,115,101,100,46,102,105,108,101]⟩:ByteArray))))<|Ad ?_
 cases c_3:decide (x2=(⟨#[113,47,117,110,117,115,101,100,46,102,105,108,101]⟩:ByteArray))
 refine Cf<|A8.skip<|Rg<|Aq (Ai k)<|Ap (Ai (k+1)) (AH (i:=k) (m:=1) kr kr sd)<|Aq (Ai (k+1))<|Ad ?_
 try simp only [c_3,AJ] at hE2
 refine ⟨k+1,od,⟨od,hE2⟩,?_⟩
 exact ⟨[0],⟨by decide,rfl,(A0.cons kr A0.nil),(Am.cons (AU.f kr) (Ee (Ee (Ee (Ee (Ee (Ee Am.nil)))))))⟩,Au⟩
 refine Ct<|Sq<|Rg<|Aq (AV.b true)<|Ad<|Rt ?_
 try simp only [c_3,AJ] at hE2
 subst hE2
 try simp only [hR2,AJ] at hE1
 subst hE1
 exact Fb rfl (by simp only [Q3,c_1,c_2,hR1,AJ])
 have hc2:decide (((k:Nat):Int)<((x1.ins.length:Nat):Int))=false:=decide_eq_false (by omega)
 refine A8.cond (t:=false) (by rw [←hc2]<;>kernel_rfl) (A8.exit ?_)
 rw [List.drop_eq_nil_of_le (hl2),RC.eq_1] at hE2
 subst hE2
 refine Rg<|Aq (Ai i)<|Ap (Ai (i+1)) (AH (i:=i) (m:=1) kr kr sd)<|Aq (Ai (i+1))<|Ad ?_
 try simp only [hR2,AJ] at hE1
 refine ⟨i+1,od,⟨od,hE1⟩,?_⟩
 exact ⟨[0],⟨by decide,rfl,(A0.cons kr A0.nil),(Am.cons (AU.f kr) (Ee (Ee (Ee (Ee (Ee Am.nil))))))⟩,Au⟩
 have hc1:decide (((i:Nat):Int)<((s'.deps.length:Nat):Int))=false:=decide_eq_false (by omega)
 refine A8.cond (t:=false) (by rw [←hc1]<;>kernel_rfl) (A8.exit ?_)
 rw [List.drop_eq_nil_of_le (hl1),Rz.eq_1] at hE1
 subst hE1
 refine Sq<|Sq<|Rg<|Aq (AV.i .i64 (0:Int))<|Ad<|A8.block<|Sl 2 0 (id:=0) (j:=0) (o:=0) (ob:=(B1 s')) (x:=(A7.av s')) kr rfl rfl fun hlm3=> ?_
 have hB3:s'.graph.edges.length≤281474976710656:=BJ (Lk (Ll (Of hlm3)))
 obtain ⟨R3,hR3⟩: ∃R,RD s'.graph.edges 0=R:=⟨_,rfl⟩
 refine AN (fun (i2:Nat)=>[(2,(AV.loc 0 0 0)),(8,(B8 s')),(9,(B9 s')),(10,(Bg s' content)),(11,(Bh s' content)),(14,(Ai i2))]) (fun (i2:Nat)=>⟨1,[(0,some (B1 s'))]⟩) (fun (i2:Nat)=>i2≤s'.graph.edges.length∧RD (s'.graph.edges.drop i2) i2=R3) (fun (i2:Nat)=>s'.graph.edges.length-i2) 0 ?_ ?_ ?_
 exact ⟨[0],⟨by decide,rfl,(A0.cons kr A0.nil),(Am.cons (AU.f kr) (Ee (Ee (Ee (Ee (Ee Am.nil))))))⟩,Au⟩
 exact ⟨od,hR3⟩
 rintro i2 ⟨hi3,hE3⟩
 try dsimp only
 refine Sq<|Sq<|Rg<|Aq (Ai i2)<|Aq (AV.loc 0 0 0)<|Aq (AV.loc 0 0 0)<|Aq ((Ar 7 Ao.av) s'.graph.edges)<|Ap (Ai s'.graph.edges.length) (BI (k:=7) (nl:=false) (e:=65) (A:=Ao.av) (xs:=s'.graph.edges) kr kr)<|Aq (AV.b (decide (((i2:Nat):Int)<((s'.graph.edges.length:Nat):Int))))<|Ad ?_
 rcases Nat.lt_or_ge i2 s'.graph.edges.length with hl3|hl3
 have hc3:decide (((i2:Nat):Int)<((s'.graph.edges.length:Nat):Int))=true:=decide_eq_true (by omega)
 refine A8.cond (t:=true) (by rw [←hc3]<;>kernel_rfl) (A8.skip ?_)
 obtain ⟨x3,hx3⟩: ∃x,s'.graph.edges[i2]? =some x:=⟨_,List.getElem?_eq_getElem hl3⟩
 rw [AP hx3,RD.eq_2] at hE3
 have hsx:=SD hz (List.mem_of_getElem? hx3)
 refine Sq<|A8.block<|Sq<|Rg<|Aq (AV.loc 0 0 0)<|Aq (AV.loc 0 0 0)<|Aq ((Ar 7 Ao.av) s'.graph.edges)<|Aq (Ai i2)<|Ap (AV.pt (Ao.av x3).cells) (Bo (k:=7) (nl:=false) (e:=65) (kk:= .i64) (A:=Ao.av) (xs:=s'.graph.edges) (i:=i2) kr kr kr ⟨by kernel_rfl,by decide⟩ hx3)<|Aq (Ao.av x3)<|Nn (AV.loc 1 0 0) ⟨65,7,[(AV.st [(AV.sl 1 true []),(AV.sl 1 true []),(AV.sl 1 true []),(AV.sl 1 true []),(AV.s (⟨#[]⟩:ByteArray)),(AV.b false),(AV.s (⟨#[]⟩:ByteArray))])]⟩<|Sp 1 ⟨65,7,[(AV.st [((Ar 1 AV.s) x3.outs),((Ar 1 AV.s) x3.ins),((Ar 1 AV.s) x3.implicit),((Ar 1 AV.s) x3.order),(AV.s x3.command),(AV.b x3.deps),(AV.s x3.pool)])]⟩<|Ad<|Sq<|Rg<|Nn (AV.own 2 0 0) ⟨9,1,[].map AV.s⟩<|Aq (AV.loc 1 0 0)<|Aq ((Ar 1 AV.s) x3.outs)<|A1.se (x:=(AV.own 3 0 x3.outs.length)) (h':=⟨4,[(3,some ⟨9,1,x3.outs.map AV.s⟩),(2,none),(1,some ⟨65,7,[(AV.st [((Ar 1 AV.s) x3.outs),((Ar 1 AV.s) x3.ins),((Ar 1 AV.s) x3.implicit),((Ar 1 AV.s) x3.order),(AV.s x3.command),(AV.b x3.deps),(AV.s x3.pool)])]⟩),(0,some (B1 s'))]⟩) (Hu (len:=0) (e:=9) (X:=((Ar 1 AV.s) x3.outs)) (A:=AV.s) (i:=HH) (p:=2) (xs:=[]) (ys:=x3.outs) kr kr kr (hx:=kr) kr ⟨by decide,by kernel_rfl⟩ rfl sd (by show _*16≤140737488355328;first|omega|(simp only [List.length_append,List.length_cons,List.length_nil,List.length_set,List.length_replicate];omega)|(simp;omega)) sd) le<|Aq (AV.own 3 0 x3.outs.length) ?_
 refine Ad<|Sq<|Rg<|Aq (AV.own 3 0 x3.outs.length)<|Aq (AV.loc 1 0 1)<|Aq ((Ar 1 AV.s) x3.ins)<|A1.se (x:=(AV.own 4 0 ((x3.outs++x3.ins).length))) (h':=⟨5,[(4,some ⟨9,1,(x3.outs++x3.ins).map AV.s⟩),(3,none),(2,none),(1,some ⟨65,7,[(AV.st [((Ar 1 AV.s) x3.outs),((Ar 1 AV.s) x3.ins),((Ar 1 AV.s) x3.implicit),((Ar 1 AV.s) x3.order),(AV.s x3.command),(AV.b x3.deps),(AV.s x3.pool)])]⟩),(0,some (B1 s'))]⟩) (Hu (len:=x3.outs.length) (e:=9) (X:=((Ar 1 AV.s) x3.ins)) (A:=AV.s) (i:=HH) (p:=3) (xs:=x3.outs) (ys:=x3.ins) kr kr kr (hx:=kr) kr ⟨by decide,by kernel_rfl⟩ rfl rfl (by show _*16≤140737488355328;first|omega|(simp only [List.length_append,List.length_cons,List.length_nil,List.length_set,List.length_replicate];omega)|(simp;omega)) sd) le<|Aq (AV.own 4 0 ((x3.outs++x3.ins).length))<|Ad<|Sq<|Rg<|Aq (AV.own 4 0 ((x3.outs++x3.ins).length))<|Aq (AV.loc 1 0 2)<|Aq ((Ar 1 AV.s) x3.implicit)<|A1.se (x:=(AV.own 5 0 (((x3.outs++x3.ins)++x3.implicit).length))) (h':=⟨6,[(5,some ⟨9,1,((x3.outs++x3.ins)++x3.implicit).map AV.s⟩),(4,none),(3,none),(2,none),(1,some ⟨65,7,[(AV.st [((Ar 1 AV.s) x3.outs),((Ar 1 AV.s) x3.ins),((Ar 1 AV.s) x3.implicit),((Ar 1 AV.s) x3.order),(AV.s x3.command),(AV.b x3.deps),(AV.s x3.pool)])]⟩),(0,some (B1 s'))]⟩) (Hu (len:=((x3.outs++x3.ins).length)) (e:=9) (X:=((Ar 1 AV.s) x3.implicit)) (A:=AV.s) (i:=HH) (p:=4) (xs:=(x3.outs++x3.ins)) (ys:=x3.implicit) kr kr kr (hx:=kr) kr ⟨by decide,by kernel_rfl⟩ rfl rfl (by show _*16≤140737488355328;first|omega|(simp only [List.length_append,List.length_cons,List.length_nil,List.length_set,List.length_replicate];omega)|(simp;omega)) sd) le ?_
 refine Aq (AV.own 5 0 (((x3.outs++x3.ins)++x3.implicit).length))<|Ad<|Sq<|Rg<|Aq (AV.own 5 0 (((x3.outs++x3.ins)++x3.implicit).length))<|Aq (AV.loc 1 0 3)<|Aq ((Ar 1 AV.s) x3.order)<|A1.se (x:=(AV.own 6 0 ((((x3.outs++x3.ins)++x3.implicit)++x3.order).length))) (h':=⟨7,[(6,some ⟨9,1,(((x3.outs++x3.ins)++x3.implicit)++x3.order).map AV.s⟩),(5,none),(4,none),(3,none),(2,none),(1,some ⟨65,7,[(AV.st [((Ar 1 AV.s) x3.outs),((Ar 1 AV.s) x3.ins),((Ar 1 AV.s) x3.implicit),((Ar 1 AV.s) x3.order),(AV.s x3.command),(AV.b x3.deps),(AV.s x3.pool)])]⟩),(0,some (B1 s'))]⟩) (Hu (len:=(((x3.outs++x3.ins)++x3.implicit).length)) (e:=9) (X:=((Ar 1 AV.s) x3.order)) (A:=AV.s) (i:=HH) (p:=5) (xs:=((x3.outs++x3.ins)++x3.implicit)) (ys:=x3.order) kr kr kr (hx:=kr) kr ⟨by decide,by kernel_rfl⟩ rfl rfl (by show _*16≤140737488355328;first|omega|(simp only [List.length_append,List.length_cons,List.length_nil,List.length_set,List.length_replicate];omega)|(simp;omega)) sd) le<|Aq (AV.own 6 0 ((((x3.outs++x3.ins)++x3.implicit)++x3.order).length))<|Ad<|Sq<|Rg<|Aq (AV.i .i64 (0:Int))<|Ad<|A8.block ?_
 have hB4:((((x3.outs++x3.ins)++x3.implicit)++x3.order).length)≤281474976710656:=by first|omega|(simp;done)|(simp;omega)
 obtain ⟨R4,hR4⟩: ∃R,RE (((x3.outs++x3.ins)++x3.implicit)++x3.order) 0=R:=⟨_,rfl⟩
 refine AN (fun (k2:Nat)=>[(2,(AV.loc 0 0 0)),(8,(B8 s')),(9,(B9 s')),(10,(Bg s' content)),(11,(Bh s' content)),(14,(Ai i2)),(16,(AV.own 1 0 ((((x3.outs++x3.ins)++x3.implicit)++x3.order).length))),(17,(Ai k2))]) (fun (k2:Nat)=>⟨2,[(0,some (B1 s')),(1,some ⟨9,1,(((x3.outs++x3.ins)++x3.implicit)++x3.order).map AV.s⟩)]⟩) (fun (k2:Nat)=>k2≤((((x3.outs++x3.ins)++x3.implicit)++x3.order).length)∧RE ((((x3.outs++x3.ins)++x3.implicit)++x3.order).drop k2) k2=R4) (fun (k2:Nat)=>((((x3.outs++x3.ins)++x3.implicit)++x3.order).length)-k2) 0 ?_ ?_ ?_
 exact ⟨[0,6],⟨by decide,rfl,(A0.cons kr (A0.cons (AQ (fun _=>rfl) (e:=9) (k:=1) (A:=AV.s) (xs:=(((x3.outs++x3.ins)++x3.implicit)++x3.order)) rfl rfl) A0.nil)),(Am.cons (AU.f kr) (Ee (Ee (Ee (Ee (Ee (Am.cons (AU.f kr) (Ee Am.nil))))))))⟩,Au⟩
 exact ⟨od,hR4⟩
 rintro k2 ⟨hi4,hE4⟩
 try dsimp only
 refine Sq<|Sq<|Rg<|Aq (Ai k2)<|Aq (AV.own 1 0 ((((x3.outs++x3.ins)++x3.implicit)++x3.order).length))<|Aq (AV.i .i64 (((((x3.outs++x3.ins)++x3.implicit)++x3.order).length:Nat):Int))<|Aq (AV.b (decide (((k2:Nat):Int)<(((((x3.outs++x3.ins)++x3.implicit)++x3.order).length:Nat):Int))))<|Ad ?_
 rcases Nat.lt_or_ge k2 ((((x3.outs++x3.ins)++x3.implicit)++x3.order).length) with hl4|hl4
 have hc4:decide (((k2:Nat):Int)<((((((x3.outs++x3.ins)++x3.implicit)++x3.order).length):Nat):Int))=true:=decide_eq_true (by omega)
 refine A8.cond (t:=true) (by rw [←hc4]<;>kernel_rfl) (A8.skip ?_)
 obtain ⟨x4,hx4⟩: ∃x,(((x3.outs++x3.ins)++x3.implicit)++x3.order)[k2]? =some x:=⟨_,List.getElem?_eq_getElem (by first|(simpa using hl4)|omega)⟩
 rw [AP hx4,RE.eq_2] at hE4
 refine Sq<|A8.block<|Sq<|Rg<|Aq (AV.own 1 0 ((((x3.outs++x3.ins)++x3.implicit)++x3.order).length))<|Aq (Ai k2)<|Ap (AV.loc 1 k2 0) (Ly (e:=9) (id:=1) (len:=((((x3.outs++x3.ins)++x3.implicit)++x3.order).length)) (kk:= .i64) (ob:=⟨9,1,(((x3.outs++x3.ins)++x3.implicit)++x3.order).map AV.s⟩) (i:=k2) kr kr kr rfl kr sd)<|Ap (AV.s x4) (JF (e:=9) (k:=1) (i:=HH) (id:=1) (xs:=(((x3.outs++x3.ins)++x3.implicit)++x3.order)) (A:=AV.s) (j:=k2) kr kr rfl hx4 kr)<|Aq (AV.b (decide (x4=(⟨#[113,47,117,110,117,115,101,100,46,102,105,108,101]⟩:ByteArray))))<|Ad ?_
 cases c_4:decide (x4=(⟨#[113,47,117,110,117,115,101,100,46,102,105,108,101]⟩:ByteArray))
 refine Cf<|A8.skip<|Rg<|Aq (Ai k2)<|Ap (Ai (k2+1)) (AH (i:=k2) (m:=1) kr kr sd)<|Aq (Ai (k2+1))<|Ad ?_
 try simp only [c_4,AJ] at hE4
 refine ⟨k2+1,od,⟨od,hE4⟩,?_⟩
 exact ⟨[0,1],⟨by decide,rfl,(A0.cons kr (A0.cons (AQ (fun _=>rfl) (e:=9) (k:=1) (A:=AV.s) (xs:=(((x3.outs++x3.ins)++x3.implicit)++x3.order)) rfl rfl) A0.nil)),(Am.cons (AU.f kr) (Ee (Ee (Ee (Ee (Ee (Am.cons (AU.f kr) (Ee Am.nil))))))))⟩,Au⟩
 refine Ct<|Sq<|Rg<|Aq (AV.b true)<|Ad<|Rt ?_
 try simp only [c_4,AJ] at hE4
 subst hE4
 try simp only [hR4,AJ] at hE3
 subst hE3
 exact Fb rfl (by simp only [Q3,c_1,c_2,hR1,hR3,AJ])
 have hc4:decide (((k2:Nat):Int)<((((((x3.outs++x3.ins)++x3.implicit)++x3.order).length):Nat):Int))=false:=decide_eq_false (by omega)
 refine A8.cond (t:=false) (by rw [←hc4]<;>kernel_rfl) (A8.exit ?_)
 rw [List.drop_eq_nil_of_le (by first|(simpa using hl4)|omega),RE.eq_1] at hE4
 subst hE4
 refine Rg<|Aq (Ai i2)<|Ap (Ai (i2+1)) (AH (i:=i2) (m:=1) kr kr sd)<|Aq (Ai (i2+1))<|Ad ?_
 try simp only [hR4,AJ] at hE3
 refine ⟨i2+1,od,⟨od,hE3⟩,?_⟩
 exact ⟨[0],⟨by decide,rfl,(A0.cons kr A0.nil),(Am.cons (AU.f kr) (Ee (Ee (Ee (Ee (Ee Am.nil))))))⟩,Au⟩
 have hc3:decide (((i2:Nat):Int)<((s'.graph.edges.length:Nat):Int))=false:=decide_eq_false (by omega)
 refine A8.cond (t:=false) (by rw [←hc3]<;>kernel_rfl) (A8.exit ?_)
 rw [List.drop_eq_nil_of_le (hl3),RD.eq_1] at hE3
 subst hE3
 refine Sq<|Rg<|Aq (B9 s')<|A1.sc0 (vs:=[(B9 s')]) (r0:=(AV.i .i64 (CH ((DI s').2)))) kr kr (Ew W ((DI s').2)) kr le<|Aq (Bh s' content)<|A1.sc0 (vs:=[(Bh s' content)]) (r0:=(AV.i .i64 (CH ((DI (⟨(⟨s'.graph.edges,s'.graph.pools,s'.graph.defaults⟩:Af),s'.actions,(⟨((E5 (⟨s'.disk.clock,s'.disk.files⟩:A9) (⟨#[113,47,117,110,117,115,101,100,46,102,105,108,101]⟩:ByteArray) (Bv .and .i64 content (65535:Int))).1).clock,((E5 (⟨s'.disk.clock,s'.disk.files⟩:A9) (⟨#[113,47,117,110,117,115,101,100,46,102,105,108,101]⟩:ByteArray) (Bv .and .i64 content (65535:Int))).1).files⟩:A9),s'.log,s'.deps,s'.jobs,s'.going,s'.status⟩:A7)).2)))) kr kr (Ew W ((DI (⟨(⟨s'.graph.edges,s'.graph.pools,s'.graph.defaults⟩:Af),s'.actions,(⟨((E5 (⟨s'.disk.clock,s'.disk.files⟩:A9) (⟨#[113,47,117,110,117,115,101,100,46,102,105,108,101]⟩:ByteArray) (Bv .and .i64 content (65535:Int))).1).clock,((E5 (⟨s'.disk.clock,s'.disk.files⟩:A9) (⟨#[113,47,117,110,117,115,101,100,46,102,105,108,101]⟩:ByteArray) (Bv .and .i64 content (65535:Int))).1).files⟩:A9),s'.log,s'.deps,s'.jobs,s'.going,s'.status⟩:A7)).2)) kr le ?_
 refine Aq (AV.b (decide ((CH ((DI s').2))=(CH ((DI (⟨(⟨s'.graph.edges,s'.graph.pools,s'.graph.defaults⟩:Af),s'.actions,(⟨((E5 (⟨s'.disk.clock,s'.disk.files⟩:A9) (⟨#[113,47,117,110,117,115,101,100,46,102,105,108,101]⟩:ByteArray) (Bv .and .i64 content (65535:Int))).1).clock,((E5 (⟨s'.disk.clock,s'.disk.files⟩:A9) (⟨#[113,47,117,110,117,115,101,100,46,102,105,108,101]⟩:ByteArray) (Bv .and .i64 content (65535:Int))).1).files⟩:A9),s'.log,s'.deps,s'.jobs,s'.going,s'.status⟩:A7)).2)))))<|Aq (AV.b (decide ((CH ((DI s').2))=(CH ((DI (⟨(⟨s'.graph.edges,s'.graph.pools,s'.graph.defaults⟩:Af),s'.actions,(⟨((E5 (⟨s'.disk.clock,s'.disk.files⟩:A9) (⟨#[113,47,117,110,117,115,101,100,46,102,105,108,101]⟩:ByteArray) (Bv .and .i64 content (65535:Int))).1).clock,((E5 (⟨s'.disk.clock,s'.disk.files⟩:A9) (⟨#[113,47,117,110,117,115,101,100,46,102,105,108,101]⟩:ByteArray) (Bv .and .i64 content (65535:Int))).1).files⟩:A9),s'.log,s'.deps,s'.jobs,s'.going,s'.status⟩:A7)).2))))) ?_
 cases c_5:decide ((CH ((DI s').2))=(CH ((DI (⟨(⟨s'.graph.edges,s'.graph.pools,s'.graph.defaults⟩:Af),s'.actions,(⟨((E5 (⟨s'.disk.clock,s'.disk.files⟩:A9) (⟨#[113,47,117,110,117,115,101,100,46,102,105,108,101]⟩:ByteArray) (Bv .and .i64 content (65535:Int))).1).clock,((E5 (⟨s'.disk.clock,s'.disk.files⟩:A9) (⟨#[113,47,117,110,117,115,101,100,46,102,105,108,101]⟩:ByteArray) (Bv .and .i64 content (65535:Int))).1).files⟩:A9),s'.log,s'.deps,s'.jobs,s'.going,s'.status⟩:A7)).2)))
 have k_5:=of_decide_eq_false c_5
 refine An<|An<|An<|Aq (AV.b false)<|Aq (AV.b false)<|Ad<|Rt ?_
 exact Fb rfl (by simp only [Q3,c_1,c_2,hR1,hR3,c_5,AJ])
 have k_5:=of_decide_eq_true c_5
 refine Ay<|Aq (B8 s')<|Ay<|Aq (Bg s' content)<|Ay<|A1.sc0 (vs:=[(B8 s'),(Bg s' content)]) (r0:=(AV.b (JN ((DI s').1) ((DI (⟨(⟨s'.graph.edges,s'.graph.pools,s'.graph.defaults⟩:Af),s'.actions,(⟨((E5 (⟨s'.disk.clock,s'.disk.files⟩:A9) (⟨#[113,47,117,110,117,115,101,100,46,102,105,108,101]⟩:ByteArray) (Bv .and .i64 content (65535:Int))).1).clock,((E5 (⟨s'.disk.clock,s'.disk.files⟩:A9) (⟨#[113,47,117,110,117,115,101,100,46,102,105,108,101]⟩:ByteArray) (Bv .and .i64 content (65535:Int))).1).files⟩:A9),s'.log,s'.deps,s'.jobs,s'.going,s'.status⟩:A7)).1)))) kr kr (I8 W ((DI s').1) ((DI (⟨(⟨s'.graph.edges,s'.graph.pools,s'.graph.defaults⟩:Af),s'.actions,(⟨((E5 (⟨s'.disk.clock,s'.disk.files⟩:A9) (⟨#[113,47,117,110,117,115,101,100,46,102,105,108,101]⟩:ByteArray) (Bv .and .i64 content (65535:Int))).1).clock,((E5 (⟨s'.disk.clock,s'.disk.files⟩:A9) (⟨#[113,47,117,110,117,115,101,100,46,102,105,108,101]⟩:ByteArray) (Bv .and .i64 content (65535:Int))).1).files⟩:A9),s'.log,s'.deps,s'.jobs,s'.going,s'.status⟩:A7)).1)) kr le ?_
 refine Aq (AV.b (JN ((DI s').1) ((DI (⟨(⟨s'.graph.edges,s'.graph.pools,s'.graph.defaults⟩:Af),s'.actions,(⟨((E5 (⟨s'.disk.clock,s'.disk.files⟩:A9) (⟨#[113,47,117,110,117,115,101,100,46,102,105,108,101]⟩:ByteArray) (Bv .and .i64 content (65535:Int))).1).clock,((E5 (⟨s'.disk.clock,s'.disk.files⟩:A9) (⟨#[113,47,117,110,117,115,101,100,46,102,105,108,101]⟩:ByteArray) (Bv .and .i64 content (65535:Int))).1).files⟩:A9),s'.log,s'.deps,s'.jobs,s'.going,s'.status⟩:A7)).1)))<|Aq (AV.b (JN ((DI s').1) ((DI (⟨(⟨s'.graph.edges,s'.graph.pools,s'.graph.defaults⟩:Af),s'.actions,(⟨((E5 (⟨s'.disk.clock,s'.disk.files⟩:A9) (⟨#[113,47,117,110,117,115,101,100,46,102,105,108,101]⟩:ByteArray) (Bv .and .i64 content (65535:Int))).1).clock,((E5 (⟨s'.disk.clock,s'.disk.files⟩:A9) (⟨#[113,47,117,110,117,115,101,100,46,102,105,108,101]⟩:ByteArray) (Bv .and .i64 content (65535:Int))).1).files⟩:A9),s'.log,s'.deps,s'.jobs,s'.going,s'.status⟩:A7)).1)))<|Ad<|Rt ?_
 exact Fb rfl (by simp only [Q3,c_1,c_2,hR1,hR3,c_5,AJ])
 have k_2:=VQ c_2
 refine Ct<|Sq<|Rg<|Aq (AV.b true)<|Ad<|Rt ?_
 exact Fb rfl (by simp only [Q3,c_1,c_2,AJ])
 refine Ct<|Sq<|Rg<|Aq (AV.b false)<|Ad<|Rt ?_
 exact Fb rfl (by simp only [Q3,c_1,AJ])
end
end Go.Lift
