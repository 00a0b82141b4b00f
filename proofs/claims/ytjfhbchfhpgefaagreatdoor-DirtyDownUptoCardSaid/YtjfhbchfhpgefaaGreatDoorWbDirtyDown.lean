/-
  Lemmas of this claim: a layer over the kit's calls, contracts of the functions that the law reaches, and the law's row. No condition of its own.
-/
import Derived.Test.YtjfhbchfhpgefaaGreatDoorWaDirtyDown
set_option linter.unusedSimpArgs false
set_option linter.unusedVariables false
set_option linter.unusedSectionVars false
set_option maxRecDepth 20000
namespace Go.Lift
noncomputable section
open Go Go.RowKit
theorem Hg (W:World) (x':ByteArray):Ac Go.Proofs.Tryz.prog W 201 [(AV.s x')] (AV.b (Kq x')) []:=by
 refine Ae (fn:=Go.Proofs.Tryz.f201) Go.Proofs.Tryz.func201 rfl (en201 W) (ts:=[2]) rfl le<|Sq<|Rg<|Aq (AV.b false)<|Ad<|Sq<|Rg<|Aq (AV.s x')<|Aq (AV.s x')<|Aq (AV.b (!decide (x'=x')))<|Aq (AV.b (!decide (x'=x')))<|Ad<|Rt ?_
 exact Fb rfl (by simp only [Kq,AP])
theorem JE (W:World) (x':ByteArray) (y:ByteArray):Ac Go.Proofs.Tryz.prog W 169 [(AV.s x'),(AV.s y)] (AV.i .i64 (O4 x' y)) []:=by
 refine Ae (fn:=Go.Proofs.Tryz.f169) Go.Proofs.Tryz.func169 rfl (en169 W) (ts:=[4]) rfl le<|Sq<|Rg<|Aq (AV.i .i64 (0:Int))<|Ad<|Sq<|Rg<|Aq (AV.s x')<|A1.sc0 (vs:=[(AV.s x')]) (r0:=(AV.b (Kq x'))) kr kr (Hg W x') kr le<|Aq (AV.b (Kq x'))<|Ad<|Sq<|Rg<|Aq (AV.s y)<|A1.sc0 (vs:=[(AV.s y)]) (r0:=(AV.b (Kq y))) kr kr (Hg W y) kr le<|Aq (AV.b (Kq y))<|Ad<|Sq<|Sq<|Rg<|Aq (AV.b (Kq x'))<|Ad ?_
 cases c_1:(Kq x')
 refine Cf<|A7.skip<|Sq<|Sq<|Rg<|Aq (AV.b (Kq y))<|Ad ?_
 cases c_2:(Kq y)
 refine Cf<|A7.skip<|Sq<|Sq<|Rg<|Aq (AV.s x')<|Aq (AV.s y)<|Aq (AV.b (Op.bytesLess x'.toList y.toList))<|Ad ?_
 cases c_3:(Op.bytesLess x'.toList y.toList)
 refine Cf<|A7.skip<|Sq<|Sq<|Rg<|Aq (AV.s x')<|Aq (AV.s y)<|Aq (AV.b (!(Op.bytesLess x'.toList y.toList||decide (x'=y))))<|Ad ?_
 cases c_4:(!(Op.bytesLess x'.toList y.toList||decide (x'=y)))
 refine Cf<|A7.skip<|Sq<|Rg<|Aq (AV.i .i64 (0:Int))<|Ad<|Rt ?_
 try simp only [c_3,AP] at c_4
 exact Fi rfl (by simp only [O4,c_1,c_2,c_3,c_4,AP])
 refine Ct<|Sq<|Rg<|Aq (AV.i .i64 (1:Int))<|Ad<|Rt ?_
 try simp only [c_3,AP] at c_4
 exact Fi rfl (by simp only [O4,c_1,c_2,c_3,c_4,AP])
 refine Ct<|Sq<|Rg<|Aq (AV.i .i64 (-1:Int))<|Ad<|Rt ?_
 exact Fi rfl (by simp only [O4,c_1,c_2,c_3,AP])
 refine Ct<|Sq<|Rg<|Aq (AV.i .i64 (1:Int))<|Ad<|Rt ?_
 exact Fi rfl (by simp only [O4,c_1,c_2,AP])
 refine Ct<|Sq<|Sq<|Rg<|Aq (AV.b (Kq y))<|Ad ?_
 cases c_5:(Kq y)
 refine Cf<|A7.skip<|Sq<|Rg<|Aq (AV.i .i64 (-1:Int))<|Ad<|Rt ?_
 exact Fi rfl (by simp only [O4,c_1,c_5,AP])
 refine Ct<|Sq<|Rg<|Aq (AV.i .i64 (0:Int))<|Ad<|Rt ?_
 exact Fi rfl (by simp only [O4,c_1,c_5,AP])
theorem NP (W:World) (f:A3) (s':ByteArray):Ac Go.Proofs.Tryz.prog W 168 [(A3.av f),(AV.s s')] (AV.i .i64 (Gl f s')) []:=by
 refine Ae (fn:=Go.Proofs.Tryz.f168) Go.Proofs.Tryz.func168 rfl (en168 W) (ts:=[4]) rfl le<|Sq<|Rg<|Nn (AV.loc 0 0 0) ⟨85,3,[(A3.av f)]⟩<|Aq (AV.i .i64 (0:Int))<|Ad<|Sq<|Rg<|Aq (AV.loc 0 0 0)<|Aq (AV.s f.name)<|Aq (AV.s s')<|A1.sc0 (vs:=[(AV.s f.name),(AV.s s')]) (r0:=(AV.i .i64 (O4 f.name s'))) kr kr (JE W f.name s') kr le<|Aq (AV.i .i64 (O4 f.name s'))<|Ad<|Rt ?_
 exact Fi rfl (by simp only [Gl,AP])
theorem CI (W:World) (x':List A3) (target:ByteArray) (f_cmp:FuncId) (c_cmp:List AV) (cmp:A3→ByteArray→Int) (hcl_cmp:A6 c_cmp=true) (hp_cmp: ∀(z0:A3) (z1:ByteArray),Ac Go.Proofs.Tryz.prog W f_cmp ((A3.av z0)::(AV.s z1)::c_cmp) (AV.i .i64 (cmp z0 z1)) []) (hz:x'.length≤1048576):Ac Go.Proofs.Tryz.prog W 167 [((Ao 3 A3.av) x'),(AV.s target),(AV.fn f_cmp c_cmp)] (AV.tup [(AV.i .i64 ((Mv x' target cmp).1)),(AV.b ((Mv x' target cmp).2))]) []:=by
 refine Ae (fn:=Go.Proofs.Tryz.f167) Go.Proofs.Tryz.func167 rfl (en167 W) (ts:=[6,7]) rfl le<|Sq<|Rg<|Aq (AV.i .i64 (0:Int))<|Aq (AV.b false)<|Ad<|Sq<|Rg<|Aq ((Ao 3 A3.av) x')<|Ap (Ai x'.length) (BV (k:=3) (nl:=false) (e:=85) (A:=A3.av) (xs:=x') kr kr)<|Aq (Ai x'.length)<|Ad<|Sq<|Rg<|Aq (Ai x'.length)<|Aq (AV.i .i64 (0:Int))<|Aq (Ai x'.length)<|Ad<|Sq<|A7.block ?_
 obtain ⟨R1,hR1⟩: ∃R,SH cmp x' target ((((x'.length:Nat):Int)-(0:Int)).toNat+1) (0:Int) ((x'.length:Nat):Int)=R:=⟨_,rfl⟩
 refine AX (fun ((kf1,(i,j)):Nat×(Int×Int))=>[(0,((Ao 3 A3.av) x')),(1,(AV.s target)),(2,(AV.fn f_cmp c_cmp)),(8,(Ai x'.length)),(9,(AV.i .i64 i)),(10,(AV.i .i64 j))]) (fun ((kf1,(i,j)):Nat×(Int×Int))=>⟨0,[]⟩) (fun ((kf1,(i,j)):Nat×(Int×Int))=>(j-i).toNat<kf1∧0≤i∧i≤j∧j≤((x'.length:Nat):Int)∧SH cmp x' target kf1 i j=R1) (fun ((kf1,(i,j)):Nat×(Int×Int))=>kf1) ((((x'.length:Nat):Int)-(0:Int)).toNat+1,((0:Int),((x'.length:Nat):Int))) ?_ ?_ ?_
 exact ⟨[],⟨by decide,rfl,A0.nil,(Ee (Ee (Am.cons (AW.c kr hcl_cmp) (Ee (Ee (Ee Am.nil))))))⟩,Ax⟩
 exact ⟨od,I1,I1,I1,hR1⟩
 rintro ⟨kf1,i,j⟩ ⟨hi1,h0,h1,h2,hE1⟩
 try dsimp only
 rcases kf1 with _|kf1
 exact absurd hi1 (Nat.not_lt_zero _)
 rw [SH.eq_2] at hE1
 refine Sq<|Sq<|Rg<|Aq (AV.i .i64 i)<|Aq (AV.i .i64 j)<|Aq (AV.b (decide (i<j)))<|Ad ?_
 cases c_1:decide (i<j)
 have k_1:=of_decide_eq_false c_1
 refine Cf<|A7.exit ?_
 try simp only [c_1,AP] at hE1
 subst hE1
 refine Sq<|Rg<|Aq (AV.i .i64 i)<|Aq (AV.i .i64 i)<|Aq (Ai x'.length)<|Aq (AV.b (decide (i<((x'.length:Nat):Int))))<|Aq (AV.b (decide (i<((x'.length:Nat):Int)))) ?_
 cases c_2:decide (i<((x'.length:Nat):Int))
 have k_2:=of_decide_eq_false c_2
 refine An<|An<|An<|An<|An<|An<|An<|An<|Aq (AV.b false)<|Aq (AV.i .i64 i)<|Aq (AV.b false)<|Ad<|Rt ?_
 have hM:Mv x' target cmp=(i,false):=by simp only [Mv,hR1,c_2,AP]
 refine ⟨Or.inr rfl,?_⟩
 rw [hM]
 exact AW.cast (x':=(AV.tup [(AV.i .i64 i),(AV.b false)])) (y':=(AV.tup [(AV.i .i64 ((i,false).1)),(AV.b ((i,false).2))])) kr kr (AW.tup ⟨Ec,⟨Ec,trivial⟩⟩ kr)
 have k_2:=of_decide_eq_true c_2
 have q_2:=of_decide_eq_true c_2
 refine Ay<|Aq (AV.fn f_cmp c_cmp)<|Ay<|Aq ((Ao 3 A3.av) x')<|Ay<|Aq (AV.i .i64 i)<|Ay<|Ap (AV.pt (A3.av (x'.getD i.toNat default)).cells) (IG (k:=3) (nl:=false) (e:=85) (kk:= .i64) (A:=A3.av) (xs:=x') (n:=i) kr kr kr ⟨by kernel_rfl,by decide⟩ sd (getD_some sd))<|Ay<|Aq (A3.av (x'.getD i.toNat default))<|Ay<|Aq (AV.s target)<|Ay<|A1.sc0 (vs:=((A3.av (x'.getD i.toNat default))::(AV.s target)::c_cmp)) (r0:=(AV.i .i64 (cmp (x'.getD i.toNat default) target))) kr (by simp only [A6,Bool.and_eq_true];exact ⟨by kernel_rfl,⟨by kernel_rfl,hcl_cmp⟩⟩) (hp_cmp (x'.getD i.toNat default) target) kr le<|Ay<|Aq (AV.b (decide ((cmp (x'.getD i.toNat default) target)=(0:Int))))<|Aq (AV.b (decide ((cmp (x'.getD i.toNat default) target)=(0:Int))))<|Aq (AV.i .i64 i)<|Aq (AV.b (decide ((cmp (x'.getD i.toNat default) target)=(0:Int))))<|Ad<|Rt ?_
 have hM:Mv x' target cmp=(i,decide ((cmp (x'.getD i.toNat default) target)=(0:Int))):=by simp only [Mv,hR1,c_2,AP]
 refine ⟨Or.inr rfl,?_⟩
 rw [hM]
 exact AW.cast (x':=(AV.tup [(AV.i .i64 i),(AV.b (decide ((cmp (x'.getD i.toNat default) target)=(0:Int))))])) (y':=(AV.tup [(AV.i .i64 ((i,decide ((cmp (x'.getD i.toNat default) target)=(0:Int))).1)),(AV.b ((i,decide ((cmp (x'.getD i.toNat default) target)=(0:Int))).2))])) kr kr (AW.tup ⟨Ec,⟨Ec,trivial⟩⟩ kr)
 have k_1:=of_decide_eq_true c_1
 have q_1:=Uj h0 (of_decide_eq_true c_1) h2 hz
 refine Ct<|A7.skip<|A7.block<|Sq<|Rg<|Aq (AV.i .i64 i)<|Aq (AV.i .i64 j)<|Aq (AV.i .i64 (IntKind.wrap .i64 (i+j)))<|Aq (AV.i .u64 (IntKind.wrap .u64 (IntKind.wrap .i64 (i+j))))<|Ap (AV.i .u64 (Int.fdiv (IntKind.wrap .u64 (IntKind.wrap .i64 (i+j))) (2^(min 1 IntKind.u64.bits)))) (g_shr (k:= .u64) (k':= .u64) (a:=(IntKind.wrap .u64 (IntKind.wrap .i64 (i+j)))) (n:=1) kr kr)<|Aq (AV.i .i64 (IntKind.wrap .i64 (Int.fdiv (IntKind.wrap .u64 (IntKind.wrap .i64 (i+j))) (2^(min 1 IntKind.u64.bits)))))<|Aq (AV.i .i64 (IntKind.wrap .i64 (Int.fdiv (IntKind.wrap .u64 (IntKind.wrap .i64 (i+j))) (2^(min 1 IntKind.u64.bits)))))<|Ad<|Sq<|Rg<|Aq (AV.fn f_cmp c_cmp)<|Aq ((Ao 3 A3.av) x')<|Aq (AV.i .i64 (IntKind.wrap .i64 (Int.fdiv (IntKind.wrap .u64 (IntKind.wrap .i64 (i+j))) (2^(min 1 IntKind.u64.bits)))))<|Ap (AV.pt (A3.av (x'.getD (IntKind.wrap .i64 (Int.fdiv (IntKind.wrap .u64 (IntKind.wrap .i64 (i+j))) (2^(min 1 IntKind.u64.bits)))).toNat default)).cells) (IG (k:=3) (nl:=false) (e:=85) (kk:= .i64) (A:=A3.av) (xs:=x') (n:=(IntKind.wrap .i64 (Int.fdiv (IntKind.wrap .u64 (IntKind.wrap .i64 (i+j))) (2^(min 1 IntKind.u64.bits))))) kr kr kr ⟨by kernel_rfl,by decide⟩ sd (getD_some sd))<|Aq (A3.av (x'.getD (IntKind.wrap .i64 (Int.fdiv (IntKind.wrap .u64 (IntKind.wrap .i64 (i+j))) (2^(min 1 IntKind.u64.bits)))).toNat default))<|Aq (AV.s target)<|A1.sc0 (vs:=((A3.av (x'.getD (IntKind.wrap .i64 (Int.fdiv (IntKind.wrap .u64 (IntKind.wrap .i64 (i+j))) (2^(min 1 IntKind.u64.bits)))).toNat default))::(AV.s target)::c_cmp)) (r0:=(AV.i .i64 (cmp (x'.getD (IntKind.wrap .i64 (Int.fdiv (IntKind.wrap .u64 (IntKind.wrap .i64 (i+j))) (2^(min 1 IntKind.u64.bits)))).toNat default) target))) kr (by simp only [A6,Bool.and_eq_true];exact ⟨by kernel_rfl,⟨by kernel_rfl,hcl_cmp⟩⟩) (hp_cmp (x'.getD (IntKind.wrap .i64 (Int.fdiv (IntKind.wrap .u64 (IntKind.wrap .i64 (i+j))) (2^(min 1 IntKind.u64.bits)))).toNat default) target) kr le ?_
 refine Aq (AV.b (decide ((cmp (x'.getD (IntKind.wrap .i64 (Int.fdiv (IntKind.wrap .u64 (IntKind.wrap .i64 (i+j))) (2^(min 1 IntKind.u64.bits)))).toNat default) target)<(0:Int))))<|Ad ?_
 cases c_3:decide ((cmp (x'.getD (IntKind.wrap .i64 (Int.fdiv (IntKind.wrap .u64 (IntKind.wrap .i64 (i+j))) (2^(min 1 IntKind.u64.bits)))).toNat default) target)<(0:Int))
 have k_3:=of_decide_eq_false c_3
 refine Cf<|Rg<|Aq (AV.i .i64 (IntKind.wrap .i64 (Int.fdiv (IntKind.wrap .u64 (IntKind.wrap .i64 (i+j))) (2^(min 1 IntKind.u64.bits)))))<|Aq (AV.i .i64 (IntKind.wrap .i64 (Int.fdiv (IntKind.wrap .u64 (IntKind.wrap .i64 (i+j))) (2^(min 1 IntKind.u64.bits)))))<|Ad ?_
 try simp only [c_1,c_3,AP] at hE1
 refine ⟨(kf1,(i,(IntKind.wrap .i64 (Int.fdiv (IntKind.wrap .u64 (IntKind.wrap .i64 (i+j))) (2^(min 1 IntKind.u64.bits)))))),od,⟨I1,I1,I1,I1,hE1⟩,?_⟩
 exact ⟨[],⟨by decide,rfl,A0.nil,(Ee (Ee (Am.cons (AW.c kr hcl_cmp) (Ee (Ee (Ee Am.nil))))))⟩,Ax⟩
 have k_3:=of_decide_eq_true c_3
 refine Ct<|Rg<|Aq (AV.i .i64 (IntKind.wrap .i64 (Int.fdiv (IntKind.wrap .u64 (IntKind.wrap .i64 (i+j))) (2^(min 1 IntKind.u64.bits)))))<|Aq (AV.i .i64 (IntKind.wrap .i64 ((IntKind.wrap .i64 (Int.fdiv (IntKind.wrap .u64 (IntKind.wrap .i64 (i+j))) (2^(min 1 IntKind.u64.bits))))+(1:Int))))<|Aq (AV.i .i64 (IntKind.wrap .i64 ((IntKind.wrap .i64 (Int.fdiv (IntKind.wrap .u64 (IntKind.wrap .i64 (i+j))) (2^(min 1 IntKind.u64.bits))))+(1:Int))))<|Ad ?_
 try simp only [c_1,c_3,AP] at hE1
 refine ⟨(kf1,((IntKind.wrap .i64 ((IntKind.wrap .i64 (Int.fdiv (IntKind.wrap .u64 (IntKind.wrap .i64 (i+j))) (2^(min 1 IntKind.u64.bits))))+(1:Int))),j)),od,⟨I1,I1,I1,I1,hE1⟩,?_⟩
 exact ⟨[],⟨by decide,rfl,A0.nil,(Ee (Ee (Am.cons (AW.c kr hcl_cmp) (Ee (Ee (Ee Am.nil))))))⟩,Ax⟩
theorem PX (W:World) (d:Ag) (s':ByteArray) (hz:d.sz≤1048576):Ac Go.Proofs.Tryz.prog W 129 [(AV.pt (Ag.av d).cells),(AV.s s')] (AV.tup [(AV.i .i64 ((Iw d s').1)),(AV.b ((Iw d s').2))]) []:=by
 have hl:=HE A3.sz_one d.files
 have hl2:=d.sz_files
 refine Ae (fn:=Go.Proofs.Tryz.f129) Go.Proofs.Tryz.func129 rfl (en129 W) (ts:=[4,5]) rfl le<|Sq<|Rg<|Aq (AV.i .i64 (0:Int))<|Aq (AV.b false)<|Ad<|Sq<|Rg<|Aq (AV.pt (Ag.av d).cells)<|Aq (AV.pt (Ag.av d).cells)<|Aq (AV.pt ((Ag.av d).cells.drop 1))<|Aq ((Ao 3 A3.av) d.files)<|Aq (AV.s s')<|A1.sc0 (vs:=[((Ao 3 A3.av) d.files),(AV.s s'),(AV.fn 168 [])]) (r0:=(AV.tup [(AV.i .i64 ((Mv d.files s' (fun z0 z1=>Gl z0 z1)).1)),(AV.b ((Mv d.files s' (fun z0 z1=>Gl z0 z1)).2))])) kr (by simp only [A6,Bool.and_eq_true];exact ⟨by kernel_rfl,by kernel_rfl,kr,trivial⟩) (CI W d.files s' 168 [] (fun z0 z1=>Gl z0 z1) kr (fun z0 z1=>(NP W z0 z1)) sd) kr le<|Aq (AV.i .i64 ((Mv d.files s' (fun z0 z1=>Gl z0 z1)).1))<|Aq (AV.b ((Mv d.files s' (fun z0 z1=>Gl z0 z1)).2))<|Aq (AV.i .i64 ((Mv d.files s' (fun z0 z1=>Gl z0 z1)).1))<|Aq (AV.b ((Mv d.files s' (fun z0 z1=>Gl z0 z1)).2))<|Ad<|Rt ?_
 have hM:Iw d s'=((Mv d.files s' (fun z0 z1=>Gl z0 z1)).1,(Mv d.files s' (fun z0 z1=>Gl z0 z1)).2):=by simp only [Iw,AP]
 refine ⟨Or.inr rfl,?_⟩
 rw [hM]
 exact AW.cast (x':=(AV.tup [(AV.i .i64 ((Mv d.files s' (fun z0 z1=>Gl z0 z1)).1)),(AV.b ((Mv d.files s' (fun z0 z1=>Gl z0 z1)).2))])) (y':=(AV.tup [(AV.i .i64 (((Mv d.files s' (fun z0 z1=>Gl z0 z1)).1,(Mv d.files s' (fun z0 z1=>Gl z0 z1)).2).1)),(AV.b (((Mv d.files s' (fun z0 z1=>Gl z0 z1)).1,(Mv d.files s' (fun z0 z1=>Gl z0 z1)).2).2))])) kr kr (AW.tup ⟨Ec,⟨Ec,trivial⟩⟩ kr)
def E4 (d:Ag) (s':ByteArray):AV:=(AV.i .i64 ((Iw d s').1))
def Ft:AV:=(AV.st [(AV.s (⟨#[]⟩:ByteArray)),(AV.i .i64 (0:Int)),(AV.i .i64 (0:Int))])
def H7:Obj:=⟨85,3,[Ft]⟩
def Fr:AV:=(AV.tup [Ft,(AV.b false)])
def Jr:AV:=(AV.tup [(A3.av (((⟨(⟨#[]⟩:ByteArray),(0:Int),(0:Int)⟩:A3),false).1)),(AV.b (((⟨(⟨#[]⟩:ByteArray),(0:Int),(0:Int)⟩:A3),false).2))])
def Jq (d:Ag) (s':ByteArray):AV:=(AV.st [(AV.s ((d.files.getD ((Iw d s').1).toNat default).name)),(AV.i .i64 ((d.files.getD ((Iw d s').1).toNat default).content)),(AV.i .i64 ((d.files.getD ((Iw d s').1).toNat default).time))])
def Jp (d:Ag) (s':ByteArray):AV:=(AV.tup [(Jq d s'),(AV.b true)])
theorem HI (W:World) {m0:Int} (hW:W.cell? ⟨0,0,none⟩=some (.int .i64 m0)) (d:Ag) (s':ByteArray) (hz:d.sz≤1048576):Ac Go.Proofs.Tryz.prog W 82 [(Ag.av d),(AV.s s')] (AV.tup [(A3.av ((CK d s').1)),(AV.b ((CK d s').2))]) []:=by
 have hl:=HE A3.sz_one d.files
 have hl2:=d.sz_files
 refine EA A2 (fn:=Go.Proofs.Tryz.f82) Go.Proofs.Tryz.func82 rfl (en82 W) le<|Sq<|Rg<|Nn (AV.loc 0 0 0) ⟨30,2,[(Ag.av d)]⟩<|Nn (AV.loc 1 0 0) H7<|Aq (AV.b false)<|Ad<|Sq<|Sq<|Rg<|Aq (AV.s s')<|A1.sfw (vs:=[(AV.loc 0 0 0),(AV.s s')]) (ss:=[(AV.pt (Ag.av d).cells),(AV.s s')]) (r0:=(AV.tup [(E4 d s'),(AV.b ((Iw d s').2))])) kr (show Bv _ _ _ from ⟨(Ab.w (Ab.cast (x':=(AV.loc 0 0 0)) kr kr (CC Ag.av d (id:=0) rfl rfl kr))),⟨(Bv.e kr),trivial⟩⟩) (PX W d s' sd) rfl kr le<|Aq (AV.tup [(E4 d s'),(AV.b ((Iw d s').2))])<|Aq (E4 d s')<|Aq (AV.b ((Iw d s').2))<|Aq (E4 d s')<|Aq (AV.b ((Iw d s').2))<|Ad<|Sq<|Rg<|Aq (AV.b ((Iw d s').2))<|Aq (AV.b ((Iw d s').2)) ?_
 cases c_1:(Iw d s').2
 refine An<|An<|Aq (AV.b false)<|Ad<|Cf<|A7.skip<|Sq<|Rg<|Nb Ft<|Sp 1 H7<|Aq (AV.b false)<|Ad<|Rt ?_
 have hM:CK d s'=((⟨(⟨#[]⟩:ByteArray),(0:Int),(0:Int)⟩:A3),false):=by simp only [CK,c_1,AP]
 refine ⟨Or.inr rfl,Fr,kr,?_⟩
 rw [hM]
 exact AW.cast (x':=Fr) (y':=Jr) kr kr (AW.tup ⟨Ec,⟨Ec,trivial⟩⟩ kr)
 have q_1:=V8 hz c_1
 refine Ay<|Aq (Ag.av d)<|Ay<|A1.sc0 (vs:=[(Ag.av d)]) (r0:=(AV.b (Du EZ d))) kr kr (NN W hW d) kr le<|Aq (AV.b (Du EZ d))<|Ad ?_
 cases c_2:(Du EZ d)
 refine Cf<|A7.skip<|Sq<|Rg<|Nb Ft<|Sp 1 H7<|Aq (AV.b false)<|Ad<|Rt ?_
 have hM:CK d s'=((⟨(⟨#[]⟩:ByteArray),(0:Int),(0:Int)⟩:A3),false):=by simp only [CK,c_1,c_2,AP]
 refine ⟨Or.inr rfl,Fr,kr,?_⟩
 rw [hM]
 exact AW.cast (x':=Fr) (y':=Jr) kr kr (AW.tup ⟨Ec,⟨Ec,trivial⟩⟩ kr)
 refine Ct<|Sq<|Rg<|Aq (AV.loc 0 0 1)<|Aq ((Ao 3 A3.av) d.files)<|Aq (E4 d s')<|Ap (AV.pt (A3.av (d.files.getD ((Iw d s').1).toNat default)).cells) (IG (k:=3) (nl:=false) (e:=85) (kk:= .i64) (A:=A3.av) (xs:=d.files) (n:=((Iw d s').1)) kr kr kr ⟨by kernel_rfl,by decide⟩ sd (getD_some sd))<|Aq (A3.av (d.files.getD ((Iw d s').1).toNat default))<|Sp 1 ⟨85,3,[(Jq d s')]⟩<|Aq (AV.b true)<|Ad<|Rt ?_
 have hM:CK d s'=((⟨(d.files.getD ((Iw d s').1).toNat default).name,(d.files.getD ((Iw d s').1).toNat default).content,(d.files.getD ((Iw d s').1).toNat default).time⟩:A3),true):=by simp only [CK,c_1,c_2,AP]
 refine ⟨Or.inr rfl,(Jp d s'),kr,?_⟩
 rw [hM]
 exact AW.cast (x':=(Jp d s')) (y':=(AV.tup [(A3.av (((⟨(d.files.getD ((Iw d s').1).toNat default).name,(d.files.getD ((Iw d s').1).toNat default).content,(d.files.getD ((Iw d s').1).toNat default).time⟩:A3),true).1)),(AV.b (((⟨(d.files.getD ((Iw d s').1).toNat default).name,(d.files.getD ((Iw d s').1).toNat default).content,(d.files.getD ((Iw d s').1).toNat default).time⟩:A3),true).2))])) kr kr (AW.tup ⟨Ec,⟨Ec,trivial⟩⟩ kr)
theorem TV (W:World) {m0:Int} (hW:W.cell? ⟨0,0,none⟩=some (.int .i64 m0)) (e:At) (hz:e.sz≤1048576):Ac Go.Proofs.Tryz.prog W 144 [(At.av e)] (AV.tup [(AV.s ((KR e).1)),(AV.i .i64 ((KR e).2))]) []:=by
 have hs:=Ru hz
 have hl1:=Ek e.outs
 have hl2:=Ek e.ins
 have hl3:=Ek e.implicit
 have hl4:=e.sz_outs
 have hl5:=e.sz_ins
 have hl6:=e.sz_implicit
 refine Ae (fn:=Go.Proofs.Tryz.f144) Go.Proofs.Tryz.func144 rfl (en144 W) (ts:=[2,3]) rfl le<|Sq<|Rg<|Nn (AV.loc 0 0 0) ⟨65,7,[(At.av e)]⟩<|Aq (AV.s (⟨#[]⟩:ByteArray))<|Aq (AV.i .i64 (0:Int))<|Ad<|Sq<|Sq<|Rg<|A1.sfw (vs:=[(AV.loc 0 0 0)]) (ss:=[(AV.pt (At.av e).cells)]) (r0:=(AV.b (Oa e))) kr (show Bv _ _ _ from ⟨(Ab.w (Ab.cast (x':=(AV.loc 0 0 0)) kr kr (CC At.av e (id:=0) rfl rfl kr))),trivial⟩) (PY W hW e) rfl kr le<|Aq (AV.b (!(Oa e)))<|Ad ?_
 cases c_1:(!(Oa e))
 refine Cf<|A7.skip<|Sq<|Rg<|Aq (AV.s (⟨#[110]⟩:ByteArray))<|Ad ?_
 refine P4 [(1,(AV.loc 0 0 0)),(4,(AV.s (bif e.deps then (⟨#[100]⟩:ByteArray) else (⟨#[110]⟩:ByteArray))))] ⟨1,[(0,some ⟨65,7,[(At.av e)]⟩)]⟩ ?_ ?_
 refine Sq<|Rg<|Aq (AV.loc 0 0 5)<|Aq (AV.b e.deps)<|Ad ?_
 cases c_2:e.deps
 refine Cf<|A7.skip ?_
 exact ⟨[0],⟨by decide,rfl,(A0.cons kr A0.nil),(Am.cons (AW.f kr) (Ee Am.nil))⟩,Ax⟩
 refine Ct<|Rg<|Aq (AV.s (⟨#[100]⟩:ByteArray))<|Ad ?_
 exact ⟨[0],⟨by decide,rfl,(A0.cons kr A0.nil),(Am.cons (AW.f kr) (Ee Am.nil))⟩,Ax⟩
 refine Sq<|A7.drawn A2 Dw 12 kr le<|Dq (AV.loc 0 0 0)<|Dq ((Ao 1 AV.s) e.outs)<|Ar.sc0 (vs:=[((Ao 1 AV.s) e.outs),(AV.s (⟨#[32]⟩:ByteArray))]) (r0:=(AV.s (Ce e.outs (⟨#[32]⟩:ByteArray)))) kr kr (FG W e.outs (⟨#[32]⟩:ByteArray) sd sd) kr le<|Dq (AV.loc 0 0 1)<|Dq ((Ao 1 AV.s) e.ins)<|Ar.sc0 (vs:=[((Ao 1 AV.s) e.ins),(AV.s (⟨#[32]⟩:ByteArray))]) (r0:=(AV.s (Ce e.ins (⟨#[32]⟩:ByteArray)))) kr kr (FG W e.ins (⟨#[32]⟩:ByteArray) sd sd) kr le<|Dq (AV.loc 0 0 2)<|Dq ((Ao 1 AV.s) e.implicit)<|Ar.sc0 (vs:=[((Ao 1 AV.s) e.implicit),(AV.s (⟨#[32]⟩:ByteArray))]) (r0:=(AV.s (Ce e.implicit (⟨#[32]⟩:ByteArray)))) kr kr (FG W e.implicit (⟨#[32]⟩:ByteArray) sd sd) kr le<|Dq (AV.s (bif e.deps then (⟨#[100]⟩:ByteArray) else (⟨#[110]⟩:ByteArray)))<|Dq (AV.loc 0 0 4)<|Dq (AV.s e.command)<|Ar.sn (x:=(AV.own 1 0 5)) (h':=⟨2,[(1,some ⟨9,1,[(Ce e.outs (⟨#[32]⟩:ByteArray)),(Ce e.ins (⟨#[32]⟩:ByteArray)),(Ce e.implicit (⟨#[32]⟩:ByteArray)),(bif e.deps then (⟨#[100]⟩:ByteArray) else (⟨#[110]⟩:ByteArray)),e.command].map AV.s⟩),(0,some ⟨65,7,[(At.av e)]⟩)]⟩) kr le<|Ar.sfw (vs:=[(AV.own 1 0 5),(AV.s (⟨#[124]⟩:ByteArray))]) (ss:=[((Ao 1 AV.s) [(Ce e.outs (⟨#[32]⟩:ByteArray)),(Ce e.ins (⟨#[32]⟩:ByteArray)),(Ce e.implicit (⟨#[32]⟩:ByteArray)),(bif e.deps then (⟨#[100]⟩:ByteArray) else (⟨#[110]⟩:ByteArray)),e.command]),(AV.s (⟨#[124]⟩:ByteArray))]) (r0:=(AV.s (Ce [(Ce e.outs (⟨#[32]⟩:ByteArray)),(Ce e.ins (⟨#[32]⟩:ByteArray)),(Ce e.implicit (⟨#[32]⟩:ByteArray)),(bif e.deps then (⟨#[100]⟩:ByteArray) else (⟨#[110]⟩:ByteArray)),e.command] (⟨#[124]⟩:ByteArray)))) kr (show Bv _ _ _ from ⟨(Ab.w (Ab.cast (x':=(AV.own 1 0 5)) kr kr (Ab.row (fun _=>rfl) (A:=AV.s) (id:=1) (e:=9) (k:=1) (xs:=[(Ce e.outs (⟨#[32]⟩:ByteArray)),(Ce e.ins (⟨#[32]⟩:ByteArray)),(Ce e.implicit (⟨#[32]⟩:ByteArray)),(bif e.deps then (⟨#[100]⟩:ByteArray) else (⟨#[110]⟩:ByteArray)),e.command]) rfl rfl sd sd))),⟨(Bv.e kr),trivial⟩⟩) (FG W [(Ce e.outs (⟨#[32]⟩:ByteArray)),(Ce e.ins (⟨#[32]⟩:ByteArray)),(Ce e.implicit (⟨#[32]⟩:ByteArray)),(bif e.deps then (⟨#[100]⟩:ByteArray) else (⟨#[110]⟩:ByteArray)),e.command] (⟨#[124]⟩:ByteArray) (signs5 hz) (by simp only [List.length_cons,List.length_nil];decide)) rfl kr le ?_
 refine Dq (AV.s (Ce [(Ce e.outs (⟨#[32]⟩:ByteArray)),(Ce e.ins (⟨#[32]⟩:ByteArray)),(Ce e.implicit (⟨#[32]⟩:ByteArray)),(bif e.deps then (⟨#[100]⟩:ByteArray) else (⟨#[110]⟩:ByteArray)),e.command] (⟨#[124]⟩:ByteArray)))<|Dq (AV.i .i64 (0:Int))<|Ar.fin<|Rt ?_
 exact Fsi rfl (by simp only [KR,c_1,AP])
 refine Ct<|Sq<|Rg<|Aq (AV.s (⟨#[]⟩:ByteArray))<|Aq (AV.i .i64 (1100:Int))<|Ad<|Rt ?_
 exact Fsi rfl (by simp only [KR,c_1,AP])
def Gg:AV:=(AV.st [(AV.s (⟨#[]⟩:ByteArray)),(AV.i .i64 (0:Int)),(AV.s (⟨#[]⟩:ByteArray))])
def HY:Obj:=⟨56,3,[Gg]⟩
def Gf:AV:=(AV.tup [Gg,(AV.b false)])
def K8:AV:=(AV.tup [(A8.av ((Id,false).1)),(AV.b ((Id,false).2))])
theorem Sf (W:World) {m0:Int} (hW:W.cell? ⟨0,0,none⟩=some (.int .i64 m0)) (rs:List A8) (out:ByteArray) (hz:I2 A8.sz rs≤1048576):Ac Go.Proofs.Tryz.prog W 145 [((Ao 3 A8.av) rs),(AV.s out)] (AV.tup [(A8.av ((E1 rs out).1)),(AV.b ((E1 rs out).2))]) []:=by
 have hl:=HE A8.sz_one rs
 have hla:=QO rs out
 refine EA A2 (fn:=Go.Proofs.Tryz.f145) Go.Proofs.Tryz.func145 rfl (en145 W) le<|Sq<|Rg<|Nn (AV.loc 0 0 0) HY<|Aq (AV.b false)<|Ad<|Sq<|Rg<|Aq ((Ao 3 A8.av) rs)<|Aq (AV.s out)<|A1.sc0 (vs:=[((Ao 3 A8.av) rs),(AV.s out)]) (r0:=(AV.i .i64 (AR rs out))) kr kr (Sg W rs out sd) kr le<|Aq (AV.i .i64 (AR rs out))<|Ad<|Sq<|Sq<|Rg<|Aq (AV.i .i64 (AR rs out))<|Aq (AV.b (decide ((AR rs out)<(0:Int))))<|Aq (AV.b (decide ((AR rs out)<(0:Int)))) ?_
 cases c_1:decide ((AR rs out)<(0:Int))
 have k_1:=of_decide_eq_false c_1
 refine Ay<|Aq ((Ao 3 A8.av) rs)<|Ay<|A1.sc0 (vs:=[((Ao 3 A8.av) rs)]) (r0:=(AV.b (Kr rs))) kr kr (P0 W hW rs) kr le<|Ay<|Aq (AV.b (!(Kr rs)))<|Aq (AV.b (!(Kr rs)))<|Ad ?_
 cases c_2:(!(Kr rs))
 refine Cf<|A7.skip<|Sq<|Rg<|Aq ((Ao 3 A8.av) rs)<|Aq (AV.i .i64 (AR rs out))<|Ap (AV.pt (A8.av (rs.getD (AR rs out).toNat default)).cells) (IG (k:=3) (nl:=false) (e:=56) (kk:= .i64) (A:=A8.av) (xs:=rs) (n:=(AR rs out)) kr kr kr ⟨by kernel_rfl,by decide⟩ sd (getD_some sd))<|Aq (A8.av (rs.getD (AR rs out).toNat default))<|Sp 0 ⟨56,3,[(AV.st [(AV.s ((rs.getD (AR rs out).toNat default).out)),(AV.i .i64 ((rs.getD (AR rs out).toNat default).time)),(AV.s ((rs.getD (AR rs out).toNat default).sign))])]⟩<|Aq (AV.b true)<|Ad<|Rt ?_
 have hM:E1 rs out=((⟨(rs.getD (AR rs out).toNat default).out,(rs.getD (AR rs out).toNat default).time,(rs.getD (AR rs out).toNat default).sign⟩:A8),true):=by simp only [E1,c_1,c_2,AP]
 refine ⟨Or.inr rfl,(AV.tup [(AV.st [(AV.s ((rs.getD (AR rs out).toNat default).out)),(AV.i .i64 ((rs.getD (AR rs out).toNat default).time)),(AV.s ((rs.getD (AR rs out).toNat default).sign))]),(AV.b true)]),kr,?_⟩
 rw [hM]
 exact AW.cast (x':=(AV.tup [(AV.st [(AV.s ((rs.getD (AR rs out).toNat default).out)),(AV.i .i64 ((rs.getD (AR rs out).toNat default).time)),(AV.s ((rs.getD (AR rs out).toNat default).sign))]),(AV.b true)])) (y':=(AV.tup [(A8.av (((⟨(rs.getD (AR rs out).toNat default).out,(rs.getD (AR rs out).toNat default).time,(rs.getD (AR rs out).toNat default).sign⟩:A8),true).1)),(AV.b (((⟨(rs.getD (AR rs out).toNat default).out,(rs.getD (AR rs out).toNat default).time,(rs.getD (AR rs out).toNat default).sign⟩:A8),true).2))])) kr kr (AW.tup ⟨Ec,⟨Ec,trivial⟩⟩ kr)
 refine Ct<|Sq<|Rg<|Nb Gg<|Sp 0 HY<|Aq (AV.b false)<|Ad<|Rt ?_
 have hM:E1 rs out=(Id,false):=by simp only [E1,c_1,c_2,AP]
 refine ⟨Or.inr rfl,Gf,kr,?_⟩
 rw [hM]
 exact AW.cast (x':=Gf) (y':=K8) kr kr (AW.tup ⟨Ec,⟨Ec,trivial⟩⟩ kr)
 have k_1:=of_decide_eq_true c_1
 refine An<|An<|An<|Aq (AV.b true)<|Ad<|Ct<|Sq<|Rg<|Nb Gg<|Sp 0 HY<|Aq (AV.b false)<|Ad<|Rt ?_
 have hM:E1 rs out=(Id,false):=by simp only [E1,c_1,AP]
 refine ⟨Or.inr rfl,Gf,kr,?_⟩
 rw [hM]
 exact AW.cast (x':=Gf) (y':=K8) kr kr (AW.tup ⟨Ec,⟨Ec,trivial⟩⟩ kr)
theorem Ok (W:World) (f:Ah) (hz:f.sz≤1048576):Ac Go.Proofs.Tryz.prog W 148 [(Ah.av f)] (Ah.av (Gw f)) []:=by
 have hr1:=Ek f.ins
 have hr2:=f.sz_ins
 refine EA A2 (fn:=Go.Proofs.Tryz.f148) Go.Proofs.Tryz.func148 rfl (en148 W) le<|Sq<|Rg<|Nn (AV.loc 0 0 0) ⟨61,3,[(Ah.av f)]⟩<|Nn (AV.loc 1 0 0) ⟨61,3,[(AV.st [(AV.s (⟨#[]⟩:ByteArray)),(AV.i .i64 (0:Int)),(AV.sl 1 true [])])]⟩<|Ad<|Sq<|Rg<|Aq (AV.loc 0 0 2)<|Aq ((Ao 1 AV.s) f.ins)<|A1.sc0 (vs:=[((Ao 1 AV.s) f.ins)]) (r0:=((Ao 1 AV.s) (HO f.ins))) kr kr (GG W f.ins sd) kr le<|Aq (AV.loc 0 0 2)<|Sp 0 ⟨61,3,[(AV.st [(AV.s f.out),(AV.i .i64 f.time),((Ao 1 AV.s) (HO f.ins))])]⟩<|Ad<|Sq<|Rg<|Aq (AV.st [(AV.s f.out),(AV.i .i64 f.time),((Ao 1 AV.s) (HO f.ins))])<|Sp 1 ⟨61,3,[(AV.st [(AV.s f.out),(AV.i .i64 f.time),((Ao 1 AV.s) (HO f.ins))])]⟩<|Ad<|Rt ?_
 have hM:Gw f=(⟨f.out,f.time,(HO f.ins)⟩:Ah):=by simp only [Gw,AP]
 refine ⟨Or.inr rfl,(AV.st [(AV.s f.out),(AV.i .i64 f.time),((Ao 1 AV.s) (HO f.ins))]),kr,?_⟩
 rw [hM]
 exact Ec
def Ei:AV:=(AV.st [(AV.s (⟨#[]⟩:ByteArray)),(AV.i .i64 (0:Int)),(AV.sl 1 true [])])
def FZ:Obj:=⟨61,3,[Ei]⟩
def Eh:AV:=(AV.tup [Ei,(AV.b false)])
def Ii:AV:=(AV.tup [(Ah.av (((⟨(⟨#[]⟩:ByteArray),(0:Int),[]⟩:Ah),false).1)),(AV.b (((⟨(⟨#[]⟩:ByteArray),(0:Int),[]⟩:Ah),false).2))])
theorem Ol (W:World) {m0:Int} (hW:W.cell? ⟨0,0,none⟩=some (.int .i64 m0)) (fs:List Ah) (out:ByteArray) (hz:I2 Ah.sz fs≤1048576):Ac Go.Proofs.Tryz.prog W 99 [((Ao 3 Ah.av) fs),(AV.s out)] (AV.tup [(Ah.av ((K6 fs out).1)),(AV.b ((K6 fs out).2))]) []:=by
 have hl:=HE Ah.sz_one fs
 have hla:=Jc fs out
 refine EA A2 (fn:=Go.Proofs.Tryz.f99) Go.Proofs.Tryz.func99 rfl (en99 W) le<|Sq<|Rg<|Nn (AV.loc 0 0 0) FZ<|Aq (AV.b false)<|Ad<|Sq<|Rg<|Aq ((Ao 3 Ah.av) fs)<|Aq (AV.s out)<|A1.sc0 (vs:=[((Ao 3 Ah.av) fs),(AV.s out)]) (r0:=(AV.i .i64 (Au fs out))) kr kr (Om W fs out sd) kr le<|Aq (AV.i .i64 (Au fs out))<|Ad<|Sq<|Sq<|Rg<|Aq (AV.i .i64 (Au fs out))<|Aq (AV.b (decide ((Au fs out)<(0:Int))))<|Aq (AV.b (decide ((Au fs out)<(0:Int)))) ?_
 cases c_1:decide ((Au fs out)<(0:Int))
 have k_1:=of_decide_eq_false c_1
 refine Ay<|Aq ((Ao 3 Ah.av) fs)<|Ay<|A1.sc0 (vs:=[((Ao 3 Ah.av) fs)]) (r0:=(AV.b (KU fs))) kr kr (La W hW fs) kr le<|Ay<|Aq (AV.b (!(KU fs)))<|Aq (AV.b (!(KU fs)))<|Ad ?_
 cases c_2:(!(KU fs))
 refine Cf<|A7.skip<|Sq<|Rg<|Aq ((Ao 3 Ah.av) fs)<|Aq (AV.i .i64 (Au fs out))<|Ap (AV.pt (Ah.av (fs.getD (Au fs out).toNat default)).cells) (IG (k:=3) (nl:=false) (e:=61) (kk:= .i64) (A:=Ah.av) (xs:=fs) (n:=(Au fs out)) kr kr kr ⟨by kernel_rfl,by decide⟩ sd (getD_some sd))<|Aq (Ah.av (fs.getD (Au fs out).toNat default))<|A1.sc0 (vs:=[(Ah.av (fs.getD (Au fs out).toNat default))]) (r0:=(Ah.av (Gw (fs.getD (Au fs out).toNat default)))) kr kr (Ok W (fs.getD (Au fs out).toNat default) (MS hz sd)) kr le<|Sp 0 ⟨61,3,[(AV.st [(AV.s ((Gw (fs.getD (Au fs out).toNat default)).out)),(AV.i .i64 ((Gw (fs.getD (Au fs out).toNat default)).time)),((Ao 1 AV.s) ((Gw (fs.getD (Au fs out).toNat default)).ins))])]⟩<|Aq (AV.b true)<|Ad<|Rt ?_
 have hM:K6 fs out=((⟨(Gw (fs.getD (Au fs out).toNat default)).out,(Gw (fs.getD (Au fs out).toNat default)).time,(Gw (fs.getD (Au fs out).toNat default)).ins⟩:Ah),true):=by simp only [K6,c_1,c_2,AP]
 refine ⟨Or.inr rfl,(AV.tup [(AV.st [(AV.s ((Gw (fs.getD (Au fs out).toNat default)).out)),(AV.i .i64 ((Gw (fs.getD (Au fs out).toNat default)).time)),((Ao 1 AV.s) ((Gw (fs.getD (Au fs out).toNat default)).ins))]),(AV.b true)]),kr,?_⟩
 rw [hM]
 exact AW.cast (x':=(AV.tup [(AV.st [(AV.s ((Gw (fs.getD (Au fs out).toNat default)).out)),(AV.i .i64 ((Gw (fs.getD (Au fs out).toNat default)).time)),((Ao 1 AV.s) ((Gw (fs.getD (Au fs out).toNat default)).ins))]),(AV.b true)])) (y':=(AV.tup [(Ah.av (((⟨(Gw (fs.getD (Au fs out).toNat default)).out,(Gw (fs.getD (Au fs out).toNat default)).time,(Gw (fs.getD (Au fs out).toNat default)).ins⟩:Ah),true).1)),(AV.b (((⟨(Gw (fs.getD (Au fs out).toNat default)).out,(Gw (fs.getD (Au fs out).toNat default)).time,(Gw (fs.getD (Au fs out).toNat default)).ins⟩:Ah),true).2))])) kr kr (AW.tup ⟨Ec,⟨Ec,trivial⟩⟩ kr)
 refine Ct<|Sq<|Rg<|Nb Ei<|Sp 0 FZ<|Aq (AV.b false)<|Ad<|Rt ?_
 have hM:K6 fs out=((⟨(⟨#[]⟩:ByteArray),(0:Int),[]⟩:Ah),false):=by simp only [K6,c_1,c_2,AP]
 refine ⟨Or.inr rfl,Eh,kr,?_⟩
 rw [hM]
 exact AW.cast (x':=Eh) (y':=Ii) kr kr (AW.tup ⟨(AW.st ⟨Ec,⟨Ec,⟨(AW.w rfl (AM.nil 1)),trivial⟩⟩⟩ kr),⟨Ec,trivial⟩⟩ kr)
 have k_1:=of_decide_eq_true c_1
 refine An<|An<|An<|Aq (AV.b true)<|Ad<|Ct<|Sq<|Rg<|Nb Ei<|Sp 0 FZ<|Aq (AV.b false)<|Ad<|Rt ?_
 have hM:K6 fs out=((⟨(⟨#[]⟩:ByteArray),(0:Int),[]⟩:Ah),false):=by simp only [K6,c_1,AP]
 refine ⟨Or.inr rfl,Eh,kr,?_⟩
 rw [hM]
 exact AW.cast (x':=Eh) (y':=Ii) kr kr (AW.tup ⟨(AW.st ⟨Ec,⟨Ec,⟨(AW.w rfl (AM.nil 1)),trivial⟩⟩⟩ kr),⟨Ec,trivial⟩⟩ kr)
theorem FE (W:World) {m0:Int} (hW:W.cell? ⟨0,0,none⟩=some (.int .i64 m0)) (l:Aa) (s':ByteArray) (hz:l.state.sz≤1048576) (he:l.edge.sz≤1048576):Ac Go.Proofs.Tryz.prog W 56 [(Aa.av l),(AV.s s')] (AV.b (Lz l s')) []:=by
 have hg1:=l.state.sz_graph
 have hg3:=l.state.sz_disk
 have hg4:=l.state.sz_log
 have hg5:=l.state.sz_deps
 refine Ae (fn:=Go.Proofs.Tryz.f56) Go.Proofs.Tryz.func56 rfl (en56 W) (ts:=[4]) rfl le<|Sq<|Rg<|Nn (AV.loc 0 0 0) ⟨104,2,[(Aa.av l)]⟩<|Aq (AV.b false)<|Ad<|Sq<|Rg<|Aq (AV.loc 0 0 0)<|Aq (AV.pt (Ak.av l.state).cells)<|Aq (AV.pt (Ak.av l.state).cells)<|Aq (AV.pt ((Ak.av l.state).cells.drop 4))<|Aq (Ag.av l.state.disk)<|Aq (AV.s s')<|A1.sc0 (vs:=[(Ag.av l.state.disk),(AV.s s')]) (r0:=(AV.tup [(A3.av ((CK l.state.disk s').1)),(AV.b ((CK l.state.disk s').2))])) kr kr (HI W hW l.state.disk s' sd) kr le<|Aq (AV.tup [(A3.av ((CK l.state.disk s').1)),(AV.b ((CK l.state.disk s').2))])<|Aq (A3.av ((CK l.state.disk s').1))<|Aq (AV.b ((CK l.state.disk s').2))<|Nn (AV.loc 1 0 0) ⟨85,3,[(AV.st [(AV.s (⟨#[]⟩:ByteArray)),(AV.i .i64 (0:Int)),(AV.i .i64 (0:Int))])]⟩<|Sp 1 ⟨85,3,[(AV.st [(AV.s (((CK l.state.disk s').1).name)),(AV.i .i64 (((CK l.state.disk s').1).content)),(AV.i .i64 (((CK l.state.disk s').1).time))])]⟩<|Aq (AV.b ((CK l.state.disk s').2))<|Ad<|Sq<|Rg<|Aq (AV.b ((CK l.state.disk s').2))<|Aq (AV.b (!(CK l.state.disk s').2))<|Aq (AV.b (!(CK l.state.disk s').2)) ?_
 cases c_1:(!(CK l.state.disk s').2)
 refine An<|An<|An<|An<|An<|An<|An<|Aq (AV.b false)<|Aq (AV.b false)<|Ad<|Rt ?_
 exact Fb rfl (by simp only [Lz,c_1,AP])
 refine Ay<|Aq (AV.loc 0 0 0)<|Ay<|Aq (AV.pt (Ak.av l.state).cells)<|Ay<|Aq (AV.pt (Ak.av l.state).cells)<|Ay<|Aq (AV.pt ((Ak.av l.state).cells.drop 0))<|Ay<|Aq (AV.s s')<|Ay<|A1.sc0 (vs:=[(AV.pt ((Ak.av l.state).cells.drop 0)),(AV.s s')]) (r0:=(AV.i .i64 (Ep l.state.graph s'))) kr kr ((Gi W l.state.graph s').wk ⟨Ll 3 kr,⟨AM.refl _,trivial⟩⟩) kr le<|Ay<|Aq (AV.b (decide ((Ep l.state.graph s')<(0:Int))))<|Aq (AV.b (decide ((Ep l.state.graph s')<(0:Int))))<|Aq (AV.b (decide ((Ep l.state.graph s')<(0:Int))))<|Ad<|Rt ?_
 exact Fb rfl (by simp only [Lz,c_1,AP])
def BD (l:Aa):AV:=(AV.s ((KR l.edge).1))
def BA (l:Aa):AV:=(AV.pt (Ak.av l.state).cells)
theorem J3 (W:World) {m0:Int} (hW:W.cell? ⟨0,0,none⟩=some (.int .i64 m0)) (l:Aa) (hz:l.state.sz≤1048576) (he:l.edge.sz≤1048576):Ac Go.Proofs.Tryz.prog W 97 [(Aa.av l)] (AV.i .i64 (Ky l)) []:=by
 have hg1:=l.state.sz_graph
 have hg3:=l.state.sz_disk
 have hg4:=l.state.sz_log
 have hg5:=l.state.sz_deps
 refine Ae (fn:=Go.Proofs.Tryz.f97) Go.Proofs.Tryz.func97 rfl (en97 W) (ts:=[2]) rfl le<|Sq<|Rg<|Nn (AV.loc 0 0 0) ⟨104,2,[(Aa.av l)]⟩<|Aq (AV.i .i64 (0:Int))<|Ad<|Sq<|Rg<|Aq (AV.loc 0 0 1)<|Aq (AV.pt (At.av l.edge).cells)<|Aq (AV.pt (At.av l.edge).cells)<|Aq (At.av l.edge)<|A1.sc0 (vs:=[(At.av l.edge)]) (r0:=(AV.tup [(BD l),(AV.i .i64 ((KR l.edge).2))])) kr kr (TV W hW l.edge sd) kr le<|Aq (AV.tup [(BD l),(AV.i .i64 ((KR l.edge).2))])<|Aq (BD l)<|Aq (AV.i .i64 ((KR l.edge).2))<|Aq (BD l)<|Aq (AV.i .i64 ((KR l.edge).2))<|Ad<|Sq<|Rg<|Aq (AV.loc 0 0 0)<|Aq (BA l)<|Aq (BA l)<|Aq (AV.pt ((Ak.av l.state).cells.drop 4))<|Aq (AV.pt ((Ak.av l.state).cells.drop 4))<|Aq (AV.i .i64 l.state.disk.clock)<|Aq (AV.i .i64 l.state.disk.clock)<|Ad<|Sq<|Sq<|Rg<|Aq (AV.loc 0 0 1)<|Aq (AV.pt (At.av l.edge).cells)<|Aq (AV.pt (At.av l.edge).cells)<|Aq (AV.pt ((At.av l.edge).cells.drop 0))<|Aq ((Ao 1 AV.s) l.edge.outs)<|Ap (Ai l.edge.outs.length) (BV (k:=1) (nl:=false) (e:=9) (A:=AV.s) (xs:=l.edge.outs) kr kr)<|Aq (AV.i .i64 (0:Int))<|Ad<|A7.block<|A7.lim 30 (x:=((Ao 1 AV.s) l.edge.outs)) kr fun hlm1=> ?_
 have hB1:l.edge.outs.length≤281474976710656:=C6 hlm1
 obtain ⟨R1,hR1⟩: ∃R,Mb l l.edge.outs 0 l.state.disk.clock=R:=⟨_,rfl⟩
 refine AX (fun ((out,v32):Int×Nat)=>[(1,(AV.loc 0 0 0)),(3,(BD l)),(30,((Ao 1 AV.s) l.edge.outs)),(31,(Ai l.edge.outs.length)),(5,(AV.i .i64 out)),(32,(Ai v32))]) (fun ((out,v32):Int×Nat)=>⟨1,[(0,some ⟨104,2,[(Aa.av l)]⟩)]⟩) (fun ((out,v32):Int×Nat)=>v32≤l.edge.outs.length∧Mb l (l.edge.outs.drop v32) v32 out=R1) (fun ((out,v32):Int×Nat)=>l.edge.outs.length-v32) (l.state.disk.clock,0) ?_ ?_ ?_
 exact ⟨[0],⟨by decide,rfl,(A0.cons kr A0.nil),(Am.cons (AW.f kr) (Ee (Ee (Ee (Ee (Ee Am.nil))))))⟩,Ax⟩
 exact ⟨od,hR1⟩
 rintro ⟨out,v32⟩ ⟨hi1,hE1⟩
 try dsimp only
 refine Sq<|Rg<|Aq (AV.b (decide (((v32:Nat):Int)<((l.edge.outs.length:Nat):Int))))<|Ad<|Sq ?_
 rcases Nat.lt_or_ge v32 l.edge.outs.length with hl1|hl1
 have hc1:decide (((v32:Nat):Int)<((l.edge.outs.length:Nat):Int))=true:=decide_eq_true (by omega)
 refine A7.cond (t:=true) (by rw [←hc1]<;>kernel_rfl) (A7.skip ?_)
 obtain ⟨x1,hx1⟩: ∃x,l.edge.outs[v32]? =some x:=⟨_,List.getElem?_eq_getElem hl1⟩
 rw [AY hx1,Mb.eq_2] at hE1
 refine Sq<|A7.block<|Sq<|Rg<|Ap (AV.pt (AV.s x1).cells) (BK (k:=1) (nl:=false) (e:=9) (kk:= .i64) (A:=AV.s) (xs:=l.edge.outs) (i:=v32) kr kr kr ⟨by kernel_rfl,by decide⟩ hx1)<|Aq (AV.s x1)<|Aq (AV.s x1)<|Ad<|Sq<|Rg<|Aq (AV.loc 0 0 0)<|Aq (BA l)<|Aq (BA l)<|Aq (AV.pt ((Ak.av l.state).cells.drop 4))<|Aq (Ag.av l.state.disk)<|Aq (AV.s x1)<|A1.sc0 (vs:=[(Ag.av l.state.disk),(AV.s x1)]) (r0:=(AV.tup [(A3.av ((CK l.state.disk x1).1)),(AV.b ((CK l.state.disk x1).2))])) kr kr (HI W hW l.state.disk x1 sd) kr le<|Aq (AV.tup [(A3.av ((CK l.state.disk x1).1)),(AV.b ((CK l.state.disk x1).2))])<|Aq (A3.av ((CK l.state.disk x1).1))<|Aq (AV.b ((CK l.state.disk x1).2))<|Nn (AV.loc 1 0 0) ⟨85,3,[(AV.st [(AV.s (⟨#[]⟩:ByteArray)),(AV.i .i64 (0:Int)),(AV.i .i64 (0:Int))])]⟩<|Sp 1 ⟨85,3,[(AV.st [(AV.s (((CK l.state.disk x1).1).name)),(AV.i .i64 (((CK l.state.disk x1).1).content)),(AV.i .i64 (((CK l.state.disk x1).1).time))])]⟩<|Aq (AV.b ((CK l.state.disk x1).2))<|Ad<|Sq<|Rg<|Aq (AV.loc 0 0 0)<|Aq (BA l)<|Aq (BA l)<|Aq (AV.pt ((Ak.av l.state).cells.drop 6))<|Aq ((Ao 3 A8.av) l.state.log)<|Aq (AV.s x1)<|A1.sc0 (vs:=[((Ao 3 A8.av) l.state.log),(AV.s x1)]) (r0:=(AV.tup [(A8.av ((E1 l.state.log x1).1)),(AV.b ((E1 l.state.log x1).2))])) kr kr (Sf W hW l.state.log x1 sd) kr le ?_
 refine Aq (AV.tup [(A8.av ((E1 l.state.log x1).1)),(AV.b ((E1 l.state.log x1).2))])<|Aq (A8.av ((E1 l.state.log x1).1))<|Aq (AV.b ((E1 l.state.log x1).2))<|Nn (AV.loc 2 0 0) ⟨56,3,[(AV.st [(AV.s (⟨#[]⟩:ByteArray)),(AV.i .i64 (0:Int)),(AV.s (⟨#[]⟩:ByteArray))])]⟩<|Sp 2 ⟨56,3,[(AV.st [(AV.s (((E1 l.state.log x1).1).out)),(AV.i .i64 (((E1 l.state.log x1).1).time)),(AV.s (((E1 l.state.log x1).1).sign))])]⟩<|Aq (AV.b ((E1 l.state.log x1).2))<|Ad<|Sq<|Sq<|Rg<|Aq (AV.b ((CK l.state.disk x1).2))<|Aq (AV.b (!(CK l.state.disk x1).2))<|Aq (AV.b (!(CK l.state.disk x1).2)) ?_
 cases c_1:(!(CK l.state.disk x1).2)
 refine Ay<|Aq (AV.b ((E1 l.state.log x1).2))<|Ay<|Aq (AV.b (!(E1 l.state.log x1).2))<|Aq (AV.b (!(E1 l.state.log x1).2))<|Aq (AV.b (!(E1 l.state.log x1).2)) ?_
 cases c_2:(!(E1 l.state.log x1).2)
 refine Ay<|Aq (AV.loc 2 0 2)<|Ay<|Aq (AV.s (((E1 l.state.log x1).1).sign))<|Ay<|Aq (BD l)<|Ay<|Aq (AV.b (!decide (((E1 l.state.log x1).1).sign=(KR l.edge).1)))<|Aq (AV.b (!decide (((E1 l.state.log x1).1).sign=(KR l.edge).1)))<|Aq (AV.b (!decide (((E1 l.state.log x1).1).sign=(KR l.edge).1))) ?_
 cases c_3:(!decide (((E1 l.state.log x1).1).sign=(KR l.edge).1))
 have k_3:=nde c_3
 refine Ay<|Aq (AV.loc 2 0 1)<|Ay<|Aq (AV.i .i64 (((E1 l.state.log x1).1).time))<|Ay<|Aq (AV.loc 1 0 2)<|Ay<|Aq (AV.i .i64 (((CK l.state.disk x1).1).time))<|Ay<|Aq (AV.b (!decide (((E1 l.state.log x1).1).time=((CK l.state.disk x1).1).time)))<|Aq (AV.b (!decide (((E1 l.state.log x1).1).time=((CK l.state.disk x1).1).time)))<|Ad ?_
 cases c_4:(!decide (((E1 l.state.log x1).1).time=((CK l.state.disk x1).1).time))
 have k_4:=nde c_4
 refine Cf<|A7.skip<|Rg<|Aq (AV.i .i64 out)<|Aq (AV.loc 1 0 2)<|Aq (AV.i .i64 (((CK l.state.disk x1).1).time))<|Aq (AV.i .i64 (if ((CK l.state.disk x1).1).time<out then ((CK l.state.disk x1).1).time else out))<|Aq (AV.i .i64 (if ((CK l.state.disk x1).1).time<out then ((CK l.state.disk x1).1).time else out))<|Ad<|Rg<|Ap (Ai (v32+1)) (AQ (i:=v32) (m:=1) kr kr sd)<|Aq (Ai (v32+1))<|Ad ?_
 try simp only [c_1,c_2,c_3,c_4,AP] at hE1
 refine ⟨((if ((CK l.state.disk x1).1).time<out then ((CK l.state.disk x1).1).time else out),v32+1),od,⟨od,hE1⟩,?_⟩
 exact ⟨[0],⟨by decide,rfl,(A0.cons kr A0.nil),(Am.cons (AW.f kr) (Ee (Ee (Ee (Ee (Ee Am.nil))))))⟩,Ax⟩
 have k_4:=ndt c_4
 refine Ct<|Sq<|Rg<|Aq (AV.i .i64 (-1:Int))<|Ad<|Rt ?_
 try simp only [c_1,c_2,c_3,c_4,AP] at hE1
 subst hE1
 exact Fi rfl (by simp only [Ky,hR1,AP])
 have k_3:=ndt c_3
 refine An<|An<|An<|An<|An<|Aq (AV.b true)<|Ad<|Ct<|Sq<|Rg<|Aq (AV.i .i64 (-1:Int))<|Ad<|Rt ?_
 try simp only [c_1,c_2,c_3,AP] at hE1
 subst hE1
 exact Fi rfl (by simp only [Ky,hR1,AP])
 refine An<|An<|An<|An<|Aq (AV.b true)<|Aq (AV.b true)<|An<|An<|An<|An<|An<|Aq (AV.b true)<|Ad<|Ct<|Sq<|Rg<|Aq (AV.i .i64 (-1:Int))<|Ad<|Rt ?_
 try simp only [c_1,c_2,AP] at hE1
 subst hE1
 exact Fi rfl (by simp only [Ky,hR1,AP])
 refine An<|An<|Aq (AV.b true)<|Aq (AV.b true)<|An<|An<|An<|An<|Aq (AV.b true)<|Aq (AV.b true)<|An<|An<|An<|An<|An<|Aq (AV.b true)<|Ad<|Ct<|Sq<|Rg<|Aq (AV.i .i64 (-1:Int))<|Ad<|Rt ?_
 try simp only [c_1,AP] at hE1
 subst hE1
 exact Fi rfl (by simp only [Ky,hR1,AP])
 have hc1:decide (((v32:Nat):Int)<((l.edge.outs.length:Nat):Int))=false:=decide_eq_false (by omega)
 refine A7.cond (t:=false) (by rw [←hc1]<;>kernel_rfl) (A7.exit ?_)
 rw [List.drop_eq_nil_of_le (hl1),Mb.eq_1] at hE1
 subst hE1
 refine Sq<|Rg<|Aq (AV.i .i64 out)<|Aq (AV.i .i64 out)<|Ad<|Rt ?_
 exact Fi rfl (by simp only [Ky,hR1,AP])
theorem IQ (W:World) {m0:Int} (hW:W.cell? ⟨0,0,none⟩=some (.int .i64 m0)) (s':ByteArray) (l:Aa) (time:Int) (hz:l.state.sz≤1048576) (he:l.edge.sz≤1048576):Ac Go.Proofs.Tryz.prog W 146 [(AV.s s'),(AV.pt (Aa.av l).cells),(AV.pt ((AV.i .i64) time).cells)] (AV.b (PD s' l time)) []:=by
 have hg1:=l.state.sz_graph
 have hg3:=l.state.sz_disk
 have hg4:=l.state.sz_log
 have hg5:=l.state.sz_deps
 refine Ae (fn:=Go.Proofs.Tryz.f146) Go.Proofs.Tryz.func146 rfl (en146 W) (ts:=[4]) rfl le<|Sq<|Rg<|Aq (AV.b false)<|Ad<|Sq<|Rg<|Aq (AV.pt ((Aa.av l).cells.drop 0))<|Aq (AV.pt (Ak.av l.state).cells)<|Aq (AV.pt (Ak.av l.state).cells)<|Aq (AV.pt ((Ak.av l.state).cells.drop 4))<|Aq (Ag.av l.state.disk)<|Aq (AV.s s')<|A1.sc0 (vs:=[(Ag.av l.state.disk),(AV.s s')]) (r0:=(AV.tup [(A3.av ((CK l.state.disk s').1)),(AV.b ((CK l.state.disk s').2))])) kr kr (HI W hW l.state.disk s' sd) kr le<|Aq (AV.tup [(A3.av ((CK l.state.disk s').1)),(AV.b ((CK l.state.disk s').2))])<|Aq (A3.av ((CK l.state.disk s').1))<|Aq (AV.b ((CK l.state.disk s').2))<|Nn (AV.loc 0 0 0) ⟨85,3,[(AV.st [(AV.s (⟨#[]⟩:ByteArray)),(AV.i .i64 (0:Int)),(AV.i .i64 (0:Int))])]⟩<|Sp 0 ⟨85,3,[(AV.st [(AV.s (((CK l.state.disk s').1).name)),(AV.i .i64 (((CK l.state.disk s').1).content)),(AV.i .i64 (((CK l.state.disk s').1).time))])]⟩<|Aq (AV.b ((CK l.state.disk s').2))<|Ad<|Sq<|Rg<|Aq (AV.b ((CK l.state.disk s').2))<|Aq (AV.b (!(CK l.state.disk s').2))<|Aq (AV.b (!(CK l.state.disk s').2)) ?_
 cases c_1:(!(CK l.state.disk s').2)
 refine Ay<|Aq (AV.loc 0 0 2)<|Ay<|Aq (AV.i .i64 (((CK l.state.disk s').1).time))<|Ay<|Aq (AV.i .i64 time)<|Ay<|Aq (AV.b (decide (time<((CK l.state.disk s').1).time)))<|Aq (AV.b (decide (time<((CK l.state.disk s').1).time)))<|Aq (AV.b (decide (time<((CK l.state.disk s').1).time)))<|Ad<|Rt ?_
 exact Fb rfl (by simp only [PD,c_1,AP])
 refine An<|An<|An<|An<|Aq (AV.b true)<|Aq (AV.b true)<|Ad<|Rt ?_
 exact Fb rfl (by simp only [PD,c_1,AP])
theorem FF (W:World) (s':List ByteArray) (f_f:FuncId) (c_f:List AV) (f:ByteArray→Bool) (hcl_f:A6 c_f=true) (hp_f: ∀(z0:ByteArray),Ac Go.Proofs.Tryz.prog W f_f ((AV.s z0)::c_f) (AV.b (f z0)) []):Ac Go.Proofs.Tryz.prog W 95 [((Ao 1 AV.s) s'),(AV.fn f_f c_f)] (AV.i .i64 (S4 s' f)) []:=by
 refine Ae (fn:=Go.Proofs.Tryz.f95) Go.Proofs.Tryz.func95 rfl (en95 W) (ts:=[4]) rfl le<|Sq<|Rg<|Aq (AV.i .i64 (0:Int))<|Ad<|Sq<|Sq<|Rg<|Aq ((Ao 1 AV.s) s')<|Ap (Ai s'.length) (BV (k:=1) (nl:=false) (e:=9) (A:=AV.s) (xs:=s') kr kr)<|Aq (AV.i .i64 (0:Int))<|Ad<|A7.block<|A7.lim 0 (x:=((Ao 1 AV.s) s')) kr fun hlm1=> ?_
 have hB1:s'.length≤281474976710656:=C6 hlm1
 obtain ⟨R1,hR1⟩: ∃R,Tl f s' 0=R:=⟨_,rfl⟩
 refine AX (fun (v8:Nat)=>[(0,((Ao 1 AV.s) s')),(1,(AV.fn f_f c_f)),(7,(Ai s'.length)),(8,(Ai v8))]) (fun (v8:Nat)=>⟨0,[]⟩) (fun (v8:Nat)=>v8≤s'.length∧Tl f (s'.drop v8) v8=R1) (fun (v8:Nat)=>s'.length-v8) 0 ?_ ?_ ?_
 exact ⟨[],⟨by decide,rfl,A0.nil,(Ee (Am.cons (AW.c kr hcl_f) (Ee (Ee Am.nil))))⟩,Ax⟩
 exact ⟨od,hR1⟩
 rintro v8 ⟨hi1,hE1⟩
 try dsimp only
 refine Sq<|Rg<|Aq (AV.b (decide (((v8:Nat):Int)<((s'.length:Nat):Int))))<|Ad<|Sq ?_
 rcases Nat.lt_or_ge v8 s'.length with hl1|hl1
 have hc1:decide (((v8:Nat):Int)<((s'.length:Nat):Int))=true:=decide_eq_true (by omega)
 refine A7.cond (t:=true) (by rw [←hc1]<;>kernel_rfl) (A7.skip ?_)
 obtain ⟨x1,hx1⟩: ∃x,s'[v8]? =some x:=⟨_,List.getElem?_eq_getElem hl1⟩
 rw [AY hx1,Tl.eq_2] at hE1
 refine Sq<|A7.block<|Sq<|Rg<|Aq (Ai v8)<|Aq (Ai v8)<|Ad<|Sq<|Rg<|Aq (AV.fn f_f c_f)<|Aq ((Ao 1 AV.s) s')<|Aq (Ai v8)<|Ap (AV.pt (AV.s x1).cells) (BK (k:=1) (nl:=false) (e:=9) (kk:= .i64) (A:=AV.s) (xs:=s') (i:=v8) kr kr kr ⟨by kernel_rfl,by decide⟩ hx1)<|Aq (AV.s x1)<|A1.sc0 (vs:=((AV.s x1)::c_f)) (r0:=(AV.b (f x1))) kr (by simp only [A6,Bool.and_eq_true];exact ⟨by kernel_rfl,hcl_f⟩) (hp_f x1) kr le<|Ad ?_
 cases c_1:(f x1)
 refine Cf<|A7.skip<|Rg<|Ap (Ai (v8+1)) (AQ (i:=v8) (m:=1) kr kr sd)<|Aq (Ai (v8+1))<|Ad ?_
 try simp only [c_1,AP] at hE1
 refine ⟨v8+1,od,⟨od,hE1⟩,?_⟩
 exact ⟨[],⟨by decide,rfl,A0.nil,(Ee (Am.cons (AW.c kr hcl_f) (Ee (Ee Am.nil))))⟩,Ax⟩
 refine Ct<|Sq<|Rg<|Aq (Ai v8)<|Aq (Ai v8)<|Ad<|Rt ?_
 try simp only [c_1,AP] at hE1
 subst hE1
 exact Fi rfl (by simp only [S4,hR1,AP])
 have hc1:decide (((v8:Nat):Int)<((s'.length:Nat):Int))=false:=decide_eq_false (by omega)
 refine A7.cond (t:=false) (by rw [←hc1]<;>kernel_rfl) (A7.exit ?_)
 rw [List.drop_eq_nil_of_le (hl1),Tl.eq_1] at hE1
 subst hE1
 refine Sq<|Rg<|Aq (AV.i .i64 (-1:Int))<|Ad<|Rt ?_
 exact Fi rfl (by simp only [S4,hR1,AP])
theorem BX (W:World) (s':List ByteArray) (f_f:FuncId) (c_f:List AV) (f:ByteArray→Bool) (hcl_f:A6 c_f=true) (hp_f: ∀(z0:ByteArray),Ac Go.Proofs.Tryz.prog W f_f ((AV.s z0)::c_f) (AV.b (f z0)) []):Ac Go.Proofs.Tryz.prog W 54 [((Ao 1 AV.s) s'),(AV.fn f_f c_f)] (AV.b (UR s' f)) []:=by
 refine Ae (fn:=Go.Proofs.Tryz.f54) Go.Proofs.Tryz.func54 rfl (en54 W) (ts:=[4]) rfl le<|Sq<|Rg<|Aq (AV.b false)<|Ad<|Sq<|Rg<|Aq ((Ao 1 AV.s) s')<|Aq (AV.fn f_f c_f)<|A1.sc0 (vs:=[((Ao 1 AV.s) s'),(AV.fn f_f c_f)]) (r0:=(AV.i .i64 (S4 s' f))) kr (by simp only [A6,Bool.and_eq_true];exact ⟨by kernel_rfl,hcl_f,trivial⟩) (FF W s' f_f c_f f hcl_f hp_f) kr le<|Aq (AV.b (decide ((0:Int)≤(S4 s' f))))<|Aq (AV.b (decide ((0:Int)≤(S4 s' f))))<|Ad<|Rt ?_
 exact Fb rfl (by simp only [UR,AP])
theorem E5 (W:World) {m0:Int} (hW:W.cell? ⟨0,0,none⟩=some (.int .i64 m0)) (l:Aa) (ss:List ByteArray) (time:Int) (hz:l.state.sz≤1048576) (he:l.edge.sz≤1048576):Ac Go.Proofs.Tryz.prog W 98 [(Aa.av l),((Ao 1 AV.s) ss),(AV.i .i64 time)] (AV.b (Q5 l ss time)) []:=by
 have hg1:=l.state.sz_graph
 have hg3:=l.state.sz_disk
 have hg4:=l.state.sz_log
 have hg5:=l.state.sz_deps
 refine Ae (fn:=Go.Proofs.Tryz.f98) Go.Proofs.Tryz.func98 rfl (en98 W) (ts:=[6]) rfl le<|Sq<|Rg<|Nn (AV.loc 0 0 0) ⟨104,2,[(Aa.av l)]⟩<|Nn (AV.loc 1 0 0) ⟨3,1,[(AV.i .i64 time)]⟩<|Aq (AV.b false)<|Ad<|Sq<|Rg<|Aq ((Ao 1 AV.s) ss)<|Aq (AV.fn 146 [(AV.loc 0 0 0),(AV.loc 1 0 0)])<|A1.sfw (vs:=[((Ao 1 AV.s) ss),(AV.fn 146 [(AV.loc 0 0 0),(AV.loc 1 0 0)])]) (ss:=[((Ao 1 AV.s) ss),(AV.fn 146 [(AV.pt (Aa.av l).cells),(AV.pt ((AV.i .i64) time).cells)])]) (r0:=(AV.b (UR ss (fun z0=>PD z0 l time)))) kr (show Bv _ _ _ from ⟨(Bv.e kr),⟨(Ab.w (Ab.cast (x':=(AV.fn 146 [(AV.loc 0 0 0),(AV.loc 1 0 0)])) kr kr (Ab.fn (A9.cons (CC Aa.av l (id:=0) rfl rfl kr) (A9.cons (I3 (id:=1) (j:=0) (ob:=⟨3,1,[(AV.i .i64 time)]⟩) (x:=(AV.i .i64 time)) rfl rfl rfl rfl (Av (x:=(AV.i .i64 time)) kr)) A9.nil))))),trivial⟩⟩) (BX W ss 146 [(AV.pt (Aa.av l).cells),(AV.pt ((AV.i .i64) time).cells)] (fun z0=>PD z0 l time) kr (fun z0=>(IQ W hW z0 l time sd sd))) rfl kr le<|Aq (AV.b (UR ss (fun z0=>PD z0 l time)))<|Ad<|Rt ?_
 exact Fb rfl (by simp only [Q5,AP])
def B5 (l:Aa):AV:=(AV.pt (At.av l.edge).cells)
def C3 (l:Aa):Obj:=⟨104,2,[(Aa.av l)]⟩
def BL (l:Aa):AV:=(AV.s (l.edge.outs.getD 0 default))
def Bb (l:Aa):AV:=(AV.i .i64 (Ky l))
def D9 (l:Aa):AV:=((Ao 1 AV.s) (((K6 l.state.deps (l.edge.outs.getD 0 default)).1).ins))
def EU (l:Aa):AV:=(AV.tup [(A3.av ((CK l.state.disk (l.edge.outs.getD 0 default)).1)),(AV.b ((CK l.state.disk (l.edge.outs.getD 0 default)).2))])
def ET (l:Aa):AV:=(AV.tup [(Ah.av ((K6 l.state.deps (l.edge.outs.getD 0 default)).1)),(AV.b ((K6 l.state.deps (l.edge.outs.getD 0 default)).2))])
def D8 (l:Aa):Obj:=⟨61,3,[(AV.st [(AV.s (((K6 l.state.deps (l.edge.outs.getD 0 default)).1).out)),(AV.i .i64 (((K6 l.state.deps (l.edge.outs.getD 0 default)).1).time)),(D9 l)])]⟩
theorem Gt (W:World) {m0:Int} (hW:W.cell? ⟨0,0,none⟩=some (.int .i64 m0)) (l:Aa) (hz:l.state.sz≤1048576) (he:l.edge.sz≤1048576) (ho:0<l.edge.outs.length):Ac Go.Proofs.Tryz.prog W 57 [(Aa.av l)] (AV.b (QP l)) []:=by
 have hg1:=l.state.sz_graph
 have hg3:=l.state.sz_disk
 have hg4:=l.state.sz_log
 have hg5:=l.state.sz_deps
 refine Ae (fn:=Go.Proofs.Tryz.f57) Go.Proofs.Tryz.func57 rfl (en57 W) (ts:=[2]) rfl le<|Sq<|Rg<|Nn (AV.loc 0 0 0) (C3 l)<|Aq (AV.b false)<|Ad<|Sq<|Rg<|Aq (Aa.av l)<|A1.sc0 (vs:=[(Aa.av l)]) (r0:=(Bb l)) kr kr (J3 W hW l sd sd) kr le<|Aq (Bb l)<|Ad<|Sq<|Sq<|A7.drawn A2 Dw 20 kr le<|Dq (Bb l)<|Dq (AV.b (decide ((Ky l)<(0:Int))))<|Dq (AV.b (decide ((Ky l)<(0:Int)))) ?_
 cases c_1:decide ((Ky l)<(0:Int))
 have k_1:=of_decide_eq_false c_1
 refine Dy<|Dq (Aa.av l)<|Dy<|Dq (AV.loc 0 0 1)<|Dy<|Dq (B5 l)<|Dy<|Dq (B5 l)<|Dy<|Dq (AV.pt ((At.av l.edge).cells.drop 1))<|Dy<|Dq ((Ao 1 AV.s) l.edge.ins)<|Dy<|Dq (Bb l)<|Dy<|Ar.sc0 (vs:=[(Aa.av l),((Ao 1 AV.s) l.edge.ins),(Bb l)]) (r0:=(AV.b (Q5 l l.edge.ins (Ky l)))) kr kr (E5 W hW l l.edge.ins (Ky l) sd sd) kr le<|Dq (AV.b (Q5 l l.edge.ins (Ky l)))<|Dq (AV.b (Q5 l l.edge.ins (Ky l))) ?_
 cases c_2:(Q5 l l.edge.ins (Ky l))
 refine Dy<|Dq (Aa.av l)<|Dy<|Dq (AV.loc 0 0 1)<|Dy<|Dq (B5 l)<|Dy<|Dq (B5 l)<|Dy<|Dq (AV.pt ((At.av l.edge).cells.drop 2))<|Dy<|Dq ((Ao 1 AV.s) l.edge.implicit)<|Dy<|Dq (Bb l)<|Dy<|Ar.sc0 (vs:=[(Aa.av l),((Ao 1 AV.s) l.edge.implicit),(Bb l)]) (r0:=(AV.b (Q5 l l.edge.implicit (Ky l)))) kr kr (E5 W hW l l.edge.implicit (Ky l) sd sd) kr le<|Dq (AV.b (Q5 l l.edge.implicit (Ky l)))<|Ar.fin ?_
 cases c_3:(Q5 l l.edge.implicit (Ky l))
 refine Cf<|A7.skip<|Sq<|Sq<|Rg<|Aq (AV.loc 0 0 1)<|Aq (B5 l)<|Aq (B5 l)<|Aq (AV.pt ((At.av l.edge).cells.drop 5))<|Aq (AV.b l.edge.deps)<|Aq (AV.b (!l.edge.deps))<|Ad ?_
 cases c_4:(!l.edge.deps)
 refine Cf<|A7.skip<|Sq<|FM A2 Dw 17 [15] kr kr kr le<|Dq (AV.loc 0 0 0)<|Dq (AV.pt (Ak.av l.state).cells)<|Dq (AV.pt (Ak.av l.state).cells)<|Dq (AV.pt ((Ak.av l.state).cells.drop 7))<|Dq ((Ao 3 Ah.av) l.state.deps)<|Dq (AV.loc 0 0 1)<|Dq (B5 l)<|Dq (B5 l)<|Dq (AV.pt ((At.av l.edge).cells.drop 0))<|Dq ((Ao 1 AV.s) l.edge.outs)<|Dp (AV.pt (BL l).cells) (BK (k:=1) (nl:=false) (e:=9) (kk:= .i64) (A:=AV.s) (xs:=l.edge.outs) (i:=0) kr kr kr ⟨by kernel_rfl,by decide⟩ (getD_some sd))<|Dq (BL l)<|Ar.sc0 (vs:=[((Ao 3 Ah.av) l.state.deps),(BL l)]) (r0:=(ET l)) kr kr (Ol W hW l.state.deps (l.edge.outs.getD 0 default) sd) kr le<|Dq (ET l)<|Dq (Ah.av ((K6 l.state.deps (l.edge.outs.getD 0 default)).1))<|Dq (AV.b ((K6 l.state.deps (l.edge.outs.getD 0 default)).2))<|Ar.sn (x:=(AV.loc 1 0 0)) (h':=⟨2,[(1,some ⟨61,3,[(AV.st [(AV.s (⟨#[]⟩:ByteArray)),(AV.i .i64 (0:Int)),(AV.sl 1 true [])])]⟩),(0,some (C3 l))]⟩) kr le ?_
 refine Ar.st (by decide) (x:=AV.und) (h':=⟨2,[(1,some (D8 l)),(0,some (C3 l))]⟩) kr<|Dq (AV.b ((K6 l.state.deps (l.edge.outs.getD 0 default)).2))<|Ar.fin<|Sq<|FM A2 Dw 17 [15] kr kr kr le<|Dq (AV.loc 0 0 0)<|Dq (AV.pt (Ak.av l.state).cells)<|Dq (AV.pt (Ak.av l.state).cells)<|Dq (AV.pt ((Ak.av l.state).cells.drop 4))<|Dq (Ag.av l.state.disk)<|Dq (AV.loc 0 0 1)<|Dq (B5 l)<|Dq (B5 l)<|Dq (AV.pt ((At.av l.edge).cells.drop 0))<|Dq ((Ao 1 AV.s) l.edge.outs)<|Dp (AV.pt (BL l).cells) (BK (k:=1) (nl:=false) (e:=9) (kk:= .i64) (A:=AV.s) (xs:=l.edge.outs) (i:=0) kr kr kr ⟨by kernel_rfl,by decide⟩ (getD_some sd))<|Dq (BL l)<|Ar.sc0 (vs:=[(Ag.av l.state.disk),(BL l)]) (r0:=(EU l)) kr kr (HI W hW l.state.disk (l.edge.outs.getD 0 default) sd) kr le<|Dq (EU l) ?_
 refine Dq (A3.av ((CK l.state.disk (l.edge.outs.getD 0 default)).1))<|Dq (AV.b ((CK l.state.disk (l.edge.outs.getD 0 default)).2))<|Ar.sn (x:=(AV.loc 2 0 0)) (h':=⟨3,[(2,some ⟨85,3,[(AV.st [(AV.s (⟨#[]⟩:ByteArray)),(AV.i .i64 (0:Int)),(AV.i .i64 (0:Int))])]⟩),(1,some (D8 l)),(0,some (C3 l))]⟩) kr le<|Ar.st (by decide) (x:=AV.und) (h':=⟨3,[(2,some ⟨85,3,[(AV.st [(AV.s (((CK l.state.disk (l.edge.outs.getD 0 default)).1).name)),(AV.i .i64 (((CK l.state.disk (l.edge.outs.getD 0 default)).1).content)),(AV.i .i64 (((CK l.state.disk (l.edge.outs.getD 0 default)).1).time))])]⟩),(1,some (D8 l)),(0,some (C3 l))]⟩) kr<|Dq (AV.b ((CK l.state.disk (l.edge.outs.getD 0 default)).2))<|Ar.fin<|Sq<|Rg<|Aq (AV.b ((K6 l.state.deps (l.edge.outs.getD 0 default)).2))<|Aq (AV.b (!(K6 l.state.deps (l.edge.outs.getD 0 default)).2)) ?_
 refine Aq (AV.b (!(K6 l.state.deps (l.edge.outs.getD 0 default)).2)) ?_
 cases c_5:(!(K6 l.state.deps (l.edge.outs.getD 0 default)).2)
 refine Ay<|Aq (AV.loc 1 0 1)<|Ay<|Aq (AV.i .i64 (((K6 l.state.deps (l.edge.outs.getD 0 default)).1).time))<|Ay<|Aq (AV.loc 2 0 2)<|Ay<|Aq (AV.i .i64 (((CK l.state.disk (l.edge.outs.getD 0 default)).1).time))<|Ay<|Aq (AV.b (!decide (((K6 l.state.deps (l.edge.outs.getD 0 default)).1).time=((CK l.state.disk (l.edge.outs.getD 0 default)).1).time)))<|Aq (AV.b (!decide (((K6 l.state.deps (l.edge.outs.getD 0 default)).1).time=((CK l.state.disk (l.edge.outs.getD 0 default)).1).time)))<|Aq (AV.b (!decide (((K6 l.state.deps (l.edge.outs.getD 0 default)).1).time=((CK l.state.disk (l.edge.outs.getD 0 default)).1).time))) ?_
 cases c_6:(!decide (((K6 l.state.deps (l.edge.outs.getD 0 default)).1).time=((CK l.state.disk (l.edge.outs.getD 0 default)).1).time))
 have k_6:=nde c_6
 refine Ay<|Aq (Aa.av l)<|Ay<|Aq (AV.loc 1 0 2)<|Ay<|Aq (D9 l)<|Ay<|Aq (Bb l)<|Ay<|A1.sc0 (vs:=[(Aa.av l),(D9 l),(Bb l)]) (r0:=(AV.b (Q5 l (((K6 l.state.deps (l.edge.outs.getD 0 default)).1).ins) (Ky l)))) kr kr (E5 W hW l (((K6 l.state.deps (l.edge.outs.getD 0 default)).1).ins) (Ky l) sd sd) kr le<|Aq (AV.b (Q5 l (((K6 l.state.deps (l.edge.outs.getD 0 default)).1).ins) (Ky l)))<|Aq (AV.b (Q5 l (((K6 l.state.deps (l.edge.outs.getD 0 default)).1).ins) (Ky l)))<|Ad<|Rt ?_
 exact Fb rfl (by simp only [QP,c_1,c_2,c_3,c_4,c_5,c_6,AP])
 have k_6:=ndt c_6
 refine An<|An<|An<|An<|An<|Aq (AV.b true)<|Aq (AV.b true)<|Ad<|Rt ?_
 exact Fb rfl (by simp only [QP,c_1,c_2,c_3,c_4,c_5,c_6,AP])
 refine An<|An<|An<|An<|An<|Aq (AV.b true)<|Aq (AV.b true)<|An<|An<|An<|An<|An<|Aq (AV.b true)<|Aq (AV.b true)<|Ad<|Rt ?_
 exact Fb rfl (by simp only [QP,c_1,c_2,c_3,c_4,c_5,AP])
 refine Ct<|Sq<|Rg<|Aq (AV.b false)<|Ad<|Rt ?_
 exact Fb rfl (by simp only [QP,c_1,c_2,c_3,c_4,AP])
 refine Ct<|Sq<|Rg<|Aq (AV.b true)<|Ad<|Rt ?_
 exact Fb rfl (by simp only [QP,c_1,c_2,c_3,AP])
 refine Dn<|Dn<|Dn<|Dn<|Dn<|Dn<|Dn<|Dn<|Dq (AV.b true)<|Ar.fin<|Ct<|Sq<|Rg<|Aq (AV.b true)<|Ad<|Rt ?_
 exact Fb rfl (by simp only [QP,c_1,c_2,AP])
 have k_1:=of_decide_eq_true c_1
 refine Dn<|Dn<|Dn<|Dn<|Dn<|Dn<|Dn<|Dn<|Dq (AV.b true)<|Dq (AV.b true)<|Dn<|Dn<|Dn<|Dn<|Dn<|Dn<|Dn<|Dn<|Dq (AV.b true)<|Ar.fin<|Ct<|Sq<|Rg<|Aq (AV.b true)<|Ad<|Rt ?_
 exact Fb rfl (by simp only [QP,c_1,AP])
def Fq (s':Ak) (edge:Int):AV:=(At.av (s'.graph.edges.getD edge.toNat default))
def Bx (s':Ak) (edge:Int):AV:=(AV.pt (Fq s' edge).cells)
def Cs (s':Ak) (edge:Int):AV:=(Aa.av (⟨s',(s'.graph.edges.getD edge.toNat default)⟩:Aa))
def Bw (s':Ak) (edge:Int):AV:=(AV.st [(AV.loc 0 0 0),(Bx s' edge)])
def D7 (s':Ak) (edge:Int):AV:=(AV.fn 1000056 [(Bw s' edge)])
def Jo (s':Ak) (edge:Int):AV:=((Ao 1 (Ao 1 AV.s)) [(s'.graph.edges.getD edge.toNat default).ins,(s'.graph.edges.getD edge.toNat default).implicit,(s'.graph.edges.getD edge.toNat default).order])
theorem HH (W:World) {m0:Int} (hW:W.cell? ⟨0,0,none⟩=some (.int .i64 m0)) (s':Ak) (edge:Int) (hz:s'.sz≤1048576):Ac Go.Proofs.Tryz.prog W 17 [(Ak.av s'),(AV.i .i64 edge)] (AV.tup [(AV.b ((DC s' edge).1)),(AV.i .i64 ((DC s' edge).2))]) []:=by
 have hzg:=s'.sz_graph
 refine Ae (fn:=Go.Proofs.Tryz.f17) Go.Proofs.Tryz.func17 rfl (en17 W) (ts:=[4,5]) rfl le<|Sq<|Rg<|Nn (AV.loc 0 0 0) ⟨35,11,[(Ak.av s')]⟩<|Aq (AV.b false)<|Aq (AV.i .i64 (0:Int))<|Ad<|Sq<|Sq<|Rg<|A1.sfw (vs:=[(AV.loc 0 0 0)]) (ss:=[(AV.pt (Ak.av s').cells)]) (r0:=(AV.b (EK s'))) kr (show Bv _ _ _ from ⟨(Ab.w (Ab.cast (x':=(AV.loc 0 0 0)) kr kr (CC Ak.av s' (id:=0) rfl rfl kr))),trivial⟩) (M4 W hW s' sd) rfl kr le<|Aq (AV.b (!(EK s')))<|Aq (AV.b (!(EK s'))) ?_
 cases c_1:(!(EK s'))
 refine Ay<|Aq (AV.i .i64 edge)<|Ay<|Aq (AV.b (decide (edge<(0:Int))))<|Aq (AV.b (decide (edge<(0:Int))))<|Aq (AV.b (decide (edge<(0:Int)))) ?_
 cases c_2:decide (edge<(0:Int))
 have k_2:=of_decide_eq_false c_2
 refine Ay<|Aq (AV.i .i64 edge)<|Ay<|Aq (AV.loc 0 0 0)<|Ay<|Aq (AV.loc 0 0 0)<|Ay<|Aq ((Ao 7 At.av) s'.graph.edges)<|Ay<|Ap (Ai s'.graph.edges.length) (BV (k:=7) (nl:=false) (e:=65) (A:=At.av) (xs:=s'.graph.edges) kr kr)<|Ay<|Aq (AV.b (decide (((s'.graph.edges.length:Nat):Int)≤edge)))<|Aq (AV.b (decide (((s'.graph.edges.length:Nat):Int)≤edge)))<|Ad ?_
 cases c_3:decide (((s'.graph.edges.length:Nat):Int)≤edge)
 have k_3:=of_decide_eq_false c_3
 have q_3:=Sb hz (by assumption) (by assumption) c_3
 refine Cf<|A7.skip<|Sq<|Rg<|Aq (AV.loc 0 0 0)<|Aq (AV.loc 0 0 0)<|Aq ((Ao 7 At.av) s'.graph.edges)<|Aq (AV.i .i64 edge)<|Ap (Bx s' edge) (IG (k:=7) (nl:=false) (e:=65) (kk:= .i64) (A:=At.av) (xs:=s'.graph.edges) (n:=edge) kr kr kr ⟨by kernel_rfl,by decide⟩ sd (getD_some sd))<|Nb (Bw s' edge)<|Nn (AV.loc 1 0 0) ⟨104,2,[(AV.st [AV.nilp,AV.nilp])]⟩<|Sp 1 ⟨104,2,[(Bw s' edge)]⟩<|Ad<|Sq<|Sq<|A7.drawn A2 Dw 19 kr le<|Dq (AV.loc 1 0 1)<|Dq (Bx s' edge)<|Dq (Bx s' edge)<|Dq (AV.pt ((Fq s' edge).cells.drop 1))<|Dq ((Ao 1 AV.s) ((s'.graph.edges.getD edge.toNat default).ins))<|Dq (AV.loc 1 0 1)<|Dq (Bx s' edge)<|Dq (Bx s' edge)<|Dq (AV.pt ((Fq s' edge).cells.drop 2))<|Dq ((Ao 1 AV.s) ((s'.graph.edges.getD edge.toNat default).implicit))<|Dq (AV.loc 1 0 1)<|Dq (Bx s' edge)<|Dq (Bx s' edge)<|Dq (AV.pt ((Fq s' edge).cells.drop 3)) ?_
 refine Dq ((Ao 1 AV.s) ((s'.graph.edges.getD edge.toNat default).order))<|Ar.sn (x:=(AV.own 2 0 3)) (h':=⟨3,[(2,some ⟨24,1,[(s'.graph.edges.getD edge.toNat default).ins,(s'.graph.edges.getD edge.toNat default).implicit,(s'.graph.edges.getD edge.toNat default).order].map (Ao 1 AV.s)⟩),(1,some ⟨104,2,[(Bw s' edge)]⟩),(0,some ⟨35,11,[(Ak.av s')]⟩)]⟩) kr le ?_
 by_cases z_4:(D4 [(s'.graph.edges.getD edge.toNat default).ins,(s'.graph.edges.getD edge.toNat default).implicit,(s'.graph.edges.getD edge.toNat default).order])=[]
 refine Ar.sfw (vs:=[(AV.own 2 0 3)]) (ss:=[(Jo s' edge)]) (r0:=((Ao 1 AV.s) ([]:List ByteArray))) kr (show Bv _ _ _ from ⟨(Ab.w (Ab.cast (x':=(AV.own 2 0 3)) kr kr (Ab.row (fun _=>rfl) (A:=(Ao 1 AV.s)) (id:=2) (e:=24) (k:=1) (xs:=[(s'.graph.edges.getD edge.toNat default).ins,(s'.graph.edges.getD edge.toNat default).implicit,(s'.graph.edges.getD edge.toNat default).order]) rfl rfl sd sd))),trivial⟩) (by rw [←show (D4 [(s'.graph.edges.getD edge.toNat default).ins,(s'.graph.edges.getD edge.toNat default).implicit,(s'.graph.edges.getD edge.toNat default).order])=[] from z_4];exact (Cv W [(s'.graph.edges.getD edge.toNat default).ins,(s'.graph.edges.getD edge.toNat default).implicit,(s'.graph.edges.getD edge.toNat default).order] (by simp only [List.flatten_cons,List.flatten_nil,List.append_nil,List.length_append];have:=Ns hz (by assumption) (by assumption) (by assumption);omega))) rfl kr le<|Dq (Bw s' edge)<|Dq (D7 s' edge)<|Ar.sfw (vs:=[((Ao 1 AV.s) ([]:List ByteArray)),(D7 s' edge)]) (ss:=[((Ao 1 AV.s) ([]:List ByteArray)),(AV.fn 1000056 [(Cs s' edge)])]) (r0:=(AV.b (UR ([]:List ByteArray) (fun z0=>Lz (⟨s',(s'.graph.edges.getD edge.toNat default)⟩:Aa) z0)))) kr (show Bv _ _ _ from ⟨(Bv.e kr),⟨(Ab.w (Ab.cast (x':=(D7 s' edge)) kr kr (Ab.fn (A9.cons (Ab.st (A9.cons (CC Ak.av s' (id:=0) rfl rfl kr) (A9.cons (Av (x:=(Bx s' edge)) kr) A9.nil))) A9.nil)))),trivial⟩⟩) (BX W ([]:List ByteArray) 1000056 [(Cs s' edge)] (fun z0=>Lz (⟨s',(s'.graph.edges.getD edge.toNat default)⟩:Aa) z0) kr (fun z0=>(KC (f:=56) (bs:=[(Cs s' edge)]) (ys:=[(AV.s z0)]) (FE W hW (⟨s',(s'.graph.edges.getD edge.toNat default)⟩:Aa) z0 hz (Do hz (by assumption) (by assumption) (by assumption)).2.2.1) (by decide) (by simp) rfl))) rfl kr le ?_
 refine Ar.fin ?_
 cases c_5:(UR ([]:List ByteArray) (fun z0=>Lz (⟨s',(s'.graph.edges.getD edge.toNat default)⟩:Aa) z0))
 refine Cf<|A7.skip<|Sq<|Rg<|Aq (Bw s' edge)<|A1.sfw (vs:=[(Bw s' edge)]) (ss:=[(Cs s' edge)]) (r0:=(AV.b (QP (⟨s',(s'.graph.edges.getD edge.toNat default)⟩:Aa)))) kr (show Bv _ _ _ from ⟨(Ab.w (Ab.cast (x':=(Bw s' edge)) kr kr (Ab.st (A9.cons (CC Ak.av s' (id:=0) rfl rfl kr) (A9.cons (Av (x:=(Bx s' edge)) kr) A9.nil))))),trivial⟩) (Gt W hW (⟨s',(s'.graph.edges.getD edge.toNat default)⟩:Aa) hz (Do hz (by assumption) (by assumption) (by assumption)).2.2.1 (Do hz (by assumption) (by assumption) (by assumption)).2.2.2) rfl kr le<|Aq (AV.b (QP (⟨s',(s'.graph.edges.getD edge.toNat default)⟩:Aa)))<|Aq (AV.i .i64 (0:Int))<|Ad<|Rt ?_
 exact Fbi rfl (by simp only [DC,c_1,c_2,c_3,z_4,c_5,AP])
 refine Ct<|Sq<|Rg<|Aq (AV.b false)<|Aq (AV.i .i64 (1901:Int))<|Ad<|Rt ?_
 exact Fbi rfl (by simp only [DC,c_1,c_2,c_3,z_4,c_5,AP])
 refine Lg (A:=AV.s) (xs:=(D4 [(s'.graph.edges.getD edge.toNat default).ins,(s'.graph.edges.getD edge.toNat default).implicit,(s'.graph.edges.getD edge.toNat default).order])) (vs:=[(AV.own 2 0 3)]) (ss:=[(Jo s' edge)]) kr (show Bv _ _ _ from ⟨(Ab.w (Ab.cast (x':=(AV.own 2 0 3)) kr kr (Ab.row (fun _=>rfl) (A:=(Ao 1 AV.s)) (id:=2) (e:=24) (k:=1) (xs:=[(s'.graph.edges.getD edge.toNat default).ins,(s'.graph.edges.getD edge.toNat default).implicit,(s'.graph.edges.getD edge.toNat default).order]) rfl rfl sd sd))),trivial⟩) (Co W [(s'.graph.edges.getD edge.toNat default).ins,(s'.graph.edges.getD edge.toNat default).implicit,(s'.graph.edges.getD edge.toNat default).order] (by simp only [List.flatten_cons,List.flatten_nil,List.append_nil,List.length_append];have:=Ns hz (by assumption) (by assumption) (by assumption);omega) z_4) (fun _=>rfl) (fun _=>rfl) le<|Dq (Bw s' edge)<|Dq (D7 s' edge)<|Ar.sfw (vs:=[(AV.own 3 0 ((D4 [(s'.graph.edges.getD edge.toNat default).ins,(s'.graph.edges.getD edge.toNat default).implicit,(s'.graph.edges.getD edge.toNat default).order]).length)),(D7 s' edge)]) (ss:=[((Ao 1 AV.s) (D4 [(s'.graph.edges.getD edge.toNat default).ins,(s'.graph.edges.getD edge.toNat default).implicit,(s'.graph.edges.getD edge.toNat default).order])),(AV.fn 1000056 [(Cs s' edge)])]) (r0:=(AV.b (UR (D4 [(s'.graph.edges.getD edge.toNat default).ins,(s'.graph.edges.getD edge.toNat default).implicit,(s'.graph.edges.getD edge.toNat default).order]) (fun z0=>Lz (⟨s',(s'.graph.edges.getD edge.toNat default)⟩:Aa) z0)))) kr (show Bv _ _ _ from ⟨(Ab.w (Ab.cast (x':=(AV.own 3 0 ((D4 [(s'.graph.edges.getD edge.toNat default).ins,(s'.graph.edges.getD edge.toNat default).implicit,(s'.graph.edges.getD edge.toNat default).order]).length))) kr kr (Ab.row (fun _=>rfl) (A:=AV.s) (id:=3) (e:=9) (k:=1) (xs:=(D4 [(s'.graph.edges.getD edge.toNat default).ins,(s'.graph.edges.getD edge.toNat default).implicit,(s'.graph.edges.getD edge.toNat default).order])) rfl rfl rfl sd))),⟨(Ab.w (Ab.cast (x':=(D7 s' edge)) kr kr (Ab.fn (A9.cons (Ab.st (A9.cons (CC Ak.av s' (id:=0) rfl rfl kr) (A9.cons (Av (x:=(Bx s' edge)) kr) A9.nil))) A9.nil)))),trivial⟩⟩) (BX W (D4 [(s'.graph.edges.getD edge.toNat default).ins,(s'.graph.edges.getD edge.toNat default).implicit,(s'.graph.edges.getD edge.toNat default).order]) 1000056 [(Cs s' edge)] (fun z0=>Lz (⟨s',(s'.graph.edges.getD edge.toNat default)⟩:Aa) z0) kr (fun z0=>(KC (f:=56) (bs:=[(Cs s' edge)]) (ys:=[(AV.s z0)]) (FE W hW (⟨s',(s'.graph.edges.getD edge.toNat default)⟩:Aa) z0 hz (Do hz (by assumption) (by assumption) (by assumption)).2.2.1) (by decide) (by simp) rfl))) rfl kr le ?_
 refine Ar.fin ?_
 cases c_6:(UR (D4 [(s'.graph.edges.getD edge.toNat default).ins,(s'.graph.edges.getD edge.toNat default).implicit,(s'.graph.edges.getD edge.toNat default).order]) (fun z0=>Lz (⟨s',(s'.graph.edges.getD edge.toNat default)⟩:Aa) z0))
 refine Cf<|A7.skip<|Sq<|Rg<|Aq (Bw s' edge)<|A1.sfw (vs:=[(Bw s' edge)]) (ss:=[(Cs s' edge)]) (r0:=(AV.b (QP (⟨s',(s'.graph.edges.getD edge.toNat default)⟩:Aa)))) kr (show Bv _ _ _ from ⟨(Ab.w (Ab.cast (x':=(Bw s' edge)) kr kr (Ab.st (A9.cons (CC Ak.av s' (id:=0) rfl rfl kr) (A9.cons (Av (x:=(Bx s' edge)) kr) A9.nil))))),trivial⟩) (Gt W hW (⟨s',(s'.graph.edges.getD edge.toNat default)⟩:Aa) hz (Do hz (by assumption) (by assumption) (by assumption)).2.2.1 (Do hz (by assumption) (by assumption) (by assumption)).2.2.2) rfl kr le<|Aq (AV.b (QP (⟨s',(s'.graph.edges.getD edge.toNat default)⟩:Aa)))<|Aq (AV.i .i64 (0:Int))<|Ad<|Rt ?_
 exact Fbi rfl (by simp only [DC,c_1,c_2,c_3,c_6,AP])
 refine Ct<|Sq<|Rg<|Aq (AV.b false)<|Aq (AV.i .i64 (1901:Int))<|Ad<|Rt ?_
 exact Fbi rfl (by simp only [DC,c_1,c_2,c_3,c_6,AP])
 have k_3:=of_decide_eq_true c_3
 refine Ct<|Sq<|Rg<|Aq (AV.b false)<|Aq (AV.i .i64 (1900:Int))<|Ad<|Rt ?_
 exact Fbi rfl (by simp only [DC,c_1,c_2,c_3,AP])
 have k_2:=of_decide_eq_true c_2
 refine An<|An<|An<|An<|An<|An<|Aq (AV.b true)<|Ad<|Ct<|Sq<|Rg<|Aq (AV.b false)<|Aq (AV.i .i64 (1900:Int))<|Ad<|Rt ?_
 exact Fbi rfl (by simp only [DC,c_1,c_2,AP])
 refine An<|An<|Aq (AV.b true)<|Aq (AV.b true)<|An<|An<|An<|An<|An<|An<|Aq (AV.b true)<|Ad<|Ct<|Sq<|Rg<|Aq (AV.b false)<|Aq (AV.i .i64 (1900:Int))<|Ad<|Rt ?_
 exact Fbi rfl (by simp only [DC,c_1,AP])
def BW (s':Ak):Obj:=⟨35,11,[(Ak.av s')]⟩
def H6 (s':Ak):AV:=(AV.i .i64 ((GX (⟨s'.graph.edges,s'.graph.pools,s'.graph.defaults⟩:Al)).2))
def Cr (s':Ak):AV:=((Ao 1 (AV.i .i64)) ((GX (⟨s'.graph.edges,s'.graph.pools,s'.graph.defaults⟩:Al)).1))
def Jn (s':Ak):AV:=(AV.st [((Ao 7 At.av) s'.graph.edges),((Ao 2 BM.av) s'.graph.pools),((Ao 1 AV.s) s'.graph.defaults)])
def Fp (s':Ak):AV:=(AV.i .i64 ((((GX (⟨s'.graph.edges,s'.graph.pools,s'.graph.defaults⟩:Al)).1).length:Nat):Int))
def Jm (s':Ak):AV:=(AV.tup [(Cr s'),(H6 s')])
theorem JF (W:World) {m0:Int} (hW:W.cell? ⟨0,0,none⟩=some (.int .i64 m0)) (s':Ak) (hz:s'.sz≤1048576):Ac Go.Proofs.Tryz.prog W 19 [(Ak.av s')] (AV.tup [((Ao 1 AV.b) ((Es s').1)),(AV.i .i64 ((Es s').2))]) []:=by
 have hzg:=s'.sz_graph
 have hgl:=Nat.le_trans s'.graph.sz_len (Nat.le_trans s'.sz_graph hz)
 refine Ae (fn:=Go.Proofs.Tryz.f19) Go.Proofs.Tryz.func19 rfl (en19 W) (ts:=[2,3]) rfl le<|Sq<|Rg<|Nn (AV.loc 0 0 0) (BW s')<|Aq (AV.sl 1 true [])<|Aq (AV.i .i64 (0:Int))<|Ad<|Sq<|Sq<|Rg<|A1.sfw (vs:=[(AV.loc 0 0 0)]) (ss:=[(AV.pt (Ak.av s').cells)]) (r0:=(AV.b (EK s'))) kr (show Bv _ _ _ from ⟨(Ab.w (Ab.cast (x':=(AV.loc 0 0 0)) kr kr (CC Ak.av s' (id:=0) rfl rfl kr))),trivial⟩) (M4 W hW s' sd) rfl kr le<|Aq (AV.b (!(EK s')))<|Ad ?_
 cases c_1:(!(EK s'))
 refine Cf<|A7.skip<|Sq<|Rg<|Aq (AV.loc 0 0 0)<|Aq (AV.loc 0 0 0)<|Aq ((Ao 7 At.av) s'.graph.edges)<|Ap (Ai s'.graph.edges.length) (BV (k:=7) (nl:=false) (e:=65) (A:=At.av) (xs:=s'.graph.edges) kr kr)<|A1.sn (x:=(AV.own 1 0 s'.graph.edges.length)) (h':=⟨2,[(1,some ⟨4,1,(List.replicate s'.graph.edges.length false).map AV.b⟩),(0,some (BW s'))]⟩) (UE (e:=4) (i:=TU) (A:=AV.b) (z:=false) (n:=s'.graph.edges.length) kr kr kr kr ⟨by decide,by kernel_rfl⟩ kr (by show _*1≤140737488355328;first|omega|(simp only [List.length_append,List.length_cons,List.length_nil,List.length_set,List.length_replicate];omega)|(simp;omega)) sd) le<|Aq (AV.own 1 0 s'.graph.edges.length)<|Ad<|Sq<|Sq<|Rg<|Aq (AV.own 1 0 s'.graph.edges.length)<|Aq (Ai s'.graph.edges.length)<|Aq (AV.i .i64 (0:Int))<|Ad<|A7.block ?_
 have hB1:s'.graph.edges.length≤281474976710656:=by first|omega|(simp;done)|(simp;omega)
 obtain ⟨R1,hR1⟩: ∃R,PG s' (List.replicate s'.graph.edges.length false) 0 (List.replicate s'.graph.edges.length false)=R:=⟨_,rfl⟩
 refine AX (fun ((v25,row):Nat×(List Bool))=>[(1,(AV.loc 0 0 0)),(4,(AV.own 1 0 s'.graph.edges.length)),(24,(Ai s'.graph.edges.length)),(25,(Ai v25))]) (fun ((v25,row):Nat×(List Bool))=>⟨2,[(0,some (BW s')),(1,some ⟨4,1,row.map AV.b⟩)]⟩) (fun ((v25,row):Nat×(List Bool))=>v25≤s'.graph.edges.length∧row.length=s'.graph.edges.length∧PG s' ((List.replicate s'.graph.edges.length false).drop v25) v25 row=R1) (fun ((v25,row):Nat×(List Bool))=>s'.graph.edges.length-v25) (0,(List.replicate s'.graph.edges.length false)) ?_ ?_ ?_
 exact ⟨[0,1],⟨by decide,rfl,(A0.cons kr (A0.cons (AZ (fun _=>rfl) (e:=4) (k:=1) (A:=AV.b) (xs:=(List.replicate s'.graph.edges.length false)) rfl rfl) A0.nil)),(Am.cons (AW.f kr) (Am.cons (AW.f kr) (Ee (Ee Am.nil))))⟩,Ax⟩
 exact ⟨od,by (try dsimp only)<;>(simp),hR1⟩
 rintro ⟨v25,row⟩ ⟨hi1,hq,hE1⟩
 try dsimp only
 refine Sq<|Rg<|Aq (AV.b (decide (((v25:Nat):Int)<((s'.graph.edges.length:Nat):Int))))<|Ad<|Sq ?_
 rcases Nat.lt_or_ge v25 s'.graph.edges.length with hl1|hl1
 have hc1:decide (((v25:Nat):Int)<((s'.graph.edges.length:Nat):Int))=true:=decide_eq_true (by omega)
 refine A7.cond (t:=true) (by rw [←hc1]<;>kernel_rfl) (A7.skip ?_)
 obtain ⟨x1,hx1⟩: ∃x,(List.replicate s'.graph.edges.length false)[v25]? =some x:=⟨_,List.getElem?_eq_getElem (by first|(simpa using hl1)|omega)⟩
 rw [AY hx1,PG.eq_2] at hE1
 refine Sq<|A7.block<|Sq<|Rg<|Aq (Ai v25)<|Aq (Ai v25)<|Ad<|Sq<|Rg<|Aq (Ak.av s')<|Aq (Ai v25)<|A1.sc0 (vs:=[(Ak.av s'),(Ai v25)]) (r0:=(AV.tup [(AV.b ((DC s' ((v25:Nat):Int)).1)),(AV.i .i64 ((DC s' ((v25:Nat):Int)).2))])) kr kr (HH W hW s' ((v25:Nat):Int) hz) kr le<|Aq (AV.tup [(AV.b ((DC s' ((v25:Nat):Int)).1)),(AV.i .i64 ((DC s' ((v25:Nat):Int)).2))])<|Aq (AV.b ((DC s' ((v25:Nat):Int)).1))<|Aq (AV.i .i64 ((DC s' ((v25:Nat):Int)).2))<|Aq (AV.b ((DC s' ((v25:Nat):Int)).1))<|Aq (AV.i .i64 ((DC s' ((v25:Nat):Int)).2))<|Ad<|Sq<|Sq<|Rg<|Aq (AV.i .i64 ((DC s' ((v25:Nat):Int)).2))<|Aq (AV.b (!decide ((DC s' ((v25:Nat):Int)).2=(0:Int))))<|Ad ?_
 cases c_2:(!decide ((DC s' ((v25:Nat):Int)).2=(0:Int)))
 have k_2:=nde c_2
 refine Cf<|A7.skip<|Rg<|Aq (AV.own 1 0 s'.graph.edges.length)<|Aq (Ai v25)<|Aq (AV.b ((DC s' ((v25:Nat):Int)).1))<|Ap (AV.loc 1 v25 0) (E0 (e:=4) (id:=1) (len:=s'.graph.edges.length) (kk:= .i64) (ob:=⟨4,1,row.map AV.b⟩) (i:=v25) kr kr kr rfl kr sd)<|A1.st (x:=AV.und) (h':=⟨2,[(0,some (BW s')),(1,some ⟨4,1,(row.set v25 ((DC s' ((v25:Nat):Int)).1)).map AV.b⟩)]⟩) (SE (e:=4) (k:=1) (i:=TU) (id:=1) (A:=AV.b) (xs:=row) (y:=((DC s' ((v25:Nat):Int)).1)) (j:=v25) kr kr kr rfl sd (fun _=>rfl) kr (fun _=>rfl) (fun _=>rfl))<|Ad<|Rg<|Ap (Ai (v25+1)) (AQ (i:=v25) (m:=1) kr kr sd)<|Aq (Ai (v25+1))<|Ad ?_
 try simp only [c_2,AP] at hE1
 refine ⟨(v25+1,(row.set v25 ((DC s' ((v25:Nat):Int)).1))),od,⟨od,by (try dsimp only)<;>(simp only [List.length_set];exact hq),hE1⟩,?_⟩
 exact ⟨[0,1],⟨by decide,rfl,(A0.cons kr (A0.cons (AZ (fun _=>rfl) (e:=4) (k:=1) (A:=AV.b) (xs:=(row.set v25 ((DC s' ((v25:Nat):Int)).1))) rfl rfl) A0.nil)),(Am.cons (AW.f kr) (Am.cons (AW.f kr) (Ee (Ee Am.nil))))⟩,Ax⟩
 have k_2:=ndt c_2
 refine Ct<|Sq<|Rg<|Aq (AV.i .i64 ((DC s' ((v25:Nat):Int)).2))<|Aq (AV.sl 1 true [])<|Aq (AV.i .i64 ((DC s' ((v25:Nat):Int)).2))<|Ad<|Rt ?_
 try simp only [c_2,AP] at hE1
 subst hE1
 have hM:Es s'=(([]:List Bool),(DC s' ((v25:Nat):Int)).2):=by simp only [Es,c_1,hR1,AP]
 refine ⟨Or.inr rfl,?_⟩
 rw [hM]
 exact AW.cast (x':=(AV.tup [(AV.sl 1 true []),(AV.i .i64 ((DC s' ((v25:Nat):Int)).2))])) (y':=(AV.tup [((Ao 1 AV.b) ((([]:List Bool),(DC s' ((v25:Nat):Int)).2).1)),(AV.i .i64 ((([]:List Bool),(DC s' ((v25:Nat):Int)).2).2))])) kr kr (AW.tup ⟨(AW.w rfl (AM.nil 1)),⟨Ec,trivial⟩⟩ kr)
 have hc1:decide (((v25:Nat):Int)<((s'.graph.edges.length:Nat):Int))=false:=decide_eq_false (by omega)
 refine A7.cond (t:=false) (by rw [←hc1]<;>kernel_rfl) (A7.exit ?_)
 rw [List.drop_eq_nil_of_le (by first|(simpa using hl1)|omega),PG.eq_1] at hE1
 subst hE1
 refine Sq<|Rg<|Aq (AV.loc 0 0 0)<|Aq (Jn s')<|A1.sc0 (vs:=[(Jn s')]) (r0:=(Jm s')) kr kr (NQ W hW (⟨s'.graph.edges,s'.graph.pools,s'.graph.defaults⟩:Al) (Nat.le_trans s'.sz_graph hz)) kr le<|Aq (Jm s')<|Aq (Cr s')<|Aq (H6 s')<|Aq (Cr s')<|Aq (H6 s')<|Ad<|Sq<|Sq<|Rg<|Aq (Cr s')<|Ap (Fp s') (BV (k:=1) (nl:=false) (e:=3) (A:=(AV.i .i64)) (xs:=((GX (⟨s'.graph.edges,s'.graph.pools,s'.graph.defaults⟩:Al)).1)) kr kr) ?_
 refine Aq (AV.i .i64 (0:Int))<|Ad<|A7.block<|A7.lim 46 (x:=(Cr s')) kr fun hlm2=> ?_
 have hB2:((GX (⟨s'.graph.edges,s'.graph.pools,s'.graph.defaults⟩:Al)).1).length≤281474976710656:=C6 hlm2
 obtain ⟨R2,hR2⟩: ∃R,KQ s' ((GX (⟨s'.graph.edges,s'.graph.pools,s'.graph.defaults⟩:Al)).1) 0 row=R:=⟨_,rfl⟩
 refine AX (fun ((v50,row2):Nat×(List Bool))=>[(1,(AV.loc 0 0 0)),(4,(AV.own 1 0 s'.graph.edges.length)),(48,(Cr s')),(49,(Fp s')),(50,(Ai v50))]) (fun ((v50,row2):Nat×(List Bool))=>⟨2,[(0,some (BW s')),(1,some ⟨4,1,row2.map AV.b⟩)]⟩) (fun ((v50,row2):Nat×(List Bool))=>v50≤((GX (⟨s'.graph.edges,s'.graph.pools,s'.graph.defaults⟩:Al)).1).length∧row2.length=s'.graph.edges.length∧KQ s' (((GX (⟨s'.graph.edges,s'.graph.pools,s'.graph.defaults⟩:Al)).1).drop v50) v50 row2=R2) (fun ((v50,row2):Nat×(List Bool))=>((GX (⟨s'.graph.edges,s'.graph.pools,s'.graph.defaults⟩:Al)).1).length-v50) (0,row) ?_ ?_ ?_
 exact ⟨[0,1],⟨by decide,rfl,(A0.cons kr (A0.cons (AZ (fun _=>rfl) (e:=4) (k:=1) (A:=AV.b) (xs:=row) rfl rfl) A0.nil)),(Am.cons (AW.f kr) (Am.cons (AW.f kr) (Ee (Ee (Ee Am.nil)))))⟩,Ax⟩
 exact ⟨od,by (try dsimp only)<;>(exact hq),hR2⟩
 rintro ⟨v50,row2⟩ ⟨hi2,hq2,hE2⟩
 try dsimp only
 refine Sq<|Rg<|Aq (AV.b (decide (((v50:Nat):Int)<((((GX (⟨s'.graph.edges,s'.graph.pools,s'.graph.defaults⟩:Al)).1).length:Nat):Int))))<|Ad<|Sq ?_
 rcases Nat.lt_or_ge v50 ((GX (⟨s'.graph.edges,s'.graph.pools,s'.graph.defaults⟩:Al)).1).length with hl2|hl2
 have hc2:decide (((v50:Nat):Int)<((((GX (⟨s'.graph.edges,s'.graph.pools,s'.graph.defaults⟩:Al)).1).length:Nat):Int))=true:=decide_eq_true (by omega)
 refine A7.cond (t:=true) (by rw [←hc2]<;>kernel_rfl) (A7.skip ?_)
 obtain ⟨x2,hx2⟩: ∃x,((GX (⟨s'.graph.edges,s'.graph.pools,s'.graph.defaults⟩:Al)).1)[v50]? =some x:=⟨_,List.getElem?_eq_getElem hl2⟩
 rw [AY hx2,KQ.eq_2] at hE2
 have ha:=RP hz (by assumption) (List.mem_of_getElem? hx2)
 have hcl:(D4 [(s'.graph.edges.getD x2.toNat default).ins,(s'.graph.edges.getD x2.toNat default).implicit]).length≤1048576:=by rw [JQ];simp only [List.flatten_cons,List.flatten_nil,List.append_nil,List.length_append];omega
 refine Sq<|A7.block<|Sq<|Rg<|Ap (AV.pt ((AV.i .i64) x2).cells) (BK (k:=1) (nl:=false) (e:=3) (kk:= .i64) (A:=(AV.i .i64)) (xs:=((GX (⟨s'.graph.edges,s'.graph.pools,s'.graph.defaults⟩:Al)).1)) (i:=v50) kr kr kr ⟨by kernel_rfl,by decide⟩ hx2)<|Aq (AV.i .i64 x2)<|Aq (AV.i .i64 x2)<|Ad<|Sq<|Rg<|Aq (AV.loc 0 0 0)<|Aq (AV.loc 0 0 0)<|Aq ((Ao 7 At.av) s'.graph.edges)<|Aq (AV.i .i64 x2)<|Ap (AV.pt (At.av (s'.graph.edges.getD x2.toNat default)).cells) (IG (k:=7) (nl:=false) (e:=65) (kk:= .i64) (A:=At.av) (xs:=s'.graph.edges) (n:=x2) kr kr kr ⟨by kernel_rfl,by decide⟩ sd (getD_some sd))<|Aq (AV.pt (At.av (s'.graph.edges.getD x2.toNat default)).cells)<|Ad<|Sq<|A7.drawn A2 Dw 12 kr le<|Dq (AV.pt (At.av (s'.graph.edges.getD x2.toNat default)).cells)<|Dq (AV.pt (At.av (s'.graph.edges.getD x2.toNat default)).cells)<|Dq (AV.pt ((At.av (s'.graph.edges.getD x2.toNat default)).cells.drop 1))<|Dq ((Ao 1 AV.s) ((s'.graph.edges.getD x2.toNat default).ins))<|Dq (AV.pt (At.av (s'.graph.edges.getD x2.toNat default)).cells)<|Dq (AV.pt (At.av (s'.graph.edges.getD x2.toNat default)).cells)<|Dq (AV.pt ((At.av (s'.graph.edges.getD x2.toNat default)).cells.drop 2))<|Dq ((Ao 1 AV.s) ((s'.graph.edges.getD x2.toNat default).implicit))<|Ar.sn (x:=(AV.own 2 0 2)) (h':=⟨3,[(2,some ⟨24,1,[(s'.graph.edges.getD x2.toNat default).ins,(s'.graph.edges.getD x2.toNat default).implicit].map (Ao 1 AV.s)⟩),(0,some (BW s')),(1,some ⟨4,1,row2.map AV.b⟩)]⟩) kr le ?_
 by_cases z_3:(D4 [(s'.graph.edges.getD x2.toNat default).ins,(s'.graph.edges.getD x2.toNat default).implicit])=[]
 refine Ar.sfw (vs:=[(AV.own 2 0 2)]) (ss:=[((Ao 1 (Ao 1 AV.s)) [(s'.graph.edges.getD x2.toNat default).ins,(s'.graph.edges.getD x2.toNat default).implicit])]) (r0:=((Ao 1 AV.s) ([]:List ByteArray))) kr (show Bv _ _ _ from ⟨(Ab.w (Ab.cast (x':=(AV.own 2 0 2)) kr kr (Ab.row (fun _=>rfl) (A:=(Ao 1 AV.s)) (id:=2) (e:=24) (k:=1) (xs:=[(s'.graph.edges.getD x2.toNat default).ins,(s'.graph.edges.getD x2.toNat default).implicit]) rfl rfl sd sd))),trivial⟩) (by rw [←show (D4 [(s'.graph.edges.getD x2.toNat default).ins,(s'.graph.edges.getD x2.toNat default).implicit])=[] from z_3];exact (Cv W [(s'.graph.edges.getD x2.toNat default).ins,(s'.graph.edges.getD x2.toNat default).implicit] (by simp only [List.flatten_cons,List.flatten_nil,List.append_nil,List.length_append];omega))) rfl kr le<|Dp (AV.i .i64 ((([]:List ByteArray).length:Nat):Int)) (BV (k:=1) (nl:=false) (e:=9) (A:=AV.s) (xs:=([]:List ByteArray)) kr kr)<|Dq (AV.i .i64 (0:Int))<|Ar.fin<|A7.block<|A7.lim 68 (x:=((Ao 1 AV.s) ([]:List ByteArray))) kr fun hlm3=> ?_
 have hB3:([]:List ByteArray).length≤281474976710656:=C6 hlm3
 obtain ⟨R3,hR3⟩: ∃R,IM s' x2 ([]:List ByteArray) 0 row2=R:=⟨_,rfl⟩
 refine AX (fun ((v70,row3):Nat×(List Bool))=>[(1,(AV.loc 0 0 0)),(4,(AV.own 1 0 s'.graph.edges.length)),(11,(AV.i .i64 x2)),(48,(Cr s')),(49,(Fp s')),(50,(Ai v50)),(68,((Ao 1 AV.s) ([]:List ByteArray))),(69,(AV.i .i64 ((([]:List ByteArray).length:Nat):Int))),(70,(Ai v70))]) (fun ((v70,row3):Nat×(List Bool))=>⟨2,[(0,some (BW s')),(1,some ⟨4,1,row3.map AV.b⟩)]⟩) (fun ((v70,row3):Nat×(List Bool))=>v70≤([]:List ByteArray).length∧row3.length=s'.graph.edges.length∧IM s' x2 (([]:List ByteArray).drop v70) v70 row3=R3) (fun ((v70,row3):Nat×(List Bool))=>([]:List ByteArray).length-v70) (0,row2) ?_ ?_ ?_
 exact ⟨[0,1],⟨by decide,rfl,(A0.cons kr (A0.cons (AZ (fun _=>rfl) (e:=4) (k:=1) (A:=AV.b) (xs:=row2) rfl rfl) A0.nil)),(Am.cons (AW.f kr) (Am.cons (AW.f kr) (Ee (Ee (Ee (Ee (Ee (Ee (Ee Am.nil)))))))))⟩,Ax⟩
 exact ⟨od,by (try dsimp only)<;>(exact hq2),hR3⟩
 rintro ⟨v70,row3⟩ ⟨hi3,hq3,hE3⟩
 try dsimp only
 refine Sq<|Rg<|Aq (AV.b (decide (((v70:Nat):Int)<((([]:List ByteArray).length:Nat):Int))))<|Ad<|Sq ?_
 rcases Nat.lt_or_ge v70 ([]:List ByteArray).length with hl3|hl3
 have hc3:decide (((v70:Nat):Int)<((([]:List ByteArray).length:Nat):Int))=true:=decide_eq_true (by omega)
 refine A7.cond (t:=true) (by rw [←hc3]<;>kernel_rfl) (A7.skip ?_)
 obtain ⟨x3,hx3⟩: ∃x,([]:List ByteArray)[v70]? =some x:=⟨_,List.getElem?_eq_getElem hl3⟩
 rw [AY hx3,IM.eq_2] at hE3
 have hmk:=QY s'.graph x3
 refine Sq<|A7.block<|Sq<|Rg<|Ap (AV.pt (AV.s x3).cells) (BK (k:=1) (nl:=false) (e:=9) (kk:= .i64) (A:=AV.s) (xs:=([]:List ByteArray)) (i:=v70) kr kr kr ⟨by kernel_rfl,by decide⟩ hx3)<|Aq (AV.s x3)<|Aq (AV.s x3)<|Ad<|Sq<|Rg<|Aq (AV.loc 0 0 0)<|Aq (AV.s x3)<|A1.sfw (vs:=[(AV.loc 0 0 0),(AV.s x3)]) (ss:=[(AV.pt (Al.av s'.graph).cells),(AV.s x3)]) (r0:=(AV.i .i64 (Ep s'.graph x3))) kr (show Bv _ _ _ from ⟨(Ab.w (Ab.cast (x':=(AV.loc 0 0 0)) kr kr (Ab.wk (y':=(AV.pt (Al.av s'.graph).cells)) (CC Ak.av s' (id:=0) rfl rfl kr) (Ll 3 kr)))),⟨(Bv.e kr),trivial⟩⟩) (Gi W s'.graph x3) rfl kr le<|Aq (AV.i .i64 (Ep s'.graph x3))<|Ad<|Sq<|Rg<|Aq (AV.i .i64 (Ep s'.graph x3))<|Aq (AV.b (decide ((0:Int)≤(Ep s'.graph x3))))<|Aq (AV.b (decide ((0:Int)≤(Ep s'.graph x3)))) ?_
 cases c_4:decide ((0:Int)≤(Ep s'.graph x3))
 have k_4:=of_decide_eq_false c_4
 refine An<|An<|An<|An<|Aq (AV.b false)<|Ad<|Cf<|A7.skip<|Rg<|Ap (Ai (v70+1)) (AQ (i:=v70) (m:=1) kr kr sd)<|Aq (Ai (v70+1))<|Ad ?_
 try simp only [c_4,AP] at hE3
 refine ⟨(v70+1,row3),od,⟨od,by (try dsimp only)<;>(first|exact hq3|(simp only [List.length_set];exact hq3)),hE3⟩,?_⟩
 exact ⟨[0,1],⟨by decide,rfl,(A0.cons kr (A0.cons (AZ (fun _=>rfl) (e:=4) (k:=1) (A:=AV.b) (xs:=row3) rfl rfl) A0.nil)),(Am.cons (AW.f kr) (Am.cons (AW.f kr) (Ee (Ee (Ee (Ee (Ee (Ee (Ee Am.nil)))))))))⟩,Ax⟩
 have k_4:=of_decide_eq_true c_4
 refine Ay<|Aq (AV.own 1 0 s'.graph.edges.length)<|Ay<|Aq (AV.i .i64 (Ep s'.graph x3))<|Ay<|Ap (AV.loc 1 ((Ep s'.graph x3).toNat) 0) (KL (e:=4) (id:=1) (len:=s'.graph.edges.length) (kk:= .i64) (ob:=⟨4,1,row3.map AV.b⟩) (n:=(Ep s'.graph x3)) kr kr kr rfl kr sd sd)<|Ay<|Ap (AV.b (row3.getD ((Ep s'.graph x3).toNat) default)) (CJ (e:=4) (k:=1) (i:=TU) (id:=1) (xs:=row3) (A:=AV.b) (j:=(Ep s'.graph x3).toNat) kr kr rfl (getD_some sd) kr)<|Aq (AV.b (row3.getD ((Ep s'.graph x3).toNat) default))<|Ad ?_
 cases c_5:(row3.getD ((Ep s'.graph x3).toNat) default)
 refine Cf<|A7.skip<|Rg<|Ap (Ai (v70+1)) (AQ (i:=v70) (m:=1) kr kr sd)<|Aq (Ai (v70+1))<|Ad ?_
 try simp only [c_4,c_5,AP] at hE3
 refine ⟨(v70+1,row3),od,⟨od,by (try dsimp only)<;>(first|exact hq3|(simp only [List.length_set];exact hq3)),hE3⟩,?_⟩
 exact ⟨[0,1],⟨by decide,rfl,(A0.cons kr (A0.cons (AZ (fun _=>rfl) (e:=4) (k:=1) (A:=AV.b) (xs:=row3) rfl rfl) A0.nil)),(Am.cons (AW.f kr) (Am.cons (AW.f kr) (Ee (Ee (Ee (Ee (Ee (Ee (Ee Am.nil)))))))))⟩,Ax⟩
 refine Ct<|Rg<|Aq (AV.own 1 0 s'.graph.edges.length)<|Aq (AV.i .i64 x2)<|Ap (AV.loc 1 x2.toNat 0) (KL (e:=4) (id:=1) (len:=s'.graph.edges.length) (kk:= .i64) (ob:=⟨4,1,row3.map AV.b⟩) (n:=x2) kr kr kr rfl kr sd sd)<|A1.st (x:=AV.und) (h':=⟨2,[(0,some (BW s')),(1,some ⟨4,1,(row3.set x2.toNat true).map AV.b⟩)]⟩) (SE (e:=4) (k:=1) (i:=TU) (id:=1) (A:=AV.b) (xs:=row3) (y:=true) (j:=x2.toNat) kr kr kr rfl sd (fun _=>rfl) kr (fun _=>rfl) (fun _=>rfl))<|Ad<|Rg<|Ap (Ai (v70+1)) (AQ (i:=v70) (m:=1) kr kr sd)<|Aq (Ai (v70+1))<|Ad ?_
 try simp only [c_4,c_5,AP] at hE3
 refine ⟨(v70+1,(row3.set x2.toNat true)),od,⟨od,by (try dsimp only)<;>(first|exact hq3|(simp only [List.length_set];exact hq3)),hE3⟩,?_⟩
 exact ⟨[0,1],⟨by decide,rfl,(A0.cons kr (A0.cons (AZ (fun _=>rfl) (e:=4) (k:=1) (A:=AV.b) (xs:=(row3.set x2.toNat true)) rfl rfl) A0.nil)),(Am.cons (AW.f kr) (Am.cons (AW.f kr) (Ee (Ee (Ee (Ee (Ee (Ee (Ee Am.nil)))))))))⟩,Ax⟩
 have hc3:decide (((v70:Nat):Int)<((([]:List ByteArray).length:Nat):Int))=false:=decide_eq_false (by omega)
 refine A7.cond (t:=false) (by rw [←hc3]<;>kernel_rfl) (A7.exit ?_)
 rw [List.drop_eq_nil_of_le (hl3),IM.eq_1] at hE3
 subst hE3
 refine Rg<|Ap (Ai (v50+1)) (AQ (i:=v50) (m:=1) kr kr sd)<|Aq (Ai (v50+1))<|Ad ?_
 try simp only [z_3,hR3,AP] at hE2
 refine ⟨(v50+1,row3),od,⟨od,by (try dsimp only)<;>(exact hq3),hE2⟩,?_⟩
 exact ⟨[0,1],⟨by decide,rfl,(A0.cons kr (A0.cons (AZ (fun _=>rfl) (e:=4) (k:=1) (A:=AV.b) (xs:=row3) rfl rfl) A0.nil)),(Am.cons (AW.f kr) (Am.cons (AW.f kr) (Ee (Ee (Ee Am.nil)))))⟩,Ax⟩
 refine Lg (A:=AV.s) (xs:=(D4 [(s'.graph.edges.getD x2.toNat default).ins,(s'.graph.edges.getD x2.toNat default).implicit])) (vs:=[(AV.own 2 0 2)]) (ss:=[((Ao 1 (Ao 1 AV.s)) [(s'.graph.edges.getD x2.toNat default).ins,(s'.graph.edges.getD x2.toNat default).implicit])]) kr (show Bv _ _ _ from ⟨(Ab.w (Ab.cast (x':=(AV.own 2 0 2)) kr kr (Ab.row (fun _=>rfl) (A:=(Ao 1 AV.s)) (id:=2) (e:=24) (k:=1) (xs:=[(s'.graph.edges.getD x2.toNat default).ins,(s'.graph.edges.getD x2.toNat default).implicit]) rfl rfl sd sd))),trivial⟩) (Co W [(s'.graph.edges.getD x2.toNat default).ins,(s'.graph.edges.getD x2.toNat default).implicit] (by simp only [List.flatten_cons,List.flatten_nil,List.append_nil,List.length_append];omega) z_3) (fun _=>rfl) (fun _=>rfl) le<|Dq (AV.i .i64 (((D4 [(s'.graph.edges.getD x2.toNat default).ins,(s'.graph.edges.getD x2.toNat default).implicit]).length:Nat):Int))<|Dq (AV.i .i64 (0:Int))<|Ar.fin<|A7.block ?_
 have hB3:((D4 [(s'.graph.edges.getD x2.toNat default).ins,(s'.graph.edges.getD x2.toNat default).implicit]).length)≤281474976710656:=by first|omega|(simp;done)|(simp;omega)
 obtain ⟨R3,hR3⟩: ∃R,IM s' x2 (D4 [(s'.graph.edges.getD x2.toNat default).ins,(s'.graph.edges.getD x2.toNat default).implicit]) 0 row2=R:=⟨_,rfl⟩
 refine AX (fun ((v702,row4):Nat×(List Bool))=>[(1,(AV.loc 0 0 0)),(4,(AV.own 1 0 s'.graph.edges.length)),(11,(AV.i .i64 x2)),(48,(Cr s')),(49,(Fp s')),(50,(Ai v50)),(68,(AV.own 2 0 ((D4 [(s'.graph.edges.getD x2.toNat default).ins,(s'.graph.edges.getD x2.toNat default).implicit]).length))),(69,(AV.i .i64 (((D4 [(s'.graph.edges.getD x2.toNat default).ins,(s'.graph.edges.getD x2.toNat default).implicit]).length:Nat):Int))),(70,(Ai v702))]) (fun ((v702,row4):Nat×(List Bool))=>⟨3,[(0,some (BW s')),(1,some ⟨4,1,row4.map AV.b⟩),(2,some ⟨9,1,(D4 [(s'.graph.edges.getD x2.toNat default).ins,(s'.graph.edges.getD x2.toNat default).implicit]).map AV.s⟩)]⟩) (fun ((v702,row4):Nat×(List Bool))=>v702≤((D4 [(s'.graph.edges.getD x2.toNat default).ins,(s'.graph.edges.getD x2.toNat default).implicit]).length)∧row4.length=s'.graph.edges.length∧IM s' x2 ((D4 [(s'.graph.edges.getD x2.toNat default).ins,(s'.graph.edges.getD x2.toNat default).implicit]).drop v702) v702 row4=R3) (fun ((v702,row4):Nat×(List Bool))=>((D4 [(s'.graph.edges.getD x2.toNat default).ins,(s'.graph.edges.getD x2.toNat default).implicit]).length)-v702) (0,row2) ?_ ?_ ?_
 exact ⟨[0,1,3],⟨by decide,rfl,(A0.cons kr (A0.cons (AZ (fun _=>rfl) (e:=4) (k:=1) (A:=AV.b) (xs:=row2) rfl rfl) (A0.cons (AZ (fun _=>rfl) (e:=9) (k:=1) (A:=AV.s) (xs:=(D4 [(s'.graph.edges.getD x2.toNat default).ins,(s'.graph.edges.getD x2.toNat default).implicit])) rfl rfl) A0.nil))),(Am.cons (AW.f kr) (Am.cons (AW.f kr) (Ee (Ee (Ee (Ee (Am.cons (AW.f kr) (Ee (Ee Am.nil)))))))))⟩,Ax⟩
 exact ⟨od,by (try dsimp only)<;>(exact hq2),hR3⟩
 rintro ⟨v702,row4⟩ ⟨hi3,hq3,hE3⟩
 try dsimp only
 refine Sq<|Rg<|Aq (AV.b (decide (((v702:Nat):Int)<(((D4 [(s'.graph.edges.getD x2.toNat default).ins,(s'.graph.edges.getD x2.toNat default).implicit]).length:Nat):Int))))<|Ad<|Sq ?_
 rcases Nat.lt_or_ge v702 ((D4 [(s'.graph.edges.getD x2.toNat default).ins,(s'.graph.edges.getD x2.toNat default).implicit]).length) with hl3|hl3
 have hc3:decide (((v702:Nat):Int)<((((D4 [(s'.graph.edges.getD x2.toNat default).ins,(s'.graph.edges.getD x2.toNat default).implicit]).length):Nat):Int))=true:=decide_eq_true (by omega)
 refine A7.cond (t:=true) (by rw [←hc3]<;>kernel_rfl) (A7.skip ?_)
 obtain ⟨x32,hx3⟩: ∃x,(D4 [(s'.graph.edges.getD x2.toNat default).ins,(s'.graph.edges.getD x2.toNat default).implicit])[v702]? =some x:=⟨_,List.getElem?_eq_getElem (by first|(simpa using hl3)|omega)⟩
 rw [AY hx3,IM.eq_2] at hE3
 have hmk:=QY s'.graph x32
 refine Sq<|A7.block<|Sq<|Rg<|Ap (AV.loc 2 v702 0) (E0 (e:=9) (id:=2) (len:=((D4 [(s'.graph.edges.getD x2.toNat default).ins,(s'.graph.edges.getD x2.toNat default).implicit]).length)) (kk:= .i64) (ob:=⟨9,1,(D4 [(s'.graph.edges.getD x2.toNat default).ins,(s'.graph.edges.getD x2.toNat default).implicit]).map AV.s⟩) (i:=v702) kr kr kr rfl kr sd)<|Ap (AV.s x32) (CJ (e:=9) (k:=1) (i:=FC) (id:=2) (xs:=(D4 [(s'.graph.edges.getD x2.toNat default).ins,(s'.graph.edges.getD x2.toNat default).implicit])) (A:=AV.s) (j:=v702) kr kr rfl hx3 kr)<|Aq (AV.s x32)<|Ad<|Sq<|Rg<|Aq (AV.loc 0 0 0)<|Aq (AV.s x32)<|A1.sfw (vs:=[(AV.loc 0 0 0),(AV.s x32)]) (ss:=[(AV.pt (Al.av s'.graph).cells),(AV.s x32)]) (r0:=(AV.i .i64 (Ep s'.graph x32))) kr (show Bv _ _ _ from ⟨(Ab.w (Ab.cast (x':=(AV.loc 0 0 0)) kr kr (Ab.wk (y':=(AV.pt (Al.av s'.graph).cells)) (CC Ak.av s' (id:=0) rfl rfl kr) (Ll 3 kr)))),⟨(Bv.e kr),trivial⟩⟩) (Gi W s'.graph x32) rfl kr le<|Aq (AV.i .i64 (Ep s'.graph x32))<|Ad<|Sq<|Rg<|Aq (AV.i .i64 (Ep s'.graph x32))<|Aq (AV.b (decide ((0:Int)≤(Ep s'.graph x32))))<|Aq (AV.b (decide ((0:Int)≤(Ep s'.graph x32)))) ?_
 cases c_6:decide ((0:Int)≤(Ep s'.graph x32))
 have k_6:=of_decide_eq_false c_6
 refine An<|An<|An<|An<|Aq (AV.b false)<|Ad<|Cf<|A7.skip<|Rg<|Ap (Ai (v702+1)) (AQ (i:=v702) (m:=1) kr kr sd)<|Aq (Ai (v702+1))<|Ad ?_
 try simp only [c_6,AP] at hE3
 refine ⟨(v702+1,row4),od,⟨od,by (try dsimp only)<;>(first|exact hq3|(simp only [List.length_set];exact hq3)),hE3⟩,?_⟩
 exact ⟨[0,1,2],⟨by decide,rfl,(A0.cons kr (A0.cons (AZ (fun _=>rfl) (e:=4) (k:=1) (A:=AV.b) (xs:=row4) rfl rfl) (A0.cons (AZ (fun _=>rfl) (e:=9) (k:=1) (A:=AV.s) (xs:=(D4 [(s'.graph.edges.getD x2.toNat default).ins,(s'.graph.edges.getD x2.toNat default).implicit])) rfl rfl) A0.nil))),(Am.cons (AW.f kr) (Am.cons (AW.f kr) (Ee (Ee (Ee (Ee (Am.cons (AW.f kr) (Ee (Ee Am.nil)))))))))⟩,Ax⟩
 have k_6:=of_decide_eq_true c_6
 refine Ay<|Aq (AV.own 1 0 s'.graph.edges.length)<|Ay<|Aq (AV.i .i64 (Ep s'.graph x32))<|Ay<|Ap (AV.loc 1 ((Ep s'.graph x32).toNat) 0) (KL (e:=4) (id:=1) (len:=s'.graph.edges.length) (kk:= .i64) (ob:=⟨4,1,row4.map AV.b⟩) (n:=(Ep s'.graph x32)) kr kr kr rfl kr sd sd)<|Ay<|Ap (AV.b (row4.getD ((Ep s'.graph x32).toNat) default)) (CJ (e:=4) (k:=1) (i:=TU) (id:=1) (xs:=row4) (A:=AV.b) (j:=(Ep s'.graph x32).toNat) kr kr rfl (getD_some sd) kr)<|Aq (AV.b (row4.getD ((Ep s'.graph x32).toNat) default))<|Ad ?_
 cases c_7:(row4.getD ((Ep s'.graph x32).toNat) default)
 refine Cf<|A7.skip<|Rg<|Ap (Ai (v702+1)) (AQ (i:=v702) (m:=1) kr kr sd)<|Aq (Ai (v702+1))<|Ad ?_
 try simp only [c_6,c_7,AP] at hE3
 refine ⟨(v702+1,row4),od,⟨od,by (try dsimp only)<;>(first|exact hq3|(simp only [List.length_set];exact hq3)),hE3⟩,?_⟩
 exact ⟨[0,1,2],⟨by decide,rfl,(A0.cons kr (A0.cons (AZ (fun _=>rfl) (e:=4) (k:=1) (A:=AV.b) (xs:=row4) rfl rfl) (A0.cons (AZ (fun _=>rfl) (e:=9) (k:=1) (A:=AV.s) (xs:=(D4 [(s'.graph.edges.getD x2.toNat default).ins,(s'.graph.edges.getD x2.toNat default).implicit])) rfl rfl) A0.nil))),(Am.cons (AW.f kr) (Am.cons (AW.f kr) (Ee (Ee (Ee (Ee (Am.cons (AW.f kr) (Ee (Ee Am.nil)))))))))⟩,Ax⟩
 refine Ct<|Rg<|Aq (AV.own 1 0 s'.graph.edges.length)<|Aq (AV.i .i64 x2)<|Ap (AV.loc 1 x2.toNat 0) (KL (e:=4) (id:=1) (len:=s'.graph.edges.length) (kk:= .i64) (ob:=⟨4,1,row4.map AV.b⟩) (n:=x2) kr kr kr rfl kr sd sd)<|A1.st (x:=AV.und) (h':=⟨3,[(0,some (BW s')),(1,some ⟨4,1,(row4.set x2.toNat true).map AV.b⟩),(2,some ⟨9,1,(D4 [(s'.graph.edges.getD x2.toNat default).ins,(s'.graph.edges.getD x2.toNat default).implicit]).map AV.s⟩)]⟩) (SE (e:=4) (k:=1) (i:=TU) (id:=1) (A:=AV.b) (xs:=row4) (y:=true) (j:=x2.toNat) kr kr kr rfl sd (fun _=>rfl) kr (fun _=>rfl) (fun _=>rfl))<|Ad<|Rg<|Ap (Ai (v702+1)) (AQ (i:=v702) (m:=1) kr kr sd)<|Aq (Ai (v702+1))<|Ad ?_
 try simp only [c_6,c_7,AP] at hE3
 refine ⟨(v702+1,(row4.set x2.toNat true)),od,⟨od,by (try dsimp only)<;>(first|exact hq3|(simp only [List.length_set];exact hq3)),hE3⟩,?_⟩
 exact ⟨[0,1,2],⟨by decide,rfl,(A0.cons kr (A0.cons (AZ (fun _=>rfl) (e:=4) (k:=1) (A:=AV.b) (xs:=(row4.set x2.toNat true)) rfl rfl) (A0.cons (AZ (fun _=>rfl) (e:=9) (k:=1) (A:=AV.s) (xs:=(D4 [(s'.graph.edges.getD x2.toNat default).ins,(s'.graph.edges.getD x2.toNat default).implicit])) rfl rfl) A0.nil))),(Am.cons (AW.f kr) (Am.cons (AW.f kr) (Ee (Ee (Ee (Ee (Am.cons (AW.f kr) (Ee (Ee Am.nil)))))))))⟩,Ax⟩
 have hc3:decide (((v702:Nat):Int)<((((D4 [(s'.graph.edges.getD x2.toNat default).ins,(s'.graph.edges.getD x2.toNat default).implicit]).length):Nat):Int))=false:=decide_eq_false (by omega)
 refine A7.cond (t:=false) (by rw [←hc3]<;>kernel_rfl) (A7.exit ?_)
 rw [List.drop_eq_nil_of_le (by first|(simpa using hl3)|omega),IM.eq_1] at hE3
 subst hE3
 refine Rg<|Ap (Ai (v50+1)) (AQ (i:=v50) (m:=1) kr kr sd)<|Aq (Ai (v50+1))<|Ad ?_
 try simp only [hR3,AP] at hE2
 refine ⟨(v50+1,row4),od,⟨od,by (try dsimp only)<;>(exact hq3),hE2⟩,?_⟩
 exact ⟨[0,1],⟨by decide,rfl,(A0.cons kr (A0.cons (AZ (fun _=>rfl) (e:=4) (k:=1) (A:=AV.b) (xs:=row4) rfl rfl) A0.nil)),(Am.cons (AW.f kr) (Am.cons (AW.f kr) (Ee (Ee (Ee Am.nil)))))⟩,Ax⟩
 have hc2:decide (((v50:Nat):Int)<((((GX (⟨s'.graph.edges,s'.graph.pools,s'.graph.defaults⟩:Al)).1).length:Nat):Int))=false:=decide_eq_false (by omega)
 refine A7.cond (t:=false) (by rw [←hc2]<;>kernel_rfl) (A7.exit ?_)
 rw [List.drop_eq_nil_of_le (hl2),KQ.eq_1] at hE2
 subst hE2
 refine Sq<|Rg<|Aq (AV.own 1 0 s'.graph.edges.length)<|Aq (AV.own 1 0 s'.graph.edges.length)<|Aq (AV.i .i64 (0:Int))<|Ad<|Rt ?_
 have hM:Es s'=(row2,(0:Int)):=by simp only [Es,c_1,hR1,hR2,AP]
 refine ⟨Or.inr rfl,?_⟩
 rw [hM]
 exact AW.cast (x':=(AV.tup [(AV.own 1 0 s'.graph.edges.length),(AV.i .i64 (0:Int))])) (y':=(AV.tup [((Ao 1 AV.b) ((row2,(0:Int)).1)),(AV.i .i64 ((row2,(0:Int)).2))])) kr kr (AW.tup ⟨(Dt.kk (x':=(AV.own 1 0 s'.graph.edges.length)) kr kr rfl (Ab.row (fun _=>rfl) (A:=AV.b) (id:=1) (e:=4) (k:=1) (xs:=row2) rfl rfl sd sd)),⟨Ec,trivial⟩⟩ kr)
 refine Ct<|Sq<|Rg<|Aq (AV.sl 1 true [])<|Aq (AV.i .i64 (1900:Int))<|Ad<|Rt ?_
 have hM:Es s'=(([]:List Bool),(1900:Int)):=by simp only [Es,c_1,AP]
 refine ⟨Or.inr rfl,?_⟩
 rw [hM]
 exact AW.cast (x':=(AV.tup [(AV.sl 1 true []),(AV.i .i64 (1900:Int))])) (y':=(AV.tup [((Ao 1 AV.b) ((([]:List Bool),(1900:Int)).1)),(AV.i .i64 ((([]:List Bool),(1900:Int)).2))])) kr kr (AW.tup ⟨(AW.w rfl (AM.nil 1)),⟨Ec,trivial⟩⟩ kr)
def BE (d:Ag):AV:=((Ao 3 A3.av) d.files)
def Bf:AV:=(AV.st [(AV.i .i64 (0:Int)),(AV.sl 3 true [])])
def Af (d:Ag):AV:=(AV.i .i64 (IntKind.wrap .i64 (d.clock+(1:Int))))
def Az:Obj:=⟨30,2,[Bf]⟩
def CG (d:Ag):AV:=(AV.st [(Af d),(AV.sl 3 true [])])
def Cn:AV:=(AV.tup [Bf,(AV.i .i64 (1200:Int))])
def BO:AV:=(AV.tup [Bf,(AV.i .i64 (1201:Int))])
def C1 (name:ByteArray) (content:Int) (d:Ag):Obj:=⟨85,3,[(⟨name,content,(IntKind.wrap .i64 (d.clock+(1:Int)))⟩:A3)].map A3.av⟩
def Ds (name:ByteArray) (content:Int) (d:Ag):AV:=(AV.st [(AV.s name),(AV.i .i64 content),(Af d)])
def B9 (name:ByteArray) (content:Int) (d:Ag):Obj:=⟨85,3,[(Ds name content d)]⟩
def H8 (d:Ag):AV:=(AV.tup [(CG d),(AV.i .i64 (0:Int))])
def EO:AV:=(AV.tup [(Ag.av (((⟨(0:Int),[]⟩:Ag),(1200:Int)).1)),(AV.i .i64 (((⟨(0:Int),[]⟩:Ag),(1200:Int)).2))])
def Dr:AV:=(AV.tup [(Ag.av (((⟨(0:Int),[]⟩:Ag),(1201:Int)).1)),(AV.i .i64 (((⟨(0:Int),[]⟩:Ag),(1201:Int)).2))])
theorem Dz (W:World) (d:Ag) (name:ByteArray) (content:Int) (hz:d.sz≤1048576):Ac Go.Proofs.Tryz.prog W 28 [(Ag.av d),(AV.s name),(AV.i .i64 content)] (AV.tup [(Ag.av ((HV d name content).1)),(AV.i .i64 ((HV d name content).2))]) []:=by
 have hl:=HE A3.sz_one d.files
 have hl2:=d.sz_files
 refine EA A2 (fn:=Go.Proofs.Tryz.f28) Go.Proofs.Tryz.func28 rfl (en28 W) le<|Sq<|Rg<|Nn (AV.loc 0 0 0) ⟨30,2,[(Ag.av d)]⟩<|Nn (AV.loc 1 0 0) Az<|Aq (AV.i .i64 (0:Int))<|Ad<|Sq<|Sq<|Rg<|Aq (Ag.av d)<|A1.sc0 (vs:=[(Ag.av d)]) (r0:=(AV.b (J2 d))) kr kr (Mn W d) kr le<|Aq (AV.b (!(J2 d)))<|Aq (AV.b (!(J2 d))) ?_
 cases c_1:(!(J2 d))
 refine Ay<|Aq (AV.s name)<|Ay<|A1.sc0 (vs:=[(AV.s name)]) (r0:=(AV.b (Ie name))) kr kr (JH W name) kr le<|Ay<|Aq (AV.b (!(Ie name)))<|Aq (AV.b (!(Ie name)))<|Aq (AV.b (!(Ie name))) ?_
 cases c_2:(!(Ie name))
 refine Ay<|Aq (AV.i .i64 content)<|Ay<|A1.sc0 (vs:=[(AV.i .i64 content),(AV.i .i64 (0:Int)),(AV.i .i64 (2147483647:Int))]) (r0:=(AV.b (JY content (0:Int) (2147483647:Int)))) kr kr (GT W content (0:Int) (2147483647:Int)) kr le<|Ay<|Aq (AV.b (!(JY content (0:Int) (2147483647:Int))))<|Aq (AV.b (!(JY content (0:Int) (2147483647:Int))))<|Ad ?_
 cases c_3:(!(JY content (0:Int) (2147483647:Int)))
 refine Cf<|A7.skip<|Sq<|Rg<|Aq (AV.s name)<|Aq (AV.i .i64 content)<|Aq (AV.loc 0 0 0)<|Aq (AV.i .i64 d.clock)<|Aq (Af d)<|Nb (Ds name content d)<|Nn (AV.loc 2 0 0) ⟨85,3,[(AV.st [(AV.s (⟨#[]⟩:ByteArray)),(AV.i .i64 (0:Int)),(AV.i .i64 (0:Int))])]⟩<|Sp 2 (B9 name content d)<|Ad<|Sq<|Rg<|Aq (AV.loc 0 0 0)<|Aq (AV.i .i64 d.clock)<|Aq (Af d)<|Nb (CG d)<|Nn (AV.loc 3 0 0) Az<|Sp 3 ⟨30,2,[(CG d)]⟩<|Ad<|Sq<|Rg<|Aq (AV.b false)<|Ad<|Sq<|Sq<|Rg<|Aq (AV.i .i64 (0:Int))<|Ad<|A7.block<|A7.lim 0 (x:=(Ag.av d)) kr fun hlm1=> ?_
 have hB1:d.files.length≤281474976710656:=C6 (IW hlm1)
 obtain ⟨R1,hR1⟩: ∃R,N9 name content d d.files 0 false []=R:=⟨_,rfl⟩
 refine AX (fun ((in',i,cell):Bool×Nat×(List A3))=>[(1,(AV.s name)),(3,(AV.loc 0 0 0)),(6,(AV.loc 1 0 0)),(8,(AV.loc 2 0 0)),(9,(AV.loc 3 0 0)),(10,(AV.b in')),(11,(Ai i))]) (fun ((in',i,cell):Bool×Nat×(List A3))=>⟨5,[(0,some ⟨30,2,[(Ag.av d)]⟩),(1,some Az),(2,some (B9 name content d)),(4,J1 85 3 A3.av cell),(3,some ⟨30,2,[(AV.st [(Af d),(Bk 4 3 A3.av cell)])]⟩)]⟩) (fun ((in',i,cell):Bool×Nat×(List A3))=>i≤d.files.length∧cell.length≤2*i∧N9 name content d (d.files.drop i) i in' cell=R1) (fun ((in',i,cell):Bool×Nat×(List A3))=>d.files.length-i) (false,0,[]) ?_ ?_ ?_
 exact ⟨[0,1,2,3,1000004],⟨by decide,rfl,(A0.cons kr (A0.cons kr (A0.cons kr (A0.cons (RH (e:=30) (k:=2) (xs:=[(CG d)]) (ys:=[(AV.st [(Af d),(Bk 4 3 A3.av [])])]) rfl (BJ.cons (Kk (BJ.cons (N1 kr) (BJ.cons rfl BJ.nil))) BJ.nil) rfl) (A0.cons rfl A0.nil))))),(Ee (Am.cons (AW.f kr) (Am.cons (AW.f kr) (Am.cons (AW.f kr) (Am.cons (AW.f kr) (Ee (Ee Am.nil)))))))⟩,Ax⟩
 exact ⟨od,I1,hR1⟩
 rintro ⟨in',i,cell⟩ ⟨hi1,ha,hE1⟩
 try dsimp only
 refine Sq<|Sq<|Rg<|Aq (Ai i)<|Aq (AV.loc 0 0 1)<|Aq (BE d)<|Ap (Ai d.files.length) (BV (k:=3) (nl:=false) (e:=85) (A:=A3.av) (xs:=d.files) kr kr)<|Aq (AV.b (decide (((i:Nat):Int)<((d.files.length:Nat):Int))))<|Ad ?_
 rcases Nat.lt_or_ge i d.files.length with hl1|hl1
 have hc1:decide (((i:Nat):Int)<((d.files.length:Nat):Int))=true:=decide_eq_true (by omega)
 refine A7.cond (t:=true) (by rw [←hc1]<;>kernel_rfl) (A7.skip ?_)
 obtain ⟨x1,hx1⟩: ∃x,d.files[i]? =some x:=⟨_,List.getElem?_eq_getElem hl1⟩
 rw [AY hx1,N9.eq_2] at hE1
 refine Sq<|A7.block<|Sq<|Sq<|Rg<|Aq (AV.b in')<|Aq (AV.b (!in'))<|Aq (AV.b (!in')) ?_
 cases c_4:(!in')
 refine An<|An<|An<|An<|An<|An<|An<|An<|Aq (AV.b false)<|Ad<|Cf<|A7.skip<|Sq<|Rg<|Aq (AV.loc 0 0 1)<|Aq (BE d)<|Aq (Ai i)<|Ap (AV.pt (A3.av x1).cells) (BK (k:=3) (nl:=false) (e:=85) (kk:= .i64) (A:=A3.av) (xs:=d.files) (i:=i) kr kr kr ⟨by kernel_rfl,by decide⟩ hx1)<|Aq (AV.pt ((A3.av x1).cells.drop 0))<|Aq (AV.s x1.name)<|Aq (AV.s name)<|Aq (AV.b (!decide (x1.name=name)))<|Ad ?_
 cases c_5:(!decide (x1.name=name))
 refine Cf<|A7.skip<|Rg<|Aq (Ai i)<|Ap (Ai (i+1)) (AQ (i:=i) (m:=1) kr kr sd)<|Aq (Ai (i+1))<|Ad ?_
 try simp only [c_4,c_5,AP] at hE1
 refine ⟨(in',i+1,cell),od,⟨od,I1,hE1⟩,?_⟩
 exact ⟨[0,1,2,3,4],⟨by decide,rfl,(A0.cons kr (A0.cons kr (A0.cons kr (A0.cons (RH (e:=30) (k:=2) (xs:=[(AV.st [(Af d),(Bk 4 3 A3.av cell)])]) (ys:=[(AV.st [(Af d),(Bk 4 3 A3.av cell)])]) rfl (BJ.cons (Kk (BJ.cons (N1 kr) (BJ.cons (SD rfl) BJ.nil))) BJ.nil) rfl) (A0.cons (Ge (fun _=>rfl) (e:=85) (k:=3) (A:=A3.av) (xs:=cell) rfl rfl) A0.nil))))),(Ee (Am.cons (AW.f kr) (Am.cons (AW.f kr) (Am.cons (AW.f kr) (Am.cons (AW.f kr) (Ee (Ee Am.nil)))))))⟩,Ax⟩
 refine Ct<|A7.drawn A2 Dw 8 kr le<|Dq (AV.loc 3 0 1)<|Dq (Bk 4 3 A3.av cell)<|Dq (AV.loc 0 0 1)<|Dq (BE d)<|Dq (Ai i)<|Dp (AV.pt (A3.av x1).cells) (BK (k:=3) (nl:=false) (e:=85) (kk:= .i64) (A:=A3.av) (xs:=d.files) (i:=i) kr kr kr ⟨by kernel_rfl,by decide⟩ hx1)<|Dq (A3.av x1)<|Ar.sn (x:=(AV.own 5 0 1)) (h':=⟨6,[(5,some ⟨85,3,[x1].map A3.av⟩),(0,some ⟨30,2,[(Ag.av d)]⟩),(1,some Az),(2,some (B9 name content d)),(4,J1 85 3 A3.av cell),(3,some ⟨30,2,[(AV.st [(Af d),(Bk 4 3 A3.av cell)])]⟩)]⟩) kr le<|Ar.se (by decide) (x:=(AV.own 6 0 ((cell++[x1]).length))) (h':=⟨7,[(6,some ⟨85,3,(cell++[x1]).map A3.av⟩),(5,some ⟨85,3,[x1].map A3.av⟩),(0,some ⟨30,2,[(Ag.av d)]⟩),(1,some Az),(2,some (B9 name content d)),(4,none),(3,some ⟨30,2,[(AV.st [(Af d),(Bk 4 3 A3.av cell)])]⟩)]⟩) (N3 (e:=85) (X:=(AV.own 5 0 1)) (A:=A3.av) (i:=Ry) (p:=4) (xs:=cell) (ys:=[x1]) kr kr kr (hx:=kr) kr (by simp) ⟨by decide,by kernel_rfl⟩ rfl (by intro q;first|(subst q;rfl)|(rw [q];rfl)|(simp only [q];rfl)) (by show _*32≤140737488355328;first|omega|(simp only [List.length_append,List.length_cons,List.length_nil,List.length_set,List.length_replicate];omega)|(simp;omega)) sd) le ?_
 refine Dq (AV.loc 3 0 1)<|Ar.st (by decide) (x:=AV.und) (h':=⟨7,[(6,some ⟨85,3,(cell++[x1]).map A3.av⟩),(5,some ⟨85,3,[x1].map A3.av⟩),(0,some ⟨30,2,[(Ag.av d)]⟩),(1,some Az),(2,some (B9 name content d)),(4,none),(3,some ⟨30,2,[(AV.st [(Af d),(AV.own 6 0 ((cell++[x1]).length))])]⟩)]⟩) kr<|Ar.fin<|Rg<|Aq (Ai i)<|Ap (Ai (i+1)) (AQ (i:=i) (m:=1) kr kr sd)<|Aq (Ai (i+1))<|Ad ?_
 try simp only [c_4,c_5,AP] at hE1
 refine ⟨(in',i+1,(cell++[x1])),od,⟨od,I1,hE1⟩,?_⟩
 exact ⟨[0,1,2,3,6],⟨by decide,rfl,(A0.cons kr (A0.cons kr (A0.cons kr (A0.cons (RH (e:=30) (k:=2) (xs:=[(AV.st [(Af d),(AV.own 6 0 ((cell++[x1]).length))])]) (ys:=[(AV.st [(Af d),(Bk 4 3 A3.av (cell++[x1]))])]) rfl (BJ.cons (Kk (BJ.cons (N1 kr) (BJ.cons (Mr (A:=A3.av) (k:=3) (xs:=(cell++[x1])) (by simp) rfl rfl) BJ.nil))) BJ.nil) rfl) (A0.cons (H4 (fun _=>rfl) (e:=85) (k:=3) (A:=A3.av) (xs:=(cell++[x1])) (by simp) rfl rfl) A0.nil))))),(Ee (Am.cons (AW.f kr) (Am.cons (AW.f kr) (Am.cons (AW.f kr) (Am.cons (AW.f kr) (Ee (Ee Am.nil)))))))⟩,Ax⟩
 refine Ay<|Aq (AV.loc 0 0 1)<|Ay<|Aq (BE d)<|Ay<|Aq (Ai i)<|Ay<|Ap (AV.pt (A3.av x1).cells) (BK (k:=3) (nl:=false) (e:=85) (kk:= .i64) (A:=A3.av) (xs:=d.files) (i:=i) kr kr kr ⟨by kernel_rfl,by decide⟩ hx1)<|Ay<|Aq (AV.pt ((A3.av x1).cells.drop 0))<|Ay<|Aq (AV.s x1.name)<|Ay<|Aq (AV.s name)<|Ay<|Aq (AV.b (!Op.bytesLess x1.name.toList name.toList))<|Aq (AV.b (!Op.bytesLess x1.name.toList name.toList))<|Ad ?_
 cases c_6:(!Op.bytesLess x1.name.toList name.toList)
 refine Cf<|A7.skip<|Sq<|Rg<|Aq (AV.loc 0 0 1)<|Aq (BE d)<|Aq (Ai i)<|Ap (AV.pt (A3.av x1).cells) (BK (k:=3) (nl:=false) (e:=85) (kk:= .i64) (A:=A3.av) (xs:=d.files) (i:=i) kr kr kr ⟨by kernel_rfl,by decide⟩ hx1)<|Aq (AV.pt ((A3.av x1).cells.drop 0))<|Aq (AV.s x1.name)<|Aq (AV.s name)<|Aq (AV.b (!decide (x1.name=name)))<|Ad ?_
 cases c_7:(!decide (x1.name=name))
 refine Cf<|A7.skip<|Rg<|Aq (Ai i)<|Ap (Ai (i+1)) (AQ (i:=i) (m:=1) kr kr sd)<|Aq (Ai (i+1))<|Ad ?_
 try simp only [c_4,c_6,c_7,AP] at hE1
 refine ⟨(in',i+1,cell),od,⟨od,I1,hE1⟩,?_⟩
 exact ⟨[0,1,2,3,4],⟨by decide,rfl,(A0.cons kr (A0.cons kr (A0.cons kr (A0.cons (RH (e:=30) (k:=2) (xs:=[(AV.st [(Af d),(Bk 4 3 A3.av cell)])]) (ys:=[(AV.st [(Af d),(Bk 4 3 A3.av cell)])]) rfl (BJ.cons (Kk (BJ.cons (N1 kr) (BJ.cons (SD rfl) BJ.nil))) BJ.nil) rfl) (A0.cons (Ge (fun _=>rfl) (e:=85) (k:=3) (A:=A3.av) (xs:=cell) rfl rfl) A0.nil))))),(Ee (Am.cons (AW.f kr) (Am.cons (AW.f kr) (Am.cons (AW.f kr) (Am.cons (AW.f kr) (Ee (Ee Am.nil)))))))⟩,Ax⟩
 refine Ct<|A7.drawn A2 Dw 8 kr le<|Dq (AV.loc 3 0 1)<|Dq (Bk 4 3 A3.av cell)<|Dq (AV.loc 0 0 1)<|Dq (BE d)<|Dq (Ai i)<|Dp (AV.pt (A3.av x1).cells) (BK (k:=3) (nl:=false) (e:=85) (kk:= .i64) (A:=A3.av) (xs:=d.files) (i:=i) kr kr kr ⟨by kernel_rfl,by decide⟩ hx1)<|Dq (A3.av x1)<|Ar.sn (x:=(AV.own 5 0 1)) (h':=⟨6,[(5,some ⟨85,3,[x1].map A3.av⟩),(0,some ⟨30,2,[(Ag.av d)]⟩),(1,some Az),(2,some (B9 name content d)),(4,J1 85 3 A3.av cell),(3,some ⟨30,2,[(AV.st [(Af d),(Bk 4 3 A3.av cell)])]⟩)]⟩) kr le<|Ar.se (by decide) (x:=(AV.own 6 0 ((cell++[x1]).length))) (h':=⟨7,[(6,some ⟨85,3,(cell++[x1]).map A3.av⟩),(5,some ⟨85,3,[x1].map A3.av⟩),(0,some ⟨30,2,[(Ag.av d)]⟩),(1,some Az),(2,some (B9 name content d)),(4,none),(3,some ⟨30,2,[(AV.st [(Af d),(Bk 4 3 A3.av cell)])]⟩)]⟩) (N3 (e:=85) (X:=(AV.own 5 0 1)) (A:=A3.av) (i:=Ry) (p:=4) (xs:=cell) (ys:=[x1]) kr kr kr (hx:=kr) kr (by simp) ⟨by decide,by kernel_rfl⟩ rfl (by intro q;first|(subst q;rfl)|(rw [q];rfl)|(simp only [q];rfl)) (by show _*32≤140737488355328;first|omega|(simp only [List.length_append,List.length_cons,List.length_nil,List.length_set,List.length_replicate];omega)|(simp;omega)) sd) le ?_
 refine Dq (AV.loc 3 0 1)<|Ar.st (by decide) (x:=AV.und) (h':=⟨7,[(6,some ⟨85,3,(cell++[x1]).map A3.av⟩),(5,some ⟨85,3,[x1].map A3.av⟩),(0,some ⟨30,2,[(Ag.av d)]⟩),(1,some Az),(2,some (B9 name content d)),(4,none),(3,some ⟨30,2,[(AV.st [(Af d),(AV.own 6 0 ((cell++[x1]).length))])]⟩)]⟩) kr<|Ar.fin<|Rg<|Aq (Ai i)<|Ap (Ai (i+1)) (AQ (i:=i) (m:=1) kr kr sd)<|Aq (Ai (i+1))<|Ad ?_
 try simp only [c_4,c_6,c_7,AP] at hE1
 refine ⟨(in',i+1,(cell++[x1])),od,⟨od,I1,hE1⟩,?_⟩
 exact ⟨[0,1,2,3,6],⟨by decide,rfl,(A0.cons kr (A0.cons kr (A0.cons kr (A0.cons (RH (e:=30) (k:=2) (xs:=[(AV.st [(Af d),(AV.own 6 0 ((cell++[x1]).length))])]) (ys:=[(AV.st [(Af d),(Bk 4 3 A3.av (cell++[x1]))])]) rfl (BJ.cons (Kk (BJ.cons (N1 kr) (BJ.cons (Mr (A:=A3.av) (k:=3) (xs:=(cell++[x1])) (by simp) rfl rfl) BJ.nil))) BJ.nil) rfl) (A0.cons (H4 (fun _=>rfl) (e:=85) (k:=3) (A:=A3.av) (xs:=(cell++[x1])) (by simp) rfl rfl) A0.nil))))),(Ee (Am.cons (AW.f kr) (Am.cons (AW.f kr) (Am.cons (AW.f kr) (Am.cons (AW.f kr) (Ee (Ee Am.nil)))))))⟩,Ax⟩
 refine Ct<|Sq<|Rg<|Aq (AV.loc 3 0 1)<|Aq (Bk 4 3 A3.av cell)<|Aq (Ds name content d)<|Nn (AV.own 5 0 1) (C1 name content d)<|A1.se (x:=(AV.own 6 0 ((cell++[(⟨name,content,(IntKind.wrap .i64 (d.clock+(1:Int)))⟩:A3)]).length))) (h':=⟨7,[(6,some ⟨85,3,(cell++[(⟨name,content,(IntKind.wrap .i64 (d.clock+(1:Int)))⟩:A3)]).map A3.av⟩),(5,some (C1 name content d)),(0,some ⟨30,2,[(Ag.av d)]⟩),(1,some Az),(2,some (B9 name content d)),(4,none),(3,some ⟨30,2,[(AV.st [(Af d),(Bk 4 3 A3.av cell)])]⟩)]⟩) (N3 (e:=85) (X:=(AV.own 5 0 1)) (A:=A3.av) (i:=Ry) (p:=4) (xs:=cell) (ys:=[(⟨name,content,(IntKind.wrap .i64 (d.clock+(1:Int)))⟩:A3)]) kr kr kr (hx:=kr) kr (by simp) ⟨by decide,by kernel_rfl⟩ rfl (by intro q;first|(subst q;rfl)|(rw [q];rfl)|(simp only [q];rfl)) (by show _*32≤140737488355328;first|omega|(simp only [List.length_append,List.length_cons,List.length_nil,List.length_set,List.length_replicate];omega)|(simp;omega)) sd) le<|Aq (AV.loc 3 0 1) ?_
 refine Sp 3 ⟨30,2,[(AV.st [(Af d),(AV.own 6 0 ((cell++[(⟨name,content,(IntKind.wrap .i64 (d.clock+(1:Int)))⟩:A3)]).length))])]⟩<|Ad<|Rg<|Aq (AV.b true)<|Ad<|Sq<|Rg<|Aq (AV.loc 0 0 1)<|Aq (BE d)<|Aq (Ai i)<|Ap (AV.pt (A3.av x1).cells) (BK (k:=3) (nl:=false) (e:=85) (kk:= .i64) (A:=A3.av) (xs:=d.files) (i:=i) kr kr kr ⟨by kernel_rfl,by decide⟩ hx1)<|Aq (AV.pt ((A3.av x1).cells.drop 0))<|Aq (AV.s x1.name)<|Aq (AV.s name)<|Aq (AV.b (!decide (x1.name=name)))<|Ad ?_
 cases c_8:(!decide (x1.name=name))
 refine Cf<|A7.skip<|Rg<|Aq (Ai i)<|Ap (Ai (i+1)) (AQ (i:=i) (m:=1) kr kr sd)<|Aq (Ai (i+1))<|Ad ?_
 try simp only [c_4,c_6,c_8,AP] at hE1
 refine ⟨(true,i+1,(cell++[(⟨name,content,(IntKind.wrap .i64 (d.clock+(1:Int)))⟩:A3)])),od,⟨od,I1,hE1⟩,?_⟩
 exact ⟨[0,1,2,3,6],⟨by decide,rfl,(A0.cons kr (A0.cons kr (A0.cons kr (A0.cons (RH (e:=30) (k:=2) (xs:=[(AV.st [(Af d),(AV.own 6 0 ((cell++[(⟨name,content,(IntKind.wrap .i64 (d.clock+(1:Int)))⟩:A3)]).length))])]) (ys:=[(AV.st [(Af d),(Bk 4 3 A3.av (cell++[(⟨name,content,(IntKind.wrap .i64 (d.clock+(1:Int)))⟩:A3)]))])]) rfl (BJ.cons (Kk (BJ.cons (N1 kr) (BJ.cons (Mr (A:=A3.av) (k:=3) (xs:=(cell++[(⟨name,content,(IntKind.wrap .i64 (d.clock+(1:Int)))⟩:A3)])) (by simp) rfl rfl) BJ.nil))) BJ.nil) rfl) (A0.cons (H4 (fun _=>rfl) (e:=85) (k:=3) (A:=A3.av) (xs:=(cell++[(⟨name,content,(IntKind.wrap .i64 (d.clock+(1:Int)))⟩:A3)])) (by simp) rfl rfl) A0.nil))))),(Ee (Am.cons (AW.f kr) (Am.cons (AW.f kr) (Am.cons (AW.f kr) (Am.cons (AW.f kr) (Ee (Ee Am.nil)))))))⟩,Ax⟩
 refine Ct<|A7.drawn A2 Dw 8 kr le<|Dq (AV.loc 3 0 1)<|Dq (AV.own 6 0 ((cell++[(⟨name,content,(IntKind.wrap .i64 (d.clock+(1:Int)))⟩:A3)]).length))<|Dq (AV.loc 0 0 1)<|Dq (BE d)<|Dq (Ai i)<|Dp (AV.pt (A3.av x1).cells) (BK (k:=3) (nl:=false) (e:=85) (kk:= .i64) (A:=A3.av) (xs:=d.files) (i:=i) kr kr kr ⟨by kernel_rfl,by decide⟩ hx1)<|Dq (A3.av x1)<|Ar.sn (x:=(AV.own 7 0 1)) (h':=⟨8,[(7,some ⟨85,3,[x1].map A3.av⟩),(6,some ⟨85,3,(cell++[(⟨name,content,(IntKind.wrap .i64 (d.clock+(1:Int)))⟩:A3)]).map A3.av⟩),(5,some (C1 name content d)),(0,some ⟨30,2,[(Ag.av d)]⟩),(1,some Az),(2,some (B9 name content d)),(4,none),(3,some ⟨30,2,[(AV.st [(Af d),(AV.own 6 0 ((cell++[(⟨name,content,(IntKind.wrap .i64 (d.clock+(1:Int)))⟩:A3)]).length))])]⟩)]⟩) kr le<|Ar.se (by decide) (x:=(AV.own 8 0 (((cell++[(⟨name,content,(IntKind.wrap .i64 (d.clock+(1:Int)))⟩:A3)])++[x1]).length))) (h':=⟨9,[(8,some ⟨85,3,((cell++[(⟨name,content,(IntKind.wrap .i64 (d.clock+(1:Int)))⟩:A3)])++[x1]).map A3.av⟩),(7,some ⟨85,3,[x1].map A3.av⟩),(6,none),(5,some (C1 name content d)),(0,some ⟨30,2,[(Ag.av d)]⟩),(1,some Az),(2,some (B9 name content d)),(4,none),(3,some ⟨30,2,[(AV.st [(Af d),(AV.own 6 0 ((cell++[(⟨name,content,(IntKind.wrap .i64 (d.clock+(1:Int)))⟩:A3)]).length))])]⟩)]⟩) (IF (len:=((cell++[(⟨name,content,(IntKind.wrap .i64 (d.clock+(1:Int)))⟩:A3)]).length)) (e:=85) (X:=(AV.own 7 0 1)) (A:=A3.av) (i:=Ry) (p:=6) (xs:=(cell++[(⟨name,content,(IntKind.wrap .i64 (d.clock+(1:Int)))⟩:A3)])) (ys:=[x1]) kr kr kr (hx:=kr) kr ⟨by decide,by kernel_rfl⟩ rfl rfl (by show _*32≤140737488355328;first|omega|(simp only [List.length_append,List.length_cons,List.length_nil,List.length_set,List.length_replicate];omega)|(simp;omega)) sd) le ?_
 refine Dq (AV.loc 3 0 1)<|Ar.st (by decide) (x:=AV.und) (h':=⟨9,[(8,some ⟨85,3,((cell++[(⟨name,content,(IntKind.wrap .i64 (d.clock+(1:Int)))⟩:A3)])++[x1]).map A3.av⟩),(7,some ⟨85,3,[x1].map A3.av⟩),(6,none),(5,some (C1 name content d)),(0,some ⟨30,2,[(Ag.av d)]⟩),(1,some Az),(2,some (B9 name content d)),(4,none),(3,some ⟨30,2,[(AV.st [(Af d),(AV.own 8 0 (((cell++[(⟨name,content,(IntKind.wrap .i64 (d.clock+(1:Int)))⟩:A3)])++[x1]).length))])]⟩)]⟩) kr<|Ar.fin<|Rg<|Aq (Ai i)<|Ap (Ai (i+1)) (AQ (i:=i) (m:=1) kr kr sd)<|Aq (Ai (i+1))<|Ad ?_
 try simp only [c_4,c_6,c_8,AP] at hE1
 refine ⟨(true,i+1,((cell++[(⟨name,content,(IntKind.wrap .i64 (d.clock+(1:Int)))⟩:A3)])++[x1])),od,⟨od,I1,hE1⟩,?_⟩
 exact ⟨[0,1,2,3,8],⟨by decide,rfl,(A0.cons kr (A0.cons kr (A0.cons kr (A0.cons (RH (e:=30) (k:=2) (xs:=[(AV.st [(Af d),(AV.own 8 0 (((cell++[(⟨name,content,(IntKind.wrap .i64 (d.clock+(1:Int)))⟩:A3)])++[x1]).length))])]) (ys:=[(AV.st [(Af d),(Bk 4 3 A3.av ((cell++[(⟨name,content,(IntKind.wrap .i64 (d.clock+(1:Int)))⟩:A3)])++[x1]))])]) rfl (BJ.cons (Kk (BJ.cons (N1 kr) (BJ.cons (Mr (A:=A3.av) (k:=3) (xs:=((cell++[(⟨name,content,(IntKind.wrap .i64 (d.clock+(1:Int)))⟩:A3)])++[x1])) (by simp) rfl rfl) BJ.nil))) BJ.nil) rfl) (A0.cons (H4 (fun _=>rfl) (e:=85) (k:=3) (A:=A3.av) (xs:=((cell++[(⟨name,content,(IntKind.wrap .i64 (d.clock+(1:Int)))⟩:A3)])++[x1])) (by simp) rfl rfl) A0.nil))))),(Ee (Am.cons (AW.f kr) (Am.cons (AW.f kr) (Am.cons (AW.f kr) (Am.cons (AW.f kr) (Ee (Ee Am.nil)))))))⟩,Ax⟩
 have hc1:decide (((i:Nat):Int)<((d.files.length:Nat):Int))=false:=decide_eq_false (by omega)
 refine A7.cond (t:=false) (by rw [←hc1]<;>kernel_rfl) (A7.exit ?_)
 rw [List.drop_eq_nil_of_le (hl1),N9.eq_1] at hE1
 subst hE1
 refine Sq<|Sq<|Rg<|Aq (AV.b in')<|Aq (AV.b (!in'))<|Ad ?_
 cases c_9:(!in')
 refine Cf<|A7.skip<|Sq<|Sq<|Rg<|Aq (AV.loc 3 0 0)<|Aq (Af d)<|Aq (AV.b (decide ((1048576:Int)<(IntKind.wrap .i64 (d.clock+(1:Int))))))<|Aq (AV.b (decide ((1048576:Int)<(IntKind.wrap .i64 (d.clock+(1:Int)))))) ?_
 cases c_10:decide ((1048576:Int)<(IntKind.wrap .i64 (d.clock+(1:Int))))
 have k_10:=of_decide_eq_false c_10
 refine Ay<|Aq (AV.loc 3 0 1)<|Ay<|Aq (Bk 4 3 A3.av cell)<|Ay<|Ap (Ai cell.length) (QB (e:=85) (A:=A3.av) (xs:=cell) (p:=4) (k:=3) kr kr (fun q=>Qn (e:=85) (k:=3) (A:=A3.av) q rfl))<|Ay<|Aq (AV.b (decide ((64:Int)<((cell.length:Nat):Int))))<|Aq (AV.b (decide ((64:Int)<((cell.length:Nat):Int))))<|Ad ?_
 cases c_11:decide ((64:Int)<((cell.length:Nat):Int))
 have k_11:=of_decide_eq_false c_11
 refine Cf<|A7.skip<|Sq<|Rg<|Aq (AV.st [(Af d),(Bk 4 3 A3.av cell)]) ?_
 by_cases z_12:cell=[]
 simp only [accV_e z_12,accO_e z_12]
 refine Sp 1 ⟨30,2,[(CG d)]⟩<|Aq (AV.i .i64 (0:Int))<|Ad<|Rt ?_
 have hM:HV d name content=((⟨(IntKind.wrap .i64 (d.clock+(1:Int))),[]⟩:Ag),(0:Int)):=by simp only [HV,c_1,c_2,c_3,hR1,c_9,c_10,c_11,AP];rw [z_12]
 refine ⟨Or.inr rfl,(H8 d),kr,?_⟩
 rw [hM]
 exact AW.cast (x':=(H8 d)) (y':=(AV.tup [(Ag.av (((⟨(IntKind.wrap .i64 (d.clock+(1:Int))),[]⟩:Ag),(0:Int)).1)),(AV.i .i64 (((⟨(IntKind.wrap .i64 (d.clock+(1:Int))),[]⟩:Ag),(0:Int)).2))])) kr kr (AW.tup ⟨(AW.st ⟨Ec,⟨(AW.w rfl (AM.nil 3)),trivial⟩⟩ kr),⟨Ec,trivial⟩⟩ kr)
 simp only [Uc z_12,Ub z_12]
 refine Sp 1 ⟨30,2,[(AV.st [(Af d),(AV.own 4 0 cell.length)])]⟩<|Aq (AV.i .i64 (0:Int))<|Ad<|Rt ?_
 have hM:HV d name content=((⟨(IntKind.wrap .i64 (d.clock+(1:Int))),cell⟩:Ag),(0:Int)):=by simp only [HV,c_1,c_2,c_3,hR1,c_9,c_10,c_11,AP]
 refine ⟨Or.inr rfl,(AV.tup [(AV.st [(Af d),(AV.own 4 0 cell.length)]),(AV.i .i64 (0:Int))]),kr,?_⟩
 rw [hM]
 exact AW.cast (x':=(AV.tup [(AV.st [(Af d),(AV.own 4 0 cell.length)]),(AV.i .i64 (0:Int))])) (y':=(AV.tup [(Ag.av (((⟨(IntKind.wrap .i64 (d.clock+(1:Int))),cell⟩:Ag),(0:Int)).1)),(AV.i .i64 (((⟨(IntKind.wrap .i64 (d.clock+(1:Int))),cell⟩:Ag),(0:Int)).2))])) kr kr (AW.tup ⟨(AW.st ⟨Ec,⟨(Dt.kk (x':=(AV.own 4 0 cell.length)) kr kr rfl (Ab.row (fun _=>rfl) (A:=A3.av) (id:=4) (e:=85) (k:=3) (xs:=cell) rfl rfl rfl sd)),trivial⟩⟩ kr),⟨Ec,trivial⟩⟩ kr)
 have k_11:=of_decide_eq_true c_11
 refine Ct<|Sq<|Rg<|Nb Bf<|Sp 1 Az<|Aq (AV.i .i64 (1201:Int))<|Ad<|Rt ?_
 have hM:HV d name content=((⟨(0:Int),[]⟩:Ag),(1201:Int)):=by simp only [HV,c_1,c_2,c_3,hR1,c_9,c_10,c_11,AP]
 refine ⟨Or.inr rfl,BO,kr,?_⟩
 rw [hM]
 exact AW.cast (x':=BO) (y':=Dr) kr kr (AW.tup ⟨(AW.st ⟨Ec,⟨(AW.w rfl (AM.nil 3)),trivial⟩⟩ kr),⟨Ec,trivial⟩⟩ kr)
 have k_10:=of_decide_eq_true c_10
 refine An<|An<|An<|An<|Aq (AV.b true)<|Ad<|Ct<|Sq<|Rg<|Nb Bf<|Sp 1 Az<|Aq (AV.i .i64 (1201:Int))<|Ad<|Rt ?_
 have hM:HV d name content=((⟨(0:Int),[]⟩:Ag),(1201:Int)):=by simp only [HV,c_1,c_2,c_3,hR1,c_9,c_10,AP]
 refine ⟨Or.inr rfl,BO,kr,?_⟩
 rw [hM]
 exact AW.cast (x':=BO) (y':=Dr) kr kr (AW.tup ⟨(AW.st ⟨Ec,⟨(AW.w rfl (AM.nil 3)),trivial⟩⟩ kr),⟨Ec,trivial⟩⟩ kr)
 refine Ct<|Rg<|Aq (AV.loc 3 0 1)<|Aq (Bk 4 3 A3.av cell)<|Aq (Ds name content d)<|Nn (AV.own 5 0 1) (C1 name content d)<|A1.se (x:=(AV.own 6 0 ((cell++[(⟨name,content,(IntKind.wrap .i64 (d.clock+(1:Int)))⟩:A3)]).length))) (h':=⟨7,[(6,some ⟨85,3,(cell++[(⟨name,content,(IntKind.wrap .i64 (d.clock+(1:Int)))⟩:A3)]).map A3.av⟩),(5,some (C1 name content d)),(0,some ⟨30,2,[(Ag.av d)]⟩),(1,some Az),(2,some (B9 name content d)),(4,none),(3,some ⟨30,2,[(AV.st [(Af d),(Bk 4 3 A3.av cell)])]⟩)]⟩) (N3 (e:=85) (X:=(AV.own 5 0 1)) (A:=A3.av) (i:=Ry) (p:=4) (xs:=cell) (ys:=[(⟨name,content,(IntKind.wrap .i64 (d.clock+(1:Int)))⟩:A3)]) kr kr kr (hx:=kr) kr (by simp) ⟨by decide,by kernel_rfl⟩ rfl (by intro q;first|(subst q;rfl)|(rw [q];rfl)|(simp only [q];rfl)) (by show _*32≤140737488355328;first|omega|(simp only [List.length_append,List.length_cons,List.length_nil,List.length_set,List.length_replicate];omega)|(simp;omega)) sd) le<|Aq (AV.loc 3 0 1) ?_
 refine Sp 3 ⟨30,2,[(AV.st [(Af d),(AV.own 6 0 ((cell++[(⟨name,content,(IntKind.wrap .i64 (d.clock+(1:Int)))⟩:A3)]).length))])]⟩<|Ad<|Sq<|Sq<|Rg<|Aq (AV.loc 3 0 0)<|Aq (Af d)<|Aq (AV.b (decide ((1048576:Int)<(IntKind.wrap .i64 (d.clock+(1:Int))))))<|Aq (AV.b (decide ((1048576:Int)<(IntKind.wrap .i64 (d.clock+(1:Int)))))) ?_
 cases c_13:decide ((1048576:Int)<(IntKind.wrap .i64 (d.clock+(1:Int))))
 have k_13:=of_decide_eq_false c_13
 refine Ay<|Aq (AV.loc 3 0 1)<|Ay<|Aq (AV.own 6 0 ((cell++[(⟨name,content,(IntKind.wrap .i64 (d.clock+(1:Int)))⟩:A3)]).length))<|Ay<|Aq (AV.i .i64 (((cell++[(⟨name,content,(IntKind.wrap .i64 (d.clock+(1:Int)))⟩:A3)]).length:Nat):Int))<|Ay<|Aq (AV.b (decide ((64:Int)<(((cell++[(⟨name,content,(IntKind.wrap .i64 (d.clock+(1:Int)))⟩:A3)]).length:Nat):Int))))<|Aq (AV.b (decide ((64:Int)<(((cell++[(⟨name,content,(IntKind.wrap .i64 (d.clock+(1:Int)))⟩:A3)]).length:Nat):Int))))<|Ad ?_
 cases c_14:decide ((64:Int)<(((cell++[(⟨name,content,(IntKind.wrap .i64 (d.clock+(1:Int)))⟩:A3)]).length:Nat):Int))
 have k_14:=of_decide_eq_false c_14
 refine Cf<|A7.skip<|Sq<|Rg<|Aq (AV.st [(Af d),(AV.own 6 0 ((cell++[(⟨name,content,(IntKind.wrap .i64 (d.clock+(1:Int)))⟩:A3)]).length))])<|Sp 1 ⟨30,2,[(AV.st [(Af d),(AV.own 6 0 ((cell++[(⟨name,content,(IntKind.wrap .i64 (d.clock+(1:Int)))⟩:A3)]).length))])]⟩<|Aq (AV.i .i64 (0:Int))<|Ad<|Rt ?_
 have hM:HV d name content=((⟨(IntKind.wrap .i64 (d.clock+(1:Int))),(cell++[(⟨name,content,(IntKind.wrap .i64 (d.clock+(1:Int)))⟩:A3)])⟩:Ag),(0:Int)):=by simp only [HV,c_1,c_2,c_3,hR1,c_9,c_13,c_14,AP]
 refine ⟨Or.inr rfl,(AV.tup [(AV.st [(Af d),(AV.own 6 0 ((cell++[(⟨name,content,(IntKind.wrap .i64 (d.clock+(1:Int)))⟩:A3)]).length))]),(AV.i .i64 (0:Int))]),kr,?_⟩
 rw [hM]
 exact AW.cast (x':=(AV.tup [(AV.st [(Af d),(AV.own 6 0 ((cell++[(⟨name,content,(IntKind.wrap .i64 (d.clock+(1:Int)))⟩:A3)]).length))]),(AV.i .i64 (0:Int))])) (y':=(AV.tup [(Ag.av (((⟨(IntKind.wrap .i64 (d.clock+(1:Int))),(cell++[(⟨name,content,(IntKind.wrap .i64 (d.clock+(1:Int)))⟩:A3)])⟩:Ag),(0:Int)).1)),(AV.i .i64 (((⟨(IntKind.wrap .i64 (d.clock+(1:Int))),(cell++[(⟨name,content,(IntKind.wrap .i64 (d.clock+(1:Int)))⟩:A3)])⟩:Ag),(0:Int)).2))])) kr kr (AW.tup ⟨(AW.st ⟨Ec,⟨(Dt.kk (x':=(AV.own 6 0 ((cell++[(⟨name,content,(IntKind.wrap .i64 (d.clock+(1:Int)))⟩:A3)]).length))) kr kr rfl (Ab.row (fun _=>rfl) (A:=A3.av) (id:=6) (e:=85) (k:=3) (xs:=(cell++[(⟨name,content,(IntKind.wrap .i64 (d.clock+(1:Int)))⟩:A3)])) rfl rfl rfl sd)),trivial⟩⟩ kr),⟨Ec,trivial⟩⟩ kr)
 have k_14:=of_decide_eq_true c_14
 refine Ct<|Sq<|Rg<|Nb Bf<|Sp 1 Az<|Aq (AV.i .i64 (1201:Int))<|Ad<|Rt ?_
 have hM:HV d name content=((⟨(0:Int),[]⟩:Ag),(1201:Int)):=by simp only [HV,c_1,c_2,c_3,hR1,c_9,c_13,c_14,AP]
 refine ⟨Or.inr rfl,BO,kr,?_⟩
 rw [hM]
 exact AW.cast (x':=BO) (y':=Dr) kr kr (AW.tup ⟨(AW.st ⟨Ec,⟨(AW.w rfl (AM.nil 3)),trivial⟩⟩ kr),⟨Ec,trivial⟩⟩ kr)
 have k_13:=of_decide_eq_true c_13
 refine An<|An<|An<|An<|Aq (AV.b true)<|Ad<|Ct<|Sq<|Rg<|Nb Bf<|Sp 1 Az<|Aq (AV.i .i64 (1201:Int))<|Ad<|Rt ?_
 have hM:HV d name content=((⟨(0:Int),[]⟩:Ag),(1201:Int)):=by simp only [HV,c_1,c_2,c_3,hR1,c_9,c_13,AP]
 refine ⟨Or.inr rfl,BO,kr,?_⟩
 rw [hM]
 exact AW.cast (x':=BO) (y':=Dr) kr kr (AW.tup ⟨(AW.st ⟨Ec,⟨(AW.w rfl (AM.nil 3)),trivial⟩⟩ kr),⟨Ec,trivial⟩⟩ kr)
 refine Ct<|Sq<|Rg<|Nb Bf<|Sp 1 Az<|Aq (AV.i .i64 (1200:Int))<|Ad<|Rt ?_
 have hM:HV d name content=((⟨(0:Int),[]⟩:Ag),(1200:Int)):=by simp only [HV,c_1,c_2,c_3,AP]
 refine ⟨Or.inr rfl,Cn,kr,?_⟩
 rw [hM]
 exact AW.cast (x':=Cn) (y':=EO) kr kr (AW.tup ⟨(AW.st ⟨Ec,⟨(AW.w rfl (AM.nil 3)),trivial⟩⟩ kr),⟨Ec,trivial⟩⟩ kr)
 refine An<|An<|An<|Aq (AV.b true)<|Ad<|Ct<|Sq<|Rg<|Nb Bf<|Sp 1 Az<|Aq (AV.i .i64 (1200:Int))<|Ad<|Rt ?_
 have hM:HV d name content=((⟨(0:Int),[]⟩:Ag),(1200:Int)):=by simp only [HV,c_1,c_2,AP]
 refine ⟨Or.inr rfl,Cn,kr,?_⟩
 rw [hM]
 exact AW.cast (x':=Cn) (y':=EO) kr kr (AW.tup ⟨(AW.st ⟨Ec,⟨(AW.w rfl (AM.nil 3)),trivial⟩⟩ kr),⟨Ec,trivial⟩⟩ kr)
 refine An<|An<|An<|Aq (AV.b true)<|Aq (AV.b true)<|An<|An<|An<|Aq (AV.b true)<|Ad<|Ct<|Sq<|Rg<|Nb Bf<|Sp 1 Az<|Aq (AV.i .i64 (1200:Int))<|Ad<|Rt ?_
 have hM:HV d name content=((⟨(0:Int),[]⟩:Ag),(1200:Int)):=by simp only [HV,c_1,AP]
 refine ⟨Or.inr rfl,Cn,kr,?_⟩
 rw [hM]
 exact AW.cast (x':=Cn) (y':=EO) kr kr (AW.tup ⟨(AW.st ⟨Ec,⟨(AW.w rfl (AM.nil 3)),trivial⟩⟩ kr),⟨Ec,trivial⟩⟩ kr)
def FB:AV:=(AV.st [(AV.own 9 0 3),(AV.own 10 0 1),(AV.own 11 0 1)])
def HA:AV:=(AV.st [(AV.own 1 0 1),(AV.own 2 0 2),(AV.sl 1 true []),(AV.sl 1 true []),(AV.s (⟨#[97,114]⟩:ByteArray)),(AV.b false),(AV.s (⟨#[]⟩:ByteArray))])
def Hz:AV:=(AV.st [(AV.own 3 0 2),(AV.own 4 0 1),(AV.own 5 0 1),(AV.sl 1 true []),(AV.s (⟨#[99,99,32,97]⟩:ByteArray)),(AV.b true),(AV.s (⟨#[116,119,111]⟩:ByteArray))])
def Hy:AV:=(AV.st [(AV.own 6 0 1),(AV.own 7 0 1),(AV.sl 1 true []),(AV.own 8 0 1),(AV.s (⟨#[99,99,32,98]⟩:ByteArray)),(AV.b false),(AV.s (⟨#[116,119,111]⟩:ByteArray))])
def FA:AV:=(AV.st [(AV.own 9 0 3),(AV.own 10 0 1),(AV.own 11 0 1),(AV.own 16 0 1),(AV.i .i64 (4:Int)),(AV.own 13 0 4),(AV.sl 3 true []),(AV.sl 3 true []),(AV.i .i64 (2:Int)),(AV.b false),(AV.sl 1 true [])])
theorem E7 (W:World):Ac Go.Proofs.Tryz.prog W 29 [] (AV.st [(AV.own 0 0 3),(AV.own 9 0 1),(AV.own 10 0 1),(AV.own 11 0 1),(AV.i .i64 (4:Int)),(AV.own 13 0 4),(AV.sl 3 true []),(AV.sl 3 true []),(AV.i .i64 (2:Int)),(AV.b false),(AV.sl 1 true [])]) [⟨65,7,[(AV.st [(AV.own 1 0 1),(AV.own 2 0 2),(AV.sl 1 true []),(AV.sl 1 true []),(AV.s (⟨#[97,114]⟩:ByteArray)),(AV.b false),(AV.s (⟨#[]⟩:ByteArray))]),(AV.st [(AV.own 3 0 2),(AV.own 4 0 1),(AV.own 5 0 1),(AV.sl 1 true []),(AV.s (⟨#[99,99,32,97]⟩:ByteArray)),(AV.b true),(AV.s (⟨#[116,119,111]⟩:ByteArray))]),(AV.st [(AV.own 6 0 1),(AV.own 7 0 1),(AV.sl 1 true []),(AV.own 8 0 1),(AV.s (⟨#[99,99,32,98]⟩:ByteArray)),(AV.b false),(AV.s (⟨#[116,119,111]⟩:ByteArray))])]⟩,⟨9,1,[(⟨#[108,105,98]⟩:ByteArray)].map AV.s⟩,⟨9,1,[(⟨#[97,46,111]⟩:ByteArray),(⟨#[98,46,111]⟩:ByteArray)].map AV.s⟩,⟨9,1,[(⟨#[97,46,111]⟩:ByteArray),(⟨#[97,46,100]⟩:ByteArray)].map AV.s⟩,⟨9,1,[(⟨#[97,46,99]⟩:ByteArray)].map AV.s⟩,⟨9,1,[(⟨#[97,46,104]⟩:ByteArray)].map AV.s⟩,⟨9,1,[(⟨#[98,46,111]⟩:ByteArray)].map AV.s⟩,⟨9,1,[(⟨#[98,46,99]⟩:ByteArray)].map AV.s⟩,⟨9,1,[(⟨#[97,46,111]⟩:ByteArray)].map AV.s⟩,⟨122,2,[(⟨(⟨#[116,119,111]⟩:ByteArray),(2:Int)⟩:BM)].map BM.av⟩,⟨9,1,[(⟨#[108,105,98]⟩:ByteArray)].map AV.s⟩,⟨67,3,[(AV.st [(AV.s (⟨#[99,99,32,97]⟩:ByteArray)),(AV.own 12 0 1),(AV.b false)])]⟩,⟨9,1,[(⟨#[122,46,104]⟩:ByteArray)].map AV.s⟩,⟨85,3,[AC,AE,AF,AD].map A3.av⟩]:=by
 refine LZ A2 (fn:=Go.Proofs.Tryz.f29) Go.Proofs.Tryz.func29 rfl (en29 W) le<|Sq<|Rg<|Nn (AV.loc 0 0 0) ⟨35,11,[(AV.st [(AV.sl 7 true []),(AV.sl 2 true []),(AV.sl 1 true []),(AV.sl 3 true []),(AV.i .i64 (0:Int)),(AV.sl 3 true []),(AV.sl 3 true []),(AV.sl 3 true []),(AV.i .i64 (0:Int)),(AV.b false),(AV.sl 1 true [])])]⟩<|Ad<|Sq<|Rg<|Nn (AV.own 1 0 1) ⟨9,1,[(⟨#[108,105,98]⟩:ByteArray)].map AV.s⟩<|Nn (AV.own 2 0 2) ⟨9,1,[(⟨#[97,46,111]⟩:ByteArray),(⟨#[98,46,111]⟩:ByteArray)].map AV.s⟩<|Nb HA<|Nn (AV.own 3 0 2) ⟨9,1,[(⟨#[97,46,111]⟩:ByteArray),(⟨#[97,46,100]⟩:ByteArray)].map AV.s⟩<|Nn (AV.own 4 0 1) ⟨9,1,[(⟨#[97,46,99]⟩:ByteArray)].map AV.s⟩<|Nn (AV.own 5 0 1) ⟨9,1,[(⟨#[97,46,104]⟩:ByteArray)].map AV.s⟩<|Nb Hz<|Nn (AV.own 6 0 1) ⟨9,1,[(⟨#[98,46,111]⟩:ByteArray)].map AV.s⟩<|Nn (AV.own 7 0 1) ⟨9,1,[(⟨#[98,46,99]⟩:ByteArray)].map AV.s⟩<|Nn (AV.own 8 0 1) ⟨9,1,[(⟨#[97,46,111]⟩:ByteArray)].map AV.s⟩<|Nb Hy ?_
 refine Nn (AV.own 9 0 3) ⟨65,7,[HA,Hz,Hy]⟩<|Nb (AV.st [(AV.s (⟨#[116,119,111]⟩:ByteArray)),(AV.i .i64 (2:Int))])<|Nn (AV.own 10 0 1) ⟨122,2,[(⟨(⟨#[116,119,111]⟩:ByteArray),(2:Int)⟩:BM)].map BM.av⟩<|Nn (AV.own 11 0 1) ⟨9,1,[(⟨#[108,105,98]⟩:ByteArray)].map AV.s⟩<|Nb FB<|Nn (AV.loc 12 0 0) ⟨26,3,[(AV.st [(AV.sl 7 true []),(AV.sl 2 true []),(AV.sl 1 true [])])]⟩<|Sp 12 ⟨26,3,[FB]⟩<|Ad<|Sq<|Rg<|Nb (AV.st [(AV.s (⟨#[97,46,99]⟩:ByteArray)),(AV.i .i64 (1:Int)),(AV.i .i64 (1:Int))])<|Nb (AV.st [(AV.s (⟨#[97,46,104]⟩:ByteArray)),(AV.i .i64 (2:Int)),(AV.i .i64 (2:Int))])<|Nb (AV.st [(AV.s (⟨#[98,46,99]⟩:ByteArray)),(AV.i .i64 (3:Int)),(AV.i .i64 (3:Int))])<|Nb (AV.st [(AV.s (⟨#[122,46,104]⟩:ByteArray)),(AV.i .i64 (4:Int)),(AV.i .i64 (4:Int))])<|Nn (AV.own 13 0 4) ⟨85,3,[AC,AE,AF,AD].map A3.av⟩ ?_
 refine Nb (AV.st [(AV.i .i64 (4:Int)),(AV.own 13 0 4)])<|Nn (AV.loc 14 0 0) ⟨30,2,[(AV.st [(AV.i .i64 (0:Int)),(AV.sl 3 true [])])]⟩<|Sp 14 ⟨30,2,[(AV.st [(AV.i .i64 (4:Int)),(AV.own 13 0 4)])]⟩<|Ad<|Sq<|Rg<|Aq FB<|Nn (AV.own 15 0 1) ⟨9,1,[(⟨#[122,46,104]⟩:ByteArray)].map AV.s⟩<|Nb (AV.st [(AV.s (⟨#[99,99,32,97]⟩:ByteArray)),(AV.own 15 0 1),(AV.b false)])<|Nn (AV.own 16 0 1) ⟨67,3,[(AV.st [(AV.s (⟨#[99,99,32,97]⟩:ByteArray)),(AV.own 15 0 1),(AV.b false)])]⟩<|Aq (AV.st [(AV.i .i64 (4:Int)),(AV.own 13 0 4)])<|Nb FA<|Sp 0 ⟨35,11,[FA]⟩<|Ad<|Rt ?_
 have hM:Gx=AN:=by simp only [Gx,AP]
 exact ⟨[9,1,2,3,4,5,6,7,8,10,11,16,15,13],Or.inr rfl,by decide,rfl,⟨kr,⟨kr,⟨kr,⟨kr,⟨kr,⟨kr,⟨kr,⟨kr,⟨kr,⟨kr,⟨kr,⟨kr,⟨kr,⟨kr,trivial⟩⟩⟩⟩⟩⟩⟩⟩⟩⟩⟩⟩⟩⟩,FA,kr,kr⟩
theorem NT (W:World):Ac Go.Proofs.Tryz.prog W 29 [] (AV.st [((Ao 7 At.av) Gx.graph.edges),((Ao 2 BM.av) Gx.graph.pools),((Ao 1 AV.s) Gx.graph.defaults),((Ao 3 AJ.av) Gx.actions),(AV.i .i64 Gx.disk.clock),((Ao 3 A3.av) Gx.disk.files),(AV.sl 3 true []),(AV.sl 3 true []),(AV.i .i64 Gx.jobs),(AV.b Gx.going),(AV.sl 1 true [])]) []:=
 (E7 W).freeze (AW.st ⟨(Dt.kk (x':=(AV.own 0 0 3)) kr kr rfl (Ab.own (id:=0) (len:=3) (e:=65) (k:=7) (els:=[(AV.st [(AV.own 1 0 1),(AV.own 2 0 2),(AV.sl 1 true []),(AV.sl 1 true []),(AV.s (⟨#[97,114]⟩:ByteArray)),(AV.b false),(AV.s (⟨#[]⟩:ByteArray))]),(AV.st [(AV.own 3 0 2),(AV.own 4 0 1),(AV.own 5 0 1),(AV.sl 1 true []),(AV.s (⟨#[99,99,32,97]⟩:ByteArray)),(AV.b true),(AV.s (⟨#[116,119,111]⟩:ByteArray))]),(AV.st [(AV.own 6 0 1),(AV.own 7 0 1),(AV.sl 1 true []),(AV.own 8 0 1),(AV.s (⟨#[99,99,32,98]⟩:ByteArray)),(AV.b false),(AV.s (⟨#[116,119,111]⟩:ByteArray))])]) rfl rfl rfl sd (B8.cons (Ci.st (A9.cons (Ab.row (fun _=>rfl) (A:=AV.s) (id:=1) (e:=9) (k:=1) (xs:=[(⟨#[108,105,98]⟩:ByteArray)]) rfl rfl sd sd) (A9.cons (Ab.row (fun _=>rfl) (A:=AV.s) (id:=2) (e:=9) (k:=1) (xs:=[(⟨#[97,46,111]⟩:ByteArray),(⟨#[98,46,111]⟩:ByteArray)]) rfl rfl sd sd) (A9.cons (Ab.c rfl (AM.nil 1)) (A9.cons (Ab.c rfl (AM.nil 1)) (A9.cons (Av (x:=(AV.s (⟨#[97,114]⟩:ByteArray))) kr) (A9.cons (Av (x:=(AV.b false)) kr) (A9.cons (Av (x:=(AV.s (⟨#[]⟩:ByteArray))) kr) A9.nil)))))))) (B8.cons (Ci.st (A9.cons (Ab.row (fun _=>rfl) (A:=AV.s) (id:=3) (e:=9) (k:=1) (xs:=[(⟨#[97,46,111]⟩:ByteArray),(⟨#[97,46,100]⟩:ByteArray)]) rfl rfl sd sd) (A9.cons (Ab.row (fun _=>rfl) (A:=AV.s) (id:=4) (e:=9) (k:=1) (xs:=[(⟨#[97,46,99]⟩:ByteArray)]) rfl rfl sd sd) (A9.cons (Ab.row (fun _=>rfl) (A:=AV.s) (id:=5) (e:=9) (k:=1) (xs:=[(⟨#[97,46,104]⟩:ByteArray)]) rfl rfl sd sd) (A9.cons (Ab.c rfl (AM.nil 1)) (A9.cons (Av (x:=(AV.s (⟨#[99,99,32,97]⟩:ByteArray))) kr) (A9.cons (Av (x:=(AV.b true)) kr) (A9.cons (Av (x:=(AV.s (⟨#[116,119,111]⟩:ByteArray))) kr) A9.nil)))))))) (B8.cons (Ci.st (A9.cons (Ab.row (fun _=>rfl) (A:=AV.s) (id:=6) (e:=9) (k:=1) (xs:=[(⟨#[98,46,111]⟩:ByteArray)]) rfl rfl sd sd) (A9.cons (Ab.row (fun _=>rfl) (A:=AV.s) (id:=7) (e:=9) (k:=1) (xs:=[(⟨#[98,46,99]⟩:ByteArray)]) rfl rfl sd sd) (A9.cons (Ab.c rfl (AM.nil 1)) (A9.cons (Ab.row (fun _=>rfl) (A:=AV.s) (id:=8) (e:=9) (k:=1) (xs:=[(⟨#[97,46,111]⟩:ByteArray)]) rfl rfl sd sd) (A9.cons (Av (x:=(AV.s (⟨#[99,99,32,98]⟩:ByteArray))) kr) (A9.cons (Av (x:=(AV.b false)) kr) (A9.cons (Av (x:=(AV.s (⟨#[116,119,111]⟩:ByteArray))) kr) A9.nil)))))))) B8.nil))))),⟨(Dt.kk (x':=(AV.own 9 0 1)) kr kr rfl (Ab.row (fun _=>rfl) (A:=BM.av) (id:=9) (e:=122) (k:=2) (xs:=[(⟨(⟨#[116,119,111]⟩:ByteArray),(2:Int)⟩:BM)]) rfl rfl sd sd)),⟨(Dt.kk (x':=(AV.own 10 0 1)) kr kr rfl (Ab.row (fun _=>rfl) (A:=AV.s) (id:=10) (e:=9) (k:=1) (xs:=[(⟨#[108,105,98]⟩:ByteArray)]) rfl rfl sd sd)),⟨(Dt.kk (x':=(AV.own 11 0 1)) kr kr rfl (Ab.own (id:=11) (len:=1) (e:=67) (k:=3) (els:=[(AV.st [(AV.s (⟨#[99,99,32,97]⟩:ByteArray)),(AV.own 12 0 1),(AV.b false)])]) rfl rfl rfl sd (B8.cons (Ci.st (A9.cons (Av (x:=(AV.s (⟨#[99,99,32,97]⟩:ByteArray))) kr) (A9.cons (Ab.row (fun _=>rfl) (A:=AV.s) (id:=12) (e:=9) (k:=1) (xs:=[(⟨#[122,46,104]⟩:ByteArray)]) rfl rfl sd sd) (A9.cons (Av (x:=(AV.b false)) kr) A9.nil)))) B8.nil))),⟨(AW.c kr kr),⟨(Dt.kk (x':=(AV.own 13 0 4)) kr kr rfl (Ab.row (fun _=>rfl) (A:=A3.av) (id:=13) (e:=85) (k:=3) (xs:=[AC,AE,AF,AD]) rfl rfl sd sd)),⟨Ec,⟨Ec,⟨(AW.c kr kr),⟨(AW.c kr kr),⟨Ec,trivial⟩⟩⟩⟩⟩⟩⟩⟩⟩⟩⟩ kr)
def Bs:AV:=(AV.i .i64 Gx.jobs)
def DV:AV:=(AV.s (⟨#[98,46,111]⟩:ByteArray))
def DU:AV:=(AV.s (⟨#[97,46,100]⟩:ByteArray))
def Cy:AV:=(AV.s (⟨#[97,46,111]⟩:ByteArray))
def DT:AV:=(AV.s (⟨#[108,105,98]⟩:ByteArray))
def Br:AV:=((Ao 3 AJ.av) Gx.actions)
def Bq:AV:=((Ao 1 AV.s) Gx.graph.defaults)
def Bp:AV:=((Ao 2 BM.av) Gx.graph.pools)
def Bo:AV:=((Ao 7 At.av) Gx.graph.edges)
def DS:AV:=(AV.st [(AV.i .i64 (7:Int)),((Ao 3 A3.av) dk3.files)])
def DR:AV:=(AV.st [(AV.i .i64 (6:Int)),((Ao 3 A3.av) dk2.files)])
def DQ:AV:=(AV.st [(AV.i .i64 (5:Int)),((Ao 3 A3.av) dk1.files)])
def DP:Obj:=⟨30,2,[(AV.st [(AV.i .i64 (0:Int)),(AV.sl 3 true [])])]⟩
def DO:Obj:=⟨30,2,[(AV.st [(AV.i .i64 (8:Int)),((Ao 3 A3.av) Pk.files)])]⟩
def BG:Obj:=⟨30,2,[DS]⟩
def B7:Obj:=⟨30,2,[DR]⟩
def AO:Obj:=⟨30,2,[DQ]⟩
def DN:AV:=(AV.s (⟨#[97,46,111,32,97,46,100,124,97,46,99,124,97,46,104,124,100,124,99,99,32,97]⟩:ByteArray))
def Aw:Obj:=⟨9,1,[(⟨#[97,46,111]⟩:ByteArray),(⟨#[97,46,100]⟩:ByteArray),(⟨#[98,46,111]⟩:ByteArray),(⟨#[108,105,98]⟩:ByteArray)].map AV.s⟩
def BT:Obj:=⟨56,3,[Cb].map A8.av⟩
def Fz:Obj:=⟨56,3,[Dv].map A8.av⟩
def Bc:Obj:=⟨56,3,[Bt].map A8.av⟩
def AB:Obj:=⟨56,3,[Bu].map A8.av⟩
def AG:Obj:=⟨35,11,[(AV.st [(AV.sl 7 true []),(AV.sl 2 true []),(AV.sl 1 true []),(AV.sl 3 true []),(AV.i .i64 (0:Int)),(AV.sl 3 true []),(AV.sl 3 true []),(AV.sl 3 true []),(AV.i .i64 (0:Int)),(AV.b false),(AV.sl 1 true [])])]⟩
def D0:Obj:=⟨56,3,[Bu,Bt].map A8.av⟩
def Fy:Obj:=⟨35,11,[(AV.st [Bo,Bp,Bq,Br,(AV.i .i64 (6:Int)),((Ao 3 A3.av) dk2.files),(AV.own 6 0 1),(AV.sl 3 true []),Bs,(AV.b Gx.going),(AV.sl 1 true [])])]⟩
def Fx:Obj:=⟨35,11,[(AV.st [Bo,Bp,Bq,Br,(AV.i .i64 (5:Int)),((Ao 3 A3.av) dk1.files),(AV.own 6 0 1),(AV.sl 3 true []),Bs,(AV.b Gx.going),(AV.sl 1 true [])])]⟩
def Fw:Obj:=⟨35,11,[(AV.st [Bo,Bp,Bq,Br,(AV.i .i64 (5:Int)),((Ao 3 A3.av) dk1.files),(AV.sl 3 true []),(AV.sl 3 true []),Bs,(AV.b Gx.going),(AV.sl 1 true [])])]⟩
def Hx:AV:=(AV.st [Bo,Bp,Bq,Br,(AV.i .i64 Gx.disk.clock),((Ao 3 A3.av) Gx.disk.files),(AV.sl 3 true []),(AV.sl 3 true []),Bs,(AV.b Gx.going),(AV.sl 1 true [])])
def Fv:Obj:=⟨35,11,[Hx]⟩
def AA:Obj:=⟨9,1,[(⟨#[97,46,111,32,97,46,100,124,97,46,99,124,97,46,104,124,100,124,99,99,32,97]⟩:ByteArray),(⟨#[97,46,111,32,97,46,100,124,97,46,99,124,97,46,104,124,100,124,99,99,32,97]⟩:ByteArray),(⟨#[98,46,111,124,98,46,99,124,124,110,124,99,99,32,98]⟩:ByteArray),(⟨#[108,105,98,124,97,46,111,32,98,46,111,124,124,110,124,97,114]⟩:ByteArray)].map AV.s⟩
def Dd:Obj:=⟨56,3,[Bu,Bt,Cb].map A8.av⟩
def Ip:Obj:=⟨56,3,[Bu,Bt,Cb,Dv].map A8.av⟩
def G4:Obj:=⟨35,11,[(AV.st [Bo,Bp,Bq,Br,(AV.i .i64 (7:Int)),((Ao 3 A3.av) dk3.files),(AV.own 9 0 ([Bu,Bt].length)),(AV.sl 3 true []),Bs,(AV.b Gx.going),(AV.sl 1 true [])])]⟩
def G3:Obj:=⟨35,11,[(AV.st [Bo,Bp,Bq,Br,(AV.i .i64 (6:Int)),((Ao 3 A3.av) dk2.files),(AV.own 9 0 ([Bu,Bt].length)),(AV.sl 3 true []),Bs,(AV.b Gx.going),(AV.sl 1 true [])])]⟩
def G2:Obj:=⟨35,11,[(AV.st [Bo,Bp,Bq,Br,(AV.i .i64 (8:Int)),((Ao 3 A3.av) Pk.files),(AV.own 12 0 ([Bu,Bt,Cb].length)),(AV.sl 3 true []),Bs,(AV.b Gx.going),(AV.sl 1 true [])])]⟩
def G1:Obj:=⟨35,11,[(AV.st [Bo,Bp,Bq,Br,(AV.i .i64 (7:Int)),((Ao 3 A3.av) dk3.files),(AV.own 12 0 ([Bu,Bt,Cb].length)),(AV.sl 3 true []),Bs,(AV.b Gx.going),(AV.sl 1 true [])])]⟩
def G0:AV:=(AV.st [Bo,Bp,Bq,Br,(AV.i .i64 (8:Int)),((Ao 3 A3.av) Pk.files),(AV.own 15 0 ([Bu,Bt,Cb,Dv].length)),(AV.own 17 0 1),Bs,(AV.b Gx.going),(AV.sl 1 true [])])
def Io:Obj:=⟨35,11,[G0]⟩
theorem Ou (W:World):Ac Go.Proofs.Tryz.prog W 26 [] (AV.st [((Ao 7 At.av) Gx.graph.edges),((Ao 2 BM.av) Gx.graph.pools),((Ao 1 AV.s) Gx.graph.defaults),((Ao 3 AJ.av) Gx.actions),(AV.i .i64 (8:Int)),((Ao 3 A3.av) Pk.files),(AV.own 0 0 ([Bu,Bt,Cb,Dv].length)),(AV.own 1 0 1),(AV.i .i64 Gx.jobs),(AV.b Gx.going),(AV.sl 1 true [])]) [⟨56,3,[Bu,Bt,Cb,Dv].map A8.av⟩,⟨61,3,[(AV.st [(AV.s (⟨#[97,46,111]⟩:ByteArray)),(AV.i .i64 (5:Int)),(AV.own 2 0 1)])]⟩,⟨9,1,[(⟨#[122,46,104]⟩:ByteArray)].map AV.s⟩]:=by
 refine LZ A2 (fn:=Go.Proofs.Tryz.f26) Go.Proofs.Tryz.func26 rfl (en26 W) le<|Sq<|Rg<|Nn (AV.loc 0 0 0) AG<|Ad<|Sq<|Rg<|A1.sc0 (vs:=[]) (r0:=Hx) kr kr (NT W) kr le<|Nn (AV.loc 1 0 0) AG<|Sp 1 Fv<|Ad ?_
 refine Sq<|Rg<|Nn (AV.own 2 0 4) Aw<|Aq (AV.own 2 0 4)<|Ad<|Sq<|Rg<|Nn (AV.own 3 0 4) AA<|Aq (AV.own 3 0 4)<|Ad<|Sq<|Sq<|Rg<|Aq (AV.i .i64 (0:Int))<|Ad<|A7.block<|RE 5<|Mz.next (m:=4)<|Sq<|Sq<|Rg<|Aq (AV.i .i64 (0:Int))<|Aq (AV.b true)<|Ad<|Ct<|A7.skip<|Sq<|A7.block<|Sq<|FM A2 Dw 12 [10] kr kr kr le<|Dq (AV.loc 1 0 4)<|Dq (AV.st [(AV.i .i64 Gx.disk.clock),((Ao 3 A3.av) Gx.disk.files)])<|Dq (AV.own 2 0 4)<|Dq (AV.i .i64 (0:Int))<|Dp (AV.loc 2 0 0) (E0 (e:=9) (id:=2) (len:=4) (kk:= .i64) (ob:=Aw) (i:=0) kr kr kr rfl kr sd)<|Dp Cy (CJ (e:=9) (k:=1) (i:=FC) (id:=2) (xs:=[(⟨#[97,46,111]⟩:ByteArray),(⟨#[97,46,100]⟩:ByteArray),(⟨#[98,46,111]⟩:ByteArray),(⟨#[108,105,98]⟩:ByteArray)]) (A:=AV.s) (j:=0) kr kr rfl rfl kr) ?_
 refine Dq (AV.i .i64 (0:Int))<|Ar.sc0 (vs:=[(AV.st [(AV.i .i64 Gx.disk.clock),((Ao 3 A3.av) Gx.disk.files)]),Cy,(AV.i .i64 (0:Int))]) (r0:=(AV.tup [(Ag.av dk1),(AV.i .i64 (0:Int))])) kr kr (JM (Dz W (⟨Gx.disk.clock,Gx.disk.files⟩:Ag) (⟨#[97,46,111]⟩:ByteArray) (0:Int) sd) kr) kr le<|Dq (AV.tup [(Ag.av dk1),(AV.i .i64 (0:Int))])<|Dq (Ag.av dk1)<|Dq (AV.i .i64 (0:Int))<|Ar.sn (x:=(AV.loc 4 0 0)) (h':=⟨5,[(4,some DP),(3,some AA),(2,some Aw),(1,some Fv),(0,some AG)]⟩) kr le ?_
 refine Ar.st (by decide) (x:=AV.und) (h':=⟨5,[(4,some AO),(3,some AA),(2,some Aw),(1,some Fv),(0,some AG)]⟩) kr<|Dq (AV.i .i64 (0:Int))<|Ar.fin<|Sq<|Rg<|Aq DQ ?_
 refine Aq (AV.loc 1 0 4)<|Sp 1 Fw<|Ad<|A7.drawn A2 Dw 14 kr le<|Dq (AV.loc 1 0 6)<|Dq (AV.sl 3 true [])<|Dq (AV.own 2 0 4)<|Dq (AV.i .i64 (0:Int))<|Dp (AV.loc 2 0 0) (E0 (e:=9) (id:=2) (len:=4) (kk:= .i64) (ob:=Aw) (i:=0) kr kr kr rfl kr sd)<|Dp Cy (CJ (e:=9) (k:=1) (i:=FC) (id:=2) (xs:=[(⟨#[97,46,111]⟩:ByteArray),(⟨#[97,46,100]⟩:ByteArray),(⟨#[98,46,111]⟩:ByteArray),(⟨#[108,105,98]⟩:ByteArray)]) (A:=AV.s) (j:=0) kr kr rfl rfl kr)<|Dq (AV.loc 4 0 0)<|Dq (AV.i .i64 (5:Int))<|Dq (AV.own 3 0 4)<|Dq (AV.i .i64 (0:Int))<|Dp (AV.loc 3 0 0) (E0 (e:=9) (id:=3) (len:=4) (kk:= .i64) (ob:=AA) (i:=0) kr kr kr rfl kr sd) ?_
 refine Dp DN (CJ (e:=9) (k:=1) (i:=FC) (id:=3) (xs:=[(⟨#[97,46,111,32,97,46,100,124,97,46,99,124,97,46,104,124,100,124,99,99,32,97]⟩:ByteArray),(⟨#[97,46,111,32,97,46,100,124,97,46,99,124,97,46,104,124,100,124,99,99,32,97]⟩:ByteArray),(⟨#[98,46,111,124,98,46,99,124,124,110,124,99,99,32,98]⟩:ByteArray),(⟨#[108,105,98,124,97,46,111,32,98,46,111,124,124,110,124,97,114]⟩:ByteArray)]) (A:=AV.s) (j:=0) kr kr rfl rfl kr)<|Nd (AV.st [Cy,(AV.i .i64 (5:Int)),DN])<|Ar.sn (x:=(AV.own 5 0 1)) (h':=⟨6,[(5,some AB),(4,some AO),(3,some AA),(2,some Aw),(1,some Fw),(0,some AG)]⟩) kr le ?_
 refine Ar.se (by decide) (x:=(AV.own 6 0 1)) (h':=⟨7,[(6,some AB),(5,some AB),(4,some AO),(3,some AA),(2,some Aw),(1,some Fw),(0,some AG)]⟩) kr le ?_
 refine Dq (AV.loc 1 0 6)<|Ar.st (by decide) (x:=AV.und) (h':=⟨7,[(6,some AB),(5,some AB),(4,some AO),(3,some AA),(2,some Aw),(1,some Fx),(0,some AG)]⟩) kr ?_
 refine Ar.fin<|Rg<|Aq (AV.i .i64 (0:Int))<|Aq (AV.i .i64 (1:Int))<|Aq (AV.i .i64 (1:Int))<|Ad<|Mz.next (m:=3)<|Sq<|Sq<|Rg<|Aq (AV.i .i64 (1:Int))<|Aq (AV.b true)<|Ad<|Ct<|A7.skip<|Sq<|A7.block<|Sq<|FM A2 Dw 12 [10] kr kr kr le<|Dq (AV.loc 1 0 4)<|Dq DQ<|Dq (AV.own 2 0 4)<|Dq (AV.i .i64 (1:Int))<|Dp (AV.loc 2 1 0) (E0 (e:=9) (id:=2) (len:=4) (kk:= .i64) (ob:=Aw) (i:=1) kr kr kr rfl kr sd)<|Dp DU (CJ (e:=9) (k:=1) (i:=FC) (id:=2) (xs:=[(⟨#[97,46,111]⟩:ByteArray),(⟨#[97,46,100]⟩:ByteArray),(⟨#[98,46,111]⟩:ByteArray),(⟨#[108,105,98]⟩:ByteArray)]) (A:=AV.s) (j:=1) kr kr rfl rfl kr)<|Dq (AV.i .i64 (1:Int))<|Ar.sc0 (vs:=[DQ,DU,(AV.i .i64 (1:Int))]) (r0:=(AV.tup [(Ag.av dk2),(AV.i .i64 (0:Int))])) kr kr (JM (Dz W (⟨(5:Int),dk1.files⟩:Ag) (⟨#[97,46,100]⟩:ByteArray) (1:Int) sd) kr) kr le<|Dq (AV.tup [(Ag.av dk2),(AV.i .i64 (0:Int))])<|Dq (Ag.av dk2)<|Dq (AV.i .i64 (0:Int))<|Ar.sn (x:=(AV.loc 7 0 0)) (h':=⟨8,[(7,some DP),(6,some AB),(5,some AB),(4,some AO),(3,some AA),(2,some Aw),(1,some Fx),(0,some AG)]⟩) kr le ?_
 refine Ar.st (by decide) (x:=AV.und) (h':=⟨8,[(7,some B7),(6,some AB),(5,some AB),(4,some AO),(3,some AA),(2,some Aw),(1,some Fx),(0,some AG)]⟩) kr ?_
 refine Dq (AV.i .i64 (0:Int))<|Ar.fin<|Sq<|Rg<|Aq DR<|Aq (AV.loc 1 0 4)<|Sp 1 Fy<|Ad<|A7.drawn A2 Dw 14 kr le<|Dq (AV.loc 1 0 6)<|Dq (AV.own 6 0 1)<|Dq (AV.own 2 0 4)<|Dq (AV.i .i64 (1:Int))<|Dp (AV.loc 2 1 0) (E0 (e:=9) (id:=2) (len:=4) (kk:= .i64) (ob:=Aw) (i:=1) kr kr kr rfl kr sd)<|Dp DU (CJ (e:=9) (k:=1) (i:=FC) (id:=2) (xs:=[(⟨#[97,46,111]⟩:ByteArray),(⟨#[97,46,100]⟩:ByteArray),(⟨#[98,46,111]⟩:ByteArray),(⟨#[108,105,98]⟩:ByteArray)]) (A:=AV.s) (j:=1) kr kr rfl rfl kr)<|Dq (AV.loc 7 0 0)<|Dq (AV.i .i64 (6:Int))<|Dq (AV.own 3 0 4)<|Dq (AV.i .i64 (1:Int))<|Dp (AV.loc 3 1 0) (E0 (e:=9) (id:=3) (len:=4) (kk:= .i64) (ob:=AA) (i:=1) kr kr kr rfl kr sd) ?_
 refine Dp DN (CJ (e:=9) (k:=1) (i:=FC) (id:=3) (xs:=[(⟨#[97,46,111,32,97,46,100,124,97,46,99,124,97,46,104,124,100,124,99,99,32,97]⟩:ByteArray),(⟨#[97,46,111,32,97,46,100,124,97,46,99,124,97,46,104,124,100,124,99,99,32,97]⟩:ByteArray),(⟨#[98,46,111,124,98,46,99,124,124,110,124,99,99,32,98]⟩:ByteArray),(⟨#[108,105,98,124,97,46,111,32,98,46,111,124,124,110,124,97,114]⟩:ByteArray)]) (A:=AV.s) (j:=1) kr kr rfl rfl kr)<|Nd (AV.st [DU,(AV.i .i64 (6:Int)),DN])<|Ar.sn (x:=(AV.own 8 0 1)) (h':=⟨9,[(8,some Bc),(7,some B7),(6,some AB),(5,some AB),(4,some AO),(3,some AA),(2,some Aw),(1,some Fy),(0,some AG)]⟩) kr le ?_
 refine Ar.se (by decide) (x:=(AV.own 9 0 ([Bu,Bt].length))) (h':=⟨10,[(9,some D0),(8,some Bc),(7,some B7),(6,none),(5,some AB),(4,some AO),(3,some AA),(2,some Aw),(1,some Fy),(0,some AG)]⟩) (IF (len:=1) (e:=56) (X:=(AV.own 8 0 1)) (A:=A8.av) (i:=Vl) (p:=6) (xs:=[Bu]) (ys:=[Bt]) kr kr kr (hx:=kr) kr ⟨by decide,by kernel_rfl⟩ rfl sd (by show _*40≤140737488355328;first|omega|(simp only [List.length_append,List.length_cons,List.length_nil,List.length_set,List.length_replicate];omega)|(simp;omega)) sd) le ?_
 refine Dq (AV.loc 1 0 6)<|Ar.st (by decide) (x:=AV.und) (h':=⟨10,[(9,some D0),(8,some Bc),(7,some B7),(6,none),(5,some AB),(4,some AO),(3,some AA),(2,some Aw),(1,some G3),(0,some AG)]⟩) kr ?_
 refine Ar.fin<|Rg<|Aq (AV.i .i64 (1:Int))<|Aq (AV.i .i64 (2:Int))<|Aq (AV.i .i64 (2:Int))<|Ad<|Mz.next (m:=2)<|Sq<|Sq<|Rg<|Aq (AV.i .i64 (2:Int))<|Aq (AV.b true)<|Ad<|Ct<|A7.skip<|Sq<|A7.block<|Sq<|FM A2 Dw 12 [10] kr kr kr le<|Dq (AV.loc 1 0 4)<|Dq DR<|Dq (AV.own 2 0 4)<|Dq (AV.i .i64 (2:Int))<|Dp (AV.loc 2 2 0) (E0 (e:=9) (id:=2) (len:=4) (kk:= .i64) (ob:=Aw) (i:=2) kr kr kr rfl kr sd)<|Dp DV (CJ (e:=9) (k:=1) (i:=FC) (id:=2) (xs:=[(⟨#[97,46,111]⟩:ByteArray),(⟨#[97,46,100]⟩:ByteArray),(⟨#[98,46,111]⟩:ByteArray),(⟨#[108,105,98]⟩:ByteArray)]) (A:=AV.s) (j:=2) kr kr rfl rfl kr)<|Dq (AV.i .i64 (2:Int))<|Ar.sc0 (vs:=[DR,DV,(AV.i .i64 (2:Int))]) (r0:=(AV.tup [(Ag.av dk3),(AV.i .i64 (0:Int))])) kr kr (JM (Dz W (⟨(6:Int),dk2.files⟩:Ag) (⟨#[98,46,111]⟩:ByteArray) (2:Int) sd) kr) kr le<|Dq (AV.tup [(Ag.av dk3),(AV.i .i64 (0:Int))])<|Dq (Ag.av dk3)<|Dq (AV.i .i64 (0:Int))<|Ar.sn (x:=(AV.loc 10 0 0)) (h':=⟨11,[(10,some DP),(9,some D0),(8,some Bc),(7,some B7),(6,none),(5,some AB),(4,some AO),(3,some AA),(2,some Aw),(1,some G3),(0,some AG)]⟩) kr le ?_
 refine Ar.st (by decide) (x:=AV.und) (h':=⟨11,[(10,some BG),(9,some D0),(8,some Bc),(7,some B7),(6,none),(5,some AB),(4,some AO),(3,some AA),(2,some Aw),(1,some G3),(0,some AG)]⟩) kr ?_
 refine Dq (AV.i .i64 (0:Int))<|Ar.fin<|Sq<|Rg<|Aq DS<|Aq (AV.loc 1 0 4)<|Sp 1 G4<|Ad<|A7.drawn A2 Dw 14 kr le<|Dq (AV.loc 1 0 6)<|Dq (AV.own 9 0 ([Bu,Bt].length))<|Dq (AV.own 2 0 4)<|Dq (AV.i .i64 (2:Int))<|Dp (AV.loc 2 2 0) (E0 (e:=9) (id:=2) (len:=4) (kk:= .i64) (ob:=Aw) (i:=2) kr kr kr rfl kr sd) ?_
 refine Dp DV (CJ (e:=9) (k:=1) (i:=FC) (id:=2) (xs:=[(⟨#[97,46,111]⟩:ByteArray),(⟨#[97,46,100]⟩:ByteArray),(⟨#[98,46,111]⟩:ByteArray),(⟨#[108,105,98]⟩:ByteArray)]) (A:=AV.s) (j:=2) kr kr rfl rfl kr)<|Dq (AV.loc 10 0 0)<|Dq (AV.i .i64 (7:Int))<|Dq (AV.own 3 0 4)<|Dq (AV.i .i64 (2:Int))<|Dp (AV.loc 3 2 0) (E0 (e:=9) (id:=3) (len:=4) (kk:= .i64) (ob:=AA) (i:=2) kr kr kr rfl kr sd)<|Dp (AV.s (⟨#[98,46,111,124,98,46,99,124,124,110,124,99,99,32,98]⟩:ByteArray)) (CJ (e:=9) (k:=1) (i:=FC) (id:=3) (xs:=[(⟨#[97,46,111,32,97,46,100,124,97,46,99,124,97,46,104,124,100,124,99,99,32,97]⟩:ByteArray),(⟨#[97,46,111,32,97,46,100,124,97,46,99,124,97,46,104,124,100,124,99,99,32,97]⟩:ByteArray),(⟨#[98,46,111,124,98,46,99,124,124,110,124,99,99,32,98]⟩:ByteArray),(⟨#[108,105,98,124,97,46,111,32,98,46,111,124,124,110,124,97,114]⟩:ByteArray)]) (A:=AV.s) (j:=2) kr kr rfl rfl kr) ?_
 refine Nd (AV.st [DV,(AV.i .i64 (7:Int)),(AV.s (⟨#[98,46,111,124,98,46,99,124,124,110,124,99,99,32,98]⟩:ByteArray))])<|Ar.sn (x:=(AV.own 11 0 1)) (h':=⟨12,[(11,some BT),(10,some BG),(9,some D0),(8,some Bc),(7,some B7),(6,none),(5,some AB),(4,some AO),(3,some AA),(2,some Aw),(1,some G4),(0,some AG)]⟩) kr le ?_
 refine Ar.se (by decide) (x:=(AV.own 12 0 ([Bu,Bt,Cb].length))) (h':=⟨13,[(12,some Dd),(11,some BT),(10,some BG),(9,none),(8,some Bc),(7,some B7),(6,none),(5,some AB),(4,some AO),(3,some AA),(2,some Aw),(1,some G4),(0,some AG)]⟩) (IF (len:=([Bu,Bt].length)) (e:=56) (X:=(AV.own 11 0 1)) (A:=A8.av) (i:=Vl) (p:=9) (xs:=[Bu,Bt]) (ys:=[Cb]) kr kr kr (hx:=kr) kr ⟨by decide,by kernel_rfl⟩ rfl rfl (by show _*40≤140737488355328;first|omega|(simp only [List.length_append,List.length_cons,List.length_nil,List.length_set,List.length_replicate];omega)|(simp;omega)) sd) le ?_
 refine Dq (AV.loc 1 0 6)<|Ar.st (by decide) (x:=AV.und) (h':=⟨13,[(12,some Dd),(11,some BT),(10,some BG),(9,none),(8,some Bc),(7,some B7),(6,none),(5,some AB),(4,some AO),(3,some AA),(2,some Aw),(1,some G1),(0,some AG)]⟩) kr ?_
 refine Ar.fin<|Rg<|Aq (AV.i .i64 (2:Int))<|Aq (AV.i .i64 (3:Int))<|Aq (AV.i .i64 (3:Int))<|Ad<|Mz.next (m:=1)<|Sq<|Sq<|Rg<|Aq (AV.i .i64 (3:Int))<|Aq (AV.b true)<|Ad<|Ct<|A7.skip<|Sq<|A7.block<|Sq<|FM A2 Dw 12 [10] kr kr kr le<|Dq (AV.loc 1 0 4)<|Dq DS<|Dq (AV.own 2 0 4)<|Dq (AV.i .i64 (3:Int))<|Dp (AV.loc 2 3 0) (E0 (e:=9) (id:=2) (len:=4) (kk:= .i64) (ob:=Aw) (i:=3) kr kr kr rfl kr sd)<|Dp DT (CJ (e:=9) (k:=1) (i:=FC) (id:=2) (xs:=[(⟨#[97,46,111]⟩:ByteArray),(⟨#[97,46,100]⟩:ByteArray),(⟨#[98,46,111]⟩:ByteArray),(⟨#[108,105,98]⟩:ByteArray)]) (A:=AV.s) (j:=3) kr kr rfl rfl kr)<|Dq (AV.i .i64 (3:Int))<|Ar.sc0 (vs:=[DS,DT,(AV.i .i64 (3:Int))]) (r0:=(AV.tup [(Ag.av Pk),(AV.i .i64 (0:Int))])) kr kr (JM (Dz W (⟨(7:Int),dk3.files⟩:Ag) (⟨#[108,105,98]⟩:ByteArray) (3:Int) sd) kr) kr le<|Dq (AV.tup [(Ag.av Pk),(AV.i .i64 (0:Int))])<|Dq (Ag.av Pk)<|Dq (AV.i .i64 (0:Int))<|Ar.sn (x:=(AV.loc 13 0 0)) (h':=⟨14,[(13,some DP),(12,some Dd),(11,some BT),(10,some BG),(9,none),(8,some Bc),(7,some B7),(6,none),(5,some AB),(4,some AO),(3,some AA),(2,some Aw),(1,some G1),(0,some AG)]⟩) kr le ?_
 refine Ar.st (by decide) (x:=AV.und) (h':=⟨14,[(13,some DO),(12,some Dd),(11,some BT),(10,some BG),(9,none),(8,some Bc),(7,some B7),(6,none),(5,some AB),(4,some AO),(3,some AA),(2,some Aw),(1,some G1),(0,some AG)]⟩) kr ?_
 refine Dq (AV.i .i64 (0:Int))<|Ar.fin<|Sq<|Rg<|Aq (AV.st [(AV.i .i64 (8:Int)),((Ao 3 A3.av) Pk.files)])<|Aq (AV.loc 1 0 4)<|Sp 1 G2<|Ad<|A7.drawn A2 Dw 14 kr le<|Dq (AV.loc 1 0 6)<|Dq (AV.own 12 0 ([Bu,Bt,Cb].length)) ?_
 refine Dq (AV.own 2 0 4)<|Dq (AV.i .i64 (3:Int))<|Dp (AV.loc 2 3 0) (E0 (e:=9) (id:=2) (len:=4) (kk:= .i64) (ob:=Aw) (i:=3) kr kr kr rfl kr sd)<|Dp DT (CJ (e:=9) (k:=1) (i:=FC) (id:=2) (xs:=[(⟨#[97,46,111]⟩:ByteArray),(⟨#[97,46,100]⟩:ByteArray),(⟨#[98,46,111]⟩:ByteArray),(⟨#[108,105,98]⟩:ByteArray)]) (A:=AV.s) (j:=3) kr kr rfl rfl kr)<|Dq (AV.loc 13 0 0)<|Dq (AV.i .i64 (8:Int))<|Dq (AV.own 3 0 4)<|Dq (AV.i .i64 (3:Int))<|Dp (AV.loc 3 3 0) (E0 (e:=9) (id:=3) (len:=4) (kk:= .i64) (ob:=AA) (i:=3) kr kr kr rfl kr sd)<|Dp (AV.s (⟨#[108,105,98,124,97,46,111,32,98,46,111,124,124,110,124,97,114]⟩:ByteArray)) (CJ (e:=9) (k:=1) (i:=FC) (id:=3) (xs:=[(⟨#[97,46,111,32,97,46,100,124,97,46,99,124,97,46,104,124,100,124,99,99,32,97]⟩:ByteArray),(⟨#[97,46,111,32,97,46,100,124,97,46,99,124,97,46,104,124,100,124,99,99,32,97]⟩:ByteArray),(⟨#[98,46,111,124,98,46,99,124,124,110,124,99,99,32,98]⟩:ByteArray),(⟨#[108,105,98,124,97,46,111,32,98,46,111,124,124,110,124,97,114]⟩:ByteArray)]) (A:=AV.s) (j:=3) kr kr rfl rfl kr) ?_
 refine Nd (AV.st [DT,(AV.i .i64 (8:Int)),(AV.s (⟨#[108,105,98,124,97,46,111,32,98,46,111,124,124,110,124,97,114]⟩:ByteArray))])<|Ar.sn (x:=(AV.own 14 0 1)) (h':=⟨15,[(14,some Fz),(13,some DO),(12,some Dd),(11,some BT),(10,some BG),(9,none),(8,some Bc),(7,some B7),(6,none),(5,some AB),(4,some AO),(3,some AA),(2,some Aw),(1,some G2),(0,some AG)]⟩) kr le ?_
 refine Ar.se (by decide) (x:=(AV.own 15 0 ([Bu,Bt,Cb,Dv].length))) (h':=⟨16,[(15,some Ip),(14,some Fz),(13,some DO),(12,none),(11,some BT),(10,some BG),(9,none),(8,some Bc),(7,some B7),(6,none),(5,some AB),(4,some AO),(3,some AA),(2,some Aw),(1,some G2),(0,some AG)]⟩) (IF (len:=([Bu,Bt,Cb].length)) (e:=56) (X:=(AV.own 14 0 1)) (A:=A8.av) (i:=Vl) (p:=12) (xs:=[Bu,Bt,Cb]) (ys:=[Dv]) kr kr kr (hx:=kr) kr ⟨by decide,by kernel_rfl⟩ rfl rfl (by show _*40≤140737488355328;first|omega|(simp only [List.length_append,List.length_cons,List.length_nil,List.length_set,List.length_replicate];omega)|(simp;omega)) sd) le ?_
 refine Dq (AV.loc 1 0 6)<|Ar.st (by decide) (x:=AV.und) (h':=⟨16,[(15,some Ip),(14,some Fz),(13,some DO),(12,none),(11,some BT),(10,some BG),(9,none),(8,some Bc),(7,some B7),(6,none),(5,some AB),(4,some AO),(3,some AA),(2,some Aw),(1,some ⟨35,11,[(AV.st [Bo,Bp,Bq,Br,(AV.i .i64 (8:Int)),((Ao 3 A3.av) Pk.files),(AV.own 15 0 ([Bu,Bt,Cb,Dv].length)),(AV.sl 3 true []),Bs,(AV.b Gx.going),(AV.sl 1 true [])])]⟩),(0,some AG)]⟩) kr ?_
 refine Ar.fin<|Rg<|Aq (AV.i .i64 (3:Int))<|Aq (AV.i .i64 (4:Int))<|Aq (AV.i .i64 (4:Int))<|Ad<|Mz.next (m:=0)<|Sq<|Sq<|Rg<|Aq (AV.i .i64 (4:Int))<|Aq (AV.b false)<|Ad<|Cf<|A7.exit<|Sq<|Rg<|Nn (AV.own 16 0 1) ⟨9,1,[(⟨#[122,46,104]⟩:ByteArray)].map AV.s⟩<|Nb (AV.st [Cy,(AV.i .i64 (5:Int)),(AV.own 16 0 1)])<|Nn (AV.own 17 0 1) ⟨61,3,[(AV.st [Cy,(AV.i .i64 (5:Int)),(AV.own 16 0 1)])]⟩<|Aq (AV.loc 1 0 7)<|Sp 1 Io ?_
 refine Ad<|Sq<|Rg<|Aq G0<|Sp 0 Io ?_
 refine Ad<|Rt ?_
 have hM:CP=(⟨(⟨Gx.graph.edges,Gx.graph.pools,Gx.graph.defaults⟩:Al),Gx.actions,(⟨(8:Int),Pk.files⟩:Ag),[Bu,Bt,Cb,Dv],[QL],Gx.jobs,Gx.going,[]⟩:Ak):=by simp only [CP,AP]
 exact ⟨[15,17,16],Or.inr rfl,by decide,rfl,⟨kr,⟨kr,⟨kr,trivial⟩⟩⟩,G0,kr,kr⟩
theorem PZ (W:World):Ac Go.Proofs.Tryz.prog W 26 [] (Ak.av CP) []:=
 (Ou W).freeze (AW.st ⟨(AW.c kr kr),⟨(AW.c kr kr),⟨(AW.c kr kr),⟨(AW.c kr kr),⟨(AW.c kr kr),⟨(AW.c kr kr),⟨(Dt.kk (x':=(AV.own 0 0 ([Bu,Bt,Cb,Dv].length))) kr kr rfl (Ab.row (fun _=>rfl) (A:=A8.av) (id:=0) (e:=56) (k:=3) (xs:=[Bu,Bt,Cb,Dv]) rfl rfl rfl sd)),⟨(Dt.kk (x':=(AV.own 1 0 1)) kr kr rfl (Ab.own (id:=1) (len:=1) (e:=61) (k:=3) (els:=[(AV.st [(AV.s (⟨#[97,46,111]⟩:ByteArray)),(AV.i .i64 (5:Int)),(AV.own 2 0 1)])]) rfl rfl rfl sd (B8.cons (Ci.st (A9.cons (Av (x:=(AV.s (⟨#[97,46,111]⟩:ByteArray))) kr) (A9.cons (Av (x:=(AV.i .i64 (5:Int))) kr) (A9.cons (Ab.row (fun _=>rfl) (A:=AV.s) (id:=2) (e:=9) (k:=1) (xs:=[(⟨#[122,46,104]⟩:ByteArray)]) rfl rfl sd sd) A9.nil)))) B8.nil))),⟨(AW.c kr kr),⟨(AW.c kr kr),⟨(AW.w rfl (AM.nil 1)),trivial⟩⟩⟩⟩⟩⟩⟩⟩⟩⟩⟩ kr)
def Bn:AV:=(AV.s (⟨#[]⟩:ByteArray))
def Cx:AV:=(AV.s (⟨#[97,114]⟩:ByteArray))
def B6:AV:=(AV.s (⟨#[116,119,111]⟩:ByteArray))
def Cd:AV:=(AV.s (⟨#[99,99,32,98]⟩:ByteArray))
def B1:AV:=(AV.s (⟨#[99,99,32,97]⟩:ByteArray))
def DM:AV:=(AV.st [B1,(AV.own 12 0 1),(AV.b false)])
def Hw:AV:=(AV.st [(AV.own 1 0 1),(AV.own 2 0 2),(AV.sl 1 true []),(AV.sl 1 true []),Bn,(AV.b false),Bn])
def Fu:AV:=(AV.st [(AV.own 1 0 1),(AV.own 2 0 2),(AV.sl 1 true []),(AV.sl 1 true []),Cx,(AV.b false),Bn])
def Hv:AV:=(AV.st [(AV.own 15 0 1),(AV.own 16 0 2),(AV.sl 1 true []),(AV.sl 1 true []),Cx,(AV.b false),Bn])
def CZ:AV:=(AV.st [(AV.own 3 0 2),(AV.own 4 0 1),(AV.own 5 0 1),(AV.sl 1 true []),B1,(AV.b true),B6])
def CY:AV:=(AV.st [(AV.own 6 0 1),(AV.own 7 0 1),(AV.sl 1 true []),(AV.own 8 0 1),Cd,(AV.b false),B6])
def Hu:AV:=(AV.st [(AV.own 17 0 2),(AV.own 18 0 1),(AV.own 19 0 1),(AV.sl 1 true []),B1,(AV.b true),B6])
def Ht:AV:=(AV.st [(AV.own 20 0 1),(AV.own 21 0 1),(AV.sl 1 true []),(AV.own 22 0 1),Cd,(AV.b false),B6])
def CX:AV:=(AV.st [(AV.own 0 0 3),(AV.own 9 0 1),(AV.own 10 0 1),(AV.own 11 0 1),(AV.i .i64 (4:Int)),(AV.own 13 0 4),(AV.sl 3 true []),(AV.sl 3 true []),(AV.i .i64 (2:Int)),(AV.b false),(AV.sl 1 true [])])
def DL:AV:=(AV.st [(AV.own 14 0 3),(AV.own 23 0 1),(AV.own 24 0 1),(AV.own 25 0 1),(AV.i .i64 (4:Int)),(AV.own 27 0 4),(AV.sl 3 true []),(AV.sl 3 true []),(AV.i .i64 (2:Int)),(AV.b false),(AV.sl 1 true [])])
def Hs:AV:=((Ao 3 A3.av) [AC,AE,AF,AD])
def DK:AV:=((Ao 3 A3.av) (([AC,AE,AF,AD].take [AC,AE,AF,AD].length).drop 1))
def Cc:AV:=(AV.st [(AV.own 0 0 3),(AV.own 9 0 1),(AV.own 10 0 1),(AV.own 11 0 1),(AV.i .i64 (4:Int)),DK,(AV.sl 3 true []),(AV.sl 3 true []),(AV.i .i64 (2:Int)),(AV.b false),(AV.sl 1 true [])])
def DJ:AV:=(Ak.av AN)
def Cw:AV:=(AV.i .i64 ((Es AN).2))
def Cm:AV:=((Ao 1 AV.b) ((Es AN).1))
def Dc:AV:=(AV.i .i64 ((DC AN (3:Int)).2))
def C4:AV:=(AV.i .i64 ((DC AN (1:Int)).2))
def Db:AV:=(AV.i .i64 ((Es (⟨Fl,[BN],(⟨(4:Int),(([AC,AE,AF,AD].take [AC,AE,AF,AD].length).drop 1)⟩:Ag),[],[],(2:Int),false,[]⟩:Ak)).2))
def Da:AV:=(AV.i .i64 ((DC (⟨CO,[BN],(⟨(4:Int),(([AC,AE,AF,AD].take [AC,AE,AF,AD].length).drop 1)⟩:Ag),[],[],(2:Int),false,[]⟩:Ak) (1:Int)).2))
def Im:AV:=(AV.tup [AV.und,Db])
def Il:AV:=(AV.tup [Cm,Cw])
def Ik:AV:=(AV.tup [(AV.b ((DC AN (3:Int)).1)),Dc])
def Ij:AV:=(AV.tup [(AV.b ((DC (⟨CO,[BN],(⟨(4:Int),(([AC,AE,AF,AD].take [AC,AE,AF,AD].length).drop 1)⟩:Ag),[],[],(2:Int),false,[]⟩:Ak) (1:Int)).1)),Da])
theorem Oo (W:World) {m0:Int} (hW:W.cell? ⟨0,0,none⟩=some (.int .i64 m0)):Ac Go.Proofs.Tryz.prog W 25 [] (AV.b KS) []:=by
 refine Ae (fn:=Go.Proofs.Tryz.f25) Go.Proofs.Tryz.func25 rfl (en25 W) (ts:=[0]) rfl le<|Sq<|Rg<|Aq (AV.b false)<|Ad<|Sq<|Rg<|Sc CX (E7 W)<|A1.sfw (vs:=[CX,(AV.i .i64 (1:Int))]) (ss:=[DJ,(AV.i .i64 (1:Int))]) (r0:=(AV.tup [(AV.b ((DC AN (1:Int)).1)),C4])) kr (show Bv _ _ _ from ⟨(Ab.w (Ab.cast (x':=CX) kr kr (Ab.st (A9.cons (Ab.own (id:=0) (len:=3) (e:=65) (k:=7) (els:=[Fu,CZ,CY]) rfl rfl rfl sd (B8.cons (Ci.st (A9.cons (Ab.row (fun _=>rfl) (A:=AV.s) (id:=1) (e:=9) (k:=1) (xs:=[(⟨#[108,105,98]⟩:ByteArray)]) rfl rfl sd sd) (A9.cons (Ab.row (fun _=>rfl) (A:=AV.s) (id:=2) (e:=9) (k:=1) (xs:=[(⟨#[97,46,111]⟩:ByteArray),(⟨#[98,46,111]⟩:ByteArray)]) rfl rfl sd sd) (A9.cons (Ab.c rfl (AM.nil 1)) (A9.cons (Ab.c rfl (AM.nil 1)) (A9.cons (Av (x:=Cx) kr) (A9.cons (Av (x:=(AV.b false)) kr) (A9.cons (Av (x:=Bn) kr) A9.nil)))))))) (B8.cons (Ci.st (A9.cons (Ab.row (fun _=>rfl) (A:=AV.s) (id:=3) (e:=9) (k:=1) (xs:=[(⟨#[97,46,111]⟩:ByteArray),(⟨#[97,46,100]⟩:ByteArray)]) rfl rfl sd sd) (A9.cons (Ab.row (fun _=>rfl) (A:=AV.s) (id:=4) (e:=9) (k:=1) (xs:=[(⟨#[97,46,99]⟩:ByteArray)]) rfl rfl sd sd) (A9.cons (Ab.row (fun _=>rfl) (A:=AV.s) (id:=5) (e:=9) (k:=1) (xs:=[(⟨#[97,46,104]⟩:ByteArray)]) rfl rfl sd sd) (A9.cons (Ab.c rfl (AM.nil 1)) (A9.cons (Av (x:=B1) kr) (A9.cons (Av (x:=(AV.b true)) kr) (A9.cons (Av (x:=B6) kr) A9.nil)))))))) (B8.cons (Ci.st (A9.cons (Ab.row (fun _=>rfl) (A:=AV.s) (id:=6) (e:=9) (k:=1) (xs:=[(⟨#[98,46,111]⟩:ByteArray)]) rfl rfl sd sd) (A9.cons (Ab.row (fun _=>rfl) (A:=AV.s) (id:=7) (e:=9) (k:=1) (xs:=[(⟨#[98,46,99]⟩:ByteArray)]) rfl rfl sd sd) (A9.cons (Ab.c rfl (AM.nil 1)) (A9.cons (Ab.row (fun _=>rfl) (A:=AV.s) (id:=8) (e:=9) (k:=1) (xs:=[(⟨#[97,46,111]⟩:ByteArray)]) rfl rfl sd sd) (A9.cons (Av (x:=Cd) kr) (A9.cons (Av (x:=(AV.b false)) kr) (A9.cons (Av (x:=B6) kr) A9.nil)))))))) B8.nil)))) (A9.cons (Ab.row (fun _=>rfl) (A:=BM.av) (id:=9) (e:=122) (k:=2) (xs:=[(⟨(⟨#[116,119,111]⟩:ByteArray),(2:Int)⟩:BM)]) rfl rfl sd sd) (A9.cons (Ab.row (fun _=>rfl) (A:=AV.s) (id:=10) (e:=9) (k:=1) (xs:=[(⟨#[108,105,98]⟩:ByteArray)]) rfl rfl sd sd) (A9.cons (Ab.own (id:=11) (len:=1) (e:=67) (k:=3) (els:=[DM]) rfl rfl rfl sd (B8.cons (Ci.st (A9.cons (Av (x:=B1) kr) (A9.cons (Ab.row (fun _=>rfl) (A:=AV.s) (id:=12) (e:=9) (k:=1) (xs:=[(⟨#[122,46,104]⟩:ByteArray)]) rfl rfl sd sd) (A9.cons (Av (x:=(AV.b false)) kr) A9.nil)))) B8.nil)) (A9.cons (Av (x:=(AV.i .i64 (4:Int))) kr) (A9.cons (Ab.row (fun _=>rfl) (A:=A3.av) (id:=13) (e:=85) (k:=3) (xs:=[AC,AE,AF,AD]) rfl rfl sd sd) (A9.cons (Ab.c rfl (AM.nil 3)) (A9.cons (Ab.c rfl (AM.nil 3)) (A9.cons (Av (x:=(AV.i .i64 (2:Int))) kr) (A9.cons (Av (x:=(AV.b false)) kr) (A9.cons (Ab.c rfl (AM.nil 1)) A9.nil)))))))))))))),⟨(Bv.e kr),trivial⟩⟩) (HH W hW AN (1:Int) sd) rfl kr le ?_
 refine Aq (AV.tup [(AV.b ((DC AN (1:Int)).1)),C4]) ?_
 refine Aq (AV.b ((DC AN (1:Int)).1))<|Aq C4 ?_
 refine Aq (AV.b ((DC AN (1:Int)).1))<|Aq C4 ?_
 refine Ad<|Sq<|J5<|HK.run A2 1 le<|Sc DL (E7 W)<|Ad<|Lk (SV.fits [] (env1:=[(1,(AV.b ((DC AN (1:Int)).1))),(2,C4),(18,DJ)]) (h1:=⟨0,[]⟩) ⟨by decide,rfl,A0.nil,(Ee (Ee (Am.cons (AW.st ⟨(Dt.kk (x':=(AV.own 14 0 3)) kr kr rfl (Ab.own (id:=14) (len:=3) (e:=65) (k:=7) (els:=[Hv,Hu,Ht]) rfl rfl rfl sd (B8.cons (Ci.st (A9.cons (Ab.row (fun _=>rfl) (A:=AV.s) (id:=15) (e:=9) (k:=1) (xs:=[(⟨#[108,105,98]⟩:ByteArray)]) rfl rfl sd sd) (A9.cons (Ab.row (fun _=>rfl) (A:=AV.s) (id:=16) (e:=9) (k:=1) (xs:=[(⟨#[97,46,111]⟩:ByteArray),(⟨#[98,46,111]⟩:ByteArray)]) rfl rfl sd sd) (A9.cons (Ab.c rfl (AM.nil 1)) (A9.cons (Ab.c rfl (AM.nil 1)) (A9.cons (Av (x:=Cx) kr) (A9.cons (Av (x:=(AV.b false)) kr) (A9.cons (Av (x:=Bn) kr) A9.nil)))))))) (B8.cons (Ci.st (A9.cons (Ab.row (fun _=>rfl) (A:=AV.s) (id:=17) (e:=9) (k:=1) (xs:=[(⟨#[97,46,111]⟩:ByteArray),(⟨#[97,46,100]⟩:ByteArray)]) rfl rfl sd sd) (A9.cons (Ab.row (fun _=>rfl) (A:=AV.s) (id:=18) (e:=9) (k:=1) (xs:=[(⟨#[97,46,99]⟩:ByteArray)]) rfl rfl sd sd) (A9.cons (Ab.row (fun _=>rfl) (A:=AV.s) (id:=19) (e:=9) (k:=1) (xs:=[(⟨#[97,46,104]⟩:ByteArray)]) rfl rfl sd sd) (A9.cons (Ab.c rfl (AM.nil 1)) (A9.cons (Av (x:=B1) kr) (A9.cons (Av (x:=(AV.b true)) kr) (A9.cons (Av (x:=B6) kr) A9.nil)))))))) (B8.cons (Ci.st (A9.cons (Ab.row (fun _=>rfl) (A:=AV.s) (id:=20) (e:=9) (k:=1) (xs:=[(⟨#[98,46,111]⟩:ByteArray)]) rfl rfl sd sd) (A9.cons (Ab.row (fun _=>rfl) (A:=AV.s) (id:=21) (e:=9) (k:=1) (xs:=[(⟨#[98,46,99]⟩:ByteArray)]) rfl rfl sd sd) (A9.cons (Ab.c rfl (AM.nil 1)) (A9.cons (Ab.row (fun _=>rfl) (A:=AV.s) (id:=22) (e:=9) (k:=1) (xs:=[(⟨#[97,46,111]⟩:ByteArray)]) rfl rfl sd sd) (A9.cons (Av (x:=Cd) kr) (A9.cons (Av (x:=(AV.b false)) kr) (A9.cons (Av (x:=B6) kr) A9.nil)))))))) B8.nil))))),⟨(Dt.kk (x':=(AV.own 23 0 1)) kr kr rfl (Ab.row (fun _=>rfl) (A:=BM.av) (id:=23) (e:=122) (k:=2) (xs:=[(⟨(⟨#[116,119,111]⟩:ByteArray),(2:Int)⟩:BM)]) rfl rfl sd sd)),⟨(Dt.kk (x':=(AV.own 24 0 1)) kr kr rfl (Ab.row (fun _=>rfl) (A:=AV.s) (id:=24) (e:=9) (k:=1) (xs:=[(⟨#[108,105,98]⟩:ByteArray)]) rfl rfl sd sd)),⟨(Dt.kk (x':=(AV.own 25 0 1)) kr kr rfl (Ab.own (id:=25) (len:=1) (e:=67) (k:=3) (els:=[(AV.st [B1,(AV.own 26 0 1),(AV.b false)])]) rfl rfl rfl sd (B8.cons (Ci.st (A9.cons (Av (x:=B1) kr) (A9.cons (Ab.row (fun _=>rfl) (A:=AV.s) (id:=26) (e:=9) (k:=1) (xs:=[(⟨#[122,46,104]⟩:ByteArray)]) rfl rfl sd sd) (A9.cons (Av (x:=(AV.b false)) kr) A9.nil)))) B8.nil))),⟨Ec,⟨(Dt.kk (x':=(AV.own 27 0 4)) kr kr rfl (Ab.row (fun _=>rfl) (A:=A3.av) (id:=27) (e:=85) (k:=3) (xs:=[AC,AE,AF,AD]) rfl rfl sd sd)),⟨(AW.w rfl (AM.nil 3)),⟨(AW.w rfl (AM.nil 3)),⟨Ec,⟨Ec,⟨(AW.w rfl (AM.nil 1)),trivial⟩⟩⟩⟩⟩⟩⟩⟩⟩⟩⟩ kr) Am.nil)))⟩ Ax) ?_
 refine HK.run A2 6 le<|A1.sc0 (vs:=[DJ]) (r0:=Il) kr kr (JF W hW AN sd) kr le ?_
 refine Aq Il ?_
 refine Aq Cm<|Aq Cw ?_
 refine Aq Cm<|Aq Cw ?_
 refine Ad<|HK.fin rfl<|Sq<|Rg<|Sc CX (E7 W)<|Nn (AV.loc 14 0 0) ⟨35,11,[(AV.st [(AV.sl 7 true []),(AV.sl 2 true []),(AV.sl 1 true []),(AV.sl 3 true []),(AV.i .i64 (0:Int)),(AV.sl 3 true []),(AV.sl 3 true []),(AV.sl 3 true []),(AV.i .i64 (0:Int)),(AV.b false),(AV.sl 1 true [])])]⟩<|Sp 14 ⟨35,11,[CX]⟩<|Ad<|Sq<|J5<|HK.run A2 3 le<|Aq (AV.loc 14 0 4)<|Aq (AV.loc 14 0 5)<|Aq (AV.own 13 0 4)<|Ad<|Lk (SV.fits [0,1,2,3,4,5,6,7,8,9,10,11,12,14] (env1:=[(1,(AV.b ((DC AN (1:Int)).1))),(2,C4),(3,Cm),(4,Cw),(5,(AV.loc 13 0 0)),(25,Hs)]) (h1:=⟨14,[(13,some ⟨35,11,[(AV.st [(AV.own 0 0 3),(AV.own 9 0 1),(AV.own 10 0 1),(AV.own 11 0 1),(AV.i .i64 (4:Int)),Hs,(AV.sl 3 true []),(AV.sl 3 true []),(AV.i .i64 (2:Int)),(AV.b false),(AV.sl 1 true [])])]⟩),(12,some ⟨9,1,[(⟨#[122,46,104]⟩:ByteArray)].map AV.s⟩),(11,some ⟨67,3,[DM]⟩),(10,some ⟨9,1,[(⟨#[108,105,98]⟩:ByteArray)].map AV.s⟩),(9,some ⟨122,2,[(⟨(⟨#[116,119,111]⟩:ByteArray),(2:Int)⟩:BM)].map BM.av⟩),(8,some ⟨9,1,[(⟨#[97,46,111]⟩:ByteArray)].map AV.s⟩),(7,some ⟨9,1,[(⟨#[98,46,99]⟩:ByteArray)].map AV.s⟩),(6,some ⟨9,1,[(⟨#[98,46,111]⟩:ByteArray)].map AV.s⟩),(5,some ⟨9,1,[(⟨#[97,46,104]⟩:ByteArray)].map AV.s⟩),(4,some ⟨9,1,[(⟨#[97,46,99]⟩:ByteArray)].map AV.s⟩),(3,some ⟨9,1,[(⟨#[97,46,111]⟩:ByteArray),(⟨#[97,46,100]⟩:ByteArray)].map AV.s⟩),(2,some ⟨9,1,[(⟨#[97,46,111]⟩:ByteArray),(⟨#[98,46,111]⟩:ByteArray)].map AV.s⟩),(1,some ⟨9,1,[(⟨#[108,105,98]⟩:ByteArray)].map AV.s⟩),(0,some ⟨65,7,[Fu,CZ,CY]⟩)]⟩) ⟨by decide,rfl,(A0.cons kr (A0.cons (AZ (fun _=>rfl) (e:=9) (k:=1) (A:=AV.s) (xs:=[(⟨#[108,105,98]⟩:ByteArray)]) rfl rfl) (A0.cons (AZ (fun _=>rfl) (e:=9) (k:=1) (A:=AV.s) (xs:=[(⟨#[97,46,111]⟩:ByteArray),(⟨#[98,46,111]⟩:ByteArray)]) rfl rfl) (A0.cons (AZ (fun _=>rfl) (e:=9) (k:=1) (A:=AV.s) (xs:=[(⟨#[97,46,111]⟩:ByteArray),(⟨#[97,46,100]⟩:ByteArray)]) rfl rfl) (A0.cons (AZ (fun _=>rfl) (e:=9) (k:=1) (A:=AV.s) (xs:=[(⟨#[97,46,99]⟩:ByteArray)]) rfl rfl) (A0.cons (AZ (fun _=>rfl) (e:=9) (k:=1) (A:=AV.s) (xs:=[(⟨#[97,46,104]⟩:ByteArray)]) rfl rfl) (A0.cons (AZ (fun _=>rfl) (e:=9) (k:=1) (A:=AV.s) (xs:=[(⟨#[98,46,111]⟩:ByteArray)]) rfl rfl) (A0.cons (AZ (fun _=>rfl) (e:=9) (k:=1) (A:=AV.s) (xs:=[(⟨#[98,46,99]⟩:ByteArray)]) rfl rfl) (A0.cons (AZ (fun _=>rfl) (e:=9) (k:=1) (A:=AV.s) (xs:=[(⟨#[97,46,111]⟩:ByteArray)]) rfl rfl) (A0.cons (AZ (fun _=>rfl) (e:=122) (k:=2) (A:=BM.av) (xs:=[(⟨(⟨#[116,119,111]⟩:ByteArray),(2:Int)⟩:BM)]) rfl rfl) (A0.cons (AZ (fun _=>rfl) (e:=9) (k:=1) (A:=AV.s) (xs:=[(⟨#[108,105,98]⟩:ByteArray)]) rfl rfl) (A0.cons kr (A0.cons (AZ (fun _=>rfl) (e:=9) (k:=1) (A:=AV.s) (xs:=[(⟨#[122,46,104]⟩:ByteArray)]) rfl rfl) (A0.cons kr A0.nil)))))))))))))),(Ee (Ee (Ee (Ee (Am.cons (AW.f kr) (Am.cons (Dt.kk (x':=(AV.own 13 0 4)) kr kr rfl (Ab.row (fun _=>rfl) (A:=A3.av) (id:=13) (e:=85) (k:=3) (xs:=[AC,AE,AF,AD]) rfl rfl sd sd)) Am.nil))))))⟩ Ax) ?_
 refine HK.run A2 4 le<|Ap DK (g_cutL (k:=3) (nl:=false) (e:=85) (l:=(some (1:Int))) (g:=none) (A:=A3.av) (xs:=[AC,AE,AF,AD]) (a:=1) (b:=[AC,AE,AF,AD].length) kr kr ⟨by kernel_rfl,by decide⟩ kr kr rfl rfl sd sd)<|Aq (AV.loc 13 0 4)<|Aq (AV.loc 13 0 5)<|Sp 13 ⟨35,11,[Cc]⟩ ?_
 refine Ad<|HK.fin rfl<|Sq<|Rg<|Aq Cc<|A1.sfw (vs:=[Cc,(AV.i .i64 (1:Int))]) (ss:=[(Ak.av (⟨CO,[BN],(⟨(4:Int),(([AC,AE,AF,AD].take [AC,AE,AF,AD].length).drop 1)⟩:Ag),[],[],(2:Int),false,[]⟩:Ak)),(AV.i .i64 (1:Int))]) (r0:=Ij) kr (show Bv _ _ _ from ⟨(Ab.w (Ab.cast (x':=Cc) kr kr (Ab.st (A9.cons (Ab.own (id:=0) (len:=3) (e:=65) (k:=7) (els:=[Fu,CZ,CY]) rfl rfl rfl sd (B8.cons (Ci.st (A9.cons (Ab.row (fun _=>rfl) (A:=AV.s) (id:=1) (e:=9) (k:=1) (xs:=[(⟨#[108,105,98]⟩:ByteArray)]) rfl rfl sd sd) (A9.cons (Ab.row (fun _=>rfl) (A:=AV.s) (id:=2) (e:=9) (k:=1) (xs:=[(⟨#[97,46,111]⟩:ByteArray),(⟨#[98,46,111]⟩:ByteArray)]) rfl rfl sd sd) (A9.cons (Ab.c rfl (AM.nil 1)) (A9.cons (Ab.c rfl (AM.nil 1)) (A9.cons (Av (x:=Cx) kr) (A9.cons (Av (x:=(AV.b false)) kr) (A9.cons (Av (x:=Bn) kr) A9.nil)))))))) (B8.cons (Ci.st (A9.cons (Ab.row (fun _=>rfl) (A:=AV.s) (id:=3) (e:=9) (k:=1) (xs:=[(⟨#[97,46,111]⟩:ByteArray),(⟨#[97,46,100]⟩:ByteArray)]) rfl rfl sd sd) (A9.cons (Ab.row (fun _=>rfl) (A:=AV.s) (id:=4) (e:=9) (k:=1) (xs:=[(⟨#[97,46,99]⟩:ByteArray)]) rfl rfl sd sd) (A9.cons (Ab.row (fun _=>rfl) (A:=AV.s) (id:=5) (e:=9) (k:=1) (xs:=[(⟨#[97,46,104]⟩:ByteArray)]) rfl rfl sd sd) (A9.cons (Ab.c rfl (AM.nil 1)) (A9.cons (Av (x:=B1) kr) (A9.cons (Av (x:=(AV.b true)) kr) (A9.cons (Av (x:=B6) kr) A9.nil)))))))) (B8.cons (Ci.st (A9.cons (Ab.row (fun _=>rfl) (A:=AV.s) (id:=6) (e:=9) (k:=1) (xs:=[(⟨#[98,46,111]⟩:ByteArray)]) rfl rfl sd sd) (A9.cons (Ab.row (fun _=>rfl) (A:=AV.s) (id:=7) (e:=9) (k:=1) (xs:=[(⟨#[98,46,99]⟩:ByteArray)]) rfl rfl sd sd) (A9.cons (Ab.c rfl (AM.nil 1)) (A9.cons (Ab.row (fun _=>rfl) (A:=AV.s) (id:=8) (e:=9) (k:=1) (xs:=[(⟨#[97,46,111]⟩:ByteArray)]) rfl rfl sd sd) (A9.cons (Av (x:=Cd) kr) (A9.cons (Av (x:=(AV.b false)) kr) (A9.cons (Av (x:=B6) kr) A9.nil)))))))) B8.nil)))) (A9.cons (Ab.row (fun _=>rfl) (A:=BM.av) (id:=9) (e:=122) (k:=2) (xs:=[(⟨(⟨#[116,119,111]⟩:ByteArray),(2:Int)⟩:BM)]) rfl rfl sd sd) (A9.cons (Ab.row (fun _=>rfl) (A:=AV.s) (id:=10) (e:=9) (k:=1) (xs:=[(⟨#[108,105,98]⟩:ByteArray)]) rfl rfl sd sd) (A9.cons (Ab.own (id:=11) (len:=1) (e:=67) (k:=3) (els:=[DM]) rfl rfl rfl sd (B8.cons (Ci.st (A9.cons (Av (x:=B1) kr) (A9.cons (Ab.row (fun _=>rfl) (A:=AV.s) (id:=12) (e:=9) (k:=1) (xs:=[(⟨#[122,46,104]⟩:ByteArray)]) rfl rfl sd sd) (A9.cons (Av (x:=(AV.b false)) kr) A9.nil)))) B8.nil)) (A9.cons (Av (x:=(AV.i .i64 (4:Int))) kr) (A9.cons (Av (x:=DK) kr) (A9.cons (Ab.c rfl (AM.nil 3)) (A9.cons (Ab.c rfl (AM.nil 3)) (A9.cons (Av (x:=(AV.i .i64 (2:Int))) kr) (A9.cons (Av (x:=(AV.b false)) kr) (A9.cons (Ab.c rfl (AM.nil 1)) A9.nil)))))))))))))),⟨(Bv.e kr),trivial⟩⟩) (HH W hW (⟨CO,[BN],(⟨(4:Int),(([AC,AE,AF,AD].take [AC,AE,AF,AD].length).drop 1)⟩:Ag),[],[],(2:Int),false,[]⟩:Ak) (1:Int) sd) rfl kr le ?_
 refine Aq Ij ?_
 refine Aq (AV.b ((DC (⟨CO,[BN],(⟨(4:Int),(([AC,AE,AF,AD].take [AC,AE,AF,AD].length).drop 1)⟩:Ag),[],[],(2:Int),false,[]⟩:Ak) (1:Int)).1))<|Aq Da ?_
 refine Aq (AV.b ((DC (⟨CO,[BN],(⟨(4:Int),(([AC,AE,AF,AD].take [AC,AE,AF,AD].length).drop 1)⟩:Ag),[],[],(2:Int),false,[]⟩:Ak) (1:Int)).1))<|Aq Da ?_
 refine Ad<|Sq<|Rg<|Sc DL (E7 W)<|A1.sfw (vs:=[DL,(AV.i .i64 (3:Int))]) (ss:=[DJ,(AV.i .i64 (3:Int))]) (r0:=Ik) kr (show Bv _ _ _ from ⟨(Ab.w (Ab.cast (x':=DL) kr kr (Ab.st (A9.cons (Ab.own (id:=14) (len:=3) (e:=65) (k:=7) (els:=[Hv,Hu,Ht]) rfl rfl rfl sd (B8.cons (Ci.st (A9.cons (Ab.row (fun _=>rfl) (A:=AV.s) (id:=15) (e:=9) (k:=1) (xs:=[(⟨#[108,105,98]⟩:ByteArray)]) rfl rfl sd sd) (A9.cons (Ab.row (fun _=>rfl) (A:=AV.s) (id:=16) (e:=9) (k:=1) (xs:=[(⟨#[97,46,111]⟩:ByteArray),(⟨#[98,46,111]⟩:ByteArray)]) rfl rfl sd sd) (A9.cons (Ab.c rfl (AM.nil 1)) (A9.cons (Ab.c rfl (AM.nil 1)) (A9.cons (Av (x:=Cx) kr) (A9.cons (Av (x:=(AV.b false)) kr) (A9.cons (Av (x:=Bn) kr) A9.nil)))))))) (B8.cons (Ci.st (A9.cons (Ab.row (fun _=>rfl) (A:=AV.s) (id:=17) (e:=9) (k:=1) (xs:=[(⟨#[97,46,111]⟩:ByteArray),(⟨#[97,46,100]⟩:ByteArray)]) rfl rfl sd sd) (A9.cons (Ab.row (fun _=>rfl) (A:=AV.s) (id:=18) (e:=9) (k:=1) (xs:=[(⟨#[97,46,99]⟩:ByteArray)]) rfl rfl sd sd) (A9.cons (Ab.row (fun _=>rfl) (A:=AV.s) (id:=19) (e:=9) (k:=1) (xs:=[(⟨#[97,46,104]⟩:ByteArray)]) rfl rfl sd sd) (A9.cons (Ab.c rfl (AM.nil 1)) (A9.cons (Av (x:=B1) kr) (A9.cons (Av (x:=(AV.b true)) kr) (A9.cons (Av (x:=B6) kr) A9.nil)))))))) (B8.cons (Ci.st (A9.cons (Ab.row (fun _=>rfl) (A:=AV.s) (id:=20) (e:=9) (k:=1) (xs:=[(⟨#[98,46,111]⟩:ByteArray)]) rfl rfl sd sd) (A9.cons (Ab.row (fun _=>rfl) (A:=AV.s) (id:=21) (e:=9) (k:=1) (xs:=[(⟨#[98,46,99]⟩:ByteArray)]) rfl rfl sd sd) (A9.cons (Ab.c rfl (AM.nil 1)) (A9.cons (Ab.row (fun _=>rfl) (A:=AV.s) (id:=22) (e:=9) (k:=1) (xs:=[(⟨#[97,46,111]⟩:ByteArray)]) rfl rfl sd sd) (A9.cons (Av (x:=Cd) kr) (A9.cons (Av (x:=(AV.b false)) kr) (A9.cons (Av (x:=B6) kr) A9.nil)))))))) B8.nil)))) (A9.cons (Ab.row (fun _=>rfl) (A:=BM.av) (id:=23) (e:=122) (k:=2) (xs:=[(⟨(⟨#[116,119,111]⟩:ByteArray),(2:Int)⟩:BM)]) rfl rfl sd sd) (A9.cons (Ab.row (fun _=>rfl) (A:=AV.s) (id:=24) (e:=9) (k:=1) (xs:=[(⟨#[108,105,98]⟩:ByteArray)]) rfl rfl sd sd) (A9.cons (Ab.own (id:=25) (len:=1) (e:=67) (k:=3) (els:=[(AV.st [B1,(AV.own 26 0 1),(AV.b false)])]) rfl rfl rfl sd (B8.cons (Ci.st (A9.cons (Av (x:=B1) kr) (A9.cons (Ab.row (fun _=>rfl) (A:=AV.s) (id:=26) (e:=9) (k:=1) (xs:=[(⟨#[122,46,104]⟩:ByteArray)]) rfl rfl sd sd) (A9.cons (Av (x:=(AV.b false)) kr) A9.nil)))) B8.nil)) (A9.cons (Av (x:=(AV.i .i64 (4:Int))) kr) (A9.cons (Ab.row (fun _=>rfl) (A:=A3.av) (id:=27) (e:=85) (k:=3) (xs:=[AC,AE,AF,AD]) rfl rfl sd sd) (A9.cons (Ab.c rfl (AM.nil 3)) (A9.cons (Ab.c rfl (AM.nil 3)) (A9.cons (Av (x:=(AV.i .i64 (2:Int))) kr) (A9.cons (Av (x:=(AV.b false)) kr) (A9.cons (Ab.c rfl (AM.nil 1)) A9.nil)))))))))))))),⟨(Bv.e kr),trivial⟩⟩) (HH W hW AN (3:Int) sd) rfl kr le ?_
 refine Aq Ik ?_
 refine Aq (AV.b ((DC AN (3:Int)).1))<|Aq Dc ?_
 refine Aq (AV.b ((DC AN (3:Int)).1))<|Aq Dc ?_
 refine Ad<|Sq<|Rg<|Aq (AV.loc 13 0 0)<|Aq (AV.loc 13 0 0)<|Aq (AV.own 0 0 3)<|Aq (AV.loc 0 0 0)<|Aq (AV.loc 0 0 4)<|Sp 0 ⟨65,7,[Hw,CZ,CY]⟩<|Ad<|Sq<|Rg<|Aq Cc<|A1.sfw (vs:=[Cc]) (ss:=[(Ak.av (⟨Fl,[BN],(⟨(4:Int),(([AC,AE,AF,AD].take [AC,AE,AF,AD].length).drop 1)⟩:Ag),[],[],(2:Int),false,[]⟩:Ak))]) (r0:=Im) kr (show Bv _ _ _ from ⟨(Ab.w (Ab.cast (x':=Cc) kr kr (Ab.st (A9.cons (Ab.own (id:=0) (len:=3) (e:=65) (k:=7) (els:=[Hw,CZ,CY]) rfl rfl rfl sd (B8.cons (Ci.st (A9.cons (Ab.row (fun _=>rfl) (A:=AV.s) (id:=1) (e:=9) (k:=1) (xs:=[(⟨#[108,105,98]⟩:ByteArray)]) rfl rfl sd sd) (A9.cons (Ab.row (fun _=>rfl) (A:=AV.s) (id:=2) (e:=9) (k:=1) (xs:=[(⟨#[97,46,111]⟩:ByteArray),(⟨#[98,46,111]⟩:ByteArray)]) rfl rfl sd sd) (A9.cons (Ab.c rfl (AM.nil 1)) (A9.cons (Ab.c rfl (AM.nil 1)) (A9.cons (Av (x:=Bn) kr) (A9.cons (Av (x:=(AV.b false)) kr) (A9.cons (Av (x:=Bn) kr) A9.nil)))))))) (B8.cons (Ci.st (A9.cons (Ab.row (fun _=>rfl) (A:=AV.s) (id:=3) (e:=9) (k:=1) (xs:=[(⟨#[97,46,111]⟩:ByteArray),(⟨#[97,46,100]⟩:ByteArray)]) rfl rfl sd sd) (A9.cons (Ab.row (fun _=>rfl) (A:=AV.s) (id:=4) (e:=9) (k:=1) (xs:=[(⟨#[97,46,99]⟩:ByteArray)]) rfl rfl sd sd) (A9.cons (Ab.row (fun _=>rfl) (A:=AV.s) (id:=5) (e:=9) (k:=1) (xs:=[(⟨#[97,46,104]⟩:ByteArray)]) rfl rfl sd sd) (A9.cons (Ab.c rfl (AM.nil 1)) (A9.cons (Av (x:=B1) kr) (A9.cons (Av (x:=(AV.b true)) kr) (A9.cons (Av (x:=B6) kr) A9.nil)))))))) (B8.cons (Ci.st (A9.cons (Ab.row (fun _=>rfl) (A:=AV.s) (id:=6) (e:=9) (k:=1) (xs:=[(⟨#[98,46,111]⟩:ByteArray)]) rfl rfl sd sd) (A9.cons (Ab.row (fun _=>rfl) (A:=AV.s) (id:=7) (e:=9) (k:=1) (xs:=[(⟨#[98,46,99]⟩:ByteArray)]) rfl rfl sd sd) (A9.cons (Ab.c rfl (AM.nil 1)) (A9.cons (Ab.row (fun _=>rfl) (A:=AV.s) (id:=8) (e:=9) (k:=1) (xs:=[(⟨#[97,46,111]⟩:ByteArray)]) rfl rfl sd sd) (A9.cons (Av (x:=Cd) kr) (A9.cons (Av (x:=(AV.b false)) kr) (A9.cons (Av (x:=B6) kr) A9.nil)))))))) B8.nil)))) (A9.cons (Ab.row (fun _=>rfl) (A:=BM.av) (id:=9) (e:=122) (k:=2) (xs:=[(⟨(⟨#[116,119,111]⟩:ByteArray),(2:Int)⟩:BM)]) rfl rfl sd sd) (A9.cons (Ab.row (fun _=>rfl) (A:=AV.s) (id:=10) (e:=9) (k:=1) (xs:=[(⟨#[108,105,98]⟩:ByteArray)]) rfl rfl sd sd) (A9.cons (Ab.own (id:=11) (len:=1) (e:=67) (k:=3) (els:=[DM]) rfl rfl rfl sd (B8.cons (Ci.st (A9.cons (Av (x:=B1) kr) (A9.cons (Ab.row (fun _=>rfl) (A:=AV.s) (id:=12) (e:=9) (k:=1) (xs:=[(⟨#[122,46,104]⟩:ByteArray)]) rfl rfl sd sd) (A9.cons (Av (x:=(AV.b false)) kr) A9.nil)))) B8.nil)) (A9.cons (Av (x:=(AV.i .i64 (4:Int))) kr) (A9.cons (Av (x:=DK) kr) (A9.cons (Ab.c rfl (AM.nil 3)) (A9.cons (Ab.c rfl (AM.nil 3)) (A9.cons (Av (x:=(AV.i .i64 (2:Int))) kr) (A9.cons (Av (x:=(AV.b false)) kr) (A9.cons (Ab.c rfl (AM.nil 1)) A9.nil)))))))))))))),trivial⟩) ((JF W hW (⟨Fl,[BN],(⟨(4:Int),(([AC,AE,AF,AD].take [AC,AE,AF,AD].length).drop 1)⟩:Ag),[],[],(2:Int),false,[]⟩:Ak) sd).res (Ja.tup ⟨Ja.und _,Ja.refl _,trivial⟩)) rfl kr le ?_
 refine Aq Im<|Aq AV.und<|Aq Db ?_
 refine Aq AV.und<|Aq Db<|Ad<|Sq<|Rg<|Aq (AV.b ((DC AN (1:Int)).1)) ?_
 refine Aq (AV.b ((DC AN (1:Int)).1)) ?_
 cases c_1:(DC AN (1:Int)).1
 refine An<|An<|An<|Aq (AV.b false)<|Aq (AV.b false)<|An<|An<|An<|Aq (AV.b false)<|Aq (AV.b false)<|An<|An<|An<|Aq (AV.b false)<|Aq (AV.b false)<|An<|An<|An<|Aq (AV.b false)<|Aq (AV.b false)<|An<|An<|An<|Aq (AV.b false)<|Aq (AV.b false)<|An<|An<|An<|Aq (AV.b false)<|Aq (AV.b false)<|Ad<|Rt ?_
 exact Fb rfl (by simp only [KS,c_1,AP])
 refine Ay<|Aq C4<|Ay<|A1.sc0 (vs:=[C4]) (r0:=(AV.i .i64 (DG ((DC AN (1:Int)).2)))) kr kr (G8 W ((DC AN (1:Int)).2)) kr le ?_
 refine Ay<|Aq (AV.b (decide ((DG ((DC AN (1:Int)).2))=(0:Int))))<|Aq (AV.b (decide ((DG ((DC AN (1:Int)).2))=(0:Int)))) ?_
 refine Aq (AV.b (decide ((DG ((DC AN (1:Int)).2))=(0:Int)))) ?_
 cases c_2:decide ((DG ((DC AN (1:Int)).2))=(0:Int))
 have k_2:=of_decide_eq_false c_2
 refine An<|An<|An<|Aq (AV.b false)<|Aq (AV.b false)<|An<|An<|An<|Aq (AV.b false)<|Aq (AV.b false)<|An<|An<|An<|Aq (AV.b false)<|Aq (AV.b false)<|An<|An<|An<|Aq (AV.b false)<|Aq (AV.b false)<|An<|An<|An<|Aq (AV.b false)<|Aq (AV.b false)<|Ad<|Rt ?_
 exact Fb rfl (by simp only [KS,c_1,c_2,AP])
 have k_2:=of_decide_eq_true c_2
 refine Ay<|Aq Cm<|Ay<|Nn (AV.own 28 0 3) ⟨4,1,[true,true,true].map AV.b⟩<|Ay<|A1.sfw (vs:=[Cm,(AV.own 28 0 3)]) (ss:=[Cm,((Ao 1 AV.b) [true,true,true])]) (r0:=(AV.b (Lx ((Es AN).1) [true,true,true]))) kr (show Bv _ _ _ from ⟨(Bv.e kr),⟨(Ab.w (Ab.cast (x':=(AV.own 28 0 3)) kr kr (Ab.row (fun _=>rfl) (A:=AV.b) (id:=28) (e:=4) (k:=1) (xs:=[true,true,true]) rfl rfl sd sd))),trivial⟩⟩) (Iv W ((Es AN).1) [true,true,true]) rfl kr le ?_
 refine Aq (AV.b (Lx ((Es AN).1) [true,true,true]))<|Aq (AV.b (Lx ((Es AN).1) [true,true,true])) ?_
 cases c_3:(Lx ((Es AN).1) [true,true,true])
 refine An<|An<|An<|Aq (AV.b false)<|Aq (AV.b false)<|An<|An<|An<|Aq (AV.b false)<|Aq (AV.b false)<|An<|An<|An<|Aq (AV.b false)<|Aq (AV.b false)<|An<|An<|An<|Aq (AV.b false)<|Aq (AV.b false)<|Ad<|Rt ?_
 exact Fb rfl (by simp only [KS,c_1,c_2,c_3,AP])
 refine Ay<|Aq Cw<|Ay<|A1.sc0 (vs:=[Cw]) (r0:=(AV.i .i64 (DG ((Es AN).2)))) kr kr (G8 W ((Es AN).2)) kr le ?_
 refine Ay<|Aq (AV.b (decide ((DG ((Es AN).2))=(0:Int))))<|Aq (AV.b (decide ((DG ((Es AN).2))=(0:Int)))) ?_
 refine Aq (AV.b (decide ((DG ((Es AN).2))=(0:Int)))) ?_
 cases c_4:decide ((DG ((Es AN).2))=(0:Int))
 have k_4:=of_decide_eq_false c_4
 refine An<|An<|An<|Aq (AV.b false)<|Aq (AV.b false)<|An<|An<|An<|Aq (AV.b false)<|Aq (AV.b false)<|An<|An<|An<|Aq (AV.b false)<|Aq (AV.b false)<|Ad<|Rt ?_
 exact Fb rfl (by simp only [KS,c_1,c_2,c_3,c_4,AP])
 have k_4:=of_decide_eq_true c_4
 refine Ay<|Aq Da<|Ay<|A1.sc0 (vs:=[Da]) (r0:=(AV.i .i64 (DG ((DC (⟨CO,[BN],(⟨(4:Int),(([AC,AE,AF,AD].take [AC,AE,AF,AD].length).drop 1)⟩:Ag),[],[],(2:Int),false,[]⟩:Ak) (1:Int)).2)))) kr kr (G8 W ((DC (⟨CO,[BN],(⟨(4:Int),(([AC,AE,AF,AD].take [AC,AE,AF,AD].length).drop 1)⟩:Ag),[],[],(2:Int),false,[]⟩:Ak) (1:Int)).2)) kr le ?_
 refine Ay<|Aq (AV.b (decide ((DG ((DC (⟨CO,[BN],(⟨(4:Int),(([AC,AE,AF,AD].take [AC,AE,AF,AD].length).drop 1)⟩:Ag),[],[],(2:Int),false,[]⟩:Ak) (1:Int)).2))=(1901:Int)))) ?_
 refine Aq (AV.b (decide ((DG ((DC (⟨CO,[BN],(⟨(4:Int),(([AC,AE,AF,AD].take [AC,AE,AF,AD].length).drop 1)⟩:Ag),[],[],(2:Int),false,[]⟩:Ak) (1:Int)).2))=(1901:Int)))) ?_
 refine Aq (AV.b (decide ((DG ((DC (⟨CO,[BN],(⟨(4:Int),(([AC,AE,AF,AD].take [AC,AE,AF,AD].length).drop 1)⟩:Ag),[],[],(2:Int),false,[]⟩:Ak) (1:Int)).2))=(1901:Int)))) ?_
 cases c_5:decide ((DG ((DC (⟨CO,[BN],(⟨(4:Int),(([AC,AE,AF,AD].take [AC,AE,AF,AD].length).drop 1)⟩:Ag),[],[],(2:Int),false,[]⟩:Ak) (1:Int)).2))=(1901:Int))
 have k_5:=of_decide_eq_false c_5
 refine An<|An<|An<|Aq (AV.b false)<|Aq (AV.b false)<|An<|An<|An<|Aq (AV.b false)<|Aq (AV.b false)<|Ad<|Rt ?_
 exact Fb rfl (by simp only [KS,c_1,c_2,c_3,c_4,c_5,AP])
 have k_5:=of_decide_eq_true c_5
 refine Ay<|Aq Dc<|Ay<|A1.sc0 (vs:=[Dc]) (r0:=(AV.i .i64 (DG ((DC AN (3:Int)).2)))) kr kr (G8 W ((DC AN (3:Int)).2)) kr le ?_
 refine Ay<|Aq (AV.b (decide ((DG ((DC AN (3:Int)).2))=(1900:Int))))<|Aq (AV.b (decide ((DG ((DC AN (3:Int)).2))=(1900:Int)))) ?_
 refine Aq (AV.b (decide ((DG ((DC AN (3:Int)).2))=(1900:Int)))) ?_
 cases c_6:decide ((DG ((DC AN (3:Int)).2))=(1900:Int))
 have k_6:=of_decide_eq_false c_6
 refine An<|An<|An<|Aq (AV.b false)<|Aq (AV.b false)<|Ad<|Rt ?_
 exact Fb rfl (by simp only [KS,c_1,c_2,c_3,c_4,c_5,c_6,AP])
 have k_6:=of_decide_eq_true c_6
 refine Ay<|Aq Db<|Ay<|A1.sc0 (vs:=[Db]) (r0:=(AV.i .i64 (DG ((Es (⟨Fl,[BN],(⟨(4:Int),(([AC,AE,AF,AD].take [AC,AE,AF,AD].length).drop 1)⟩:Ag),[],[],(2:Int),false,[]⟩:Ak)).2)))) kr kr (G8 W ((Es (⟨Fl,[BN],(⟨(4:Int),(([AC,AE,AF,AD].take [AC,AE,AF,AD].length).drop 1)⟩:Ag),[],[],(2:Int),false,[]⟩:Ak)).2)) kr le ?_
 refine Ay<|Aq (AV.b (decide ((DG ((Es (⟨Fl,[BN],(⟨(4:Int),(([AC,AE,AF,AD].take [AC,AE,AF,AD].length).drop 1)⟩:Ag),[],[],(2:Int),false,[]⟩:Ak)).2))=(1900:Int))))<|Aq (AV.b (decide ((DG ((Es (⟨Fl,[BN],(⟨(4:Int),(([AC,AE,AF,AD].take [AC,AE,AF,AD].length).drop 1)⟩:Ag),[],[],(2:Int),false,[]⟩:Ak)).2))=(1900:Int)))) ?_
 refine Aq (AV.b (decide ((DG ((Es (⟨Fl,[BN],(⟨(4:Int),(([AC,AE,AF,AD].take [AC,AE,AF,AD].length).drop 1)⟩:Ag),[],[],(2:Int),false,[]⟩:Ak)).2))=(1900:Int))))<|Ad<|Rt ?_
 exact Fb rfl (by simp only [KS,c_1,c_2,c_3,c_4,c_5,c_6,AP])
def CW:AV:=((Ao 1 (AV.i .i64)) CP.status)
def CV:AV:=((Ao 3 AJ.av) CP.actions)
def CU:AV:=((Ao 1 AV.s) CP.graph.defaults)
def CT:AV:=((Ao 2 BM.av) CP.graph.pools)
def CS:AV:=((Ao 7 At.av) CP.graph.edges)
def Gp:Obj:=⟨35,11,[(AV.st [CS,CT,CU,CV,(AV.i .i64 CP.disk.clock),((Ao 3 A3.av) CP.disk.files),((Ao 3 A8.av) CP.log),((Ao 3 Ah.av) CP.deps),(AV.i .i64 CP.jobs),(AV.b CP.going),CW])]⟩
theorem Lb (W:World) {m0:Int} (hW:W.cell? ⟨0,0,none⟩=some (.int .i64 m0)) (which:Int) (x':Int):Ac Go.Proofs.Tryz.prog W 5 [(AV.i .i64 which),(AV.i .i64 x')] (AV.b (Tu which x')) []:=by
 have hdz:=Qx which
 refine Ae (fn:=Go.Proofs.Tryz.f5) Go.Proofs.Tryz.func5 rfl (en5 W) (ts:=[4]) rfl le<|Sq<|Rg<|Aq (AV.b false)<|Ad<|Sq<|Sq<|Rg<|A1.sc0 (vs:=[]) (r0:=(AV.b KS)) kr kr (Oo W hW) kr le<|Aq (AV.b (!KS))<|Ad ?_
 cases c_1:(!KS)
 refine Cf<|A7.skip<|Sq<|Rg<|A1.sc0 (vs:=[]) (r0:=(Ak.av CP)) kr kr (PZ W) kr le<|Nn (AV.loc 0 0 0) ⟨35,11,[(AV.st [(AV.sl 7 true []),(AV.sl 2 true []),(AV.sl 1 true []),(AV.sl 3 true []),(AV.i .i64 (0:Int)),(AV.sl 3 true []),(AV.sl 3 true []),(AV.sl 3 true []),(AV.i .i64 (0:Int)),(AV.b false),(AV.sl 1 true [])])]⟩<|Sp 0 Gp<|Ad<|Sq<|Rg<|Nn (AV.own 1 0 6) ⟨9,1,[(⟨#[97,46,99]⟩:ByteArray),(⟨#[98,46,99]⟩:ByteArray),(⟨#[122,46,104]⟩:ByteArray),(⟨#[108,105,98]⟩:ByteArray),(⟨#[97,46,104]⟩:ByteArray),(⟨#[110,111,110,101]⟩:ByteArray)].map AV.s⟩<|Aq (AV.i .i64 which)<|Aq (AV.i .u64 (IntKind.wrap .u64 which))<|Ap (AV.i .u64 ((IntKind.wrap .u64 which).tmod (6:Int))) (g_rem (k:= .u64) (a:=(IntKind.wrap .u64 which)) (b:=(6:Int)) kr kr sd)<|Aq (AV.i .i64 (dz which))<|Ap (AV.loc 1 ((dz which).toNat) 0) (KL (e:=9) (id:=1) (len:=6) (kk:= .i64) (ob:=⟨9,1,[(⟨#[97,46,99]⟩:ByteArray),(⟨#[98,46,99]⟩:ByteArray),(⟨#[122,46,104]⟩:ByteArray),(⟨#[108,105,98]⟩:ByteArray),(⟨#[97,46,104]⟩:ByteArray),(⟨#[110,111,110,101]⟩:ByteArray)].map AV.s⟩) (n:=(dz which)) kr kr kr rfl kr sd sd) ?_
 refine Ap (AV.s (K5 (dz which))) (CJ (e:=9) (k:=1) (i:=FC) (id:=1) (xs:=[(⟨#[97,46,99]⟩:ByteArray),(⟨#[98,46,99]⟩:ByteArray),(⟨#[122,46,104]⟩:ByteArray),(⟨#[108,105,98]⟩:ByteArray),(⟨#[97,46,104]⟩:ByteArray),(⟨#[110,111,110,101]⟩:ByteArray)]) (A:=AV.s) (j:=(dz which).toNat) kr kr rfl (getD_some sd) kr)<|Aq (AV.s (K5 (dz which)))<|Ad<|Sq<|J5<|HK.run A2 11 le<|Nn (AV.own 2 0 3) ⟨4,1,[true,true,false].map AV.b⟩<|Nn (AV.own 3 0 3) ⟨4,1,[true,false,true].map AV.b⟩<|Nn (AV.own 4 0 3) ⟨4,1,[true,true,false].map AV.b⟩<|Nn (AV.own 5 0 3) ⟨4,1,[true,false,false].map AV.b⟩<|Nn (AV.own 6 0 3) ⟨4,1,[true,true,false].map AV.b⟩<|Nn (AV.own 7 0 3) ⟨4,1,[false,false,false].map AV.b⟩<|Nn (AV.own 8 0 6) ⟨42,1,[(AV.own 2 0 3),(AV.own 3 0 3),(AV.own 4 0 3),(AV.own 5 0 3),(AV.own 6 0 3),(AV.own 7 0 3)]⟩ ?_
 refine Aq (AV.i .i64 which)<|Aq (AV.i .u64 (IntKind.wrap .u64 which))<|Ap (AV.i .u64 ((IntKind.wrap .u64 which).tmod (6:Int))) (g_rem (k:= .u64) (a:=(IntKind.wrap .u64 which)) (b:=(6:Int)) kr kr sd)<|Aq (AV.i .i64 (dz which))<|Ad<|Lk (SV.fits [0] (env1:=[(1,(AV.i .i64 x')),(5,(AV.loc 0 0 0)),(6,(AV.s (K5 (dz which)))),(28,((Ao 1 (Ao 1 AV.b)) [[true,true,false],[true,false,true],[true,true,false],[true,false,false],[true,true,false],[false,false,false]])),(32,(AV.i .i64 (dz which)))]) (h1:=⟨1,[(0,some Gp)]⟩) ⟨by decide,rfl,(A0.cons kr A0.nil),(Ee (Am.cons (AW.f kr) (Ee (Am.cons (Dt.kk (x':=(AV.own 8 0 6)) kr kr rfl (Ab.own (id:=8) (len:=6) (e:=42) (k:=1) (els:=[(AV.own 2 0 3),(AV.own 3 0 3),(AV.own 4 0 3),(AV.own 5 0 3),(AV.own 6 0 3),(AV.own 7 0 3)]) rfl rfl rfl sd (B8.cons (Ci.k rfl rfl (Ab.row (fun _=>rfl) (A:=AV.b) (id:=2) (e:=4) (k:=1) (xs:=[true,true,false]) rfl rfl sd sd)) (B8.cons (Ci.k rfl rfl (Ab.row (fun _=>rfl) (A:=AV.b) (id:=3) (e:=4) (k:=1) (xs:=[true,false,true]) rfl rfl sd sd)) (B8.cons (Ci.k rfl rfl (Ab.row (fun _=>rfl) (A:=AV.b) (id:=4) (e:=4) (k:=1) (xs:=[true,true,false]) rfl rfl sd sd)) (B8.cons (Ci.k rfl rfl (Ab.row (fun _=>rfl) (A:=AV.b) (id:=5) (e:=4) (k:=1) (xs:=[true,false,false]) rfl rfl sd sd)) (B8.cons (Ci.k rfl rfl (Ab.row (fun _=>rfl) (A:=AV.b) (id:=6) (e:=4) (k:=1) (xs:=[true,true,false]) rfl rfl sd sd)) (B8.cons (Ci.k rfl rfl (Ab.row (fun _=>rfl) (A:=AV.b) (id:=7) (e:=4) (k:=1) (xs:=[false,false,false]) rfl rfl sd sd)) B8.nil)))))))) (Ee Am.nil)))))⟩ Ax) ?_
 refine HK.run A2 3 le<|Ap (AV.pt ((Ao 1 AV.b) (Q4 (dz which))).cells) (IG (k:=1) (nl:=false) (e:=42) (kk:= .i64) (A:=(Ao 1 AV.b)) (xs:=[[true,true,false],[true,false,true],[true,true,false],[true,false,false],[true,true,false],[false,false,false]]) (n:=(dz which)) kr kr kr ⟨by kernel_rfl,by decide⟩ sd (getD_some sd))<|Aq ((Ao 1 AV.b) (Q4 (dz which)))<|Aq ((Ao 1 AV.b) (Q4 (dz which)))<|Ad<|HK.fin rfl<|Sq<|Rg<|Aq (AV.loc 0 0 4)<|Aq (AV.st [(AV.i .i64 CP.disk.clock),((Ao 3 A3.av) CP.disk.files)])<|Aq (AV.s (K5 (dz which))) ?_
 refine Aq (AV.i .i64 x')<|Aq (AV.i .i64 (dc x'))<|A1.sc0 (vs:=[(AV.st [(AV.i .i64 CP.disk.clock),((Ao 3 A3.av) CP.disk.files)]),(AV.s (K5 (dz which))),(AV.i .i64 (dc x'))]) (r0:=(AV.tup [(Ag.av ((HV (⟨CP.disk.clock,CP.disk.files⟩:Ag) (K5 (dz which)) (dc x')).1)),(AV.i .i64 ((HV (⟨CP.disk.clock,CP.disk.files⟩:Ag) (K5 (dz which)) (dc x')).2))])) kr kr (Dz W (⟨CP.disk.clock,CP.disk.files⟩:Ag) (K5 (dz which)) (dc x') sd) kr le ?_
 refine Aq (AV.tup [(Ag.av ((HV (⟨CP.disk.clock,CP.disk.files⟩:Ag) (K5 (dz which)) (dc x')).1)),(AV.i .i64 ((HV (⟨CP.disk.clock,CP.disk.files⟩:Ag) (K5 (dz which)) (dc x')).2))])<|Aq (Ag.av ((HV (⟨CP.disk.clock,CP.disk.files⟩:Ag) (K5 (dz which)) (dc x')).1))<|Aq (AV.i .i64 ((HV (⟨CP.disk.clock,CP.disk.files⟩:Ag) (K5 (dz which)) (dc x')).2)) ?_
 refine Nn (AV.loc 1 0 0) ⟨30,2,[(AV.st [(AV.i .i64 (0:Int)),(AV.sl 3 true [])])]⟩<|Sp 1 ⟨30,2,[(AV.st [(AV.i .i64 (((HV (⟨CP.disk.clock,CP.disk.files⟩:Ag) (K5 (dz which)) (dc x')).1).clock)),((Ao 3 A3.av) (((HV (⟨CP.disk.clock,CP.disk.files⟩:Ag) (K5 (dz which)) (dc x')).1).files))])]⟩<|Aq (AV.i .i64 ((HV (⟨CP.disk.clock,CP.disk.files⟩:Ag) (K5 (dz which)) (dc x')).2))<|Ad<|Sq<|Rg<|Aq (AV.st [(AV.i .i64 (((HV (⟨CP.disk.clock,CP.disk.files⟩:Ag) (K5 (dz which)) (dc x')).1).clock)),((Ao 3 A3.av) (((HV (⟨CP.disk.clock,CP.disk.files⟩:Ag) (K5 (dz which)) (dc x')).1).files))]) ?_
 refine Aq (AV.loc 0 0 4)<|Sp 0 ⟨35,11,[(AV.st [CS,CT,CU,CV,(AV.i .i64 (((HV (⟨CP.disk.clock,CP.disk.files⟩:Ag) (K5 (dz which)) (dc x')).1).clock)),((Ao 3 A3.av) (((HV (⟨CP.disk.clock,CP.disk.files⟩:Ag) (K5 (dz which)) (dc x')).1).files)),((Ao 3 A8.av) CP.log),((Ao 3 Ah.av) CP.deps),(AV.i .i64 CP.jobs),(AV.b CP.going),CW])]⟩<|Ad<|Sq<|Rg<|Aq (AV.st [CS,CT,CU,CV,(AV.i .i64 (((HV (⟨CP.disk.clock,CP.disk.files⟩:Ag) (K5 (dz which)) (dc x')).1).clock)),((Ao 3 A3.av) (((HV (⟨CP.disk.clock,CP.disk.files⟩:Ag) (K5 (dz which)) (dc x')).1).files)),((Ao 3 A8.av) CP.log),((Ao 3 Ah.av) CP.deps),(AV.i .i64 CP.jobs),(AV.b CP.going),CW]) ?_
 refine A1.sc0 (vs:=[(AV.st [CS,CT,CU,CV,(AV.i .i64 (((HV (⟨CP.disk.clock,CP.disk.files⟩:Ag) (K5 (dz which)) (dc x')).1).clock)),((Ao 3 A3.av) (((HV (⟨CP.disk.clock,CP.disk.files⟩:Ag) (K5 (dz which)) (dc x')).1).files)),((Ao 3 A8.av) CP.log),((Ao 3 Ah.av) CP.deps),(AV.i .i64 CP.jobs),(AV.b CP.going),CW])]) (r0:=(AV.tup [((Ao 1 AV.b) ((Es (Ls which x')).1)),(AV.i .i64 ((Es (Ls which x')).2))])) kr kr (JF W hW (Ls which x') (dn_sz which x')) kr le ?_
 refine Aq (AV.tup [((Ao 1 AV.b) ((Es (Ls which x')).1)),(AV.i .i64 ((Es (Ls which x')).2))]) ?_
 refine Aq ((Ao 1 AV.b) ((Es (Ls which x')).1))<|Aq (AV.i .i64 ((Es (Ls which x')).2)) ?_
 refine Aq ((Ao 1 AV.b) ((Es (Ls which x')).1))<|Aq (AV.i .i64 ((Es (Ls which x')).2)) ?_
 refine Ad<|Sq<|Rg<|Aq (AV.i .i64 ((Es (Ls which x')).2))<|A1.sc0 (vs:=[(AV.i .i64 ((Es (Ls which x')).2))]) (r0:=(AV.i .i64 (DG ((Es (Ls which x')).2)))) kr kr (G8 W ((Es (Ls which x')).2)) kr le ?_
 refine Aq (AV.b (decide ((DG ((Es (Ls which x')).2))=(0:Int))))<|Aq (AV.b (decide ((DG ((Es (Ls which x')).2))=(0:Int)))) ?_
 cases c_2:decide ((DG ((Es (Ls which x')).2))=(0:Int))
 have k_2:=of_decide_eq_false c_2
 refine An<|An<|An<|Aq (AV.b false)<|Aq (AV.b false)<|Ad<|Rt ?_
 exact Fb rfl (by simp only [Tu,c_1,c_2,AP])
 have k_2:=of_decide_eq_true c_2
 refine Ay<|Aq ((Ao 1 AV.b) ((Es (Ls which x')).1))<|Ay<|Aq ((Ao 1 AV.b) (Q4 (dz which)))<|Ay<|A1.sc0 (vs:=[((Ao 1 AV.b) ((Es (Ls which x')).1)),((Ao 1 AV.b) (Q4 (dz which)))]) (r0:=(AV.b (Lx ((Es (Ls which x')).1) (Q4 (dz which))))) kr kr (Iv W ((Es (Ls which x')).1) (Q4 (dz which))) kr le ?_
 refine Aq (AV.b (Lx ((Es (Ls which x')).1) (Q4 (dz which))))<|Aq (AV.b (Lx ((Es (Ls which x')).1) (Q4 (dz which)))) ?_
 refine Ad<|Rt ?_
 exact Fb rfl (by simp only [Tu,c_1,c_2,AP])
 refine Ct<|Sq<|Rg<|Aq (AV.b false)<|Ad<|Rt ?_
 exact Fb rfl (by simp only [Tu,c_1,AP])
end
end Go.Lift
