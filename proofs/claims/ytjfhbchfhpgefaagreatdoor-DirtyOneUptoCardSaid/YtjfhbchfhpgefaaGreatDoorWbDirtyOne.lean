/-
  Lemmas of this claim: a layer over the kit's calls, contracts of the functions that the law reaches, and the law's row. No condition of its own.
-/
import Derived.Test.YtjfhbchfhpgefaaGreatDoorWaDirtyOne
set_option linter.unusedSimpArgs false
set_option linter.unusedVariables false
set_option linter.unusedSectionVars false
set_option maxRecDepth 20000
namespace Go.Lift
noncomputable section
open Go Go.RowKit
theorem Jp (W:World) (x':ByteArray):Am Go.Proofs.Tryz.prog W 201 [(AV.s x')] (AV.b (Mz x')) []:=by
 refine Ao (fn:=Go.Proofs.Tryz.f201) Go.Proofs.Tryz.func201 rfl (en201 W) (ts:=[2]) rfl le<|Sq<|Rg<|Aq (AV.b false)<|Ad<|Sq<|Rg<|Aq (AV.s x')<|Aq (AV.s x')<|Aq (AV.b (!decide (x'=x')))<|Aq (AV.b (!decide (x'=x')))<|Ad<|Rt ?_
 exact Fb rfl (by simp only [Mz,AZ])
theorem LO (W:World) (x':ByteArray) (y:ByteArray):Am Go.Proofs.Tryz.prog W 169 [(AV.s x'),(AV.s y)] (AV.i .i64 (Qj x' y)) []:=by
 refine Ao (fn:=Go.Proofs.Tryz.f169) Go.Proofs.Tryz.func169 rfl (en169 W) (ts:=[4]) rfl le<|Sq<|Rg<|Aq (AV.i .i64 (0:Int))<|Ad<|Sq<|Rg<|Aq (AV.s x')<|A2.sc0 (vs:=[(AV.s x')]) (r0:=(AV.b (Mz x'))) kr kr (Jp W x') kr le<|Aq (AV.b (Mz x'))<|Ad<|Sq<|Rg<|Aq (AV.s y)<|A2.sc0 (vs:=[(AV.s y)]) (r0:=(AV.b (Mz y))) kr kr (Jp W y) kr le<|Aq (AV.b (Mz y))<|Ad<|Sq<|Sq<|Rg<|Aq (AV.b (Mz x'))<|Ad ?_
 cases c_1:(Mz x')
 refine Cf<|Ag.skip<|Sq<|Sq<|Rg<|Aq (AV.b (Mz y))<|Ad ?_
 cases c_2:(Mz y)
 refine Cf<|Ag.skip<|Sq<|Sq<|Rg<|Aq (AV.s x')<|Aq (AV.s y)<|Aq (AV.b (Op.bytesLess x'.toList y.toList))<|Ad ?_
 cases c_3:(Op.bytesLess x'.toList y.toList)
 refine Cf<|Ag.skip<|Sq<|Sq<|Rg<|Aq (AV.s x')<|Aq (AV.s y)<|Aq (AV.b (!(Op.bytesLess x'.toList y.toList||decide (x'=y))))<|Ad ?_
 cases c_4:(!(Op.bytesLess x'.toList y.toList||decide (x'=y)))
 refine Cf<|Ag.skip<|Sq<|Rg<|Aq (AV.i .i64 (0:Int))<|Ad<|Rt ?_
 try simp only [c_3,AZ] at c_4
 exact Fi rfl (by simp only [Qj,c_1,c_2,c_3,c_4,AZ])
 refine Ct<|Sq<|Rg<|Aq (AV.i .i64 (1:Int))<|Ad<|Rt ?_
 try simp only [c_3,AZ] at c_4
 exact Fi rfl (by simp only [Qj,c_1,c_2,c_3,c_4,AZ])
 refine Ct<|Sq<|Rg<|Aq (AV.i .i64 (-1:Int))<|Ad<|Rt ?_
 exact Fi rfl (by simp only [Qj,c_1,c_2,c_3,AZ])
 refine Ct<|Sq<|Rg<|Aq (AV.i .i64 (1:Int))<|Ad<|Rt ?_
 exact Fi rfl (by simp only [Qj,c_1,c_2,AZ])
 refine Ct<|Sq<|Sq<|Rg<|Aq (AV.b (Mz y))<|Ad ?_
 cases c_5:(Mz y)
 refine Cf<|Ag.skip<|Sq<|Rg<|Aq (AV.i .i64 (-1:Int))<|Ad<|Rt ?_
 exact Fi rfl (by simp only [Qj,c_1,c_5,AZ])
 refine Ct<|Sq<|Rg<|Aq (AV.i .i64 (0:Int))<|Ad<|Rt ?_
 exact Fi rfl (by simp only [Qj,c_1,c_5,AZ])
theorem Q3 (W:World) (f:A3) (s':ByteArray):Am Go.Proofs.Tryz.prog W 168 [(A3.av f),(AV.s s')] (AV.i .i64 (HV f s')) []:=by
 refine Ao (fn:=Go.Proofs.Tryz.f168) Go.Proofs.Tryz.func168 rfl (en168 W) (ts:=[4]) rfl le<|Sq<|Rg<|Nn (AV.loc 0 0 0) ⟨85,3,[(A3.av f)]⟩<|Aq (AV.i .i64 (0:Int))<|Ad<|Sq<|Rg<|Aq (AV.loc 0 0 0)<|Aq (AV.s f.name)<|Aq (AV.s s')<|A2.sc0 (vs:=[(AV.s f.name),(AV.s s')]) (r0:=(AV.i .i64 (Qj f.name s'))) kr kr (LO W f.name s') kr le<|Aq (AV.i .i64 (Qj f.name s'))<|Ad<|Rt ?_
 exact Fi rfl (by simp only [HV,AZ])
theorem DQ (W:World) (x':List A3) (target:ByteArray) (f_cmp:FuncId) (c_cmp:List AV) (cmp:A3→ByteArray→Int) (hcl_cmp:Af c_cmp=true) (hp_cmp: ∀(z0:A3) (z1:ByteArray),Am Go.Proofs.Tryz.prog W f_cmp ((A3.av z0)::(AV.s z1)::c_cmp) (AV.i .i64 (cmp z0 z1)) []) (hz:x'.length≤1048576):Am Go.Proofs.Tryz.prog W 167 [((Az 3 A3.av) x'),(AV.s target),(AV.fn f_cmp c_cmp)] (AV.tup [(AV.i .i64 ((OO x' target cmp).1)),(AV.b ((OO x' target cmp).2))]) []:=by
 refine Ao (fn:=Go.Proofs.Tryz.f167) Go.Proofs.Tryz.func167 rfl (en167 W) (ts:=[6,7]) rfl le<|Sq<|Rg<|Aq (AV.i .i64 (0:Int))<|Aq (AV.b false)<|Ad<|Sq<|Rg<|Aq ((Az 3 A3.av) x')<|Ap (Ai x'.length) (Cs (k:=3) (nl:=false) (e:=85) (A:=A3.av) (xs:=x') kr kr)<|Aq (Ai x'.length)<|Ad<|Sq<|Rg<|Aq (Ai x'.length)<|Aq (AV.i .i64 (0:Int))<|Aq (Ai x'.length)<|Ad<|Sq<|Ag.block ?_
 obtain ⟨R1,hR1⟩: ∃R,US cmp x' target ((((x'.length:Nat):Int)-(0:Int)).toNat+1) (0:Int) ((x'.length:Nat):Int)=R:=⟨_,rfl⟩
 refine Bl (fun ((kf1,(i,j)):Nat×(Int×Int))=>[(0,((Az 3 A3.av) x')),(1,(AV.s target)),(2,(AV.fn f_cmp c_cmp)),(8,(Ai x'.length)),(9,(AV.i .i64 i)),(10,(AV.i .i64 j))]) (fun ((kf1,(i,j)):Nat×(Int×Int))=>⟨0,[]⟩) (fun ((kf1,(i,j)):Nat×(Int×Int))=>(j-i).toNat<kf1∧0≤i∧i≤j∧j≤((x'.length:Nat):Int)∧US cmp x' target kf1 i j=R1) (fun ((kf1,(i,j)):Nat×(Int×Int))=>kf1) ((((x'.length:Nat):Int)-(0:Int)).toNat+1,((0:Int),((x'.length:Nat):Int))) ?_ ?_ ?_
 exact ⟨[],⟨by decide,rfl,A0.nil,(Ee (Ee (Au.cons (B8.c kr hcl_cmp) (Ee (Ee (Ee Au.nil))))))⟩,AE⟩
 exact ⟨od,Iv,Iv,Iv,hR1⟩
 rintro ⟨kf1,i,j⟩ ⟨hi1,h0,h1,h2,hE1⟩
 try dsimp only
 rcases kf1 with _|kf1
 exact absurd hi1 (Nat.not_lt_zero _)
 rw [US.eq_2] at hE1
 refine Sq<|Sq<|Rg<|Aq (AV.i .i64 i)<|Aq (AV.i .i64 j)<|Aq (AV.b (decide (i<j)))<|Ad ?_
 cases c_1:decide (i<j)
 have k_1:=of_decide_eq_false c_1
 refine Cf<|Ag.exit ?_
 try simp only [c_1,AZ] at hE1
 subst hE1
 refine Sq<|Rg<|Aq (AV.i .i64 i)<|Aq (AV.i .i64 i)<|Aq (Ai x'.length)<|Aq (AV.b (decide (i<((x'.length:Nat):Int))))<|Aq (AV.b (decide (i<((x'.length:Nat):Int)))) ?_
 cases c_2:decide (i<((x'.length:Nat):Int))
 have k_2:=of_decide_eq_false c_2
 refine An<|An<|An<|An<|An<|An<|An<|An<|Aq (AV.b false)<|Aq (AV.i .i64 i)<|Aq (AV.b false)<|Ad<|Rt ?_
 have hM:OO x' target cmp=(i,false):=by simp only [OO,hR1,c_2,AZ]
 refine ⟨Or.inr rfl,?_⟩
 rw [hM]
 exact B8.cast (x':=(AV.tup [(AV.i .i64 i),(AV.b false)])) (y':=(AV.tup [(AV.i .i64 ((i,false).1)),(AV.b ((i,false).2))])) kr kr (B8.tup ⟨Ec,⟨Ec,trivial⟩⟩ kr)
 have k_2:=of_decide_eq_true c_2
 have q_2:=of_decide_eq_true c_2
 refine Ay<|Aq (AV.fn f_cmp c_cmp)<|Ay<|Aq ((Az 3 A3.av) x')<|Ay<|Aq (AV.i .i64 i)<|Ay<|Ap (AV.pt (A3.av (x'.getD i.toNat default)).cells) (Lq (k:=3) (nl:=false) (e:=85) (kk:= .i64) (A:=A3.av) (xs:=x') (n:=i) kr kr kr ⟨by kernel_rfl,by decide⟩ sd (getD_some sd))<|Ay<|Aq (A3.av (x'.getD i.toNat default))<|Ay<|Aq (AV.s target)<|Ay<|A2.sc0 (vs:=((A3.av (x'.getD i.toNat default))::(AV.s target)::c_cmp)) (r0:=(AV.i .i64 (cmp (x'.getD i.toNat default) target))) kr (by simp only [Af,Bool.and_eq_true];exact ⟨by kernel_rfl,⟨by kernel_rfl,hcl_cmp⟩⟩) (hp_cmp (x'.getD i.toNat default) target) kr le<|Ay<|Aq (AV.b (decide ((cmp (x'.getD i.toNat default) target)=(0:Int))))<|Aq (AV.b (decide ((cmp (x'.getD i.toNat default) target)=(0:Int))))<|Aq (AV.i .i64 i)<|Aq (AV.b (decide ((cmp (x'.getD i.toNat default) target)=(0:Int))))<|Ad<|Rt ?_
 have hM:OO x' target cmp=(i,decide ((cmp (x'.getD i.toNat default) target)=(0:Int))):=by simp only [OO,hR1,c_2,AZ]
 refine ⟨Or.inr rfl,?_⟩
 rw [hM]
 exact B8.cast (x':=(AV.tup [(AV.i .i64 i),(AV.b (decide ((cmp (x'.getD i.toNat default) target)=(0:Int))))])) (y':=(AV.tup [(AV.i .i64 ((i,decide ((cmp (x'.getD i.toNat default) target)=(0:Int))).1)),(AV.b ((i,decide ((cmp (x'.getD i.toNat default) target)=(0:Int))).2))])) kr kr (B8.tup ⟨Ec,⟨Ec,trivial⟩⟩ kr)
 have k_1:=of_decide_eq_true c_1
 have q_1:=Wv h0 (of_decide_eq_true c_1) h2 hz
 refine Ct<|Ag.skip<|Ag.block<|Sq<|Rg<|Aq (AV.i .i64 i)<|Aq (AV.i .i64 j)<|Aq (AV.i .i64 (IntKind.wrap .i64 (i+j)))<|Aq (AV.i .u64 (IntKind.wrap .u64 (IntKind.wrap .i64 (i+j))))<|Ap (AV.i .u64 (Int.fdiv (IntKind.wrap .u64 (IntKind.wrap .i64 (i+j))) (2^(min 1 IntKind.u64.bits)))) (g_shr (k:= .u64) (k':= .u64) (a:=(IntKind.wrap .u64 (IntKind.wrap .i64 (i+j)))) (n:=1) kr kr)<|Aq (AV.i .i64 (IntKind.wrap .i64 (Int.fdiv (IntKind.wrap .u64 (IntKind.wrap .i64 (i+j))) (2^(min 1 IntKind.u64.bits)))))<|Aq (AV.i .i64 (IntKind.wrap .i64 (Int.fdiv (IntKind.wrap .u64 (IntKind.wrap .i64 (i+j))) (2^(min 1 IntKind.u64.bits)))))<|Ad<|Sq<|Rg<|Aq (AV.fn f_cmp c_cmp)<|Aq ((Az 3 A3.av) x')<|Aq (AV.i .i64 (IntKind.wrap .i64 (Int.fdiv (IntKind.wrap .u64 (IntKind.wrap .i64 (i+j))) (2^(min 1 IntKind.u64.bits)))))<|Ap (AV.pt (A3.av (x'.getD (IntKind.wrap .i64 (Int.fdiv (IntKind.wrap .u64 (IntKind.wrap .i64 (i+j))) (2^(min 1 IntKind.u64.bits)))).toNat default)).cells) (Lq (k:=3) (nl:=false) (e:=85) (kk:= .i64) (A:=A3.av) (xs:=x') (n:=(IntKind.wrap .i64 (Int.fdiv (IntKind.wrap .u64 (IntKind.wrap .i64 (i+j))) (2^(min 1 IntKind.u64.bits))))) kr kr kr ⟨by kernel_rfl,by decide⟩ sd (getD_some sd))<|Aq (A3.av (x'.getD (IntKind.wrap .i64 (Int.fdiv (IntKind.wrap .u64 (IntKind.wrap .i64 (i+j))) (2^(min 1 IntKind.u64.bits)))).toNat default))<|Aq (AV.s target)<|A2.sc0 (vs:=((A3.av (x'.getD (IntKind.wrap .i64 (Int.fdiv (IntKind.wrap .u64 (IntKind.wrap .i64 (i+j))) (2^(min 1 IntKind.u64.bits)))).toNat default))::(AV.s target)::c_cmp)) (r0:=(AV.i .i64 (cmp (x'.getD (IntKind.wrap .i64 (Int.fdiv (IntKind.wrap .u64 (IntKind.wrap .i64 (i+j))) (2^(min 1 IntKind.u64.bits)))).toNat default) target))) kr (by simp only [Af,Bool.and_eq_true];exact ⟨by kernel_rfl,⟨by kernel_rfl,hcl_cmp⟩⟩) (hp_cmp (x'.getD (IntKind.wrap .i64 (Int.fdiv (IntKind.wrap .u64 (IntKind.wrap .i64 (i+j))) (2^(min 1 IntKind.u64.bits)))).toNat default) target) kr le ?_
 refine Aq (AV.b (decide ((cmp (x'.getD (IntKind.wrap .i64 (Int.fdiv (IntKind.wrap .u64 (IntKind.wrap .i64 (i+j))) (2^(min 1 IntKind.u64.bits)))).toNat default) target)<(0:Int))))<|Ad ?_
 cases c_3:decide ((cmp (x'.getD (IntKind.wrap .i64 (Int.fdiv (IntKind.wrap .u64 (IntKind.wrap .i64 (i+j))) (2^(min 1 IntKind.u64.bits)))).toNat default) target)<(0:Int))
 have k_3:=of_decide_eq_false c_3
 refine Cf<|Rg<|Aq (AV.i .i64 (IntKind.wrap .i64 (Int.fdiv (IntKind.wrap .u64 (IntKind.wrap .i64 (i+j))) (2^(min 1 IntKind.u64.bits)))))<|Aq (AV.i .i64 (IntKind.wrap .i64 (Int.fdiv (IntKind.wrap .u64 (IntKind.wrap .i64 (i+j))) (2^(min 1 IntKind.u64.bits)))))<|Ad ?_
 try simp only [c_1,c_3,AZ] at hE1
 refine ⟨(kf1,(i,(IntKind.wrap .i64 (Int.fdiv (IntKind.wrap .u64 (IntKind.wrap .i64 (i+j))) (2^(min 1 IntKind.u64.bits)))))),od,⟨Iv,Iv,Iv,Iv,hE1⟩,?_⟩
 exact ⟨[],⟨by decide,rfl,A0.nil,(Ee (Ee (Au.cons (B8.c kr hcl_cmp) (Ee (Ee (Ee Au.nil))))))⟩,AE⟩
 have k_3:=of_decide_eq_true c_3
 refine Ct<|Rg<|Aq (AV.i .i64 (IntKind.wrap .i64 (Int.fdiv (IntKind.wrap .u64 (IntKind.wrap .i64 (i+j))) (2^(min 1 IntKind.u64.bits)))))<|Aq (AV.i .i64 (IntKind.wrap .i64 ((IntKind.wrap .i64 (Int.fdiv (IntKind.wrap .u64 (IntKind.wrap .i64 (i+j))) (2^(min 1 IntKind.u64.bits))))+(1:Int))))<|Aq (AV.i .i64 (IntKind.wrap .i64 ((IntKind.wrap .i64 (Int.fdiv (IntKind.wrap .u64 (IntKind.wrap .i64 (i+j))) (2^(min 1 IntKind.u64.bits))))+(1:Int))))<|Ad ?_
 try simp only [c_1,c_3,AZ] at hE1
 refine ⟨(kf1,((IntKind.wrap .i64 ((IntKind.wrap .i64 (Int.fdiv (IntKind.wrap .u64 (IntKind.wrap .i64 (i+j))) (2^(min 1 IntKind.u64.bits))))+(1:Int))),j)),od,⟨Iv,Iv,Iv,Iv,hE1⟩,?_⟩
 exact ⟨[],⟨by decide,rfl,A0.nil,(Ee (Ee (Au.cons (B8.c kr hcl_cmp) (Ee (Ee (Ee Au.nil))))))⟩,AE⟩
theorem Sr (W:World) (d:Aj) (s':ByteArray) (hz:d.sz≤1048576):Am Go.Proofs.Tryz.prog W 129 [(AV.pt (Aj.av d).cells),(AV.s s')] (AV.tup [(AV.i .i64 ((KN d s').1)),(AV.b ((KN d s').2))]) []:=by
 have hl:=Ha A3.sz_one d.files
 have hl2:=d.sz_files
 refine Ao (fn:=Go.Proofs.Tryz.f129) Go.Proofs.Tryz.func129 rfl (en129 W) (ts:=[4,5]) rfl le<|Sq<|Rg<|Aq (AV.i .i64 (0:Int))<|Aq (AV.b false)<|Ad<|Sq<|Rg<|Aq (AV.pt (Aj.av d).cells)<|Aq (AV.pt (Aj.av d).cells)<|Aq (AV.pt ((Aj.av d).cells.drop 1))<|Aq ((Az 3 A3.av) d.files)<|Aq (AV.s s')<|A2.sc0 (vs:=[((Az 3 A3.av) d.files),(AV.s s'),(AV.fn 168 [])]) (r0:=(AV.tup [(AV.i .i64 ((OO d.files s' (fun z0 z1=>HV z0 z1)).1)),(AV.b ((OO d.files s' (fun z0 z1=>HV z0 z1)).2))])) kr (by simp only [Af,Bool.and_eq_true];exact ⟨by kernel_rfl,by kernel_rfl,kr,trivial⟩) (DQ W d.files s' 168 [] (fun z0 z1=>HV z0 z1) kr (fun z0 z1=>(Q3 W z0 z1)) sd) kr le<|Aq (AV.i .i64 ((OO d.files s' (fun z0 z1=>HV z0 z1)).1))<|Aq (AV.b ((OO d.files s' (fun z0 z1=>HV z0 z1)).2))<|Aq (AV.i .i64 ((OO d.files s' (fun z0 z1=>HV z0 z1)).1))<|Aq (AV.b ((OO d.files s' (fun z0 z1=>HV z0 z1)).2))<|Ad<|Rt ?_
 have hM:KN d s'=((OO d.files s' (fun z0 z1=>HV z0 z1)).1,(OO d.files s' (fun z0 z1=>HV z0 z1)).2):=by simp only [KN,AZ]
 refine ⟨Or.inr rfl,?_⟩
 rw [hM]
 exact B8.cast (x':=(AV.tup [(AV.i .i64 ((OO d.files s' (fun z0 z1=>HV z0 z1)).1)),(AV.b ((OO d.files s' (fun z0 z1=>HV z0 z1)).2))])) (y':=(AV.tup [(AV.i .i64 (((OO d.files s' (fun z0 z1=>HV z0 z1)).1,(OO d.files s' (fun z0 z1=>HV z0 z1)).2).1)),(AV.b (((OO d.files s' (fun z0 z1=>HV z0 z1)).1,(OO d.files s' (fun z0 z1=>HV z0 z1)).2).2))])) kr kr (B8.tup ⟨Ec,⟨Ec,trivial⟩⟩ kr)
def Fp (d:Aj) (s':ByteArray):AV:=(AV.i .i64 ((KN d s').1))
def H1:AV:=(AV.st [(AV.s (⟨#[]⟩:ByteArray)),(AV.i .i64 (0:Int)),(AV.i .i64 (0:Int))])
def Jg:Obj:=⟨85,3,[H1]⟩
def H0:AV:=(AV.tup [H1,(AV.b false)])
def LC:AV:=(AV.tup [(A3.av (((⟨(⟨#[]⟩:ByteArray),(0:Int),(0:Int)⟩:A3),false).1)),(AV.b (((⟨(⟨#[]⟩:ByteArray),(0:Int),(0:Int)⟩:A3),false).2))])
def LB (d:Aj) (s':ByteArray):AV:=(AV.st [(AV.s ((d.files.getD ((KN d s').1).toNat default).name)),(AV.i .i64 ((d.files.getD ((KN d s').1).toNat default).content)),(AV.i .i64 ((d.files.getD ((KN d s').1).toNat default).time))])
def LA (d:Aj) (s':ByteArray):AV:=(AV.tup [(LB d s'),(AV.b true)])
theorem K3 (W:World) {m0:Int} (hW:W.cell? ⟨0,0,none⟩=some (.int .i64 m0)) (d:Aj) (s':ByteArray) (hz:d.sz≤1048576):Am Go.Proofs.Tryz.prog W 82 [(Aj.av d),(AV.s s')] (AV.tup [(A3.av ((DT d s').1)),(AV.b ((DT d s').2))]) []:=by
 have hl:=Ha A3.sz_one d.files
 have hl2:=d.sz_files
 refine Du Aa (fn:=Go.Proofs.Tryz.f82) Go.Proofs.Tryz.func82 rfl (en82 W) le<|Sq<|Rg<|Nn (AV.loc 0 0 0) ⟨30,2,[(Aj.av d)]⟩<|Nn (AV.loc 1 0 0) Jg<|Aq (AV.b false)<|Ad<|Sq<|Sq<|Rg<|Aq (AV.s s')<|A2.sfw (vs:=[(AV.loc 0 0 0),(AV.s s')]) (ss:=[(AV.pt (Aj.av d).cells),(AV.s s')]) (r0:=(AV.tup [(Fp d s'),(AV.b ((KN d s').2))])) kr (show Bs _ _ _ from ⟨(A6.w (A6.cast (x':=(AV.loc 0 0 0)) kr kr (Dv Aj.av d (id:=0) rfl rfl kr))),⟨(Bs.e kr),trivial⟩⟩) (Sr W d s' sd) rfl kr le<|Aq (AV.tup [(Fp d s'),(AV.b ((KN d s').2))])<|Aq (Fp d s')<|Aq (AV.b ((KN d s').2))<|Aq (Fp d s')<|Aq (AV.b ((KN d s').2))<|Ad<|Sq<|Rg<|Aq (AV.b ((KN d s').2))<|Aq (AV.b ((KN d s').2)) ?_
 cases c_1:(KN d s').2
 refine An<|An<|Aq (AV.b false)<|Ad<|Cf<|Ag.skip<|Sq<|Rg<|Nb H1<|Sp 1 Jg<|Aq (AV.b false)<|Ad<|Rt ?_
 have hM:DT d s'=((⟨(⟨#[]⟩:ByteArray),(0:Int),(0:Int)⟩:A3),false):=by simp only [DT,c_1,AZ]
 refine ⟨Or.inr rfl,H0,kr,?_⟩
 rw [hM]
 exact B8.cast (x':=H0) (y':=LC) kr kr (B8.tup ⟨Ec,⟨Ec,trivial⟩⟩ kr)
 have q_1:=Xp hz c_1
 refine Ay<|Aq (Aj.av d)<|Ay<|A2.sc0 (vs:=[(Aj.av d)]) (r0:=(AV.b (EI GG d))) kr kr (Q1 W hW d) kr le<|Aq (AV.b (EI GG d))<|Ad ?_
 cases c_2:(EI GG d)
 refine Cf<|Ag.skip<|Sq<|Rg<|Nb H1<|Sp 1 Jg<|Aq (AV.b false)<|Ad<|Rt ?_
 have hM:DT d s'=((⟨(⟨#[]⟩:ByteArray),(0:Int),(0:Int)⟩:A3),false):=by simp only [DT,c_1,c_2,AZ]
 refine ⟨Or.inr rfl,H0,kr,?_⟩
 rw [hM]
 exact B8.cast (x':=H0) (y':=LC) kr kr (B8.tup ⟨Ec,⟨Ec,trivial⟩⟩ kr)
 refine Ct<|Sq<|Rg<|Aq (AV.loc 0 0 1)<|Aq ((Az 3 A3.av) d.files)<|Aq (Fp d s')<|Ap (AV.pt (A3.av (d.files.getD ((KN d s').1).toNat default)).cells) (Lq (k:=3) (nl:=false) (e:=85) (kk:= .i64) (A:=A3.av) (xs:=d.files) (n:=((KN d s').1)) kr kr kr ⟨by kernel_rfl,by decide⟩ sd (getD_some sd))<|Aq (A3.av (d.files.getD ((KN d s').1).toNat default))<|Sp 1 ⟨85,3,[(LB d s')]⟩<|Aq (AV.b true)<|Ad<|Rt ?_
 have hM:DT d s'=((⟨(d.files.getD ((KN d s').1).toNat default).name,(d.files.getD ((KN d s').1).toNat default).content,(d.files.getD ((KN d s').1).toNat default).time⟩:A3),true):=by simp only [DT,c_1,c_2,AZ]
 refine ⟨Or.inr rfl,(LA d s'),kr,?_⟩
 rw [hM]
 exact B8.cast (x':=(LA d s')) (y':=(AV.tup [(A3.av (((⟨(d.files.getD ((KN d s').1).toNat default).name,(d.files.getD ((KN d s').1).toNat default).content,(d.files.getD ((KN d s').1).toNat default).time⟩:A3),true).1)),(AV.b (((⟨(d.files.getD ((KN d s').1).toNat default).name,(d.files.getD ((KN d s').1).toNat default).content,(d.files.getD ((KN d s').1).toNat default).time⟩:A3),true).2))])) kr kr (B8.tup ⟨Ec,⟨Ec,trivial⟩⟩ kr)
theorem W7 (W:World) {m0:Int} (hW:W.cell? ⟨0,0,none⟩=some (.int .i64 m0)) (e:AB) (hz:e.sz≤1048576):Am Go.Proofs.Tryz.prog W 144 [(AB.av e)] (AV.tup [(AV.s ((N1 e).1)),(AV.i .i64 ((N1 e).2))]) []:=by
 have hs:=TP hz
 have hl1:=FD e.outs
 have hl2:=FD e.ins
 have hl3:=FD e.implicit
 have hl4:=e.sz_outs
 have hl5:=e.sz_ins
 have hl6:=e.sz_implicit
 refine Ao (fn:=Go.Proofs.Tryz.f144) Go.Proofs.Tryz.func144 rfl (en144 W) (ts:=[2,3]) rfl le<|Sq<|Rg<|Nn (AV.loc 0 0 0) ⟨65,7,[(AB.av e)]⟩<|Aq (AV.s (⟨#[]⟩:ByteArray))<|Aq (AV.i .i64 (0:Int))<|Ad<|Sq<|Sq<|Rg<|A2.sfw (vs:=[(AV.loc 0 0 0)]) (ss:=[(AV.pt (AB.av e).cells)]) (r0:=(AV.b (Qp e))) kr (show Bs _ _ _ from ⟨(A6.w (A6.cast (x':=(AV.loc 0 0 0)) kr kr (Dv AB.av e (id:=0) rfl rfl kr))),trivial⟩) (Ss W hW e) rfl kr le<|Aq (AV.b (!(Qp e)))<|Ad ?_
 cases c_1:(!(Qp e))
 refine Cf<|Ag.skip<|Sq<|Rg<|Aq (AV.s (⟨#[110]⟩:ByteArray))<|Ad ?_
 refine Rq [(1,(AV.loc 0 0 0)),(4,(AV.s (bif e.deps then (⟨#[100]⟩:ByteArray) else (⟨#[110]⟩:ByteArray))))] ⟨1,[(0,some ⟨65,7,[(AB.av e)]⟩)]⟩ ?_ ?_
 refine Sq<|Rg<|Aq (AV.loc 0 0 5)<|Aq (AV.b e.deps)<|Ad ?_
 cases c_2:e.deps
 refine Cf<|Ag.skip ?_
 exact ⟨[0],⟨by decide,rfl,(A0.cons kr A0.nil),(Au.cons (B8.f kr) (Ee Au.nil))⟩,AE⟩
 refine Ct<|Rg<|Aq (AV.s (⟨#[100]⟩:ByteArray))<|Ad ?_
 exact ⟨[0],⟨by decide,rfl,(A0.cons kr A0.nil),(Au.cons (B8.f kr) (Ee Au.nil))⟩,AE⟩
 refine Sq<|Ag.drawn Aa Eb 12 kr le<|Dq (AV.loc 0 0 0)<|Dq ((Az 1 AV.s) e.outs)<|Aw.sc0 (vs:=[((Az 1 AV.s) e.outs),(AV.s (⟨#[32]⟩:ByteArray))]) (r0:=(AV.s (D1 e.outs (⟨#[32]⟩:ByteArray)))) kr kr (He W e.outs (⟨#[32]⟩:ByteArray) sd sd) kr le<|Dq (AV.loc 0 0 1)<|Dq ((Az 1 AV.s) e.ins)<|Aw.sc0 (vs:=[((Az 1 AV.s) e.ins),(AV.s (⟨#[32]⟩:ByteArray))]) (r0:=(AV.s (D1 e.ins (⟨#[32]⟩:ByteArray)))) kr kr (He W e.ins (⟨#[32]⟩:ByteArray) sd sd) kr le<|Dq (AV.loc 0 0 2)<|Dq ((Az 1 AV.s) e.implicit)<|Aw.sc0 (vs:=[((Az 1 AV.s) e.implicit),(AV.s (⟨#[32]⟩:ByteArray))]) (r0:=(AV.s (D1 e.implicit (⟨#[32]⟩:ByteArray)))) kr kr (He W e.implicit (⟨#[32]⟩:ByteArray) sd sd) kr le<|Dq (AV.s (bif e.deps then (⟨#[100]⟩:ByteArray) else (⟨#[110]⟩:ByteArray)))<|Dq (AV.loc 0 0 4)<|Dq (AV.s e.command)<|Aw.sn (x:=(AV.own 1 0 5)) (h':=⟨2,[(1,some ⟨9,1,[(D1 e.outs (⟨#[32]⟩:ByteArray)),(D1 e.ins (⟨#[32]⟩:ByteArray)),(D1 e.implicit (⟨#[32]⟩:ByteArray)),(bif e.deps then (⟨#[100]⟩:ByteArray) else (⟨#[110]⟩:ByteArray)),e.command].map AV.s⟩),(0,some ⟨65,7,[(AB.av e)]⟩)]⟩) kr le<|Aw.sfw (vs:=[(AV.own 1 0 5),(AV.s (⟨#[124]⟩:ByteArray))]) (ss:=[((Az 1 AV.s) [(D1 e.outs (⟨#[32]⟩:ByteArray)),(D1 e.ins (⟨#[32]⟩:ByteArray)),(D1 e.implicit (⟨#[32]⟩:ByteArray)),(bif e.deps then (⟨#[100]⟩:ByteArray) else (⟨#[110]⟩:ByteArray)),e.command]),(AV.s (⟨#[124]⟩:ByteArray))]) (r0:=(AV.s (D1 [(D1 e.outs (⟨#[32]⟩:ByteArray)),(D1 e.ins (⟨#[32]⟩:ByteArray)),(D1 e.implicit (⟨#[32]⟩:ByteArray)),(bif e.deps then (⟨#[100]⟩:ByteArray) else (⟨#[110]⟩:ByteArray)),e.command] (⟨#[124]⟩:ByteArray)))) kr (show Bs _ _ _ from ⟨(A6.w (A6.cast (x':=(AV.own 1 0 5)) kr kr (A6.row (fun _=>rfl) (A:=AV.s) (id:=1) (e:=9) (k:=1) (xs:=[(D1 e.outs (⟨#[32]⟩:ByteArray)),(D1 e.ins (⟨#[32]⟩:ByteArray)),(D1 e.implicit (⟨#[32]⟩:ByteArray)),(bif e.deps then (⟨#[100]⟩:ByteArray) else (⟨#[110]⟩:ByteArray)),e.command]) rfl rfl sd sd))),⟨(Bs.e kr),trivial⟩⟩) (He W [(D1 e.outs (⟨#[32]⟩:ByteArray)),(D1 e.ins (⟨#[32]⟩:ByteArray)),(D1 e.implicit (⟨#[32]⟩:ByteArray)),(bif e.deps then (⟨#[100]⟩:ByteArray) else (⟨#[110]⟩:ByteArray)),e.command] (⟨#[124]⟩:ByteArray) (signs5 hz) (by simp only [List.length_cons,List.length_nil];decide)) rfl kr le ?_
 refine Dq (AV.s (D1 [(D1 e.outs (⟨#[32]⟩:ByteArray)),(D1 e.ins (⟨#[32]⟩:ByteArray)),(D1 e.implicit (⟨#[32]⟩:ByteArray)),(bif e.deps then (⟨#[100]⟩:ByteArray) else (⟨#[110]⟩:ByteArray)),e.command] (⟨#[124]⟩:ByteArray)))<|Dq (AV.i .i64 (0:Int))<|Aw.fin<|Rt ?_
 exact Fsi rfl (by simp only [N1,c_1,AZ])
 refine Ct<|Sq<|Rg<|Aq (AV.s (⟨#[]⟩:ByteArray))<|Aq (AV.i .i64 (1100:Int))<|Ad<|Rt ?_
 exact Fsi rfl (by simp only [N1,c_1,AZ])
def HP:AV:=(AV.st [(AV.s (⟨#[]⟩:ByteArray)),(AV.i .i64 (0:Int)),(AV.s (⟨#[]⟩:ByteArray))])
def Kj:Obj:=⟨56,3,[HP]⟩
def HO:AV:=(AV.tup [HP,(AV.b false)])
def Mg:AV:=(AV.tup [(Ae.av ((Kz,false).1)),(AV.b ((Kz,false).2))])
theorem Uw (W:World) {m0:Int} (hW:W.cell? ⟨0,0,none⟩=some (.int .i64 m0)) (rs:List Ae) (out:ByteArray) (hz:Kn Ae.sz rs≤1048576):Am Go.Proofs.Tryz.prog W 145 [((Az 3 Ae.av) rs),(AV.s out)] (AV.tup [(Ae.av ((Fm rs out).1)),(AV.b ((Fm rs out).2))]) []:=by
 have hl:=Ha Ae.sz_one rs
 have hla:=Tg rs out
 refine Du Aa (fn:=Go.Proofs.Tryz.f145) Go.Proofs.Tryz.func145 rfl (en145 W) le<|Sq<|Rg<|Nn (AV.loc 0 0 0) Kj<|Aq (AV.b false)<|Ad<|Sq<|Rg<|Aq ((Az 3 Ae.av) rs)<|Aq (AV.s out)<|A2.sc0 (vs:=[((Az 3 Ae.av) rs),(AV.s out)]) (r0:=(AV.i .i64 (Bm rs out))) kr kr (Ux W rs out sd) kr le<|Aq (AV.i .i64 (Bm rs out))<|Ad<|Sq<|Sq<|Rg<|Aq (AV.i .i64 (Bm rs out))<|Aq (AV.b (decide ((Bm rs out)<(0:Int))))<|Aq (AV.b (decide ((Bm rs out)<(0:Int)))) ?_
 cases c_1:decide ((Bm rs out)<(0:Int))
 have k_1:=of_decide_eq_false c_1
 refine Ay<|Aq ((Az 3 Ae.av) rs)<|Ay<|A2.sc0 (vs:=[((Az 3 Ae.av) rs)]) (r0:=(AV.b (MA rs))) kr kr (Rn W hW rs) kr le<|Ay<|Aq (AV.b (!(MA rs)))<|Aq (AV.b (!(MA rs)))<|Ad ?_
 cases c_2:(!(MA rs))
 refine Cf<|Ag.skip<|Sq<|Rg<|Aq ((Az 3 Ae.av) rs)<|Aq (AV.i .i64 (Bm rs out))<|Ap (AV.pt (Ae.av (rs.getD (Bm rs out).toNat default)).cells) (Lq (k:=3) (nl:=false) (e:=56) (kk:= .i64) (A:=Ae.av) (xs:=rs) (n:=(Bm rs out)) kr kr kr ⟨by kernel_rfl,by decide⟩ sd (getD_some sd))<|Aq (Ae.av (rs.getD (Bm rs out).toNat default))<|Sp 0 ⟨56,3,[(AV.st [(AV.s ((rs.getD (Bm rs out).toNat default).out)),(AV.i .i64 ((rs.getD (Bm rs out).toNat default).time)),(AV.s ((rs.getD (Bm rs out).toNat default).sign))])]⟩<|Aq (AV.b true)<|Ad<|Rt ?_
 have hM:Fm rs out=((⟨(rs.getD (Bm rs out).toNat default).out,(rs.getD (Bm rs out).toNat default).time,(rs.getD (Bm rs out).toNat default).sign⟩:Ae),true):=by simp only [Fm,c_1,c_2,AZ]
 refine ⟨Or.inr rfl,(AV.tup [(AV.st [(AV.s ((rs.getD (Bm rs out).toNat default).out)),(AV.i .i64 ((rs.getD (Bm rs out).toNat default).time)),(AV.s ((rs.getD (Bm rs out).toNat default).sign))]),(AV.b true)]),kr,?_⟩
 rw [hM]
 exact B8.cast (x':=(AV.tup [(AV.st [(AV.s ((rs.getD (Bm rs out).toNat default).out)),(AV.i .i64 ((rs.getD (Bm rs out).toNat default).time)),(AV.s ((rs.getD (Bm rs out).toNat default).sign))]),(AV.b true)])) (y':=(AV.tup [(Ae.av (((⟨(rs.getD (Bm rs out).toNat default).out,(rs.getD (Bm rs out).toNat default).time,(rs.getD (Bm rs out).toNat default).sign⟩:Ae),true).1)),(AV.b (((⟨(rs.getD (Bm rs out).toNat default).out,(rs.getD (Bm rs out).toNat default).time,(rs.getD (Bm rs out).toNat default).sign⟩:Ae),true).2))])) kr kr (B8.tup ⟨Ec,⟨Ec,trivial⟩⟩ kr)
 refine Ct<|Sq<|Rg<|Nb HP<|Sp 0 Kj<|Aq (AV.b false)<|Ad<|Rt ?_
 have hM:Fm rs out=(Kz,false):=by simp only [Fm,c_1,c_2,AZ]
 refine ⟨Or.inr rfl,HO,kr,?_⟩
 rw [hM]
 exact B8.cast (x':=HO) (y':=Mg) kr kr (B8.tup ⟨Ec,⟨Ec,trivial⟩⟩ kr)
 have k_1:=of_decide_eq_true c_1
 refine An<|An<|An<|Aq (AV.b true)<|Ad<|Ct<|Sq<|Rg<|Nb HP<|Sp 0 Kj<|Aq (AV.b false)<|Ad<|Rt ?_
 have hM:Fm rs out=(Kz,false):=by simp only [Fm,c_1,AZ]
 refine ⟨Or.inr rfl,HO,kr,?_⟩
 rw [hM]
 exact B8.cast (x':=HO) (y':=Mg) kr kr (B8.tup ⟨Ec,⟨Ec,trivial⟩⟩ kr)
theorem QA (W:World) (f:As) (hz:f.sz≤1048576):Am Go.Proofs.Tryz.prog W 148 [(As.av f)] (As.av (I6 f)) []:=by
 have hr1:=FD f.ins
 have hr2:=f.sz_ins
 refine Du Aa (fn:=Go.Proofs.Tryz.f148) Go.Proofs.Tryz.func148 rfl (en148 W) le<|Sq<|Rg<|Nn (AV.loc 0 0 0) ⟨61,3,[(As.av f)]⟩<|Nn (AV.loc 1 0 0) ⟨61,3,[(AV.st [(AV.s (⟨#[]⟩:ByteArray)),(AV.i .i64 (0:Int)),(AV.sl 1 true [])])]⟩<|Ad<|Sq<|Rg<|Aq (AV.loc 0 0 2)<|Aq ((Az 1 AV.s) f.ins)<|A2.sc0 (vs:=[((Az 1 AV.s) f.ins)]) (r0:=((Az 1 AV.s) (K8 f.ins))) kr kr (Ig W f.ins sd) kr le<|Aq (AV.loc 0 0 2)<|Sp 0 ⟨61,3,[(AV.st [(AV.s f.out),(AV.i .i64 f.time),((Az 1 AV.s) (K8 f.ins))])]⟩<|Ad<|Sq<|Rg<|Aq (AV.st [(AV.s f.out),(AV.i .i64 f.time),((Az 1 AV.s) (K8 f.ins))])<|Sp 1 ⟨61,3,[(AV.st [(AV.s f.out),(AV.i .i64 f.time),((Az 1 AV.s) (K8 f.ins))])]⟩<|Ad<|Rt ?_
 have hM:I6 f=(⟨f.out,f.time,(K8 f.ins)⟩:As):=by simp only [I6,AZ]
 refine ⟨Or.inr rfl,(AV.st [(AV.s f.out),(AV.i .i64 f.time),((Az 1 AV.s) (K8 f.ins))]),kr,?_⟩
 rw [hM]
 exact Ec
def FB:AV:=(AV.st [(AV.s (⟨#[]⟩:ByteArray)),(AV.i .i64 (0:Int)),(AV.sl 1 true [])])
def HA:Obj:=⟨61,3,[FB]⟩
def FA:AV:=(AV.tup [FB,(AV.b false)])
def KC:AV:=(AV.tup [(As.av (((⟨(⟨#[]⟩:ByteArray),(0:Int),[]⟩:As),false).1)),(AV.b (((⟨(⟨#[]⟩:ByteArray),(0:Int),[]⟩:As),false).2))])
theorem QB (W:World) {m0:Int} (hW:W.cell? ⟨0,0,none⟩=some (.int .i64 m0)) (fs:List As) (out:ByteArray) (hz:Kn As.sz fs≤1048576):Am Go.Proofs.Tryz.prog W 99 [((Az 3 As.av) fs),(AV.s out)] (AV.tup [(As.av ((Md fs out).1)),(AV.b ((Md fs out).2))]) []:=by
 have hl:=Ha As.sz_one fs
 have hla:=Lm fs out
 refine Du Aa (fn:=Go.Proofs.Tryz.f99) Go.Proofs.Tryz.func99 rfl (en99 W) le<|Sq<|Rg<|Nn (AV.loc 0 0 0) HA<|Aq (AV.b false)<|Ad<|Sq<|Rg<|Aq ((Az 3 As.av) fs)<|Aq (AV.s out)<|A2.sc0 (vs:=[((Az 3 As.av) fs),(AV.s out)]) (r0:=(AV.i .i64 (AC fs out))) kr kr (QC W fs out sd) kr le<|Aq (AV.i .i64 (AC fs out))<|Ad<|Sq<|Sq<|Rg<|Aq (AV.i .i64 (AC fs out))<|Aq (AV.b (decide ((AC fs out)<(0:Int))))<|Aq (AV.b (decide ((AC fs out)<(0:Int)))) ?_
 cases c_1:decide ((AC fs out)<(0:Int))
 have k_1:=of_decide_eq_false c_1
 refine Ay<|Aq ((Az 3 As.av) fs)<|Ay<|A2.sc0 (vs:=[((Az 3 As.av) fs)]) (r0:=(AV.b (N4 fs))) kr kr (Np W hW fs) kr le<|Ay<|Aq (AV.b (!(N4 fs)))<|Aq (AV.b (!(N4 fs)))<|Ad ?_
 cases c_2:(!(N4 fs))
 refine Cf<|Ag.skip<|Sq<|Rg<|Aq ((Az 3 As.av) fs)<|Aq (AV.i .i64 (AC fs out))<|Ap (AV.pt (As.av (fs.getD (AC fs out).toNat default)).cells) (Lq (k:=3) (nl:=false) (e:=61) (kk:= .i64) (A:=As.av) (xs:=fs) (n:=(AC fs out)) kr kr kr ⟨by kernel_rfl,by decide⟩ sd (getD_some sd))<|Aq (As.av (fs.getD (AC fs out).toNat default))<|A2.sc0 (vs:=[(As.av (fs.getD (AC fs out).toNat default))]) (r0:=(As.av (I6 (fs.getD (AC fs out).toNat default)))) kr kr (QA W (fs.getD (AC fs out).toNat default) (Pa hz sd)) kr le<|Sp 0 ⟨61,3,[(AV.st [(AV.s ((I6 (fs.getD (AC fs out).toNat default)).out)),(AV.i .i64 ((I6 (fs.getD (AC fs out).toNat default)).time)),((Az 1 AV.s) ((I6 (fs.getD (AC fs out).toNat default)).ins))])]⟩<|Aq (AV.b true)<|Ad<|Rt ?_
 have hM:Md fs out=((⟨(I6 (fs.getD (AC fs out).toNat default)).out,(I6 (fs.getD (AC fs out).toNat default)).time,(I6 (fs.getD (AC fs out).toNat default)).ins⟩:As),true):=by simp only [Md,c_1,c_2,AZ]
 refine ⟨Or.inr rfl,(AV.tup [(AV.st [(AV.s ((I6 (fs.getD (AC fs out).toNat default)).out)),(AV.i .i64 ((I6 (fs.getD (AC fs out).toNat default)).time)),((Az 1 AV.s) ((I6 (fs.getD (AC fs out).toNat default)).ins))]),(AV.b true)]),kr,?_⟩
 rw [hM]
 exact B8.cast (x':=(AV.tup [(AV.st [(AV.s ((I6 (fs.getD (AC fs out).toNat default)).out)),(AV.i .i64 ((I6 (fs.getD (AC fs out).toNat default)).time)),((Az 1 AV.s) ((I6 (fs.getD (AC fs out).toNat default)).ins))]),(AV.b true)])) (y':=(AV.tup [(As.av (((⟨(I6 (fs.getD (AC fs out).toNat default)).out,(I6 (fs.getD (AC fs out).toNat default)).time,(I6 (fs.getD (AC fs out).toNat default)).ins⟩:As),true).1)),(AV.b (((⟨(I6 (fs.getD (AC fs out).toNat default)).out,(I6 (fs.getD (AC fs out).toNat default)).time,(I6 (fs.getD (AC fs out).toNat default)).ins⟩:As),true).2))])) kr kr (B8.tup ⟨Ec,⟨Ec,trivial⟩⟩ kr)
 refine Ct<|Sq<|Rg<|Nb FB<|Sp 0 HA<|Aq (AV.b false)<|Ad<|Rt ?_
 have hM:Md fs out=((⟨(⟨#[]⟩:ByteArray),(0:Int),[]⟩:As),false):=by simp only [Md,c_1,c_2,AZ]
 refine ⟨Or.inr rfl,FA,kr,?_⟩
 rw [hM]
 exact B8.cast (x':=FA) (y':=KC) kr kr (B8.tup ⟨(B8.st ⟨Ec,⟨Ec,⟨(B8.w rfl (AL.nil 1)),trivial⟩⟩⟩ kr),⟨Ec,trivial⟩⟩ kr)
 have k_1:=of_decide_eq_true c_1
 refine An<|An<|An<|Aq (AV.b true)<|Ad<|Ct<|Sq<|Rg<|Nb FB<|Sp 0 HA<|Aq (AV.b false)<|Ad<|Rt ?_
 have hM:Md fs out=((⟨(⟨#[]⟩:ByteArray),(0:Int),[]⟩:As),false):=by simp only [Md,c_1,AZ]
 refine ⟨Or.inr rfl,FA,kr,?_⟩
 rw [hM]
 exact B8.cast (x':=FA) (y':=KC) kr kr (B8.tup ⟨(B8.st ⟨Ec,⟨Ec,⟨(B8.w rfl (AL.nil 1)),trivial⟩⟩⟩ kr),⟨Ec,trivial⟩⟩ kr)
theorem Hc (W:World) {m0:Int} (hW:W.cell? ⟨0,0,none⟩=some (.int .i64 m0)) (l:Al) (s':ByteArray) (hz:l.state.sz≤1048576) (he:l.edge.sz≤1048576):Am Go.Proofs.Tryz.prog W 56 [(Al.av l),(AV.s s')] (AV.b (NK l s')) []:=by
 have hg1:=l.state.sz_graph
 have hg3:=l.state.sz_disk
 have hg4:=l.state.sz_log
 have hg5:=l.state.sz_deps
 refine Ao (fn:=Go.Proofs.Tryz.f56) Go.Proofs.Tryz.func56 rfl (en56 W) (ts:=[4]) rfl le<|Sq<|Rg<|Nn (AV.loc 0 0 0) ⟨104,2,[(Al.av l)]⟩<|Aq (AV.b false)<|Ad<|Sq<|Rg<|Aq (AV.loc 0 0 0)<|Aq (AV.pt (Ak.av l.state).cells)<|Aq (AV.pt (Ak.av l.state).cells)<|Aq (AV.pt ((Ak.av l.state).cells.drop 4))<|Aq (Aj.av l.state.disk)<|Aq (AV.s s')<|A2.sc0 (vs:=[(Aj.av l.state.disk),(AV.s s')]) (r0:=(AV.tup [(A3.av ((DT l.state.disk s').1)),(AV.b ((DT l.state.disk s').2))])) kr kr (K3 W hW l.state.disk s' sd) kr le<|Aq (AV.tup [(A3.av ((DT l.state.disk s').1)),(AV.b ((DT l.state.disk s').2))])<|Aq (A3.av ((DT l.state.disk s').1))<|Aq (AV.b ((DT l.state.disk s').2))<|Nn (AV.loc 1 0 0) ⟨85,3,[(AV.st [(AV.s (⟨#[]⟩:ByteArray)),(AV.i .i64 (0:Int)),(AV.i .i64 (0:Int))])]⟩<|Sp 1 ⟨85,3,[(AV.st [(AV.s (((DT l.state.disk s').1).name)),(AV.i .i64 (((DT l.state.disk s').1).content)),(AV.i .i64 (((DT l.state.disk s').1).time))])]⟩<|Aq (AV.b ((DT l.state.disk s').2))<|Ad<|Sq<|Rg<|Aq (AV.b ((DT l.state.disk s').2))<|Aq (AV.b (!(DT l.state.disk s').2))<|Aq (AV.b (!(DT l.state.disk s').2)) ?_
 cases c_1:(!(DT l.state.disk s').2)
 refine An<|An<|An<|An<|An<|An<|An<|Aq (AV.b false)<|Aq (AV.b false)<|Ad<|Rt ?_
 exact Fb rfl (by simp only [NK,c_1,AZ])
 refine Ay<|Aq (AV.loc 0 0 0)<|Ay<|Aq (AV.pt (Ak.av l.state).cells)<|Ay<|Aq (AV.pt (Ak.av l.state).cells)<|Ay<|Aq (AV.pt ((Ak.av l.state).cells.drop 0))<|Ay<|Aq (AV.s s')<|Ay<|A2.sc0 (vs:=[(AV.pt ((Ak.av l.state).cells.drop 0)),(AV.s s')]) (r0:=(AV.i .i64 (FJ l.state.graph s'))) kr kr ((HR W l.state.graph s').wk ⟨Nx 3 kr,⟨AL.refl _,trivial⟩⟩) kr le<|Ay<|Aq (AV.b (decide ((FJ l.state.graph s')<(0:Int))))<|Aq (AV.b (decide ((FJ l.state.graph s')<(0:Int))))<|Aq (AV.b (decide ((FJ l.state.graph s')<(0:Int))))<|Ad<|Rt ?_
 exact Fb rfl (by simp only [NK,c_1,AZ])
def Cg (l:Al):AV:=(AV.s ((N1 l.edge).1))
def Ce (l:Al):AV:=(AV.pt (Ak.av l.state).cells)
theorem Le (W:World) {m0:Int} (hW:W.cell? ⟨0,0,none⟩=some (.int .i64 m0)) (l:Al) (hz:l.state.sz≤1048576) (he:l.edge.sz≤1048576):Am Go.Proofs.Tryz.prog W 97 [(Al.av l)] (AV.i .i64 (MI l)) []:=by
 have hg1:=l.state.sz_graph
 have hg3:=l.state.sz_disk
 have hg4:=l.state.sz_log
 have hg5:=l.state.sz_deps
 refine Ao (fn:=Go.Proofs.Tryz.f97) Go.Proofs.Tryz.func97 rfl (en97 W) (ts:=[2]) rfl le<|Sq<|Rg<|Nn (AV.loc 0 0 0) ⟨104,2,[(Al.av l)]⟩<|Aq (AV.i .i64 (0:Int))<|Ad<|Sq<|Rg<|Aq (AV.loc 0 0 1)<|Aq (AV.pt (AB.av l.edge).cells)<|Aq (AV.pt (AB.av l.edge).cells)<|Aq (AB.av l.edge)<|A2.sc0 (vs:=[(AB.av l.edge)]) (r0:=(AV.tup [(Cg l),(AV.i .i64 ((N1 l.edge).2))])) kr kr (W7 W hW l.edge sd) kr le<|Aq (AV.tup [(Cg l),(AV.i .i64 ((N1 l.edge).2))])<|Aq (Cg l)<|Aq (AV.i .i64 ((N1 l.edge).2))<|Aq (Cg l)<|Aq (AV.i .i64 ((N1 l.edge).2))<|Ad<|Sq<|Rg<|Aq (AV.loc 0 0 0)<|Aq (Ce l)<|Aq (Ce l)<|Aq (AV.pt ((Ak.av l.state).cells.drop 4))<|Aq (AV.pt ((Ak.av l.state).cells.drop 4))<|Aq (AV.i .i64 l.state.disk.clock)<|Aq (AV.i .i64 l.state.disk.clock)<|Ad<|Sq<|Sq<|Rg<|Aq (AV.loc 0 0 1)<|Aq (AV.pt (AB.av l.edge).cells)<|Aq (AV.pt (AB.av l.edge).cells)<|Aq (AV.pt ((AB.av l.edge).cells.drop 0))<|Aq ((Az 1 AV.s) l.edge.outs)<|Ap (Ai l.edge.outs.length) (Cs (k:=1) (nl:=false) (e:=9) (A:=AV.s) (xs:=l.edge.outs) kr kr)<|Aq (AV.i .i64 (0:Int))<|Ad<|Ag.block<|Ag.lim 30 (x:=((Az 1 AV.s) l.edge.outs)) kr fun hlm1=> ?_
 have hB1:l.edge.outs.length≤281474976710656:=CI hlm1
 obtain ⟨R1,hR1⟩: ∃R,Ot l l.edge.outs 0 l.state.disk.clock=R:=⟨_,rfl⟩
 refine Bl (fun ((out,v32):Int×Nat)=>[(1,(AV.loc 0 0 0)),(3,(Cg l)),(30,((Az 1 AV.s) l.edge.outs)),(31,(Ai l.edge.outs.length)),(5,(AV.i .i64 out)),(32,(Ai v32))]) (fun ((out,v32):Int×Nat)=>⟨1,[(0,some ⟨104,2,[(Al.av l)]⟩)]⟩) (fun ((out,v32):Int×Nat)=>v32≤l.edge.outs.length∧Ot l (l.edge.outs.drop v32) v32 out=R1) (fun ((out,v32):Int×Nat)=>l.edge.outs.length-v32) (l.state.disk.clock,0) ?_ ?_ ?_
 exact ⟨[0],⟨by decide,rfl,(A0.cons kr A0.nil),(Au.cons (B8.f kr) (Ee (Ee (Ee (Ee (Ee Au.nil))))))⟩,AE⟩
 exact ⟨od,hR1⟩
 rintro ⟨out,v32⟩ ⟨hi1,hE1⟩
 try dsimp only
 refine Sq<|Rg<|Aq (AV.b (decide (((v32:Nat):Int)<((l.edge.outs.length:Nat):Int))))<|Ad<|Sq ?_
 rcases Nat.lt_or_ge v32 l.edge.outs.length with hl1|hl1
 have hc1:decide (((v32:Nat):Int)<((l.edge.outs.length:Nat):Int))=true:=decide_eq_true (by omega)
 refine Ag.cond (t:=true) (by rw [←hc1]<;>kernel_rfl) (Ag.skip ?_)
 obtain ⟨x1,hx1⟩: ∃x,l.edge.outs[v32]? =some x:=⟨_,List.getElem?_eq_getElem hl1⟩
 rw [Bo hx1,Ot.eq_2] at hE1
 refine Sq<|Ag.block<|Sq<|Rg<|Ap (AV.pt (AV.s x1).cells) (C8 (k:=1) (nl:=false) (e:=9) (kk:= .i64) (A:=AV.s) (xs:=l.edge.outs) (i:=v32) kr kr kr ⟨by kernel_rfl,by decide⟩ hx1)<|Aq (AV.s x1)<|Aq (AV.s x1)<|Ad<|Sq<|Rg<|Aq (AV.loc 0 0 0)<|Aq (Ce l)<|Aq (Ce l)<|Aq (AV.pt ((Ak.av l.state).cells.drop 4))<|Aq (Aj.av l.state.disk)<|Aq (AV.s x1)<|A2.sc0 (vs:=[(Aj.av l.state.disk),(AV.s x1)]) (r0:=(AV.tup [(A3.av ((DT l.state.disk x1).1)),(AV.b ((DT l.state.disk x1).2))])) kr kr (K3 W hW l.state.disk x1 sd) kr le<|Aq (AV.tup [(A3.av ((DT l.state.disk x1).1)),(AV.b ((DT l.state.disk x1).2))])<|Aq (A3.av ((DT l.state.disk x1).1))<|Aq (AV.b ((DT l.state.disk x1).2))<|Nn (AV.loc 1 0 0) ⟨85,3,[(AV.st [(AV.s (⟨#[]⟩:ByteArray)),(AV.i .i64 (0:Int)),(AV.i .i64 (0:Int))])]⟩<|Sp 1 ⟨85,3,[(AV.st [(AV.s (((DT l.state.disk x1).1).name)),(AV.i .i64 (((DT l.state.disk x1).1).content)),(AV.i .i64 (((DT l.state.disk x1).1).time))])]⟩<|Aq (AV.b ((DT l.state.disk x1).2))<|Ad<|Sq<|Rg<|Aq (AV.loc 0 0 0)<|Aq (Ce l)<|Aq (Ce l)<|Aq (AV.pt ((Ak.av l.state).cells.drop 6))<|Aq ((Az 3 Ae.av) l.state.log)<|Aq (AV.s x1)<|A2.sc0 (vs:=[((Az 3 Ae.av) l.state.log),(AV.s x1)]) (r0:=(AV.tup [(Ae.av ((Fm l.state.log x1).1)),(AV.b ((Fm l.state.log x1).2))])) kr kr (Uw W hW l.state.log x1 sd) kr le ?_
 refine Aq (AV.tup [(Ae.av ((Fm l.state.log x1).1)),(AV.b ((Fm l.state.log x1).2))])<|Aq (Ae.av ((Fm l.state.log x1).1))<|Aq (AV.b ((Fm l.state.log x1).2))<|Nn (AV.loc 2 0 0) ⟨56,3,[(AV.st [(AV.s (⟨#[]⟩:ByteArray)),(AV.i .i64 (0:Int)),(AV.s (⟨#[]⟩:ByteArray))])]⟩<|Sp 2 ⟨56,3,[(AV.st [(AV.s (((Fm l.state.log x1).1).out)),(AV.i .i64 (((Fm l.state.log x1).1).time)),(AV.s (((Fm l.state.log x1).1).sign))])]⟩<|Aq (AV.b ((Fm l.state.log x1).2))<|Ad<|Sq<|Sq<|Rg<|Aq (AV.b ((DT l.state.disk x1).2))<|Aq (AV.b (!(DT l.state.disk x1).2))<|Aq (AV.b (!(DT l.state.disk x1).2)) ?_
 cases c_1:(!(DT l.state.disk x1).2)
 refine Ay<|Aq (AV.b ((Fm l.state.log x1).2))<|Ay<|Aq (AV.b (!(Fm l.state.log x1).2))<|Aq (AV.b (!(Fm l.state.log x1).2))<|Aq (AV.b (!(Fm l.state.log x1).2)) ?_
 cases c_2:(!(Fm l.state.log x1).2)
 refine Ay<|Aq (AV.loc 2 0 2)<|Ay<|Aq (AV.s (((Fm l.state.log x1).1).sign))<|Ay<|Aq (Cg l)<|Ay<|Aq (AV.b (!decide (((Fm l.state.log x1).1).sign=(N1 l.edge).1)))<|Aq (AV.b (!decide (((Fm l.state.log x1).1).sign=(N1 l.edge).1)))<|Aq (AV.b (!decide (((Fm l.state.log x1).1).sign=(N1 l.edge).1))) ?_
 cases c_3:(!decide (((Fm l.state.log x1).1).sign=(N1 l.edge).1))
 have k_3:=nde c_3
 refine Ay<|Aq (AV.loc 2 0 1)<|Ay<|Aq (AV.i .i64 (((Fm l.state.log x1).1).time))<|Ay<|Aq (AV.loc 1 0 2)<|Ay<|Aq (AV.i .i64 (((DT l.state.disk x1).1).time))<|Ay<|Aq (AV.b (!decide (((Fm l.state.log x1).1).time=((DT l.state.disk x1).1).time)))<|Aq (AV.b (!decide (((Fm l.state.log x1).1).time=((DT l.state.disk x1).1).time)))<|Ad ?_
 cases c_4:(!decide (((Fm l.state.log x1).1).time=((DT l.state.disk x1).1).time))
 have k_4:=nde c_4
 refine Cf<|Ag.skip<|Rg<|Aq (AV.i .i64 out)<|Aq (AV.loc 1 0 2)<|Aq (AV.i .i64 (((DT l.state.disk x1).1).time))<|Aq (AV.i .i64 (if ((DT l.state.disk x1).1).time<out then ((DT l.state.disk x1).1).time else out))<|Aq (AV.i .i64 (if ((DT l.state.disk x1).1).time<out then ((DT l.state.disk x1).1).time else out))<|Ad<|Rg<|Ap (Ai (v32+1)) (B5 (i:=v32) (m:=1) kr kr sd)<|Aq (Ai (v32+1))<|Ad ?_
 try simp only [c_1,c_2,c_3,c_4,AZ] at hE1
 refine ⟨((if ((DT l.state.disk x1).1).time<out then ((DT l.state.disk x1).1).time else out),v32+1),od,⟨od,hE1⟩,?_⟩
 exact ⟨[0],⟨by decide,rfl,(A0.cons kr A0.nil),(Au.cons (B8.f kr) (Ee (Ee (Ee (Ee (Ee Au.nil))))))⟩,AE⟩
 have k_4:=ndt c_4
 refine Ct<|Sq<|Rg<|Aq (AV.i .i64 (-1:Int))<|Ad<|Rt ?_
 try simp only [c_1,c_2,c_3,c_4,AZ] at hE1
 subst hE1
 exact Fi rfl (by simp only [MI,hR1,AZ])
 have k_3:=ndt c_3
 refine An<|An<|An<|An<|An<|Aq (AV.b true)<|Ad<|Ct<|Sq<|Rg<|Aq (AV.i .i64 (-1:Int))<|Ad<|Rt ?_
 try simp only [c_1,c_2,c_3,AZ] at hE1
 subst hE1
 exact Fi rfl (by simp only [MI,hR1,AZ])
 refine An<|An<|An<|An<|Aq (AV.b true)<|Aq (AV.b true)<|An<|An<|An<|An<|An<|Aq (AV.b true)<|Ad<|Ct<|Sq<|Rg<|Aq (AV.i .i64 (-1:Int))<|Ad<|Rt ?_
 try simp only [c_1,c_2,AZ] at hE1
 subst hE1
 exact Fi rfl (by simp only [MI,hR1,AZ])
 refine An<|An<|Aq (AV.b true)<|Aq (AV.b true)<|An<|An<|An<|An<|Aq (AV.b true)<|Aq (AV.b true)<|An<|An<|An<|An<|An<|Aq (AV.b true)<|Ad<|Ct<|Sq<|Rg<|Aq (AV.i .i64 (-1:Int))<|Ad<|Rt ?_
 try simp only [c_1,AZ] at hE1
 subst hE1
 exact Fi rfl (by simp only [MI,hR1,AZ])
 have hc1:decide (((v32:Nat):Int)<((l.edge.outs.length:Nat):Int))=false:=decide_eq_false (by omega)
 refine Ag.cond (t:=false) (by rw [←hc1]<;>kernel_rfl) (Ag.exit ?_)
 rw [List.drop_eq_nil_of_le (hl1),Ot.eq_1] at hE1
 subst hE1
 refine Sq<|Rg<|Aq (AV.i .i64 out)<|Aq (AV.i .i64 out)<|Ad<|Rt ?_
 exact Fi rfl (by simp only [MI,hR1,AZ])
theorem L3 (W:World) {m0:Int} (hW:W.cell? ⟨0,0,none⟩=some (.int .i64 m0)) (s':ByteArray) (l:Al) (time:Int) (hz:l.state.sz≤1048576) (he:l.edge.sz≤1048576):Am Go.Proofs.Tryz.prog W 146 [(AV.s s'),(AV.pt (Al.av l).cells),(AV.pt ((AV.i .i64) time).cells)] (AV.b (S4 s' l time)) []:=by
 have hg1:=l.state.sz_graph
 have hg3:=l.state.sz_disk
 have hg4:=l.state.sz_log
 have hg5:=l.state.sz_deps
 refine Ao (fn:=Go.Proofs.Tryz.f146) Go.Proofs.Tryz.func146 rfl (en146 W) (ts:=[4]) rfl le<|Sq<|Rg<|Aq (AV.b false)<|Ad<|Sq<|Rg<|Aq (AV.pt ((Al.av l).cells.drop 0))<|Aq (AV.pt (Ak.av l.state).cells)<|Aq (AV.pt (Ak.av l.state).cells)<|Aq (AV.pt ((Ak.av l.state).cells.drop 4))<|Aq (Aj.av l.state.disk)<|Aq (AV.s s')<|A2.sc0 (vs:=[(Aj.av l.state.disk),(AV.s s')]) (r0:=(AV.tup [(A3.av ((DT l.state.disk s').1)),(AV.b ((DT l.state.disk s').2))])) kr kr (K3 W hW l.state.disk s' sd) kr le<|Aq (AV.tup [(A3.av ((DT l.state.disk s').1)),(AV.b ((DT l.state.disk s').2))])<|Aq (A3.av ((DT l.state.disk s').1))<|Aq (AV.b ((DT l.state.disk s').2))<|Nn (AV.loc 0 0 0) ⟨85,3,[(AV.st [(AV.s (⟨#[]⟩:ByteArray)),(AV.i .i64 (0:Int)),(AV.i .i64 (0:Int))])]⟩<|Sp 0 ⟨85,3,[(AV.st [(AV.s (((DT l.state.disk s').1).name)),(AV.i .i64 (((DT l.state.disk s').1).content)),(AV.i .i64 (((DT l.state.disk s').1).time))])]⟩<|Aq (AV.b ((DT l.state.disk s').2))<|Ad<|Sq<|Rg<|Aq (AV.b ((DT l.state.disk s').2))<|Aq (AV.b (!(DT l.state.disk s').2))<|Aq (AV.b (!(DT l.state.disk s').2)) ?_
 cases c_1:(!(DT l.state.disk s').2)
 refine Ay<|Aq (AV.loc 0 0 2)<|Ay<|Aq (AV.i .i64 (((DT l.state.disk s').1).time))<|Ay<|Aq (AV.i .i64 time)<|Ay<|Aq (AV.b (decide (time<((DT l.state.disk s').1).time)))<|Aq (AV.b (decide (time<((DT l.state.disk s').1).time)))<|Aq (AV.b (decide (time<((DT l.state.disk s').1).time)))<|Ad<|Rt ?_
 exact Fb rfl (by simp only [S4,c_1,AZ])
 refine An<|An<|An<|An<|Aq (AV.b true)<|Aq (AV.b true)<|Ad<|Rt ?_
 exact Fb rfl (by simp only [S4,c_1,AZ])
theorem Hd (W:World) (s':List ByteArray) (f_f:FuncId) (c_f:List AV) (f:ByteArray→Bool) (hcl_f:Af c_f=true) (hp_f: ∀(z0:ByteArray),Am Go.Proofs.Tryz.prog W f_f ((AV.s z0)::c_f) (AV.b (f z0)) []):Am Go.Proofs.Tryz.prog W 95 [((Az 1 AV.s) s'),(AV.fn f_f c_f)] (AV.i .i64 (Ul s' f)) []:=by
 refine Ao (fn:=Go.Proofs.Tryz.f95) Go.Proofs.Tryz.func95 rfl (en95 W) (ts:=[4]) rfl le<|Sq<|Rg<|Aq (AV.i .i64 (0:Int))<|Ad<|Sq<|Sq<|Rg<|Aq ((Az 1 AV.s) s')<|Ap (Ai s'.length) (Cs (k:=1) (nl:=false) (e:=9) (A:=AV.s) (xs:=s') kr kr)<|Aq (AV.i .i64 (0:Int))<|Ad<|Ag.block<|Ag.lim 0 (x:=((Az 1 AV.s) s')) kr fun hlm1=> ?_
 have hB1:s'.length≤281474976710656:=CI hlm1
 obtain ⟨R1,hR1⟩: ∃R,Vw f s' 0=R:=⟨_,rfl⟩
 refine Bl (fun (v8:Nat)=>[(0,((Az 1 AV.s) s')),(1,(AV.fn f_f c_f)),(7,(Ai s'.length)),(8,(Ai v8))]) (fun (v8:Nat)=>⟨0,[]⟩) (fun (v8:Nat)=>v8≤s'.length∧Vw f (s'.drop v8) v8=R1) (fun (v8:Nat)=>s'.length-v8) 0 ?_ ?_ ?_
 exact ⟨[],⟨by decide,rfl,A0.nil,(Ee (Au.cons (B8.c kr hcl_f) (Ee (Ee Au.nil))))⟩,AE⟩
 exact ⟨od,hR1⟩
 rintro v8 ⟨hi1,hE1⟩
 try dsimp only
 refine Sq<|Rg<|Aq (AV.b (decide (((v8:Nat):Int)<((s'.length:Nat):Int))))<|Ad<|Sq ?_
 rcases Nat.lt_or_ge v8 s'.length with hl1|hl1
 have hc1:decide (((v8:Nat):Int)<((s'.length:Nat):Int))=true:=decide_eq_true (by omega)
 refine Ag.cond (t:=true) (by rw [←hc1]<;>kernel_rfl) (Ag.skip ?_)
 obtain ⟨x1,hx1⟩: ∃x,s'[v8]? =some x:=⟨_,List.getElem?_eq_getElem hl1⟩
 rw [Bo hx1,Vw.eq_2] at hE1
 refine Sq<|Ag.block<|Sq<|Rg<|Aq (Ai v8)<|Aq (Ai v8)<|Ad<|Sq<|Rg<|Aq (AV.fn f_f c_f)<|Aq ((Az 1 AV.s) s')<|Aq (Ai v8)<|Ap (AV.pt (AV.s x1).cells) (C8 (k:=1) (nl:=false) (e:=9) (kk:= .i64) (A:=AV.s) (xs:=s') (i:=v8) kr kr kr ⟨by kernel_rfl,by decide⟩ hx1)<|Aq (AV.s x1)<|A2.sc0 (vs:=((AV.s x1)::c_f)) (r0:=(AV.b (f x1))) kr (by simp only [Af,Bool.and_eq_true];exact ⟨by kernel_rfl,hcl_f⟩) (hp_f x1) kr le<|Ad ?_
 cases c_1:(f x1)
 refine Cf<|Ag.skip<|Rg<|Ap (Ai (v8+1)) (B5 (i:=v8) (m:=1) kr kr sd)<|Aq (Ai (v8+1))<|Ad ?_
 try simp only [c_1,AZ] at hE1
 refine ⟨v8+1,od,⟨od,hE1⟩,?_⟩
 exact ⟨[],⟨by decide,rfl,A0.nil,(Ee (Au.cons (B8.c kr hcl_f) (Ee (Ee Au.nil))))⟩,AE⟩
 refine Ct<|Sq<|Rg<|Aq (Ai v8)<|Aq (Ai v8)<|Ad<|Rt ?_
 try simp only [c_1,AZ] at hE1
 subst hE1
 exact Fi rfl (by simp only [Ul,hR1,AZ])
 have hc1:decide (((v8:Nat):Int)<((s'.length:Nat):Int))=false:=decide_eq_false (by omega)
 refine Ag.cond (t:=false) (by rw [←hc1]<;>kernel_rfl) (Ag.exit ?_)
 rw [List.drop_eq_nil_of_le (hl1),Vw.eq_1] at hE1
 subst hE1
 refine Sq<|Rg<|Aq (AV.i .i64 (-1:Int))<|Ad<|Rt ?_
 exact Fi rfl (by simp only [Ul,hR1,AZ])
theorem CE (W:World) (s':List ByteArray) (f_f:FuncId) (c_f:List AV) (f:ByteArray→Bool) (hcl_f:Af c_f=true) (hp_f: ∀(z0:ByteArray),Am Go.Proofs.Tryz.prog W f_f ((AV.s z0)::c_f) (AV.b (f z0)) []):Am Go.Proofs.Tryz.prog W 54 [((Az 1 AV.s) s'),(AV.fn f_f c_f)] (AV.b (X6 s' f)) []:=by
 refine Ao (fn:=Go.Proofs.Tryz.f54) Go.Proofs.Tryz.func54 rfl (en54 W) (ts:=[4]) rfl le<|Sq<|Rg<|Aq (AV.b false)<|Ad<|Sq<|Rg<|Aq ((Az 1 AV.s) s')<|Aq (AV.fn f_f c_f)<|A2.sc0 (vs:=[((Az 1 AV.s) s'),(AV.fn f_f c_f)]) (r0:=(AV.i .i64 (Ul s' f))) kr (by simp only [Af,Bool.and_eq_true];exact ⟨by kernel_rfl,hcl_f,trivial⟩) (Hd W s' f_f c_f f hcl_f hp_f) kr le<|Aq (AV.b (decide ((0:Int)≤(Ul s' f))))<|Aq (AV.b (decide ((0:Int)≤(Ul s' f))))<|Ad<|Rt ?_
 exact Fb rfl (by simp only [X6,AZ])
theorem Fq (W:World) {m0:Int} (hW:W.cell? ⟨0,0,none⟩=some (.int .i64 m0)) (l:Al) (ss:List ByteArray) (time:Int) (hz:l.state.sz≤1048576) (he:l.edge.sz≤1048576):Am Go.Proofs.Tryz.prog W 98 [(Al.av l),((Az 1 AV.s) ss),(AV.i .i64 time)] (AV.b (Sy l ss time)) []:=by
 have hg1:=l.state.sz_graph
 have hg3:=l.state.sz_disk
 have hg4:=l.state.sz_log
 have hg5:=l.state.sz_deps
 refine Ao (fn:=Go.Proofs.Tryz.f98) Go.Proofs.Tryz.func98 rfl (en98 W) (ts:=[6]) rfl le<|Sq<|Rg<|Nn (AV.loc 0 0 0) ⟨104,2,[(Al.av l)]⟩<|Nn (AV.loc 1 0 0) ⟨3,1,[(AV.i .i64 time)]⟩<|Aq (AV.b false)<|Ad<|Sq<|Rg<|Aq ((Az 1 AV.s) ss)<|Aq (AV.fn 146 [(AV.loc 0 0 0),(AV.loc 1 0 0)])<|A2.sfw (vs:=[((Az 1 AV.s) ss),(AV.fn 146 [(AV.loc 0 0 0),(AV.loc 1 0 0)])]) (ss:=[((Az 1 AV.s) ss),(AV.fn 146 [(AV.pt (Al.av l).cells),(AV.pt ((AV.i .i64) time).cells)])]) (r0:=(AV.b (X6 ss (fun z0=>S4 z0 l time)))) kr (show Bs _ _ _ from ⟨(Bs.e kr),⟨(A6.w (A6.cast (x':=(AV.fn 146 [(AV.loc 0 0 0),(AV.loc 1 0 0)])) kr kr (A6.fn (A1.cons (Dv Al.av l (id:=0) rfl rfl kr) (A1.cons (Ko (id:=1) (j:=0) (ob:=⟨3,1,[(AV.i .i64 time)]⟩) (x:=(AV.i .i64 time)) rfl rfl rfl rfl (A7 (x:=(AV.i .i64 time)) kr)) A1.nil))))),trivial⟩⟩) (CE W ss 146 [(AV.pt (Al.av l).cells),(AV.pt ((AV.i .i64) time).cells)] (fun z0=>S4 z0 l time) kr (fun z0=>(L3 W hW z0 l time sd sd))) rfl kr le<|Aq (AV.b (X6 ss (fun z0=>S4 z0 l time)))<|Ad<|Rt ?_
 exact Fb rfl (by simp only [Sy,AZ])
def BD (l:Al):AV:=(AV.pt (AB.av l.edge).cells)
def CS (l:Al):Obj:=⟨104,2,[(Al.av l)]⟩
def Co (l:Al):AV:=(AV.s (l.edge.outs.getD 0 default))
def BJ (l:Al):AV:=(AV.i .i64 (MI l))
def Eg (l:Al):AV:=((Az 1 AV.s) (((Md l.state.deps (l.edge.outs.getD 0 default)).1).ins))
def GB (l:Al):AV:=(AV.tup [(A3.av ((DT l.state.disk (l.edge.outs.getD 0 default)).1)),(AV.b ((DT l.state.disk (l.edge.outs.getD 0 default)).2))])
def GA (l:Al):AV:=(AV.tup [(As.av ((Md l.state.deps (l.edge.outs.getD 0 default)).1)),(AV.b ((Md l.state.deps (l.edge.outs.getD 0 default)).2))])
def Ef (l:Al):Obj:=⟨61,3,[(AV.st [(AV.s (((Md l.state.deps (l.edge.outs.getD 0 default)).1).out)),(AV.i .i64 (((Md l.state.deps (l.edge.outs.getD 0 default)).1).time)),(Eg l)])]⟩
theorem I2 (W:World) {m0:Int} (hW:W.cell? ⟨0,0,none⟩=some (.int .i64 m0)) (l:Al) (hz:l.state.sz≤1048576) (he:l.edge.sz≤1048576) (ho:0<l.edge.outs.length):Am Go.Proofs.Tryz.prog W 57 [(Al.av l)] (AV.b (Th l)) []:=by
 have hg1:=l.state.sz_graph
 have hg3:=l.state.sz_disk
 have hg4:=l.state.sz_log
 have hg5:=l.state.sz_deps
 refine Ao (fn:=Go.Proofs.Tryz.f57) Go.Proofs.Tryz.func57 rfl (en57 W) (ts:=[2]) rfl le<|Sq<|Rg<|Nn (AV.loc 0 0 0) (CS l)<|Aq (AV.b false)<|Ad<|Sq<|Rg<|Aq (Al.av l)<|A2.sc0 (vs:=[(Al.av l)]) (r0:=(BJ l)) kr kr (Le W hW l sd sd) kr le<|Aq (BJ l)<|Ad<|Sq<|Sq<|Ag.drawn Aa Eb 20 kr le<|Dq (BJ l)<|Dq (AV.b (decide ((MI l)<(0:Int))))<|Dq (AV.b (decide ((MI l)<(0:Int)))) ?_
 cases c_1:decide ((MI l)<(0:Int))
 have k_1:=of_decide_eq_false c_1
 refine Dy<|Dq (Al.av l)<|Dy<|Dq (AV.loc 0 0 1)<|Dy<|Dq (BD l)<|Dy<|Dq (BD l)<|Dy<|Dq (AV.pt ((AB.av l.edge).cells.drop 1))<|Dy<|Dq ((Az 1 AV.s) l.edge.ins)<|Dy<|Dq (BJ l)<|Dy<|Aw.sc0 (vs:=[(Al.av l),((Az 1 AV.s) l.edge.ins),(BJ l)]) (r0:=(AV.b (Sy l l.edge.ins (MI l)))) kr kr (Fq W hW l l.edge.ins (MI l) sd sd) kr le<|Dq (AV.b (Sy l l.edge.ins (MI l)))<|Dq (AV.b (Sy l l.edge.ins (MI l))) ?_
 cases c_2:(Sy l l.edge.ins (MI l))
 refine Dy<|Dq (Al.av l)<|Dy<|Dq (AV.loc 0 0 1)<|Dy<|Dq (BD l)<|Dy<|Dq (BD l)<|Dy<|Dq (AV.pt ((AB.av l.edge).cells.drop 2))<|Dy<|Dq ((Az 1 AV.s) l.edge.implicit)<|Dy<|Dq (BJ l)<|Dy<|Aw.sc0 (vs:=[(Al.av l),((Az 1 AV.s) l.edge.implicit),(BJ l)]) (r0:=(AV.b (Sy l l.edge.implicit (MI l)))) kr kr (Fq W hW l l.edge.implicit (MI l) sd sd) kr le<|Dq (AV.b (Sy l l.edge.implicit (MI l)))<|Aw.fin ?_
 cases c_3:(Sy l l.edge.implicit (MI l))
 refine Cf<|Ag.skip<|Sq<|Sq<|Rg<|Aq (AV.loc 0 0 1)<|Aq (BD l)<|Aq (BD l)<|Aq (AV.pt ((AB.av l.edge).cells.drop 5))<|Aq (AV.b l.edge.deps)<|Aq (AV.b (!l.edge.deps))<|Ad ?_
 cases c_4:(!l.edge.deps)
 refine Cf<|Ag.skip<|Sq<|Hm Aa Eb 17 [15] kr kr kr le<|Dq (AV.loc 0 0 0)<|Dq (AV.pt (Ak.av l.state).cells)<|Dq (AV.pt (Ak.av l.state).cells)<|Dq (AV.pt ((Ak.av l.state).cells.drop 7))<|Dq ((Az 3 As.av) l.state.deps)<|Dq (AV.loc 0 0 1)<|Dq (BD l)<|Dq (BD l)<|Dq (AV.pt ((AB.av l.edge).cells.drop 0))<|Dq ((Az 1 AV.s) l.edge.outs)<|Dp (AV.pt (Co l).cells) (C8 (k:=1) (nl:=false) (e:=9) (kk:= .i64) (A:=AV.s) (xs:=l.edge.outs) (i:=0) kr kr kr ⟨by kernel_rfl,by decide⟩ (getD_some sd))<|Dq (Co l)<|Aw.sc0 (vs:=[((Az 3 As.av) l.state.deps),(Co l)]) (r0:=(GA l)) kr kr (QB W hW l.state.deps (l.edge.outs.getD 0 default) sd) kr le<|Dq (GA l)<|Dq (As.av ((Md l.state.deps (l.edge.outs.getD 0 default)).1))<|Dq (AV.b ((Md l.state.deps (l.edge.outs.getD 0 default)).2))<|Aw.sn (x:=(AV.loc 1 0 0)) (h':=⟨2,[(1,some ⟨61,3,[(AV.st [(AV.s (⟨#[]⟩:ByteArray)),(AV.i .i64 (0:Int)),(AV.sl 1 true [])])]⟩),(0,some (CS l))]⟩) kr le ?_
 refine Aw.st (by decide) (x:=AV.und) (h':=⟨2,[(1,some (Ef l)),(0,some (CS l))]⟩) kr<|Dq (AV.b ((Md l.state.deps (l.edge.outs.getD 0 default)).2))<|Aw.fin<|Sq<|Hm Aa Eb 17 [15] kr kr kr le<|Dq (AV.loc 0 0 0)<|Dq (AV.pt (Ak.av l.state).cells)<|Dq (AV.pt (Ak.av l.state).cells)<|Dq (AV.pt ((Ak.av l.state).cells.drop 4))<|Dq (Aj.av l.state.disk)<|Dq (AV.loc 0 0 1)<|Dq (BD l)<|Dq (BD l)<|Dq (AV.pt ((AB.av l.edge).cells.drop 0))<|Dq ((Az 1 AV.s) l.edge.outs)<|Dp (AV.pt (Co l).cells) (C8 (k:=1) (nl:=false) (e:=9) (kk:= .i64) (A:=AV.s) (xs:=l.edge.outs) (i:=0) kr kr kr ⟨by kernel_rfl,by decide⟩ (getD_some sd))<|Dq (Co l)<|Aw.sc0 (vs:=[(Aj.av l.state.disk),(Co l)]) (r0:=(GB l)) kr kr (K3 W hW l.state.disk (l.edge.outs.getD 0 default) sd) kr le<|Dq (GB l) ?_
 refine Dq (A3.av ((DT l.state.disk (l.edge.outs.getD 0 default)).1))<|Dq (AV.b ((DT l.state.disk (l.edge.outs.getD 0 default)).2))<|Aw.sn (x:=(AV.loc 2 0 0)) (h':=⟨3,[(2,some ⟨85,3,[(AV.st [(AV.s (⟨#[]⟩:ByteArray)),(AV.i .i64 (0:Int)),(AV.i .i64 (0:Int))])]⟩),(1,some (Ef l)),(0,some (CS l))]⟩) kr le<|Aw.st (by decide) (x:=AV.und) (h':=⟨3,[(2,some ⟨85,3,[(AV.st [(AV.s (((DT l.state.disk (l.edge.outs.getD 0 default)).1).name)),(AV.i .i64 (((DT l.state.disk (l.edge.outs.getD 0 default)).1).content)),(AV.i .i64 (((DT l.state.disk (l.edge.outs.getD 0 default)).1).time))])]⟩),(1,some (Ef l)),(0,some (CS l))]⟩) kr<|Dq (AV.b ((DT l.state.disk (l.edge.outs.getD 0 default)).2))<|Aw.fin<|Sq<|Rg<|Aq (AV.b ((Md l.state.deps (l.edge.outs.getD 0 default)).2))<|Aq (AV.b (!(Md l.state.deps (l.edge.outs.getD 0 default)).2)) ?_
 refine Aq (AV.b (!(Md l.state.deps (l.edge.outs.getD 0 default)).2)) ?_
 cases c_5:(!(Md l.state.deps (l.edge.outs.getD 0 default)).2)
 refine Ay<|Aq (AV.loc 1 0 1)<|Ay<|Aq (AV.i .i64 (((Md l.state.deps (l.edge.outs.getD 0 default)).1).time))<|Ay<|Aq (AV.loc 2 0 2)<|Ay<|Aq (AV.i .i64 (((DT l.state.disk (l.edge.outs.getD 0 default)).1).time))<|Ay<|Aq (AV.b (!decide (((Md l.state.deps (l.edge.outs.getD 0 default)).1).time=((DT l.state.disk (l.edge.outs.getD 0 default)).1).time)))<|Aq (AV.b (!decide (((Md l.state.deps (l.edge.outs.getD 0 default)).1).time=((DT l.state.disk (l.edge.outs.getD 0 default)).1).time)))<|Aq (AV.b (!decide (((Md l.state.deps (l.edge.outs.getD 0 default)).1).time=((DT l.state.disk (l.edge.outs.getD 0 default)).1).time))) ?_
 cases c_6:(!decide (((Md l.state.deps (l.edge.outs.getD 0 default)).1).time=((DT l.state.disk (l.edge.outs.getD 0 default)).1).time))
 have k_6:=nde c_6
 refine Ay<|Aq (Al.av l)<|Ay<|Aq (AV.loc 1 0 2)<|Ay<|Aq (Eg l)<|Ay<|Aq (BJ l)<|Ay<|A2.sc0 (vs:=[(Al.av l),(Eg l),(BJ l)]) (r0:=(AV.b (Sy l (((Md l.state.deps (l.edge.outs.getD 0 default)).1).ins) (MI l)))) kr kr (Fq W hW l (((Md l.state.deps (l.edge.outs.getD 0 default)).1).ins) (MI l) sd sd) kr le<|Aq (AV.b (Sy l (((Md l.state.deps (l.edge.outs.getD 0 default)).1).ins) (MI l)))<|Aq (AV.b (Sy l (((Md l.state.deps (l.edge.outs.getD 0 default)).1).ins) (MI l)))<|Ad<|Rt ?_
 exact Fb rfl (by simp only [Th,c_1,c_2,c_3,c_4,c_5,c_6,AZ])
 have k_6:=ndt c_6
 refine An<|An<|An<|An<|An<|Aq (AV.b true)<|Aq (AV.b true)<|Ad<|Rt ?_
 exact Fb rfl (by simp only [Th,c_1,c_2,c_3,c_4,c_5,c_6,AZ])
 refine An<|An<|An<|An<|An<|Aq (AV.b true)<|Aq (AV.b true)<|An<|An<|An<|An<|An<|Aq (AV.b true)<|Aq (AV.b true)<|Ad<|Rt ?_
 exact Fb rfl (by simp only [Th,c_1,c_2,c_3,c_4,c_5,AZ])
 refine Ct<|Sq<|Rg<|Aq (AV.b false)<|Ad<|Rt ?_
 exact Fb rfl (by simp only [Th,c_1,c_2,c_3,c_4,AZ])
 refine Ct<|Sq<|Rg<|Aq (AV.b true)<|Ad<|Rt ?_
 exact Fb rfl (by simp only [Th,c_1,c_2,c_3,AZ])
 refine Dn<|Dn<|Dn<|Dn<|Dn<|Dn<|Dn<|Dn<|Dq (AV.b true)<|Aw.fin<|Ct<|Sq<|Rg<|Aq (AV.b true)<|Ad<|Rt ?_
 exact Fb rfl (by simp only [Th,c_1,c_2,AZ])
 have k_1:=of_decide_eq_true c_1
 refine Dn<|Dn<|Dn<|Dn<|Dn<|Dn<|Dn<|Dn<|Dq (AV.b true)<|Dq (AV.b true)<|Dn<|Dn<|Dn<|Dn<|Dn<|Dn<|Dn<|Dn<|Dq (AV.b true)<|Aw.fin<|Ct<|Sq<|Rg<|Aq (AV.b true)<|Ad<|Rt ?_
 exact Fb rfl (by simp only [Th,c_1,AZ])
def GZ (s':Ak) (edge:Int):AV:=(AB.av (s'.graph.edges.getD edge.toNat default))
def Cc (s':Ak) (edge:Int):AV:=(AV.pt (GZ s' edge).cells)
def Dg (s':Ak) (edge:Int):AV:=(Al.av (⟨s',(s'.graph.edges.getD edge.toNat default)⟩:Al))
def Cb (s':Ak) (edge:Int):AV:=(AV.st [(AV.loc 0 0 0),(Cc s' edge)])
def Ed (s':Ak) (edge:Int):AV:=(AV.fn 1000056 [(Cb s' edge)])
def Lz (s':Ak) (edge:Int):AV:=((Az 1 (Az 1 AV.s)) [(s'.graph.edges.getD edge.toNat default).ins,(s'.graph.edges.getD edge.toNat default).implicit,(s'.graph.edges.getD edge.toNat default).order])
theorem BZ (W:World) {m0:Int} (hW:W.cell? ⟨0,0,none⟩=some (.int .i64 m0)) (s':Ak) (edge:Int) (hz:s'.sz≤1048576):Am Go.Proofs.Tryz.prog W 17 [(Ak.av s'),(AV.i .i64 edge)] (AV.tup [(AV.b ((B4 s' edge).1)),(AV.i .i64 ((B4 s' edge).2))]) []:=by
 have hzg:=s'.sz_graph
 refine Ao (fn:=Go.Proofs.Tryz.f17) Go.Proofs.Tryz.func17 rfl (en17 W) (ts:=[4,5]) rfl le<|Sq<|Rg<|Nn (AV.loc 0 0 0) ⟨35,11,[(Ak.av s')]⟩<|Aq (AV.b false)<|Aq (AV.i .i64 (0:Int))<|Ad<|Sq<|Sq<|Rg<|A2.sfw (vs:=[(AV.loc 0 0 0)]) (ss:=[(AV.pt (Ak.av s').cells)]) (r0:=(AV.b (GT s'))) kr (show Bs _ _ _ from ⟨(A6.w (A6.cast (x':=(AV.loc 0 0 0)) kr kr (Dv Ak.av s' (id:=0) rfl rfl kr))),trivial⟩) (Oj W hW s' sd) rfl kr le<|Aq (AV.b (!(GT s')))<|Aq (AV.b (!(GT s'))) ?_
 cases c_1:(!(GT s'))
 refine Ay<|Aq (AV.i .i64 edge)<|Ay<|Aq (AV.b (decide (edge<(0:Int))))<|Aq (AV.b (decide (edge<(0:Int))))<|Aq (AV.b (decide (edge<(0:Int)))) ?_
 cases c_2:decide (edge<(0:Int))
 have k_2:=of_decide_eq_false c_2
 refine Ay<|Aq (AV.i .i64 edge)<|Ay<|Aq (AV.loc 0 0 0)<|Ay<|Aq (AV.loc 0 0 0)<|Ay<|Aq ((Az 7 AB.av) s'.graph.edges)<|Ay<|Ap (Ai s'.graph.edges.length) (Cs (k:=7) (nl:=false) (e:=65) (A:=AB.av) (xs:=s'.graph.edges) kr kr)<|Ay<|Aq (AV.b (decide (((s'.graph.edges.length:Nat):Int)≤edge)))<|Aq (AV.b (decide (((s'.graph.edges.length:Nat):Int)≤edge)))<|Ad ?_
 cases c_3:decide (((s'.graph.edges.length:Nat):Int)≤edge)
 have k_3:=of_decide_eq_false c_3
 have q_3:=Ut hz (by assumption) (by assumption) c_3
 refine Cf<|Ag.skip<|Sq<|Rg<|Aq (AV.loc 0 0 0)<|Aq (AV.loc 0 0 0)<|Aq ((Az 7 AB.av) s'.graph.edges)<|Aq (AV.i .i64 edge)<|Ap (Cc s' edge) (Lq (k:=7) (nl:=false) (e:=65) (kk:= .i64) (A:=AB.av) (xs:=s'.graph.edges) (n:=edge) kr kr kr ⟨by kernel_rfl,by decide⟩ sd (getD_some sd))<|Nb (Cb s' edge)<|Nn (AV.loc 1 0 0) ⟨104,2,[(AV.st [AV.nilp,AV.nilp])]⟩<|Sp 1 ⟨104,2,[(Cb s' edge)]⟩<|Ad<|Sq<|Sq<|Ag.drawn Aa Eb 19 kr le<|Dq (AV.loc 1 0 1)<|Dq (Cc s' edge)<|Dq (Cc s' edge)<|Dq (AV.pt ((GZ s' edge).cells.drop 1))<|Dq ((Az 1 AV.s) ((s'.graph.edges.getD edge.toNat default).ins))<|Dq (AV.loc 1 0 1)<|Dq (Cc s' edge)<|Dq (Cc s' edge)<|Dq (AV.pt ((GZ s' edge).cells.drop 2))<|Dq ((Az 1 AV.s) ((s'.graph.edges.getD edge.toNat default).implicit))<|Dq (AV.loc 1 0 1)<|Dq (Cc s' edge)<|Dq (Cc s' edge)<|Dq (AV.pt ((GZ s' edge).cells.drop 3)) ?_
 refine Dq ((Az 1 AV.s) ((s'.graph.edges.getD edge.toNat default).order))<|Aw.sn (x:=(AV.own 2 0 3)) (h':=⟨3,[(2,some ⟨24,1,[(s'.graph.edges.getD edge.toNat default).ins,(s'.graph.edges.getD edge.toNat default).implicit,(s'.graph.edges.getD edge.toNat default).order].map (Az 1 AV.s)⟩),(1,some ⟨104,2,[(Cb s' edge)]⟩),(0,some ⟨35,11,[(Ak.av s')]⟩)]⟩) kr le ?_
 by_cases z_4:(E6 [(s'.graph.edges.getD edge.toNat default).ins,(s'.graph.edges.getD edge.toNat default).implicit,(s'.graph.edges.getD edge.toNat default).order])=[]
 refine Aw.sfw (vs:=[(AV.own 2 0 3)]) (ss:=[(Lz s' edge)]) (r0:=((Az 1 AV.s) ([]:List ByteArray))) kr (show Bs _ _ _ from ⟨(A6.w (A6.cast (x':=(AV.own 2 0 3)) kr kr (A6.row (fun _=>rfl) (A:=(Az 1 AV.s)) (id:=2) (e:=24) (k:=1) (xs:=[(s'.graph.edges.getD edge.toNat default).ins,(s'.graph.edges.getD edge.toNat default).implicit,(s'.graph.edges.getD edge.toNat default).order]) rfl rfl sd sd))),trivial⟩) (by rw [←show (E6 [(s'.graph.edges.getD edge.toNat default).ins,(s'.graph.edges.getD edge.toNat default).implicit,(s'.graph.edges.getD edge.toNat default).order])=[] from z_4];exact (Di W [(s'.graph.edges.getD edge.toNat default).ins,(s'.graph.edges.getD edge.toNat default).implicit,(s'.graph.edges.getD edge.toNat default).order] (by simp only [List.flatten_cons,List.flatten_nil,List.append_nil,List.length_append];have:=PG hz (by assumption) (by assumption) (by assumption);omega))) rfl kr le<|Dq (Cb s' edge)<|Dq (Ed s' edge)<|Aw.sfw (vs:=[((Az 1 AV.s) ([]:List ByteArray)),(Ed s' edge)]) (ss:=[((Az 1 AV.s) ([]:List ByteArray)),(AV.fn 1000056 [(Dg s' edge)])]) (r0:=(AV.b (X6 ([]:List ByteArray) (fun z0=>NK (⟨s',(s'.graph.edges.getD edge.toNat default)⟩:Al) z0)))) kr (show Bs _ _ _ from ⟨(Bs.e kr),⟨(A6.w (A6.cast (x':=(Ed s' edge)) kr kr (A6.fn (A1.cons (A6.st (A1.cons (Dv Ak.av s' (id:=0) rfl rfl kr) (A1.cons (A7 (x:=(Cc s' edge)) kr) A1.nil))) A1.nil)))),trivial⟩⟩) (CE W ([]:List ByteArray) 1000056 [(Dg s' edge)] (fun z0=>NK (⟨s',(s'.graph.edges.getD edge.toNat default)⟩:Al) z0) kr (fun z0=>(MN (f:=56) (bs:=[(Dg s' edge)]) (ys:=[(AV.s z0)]) (Hc W hW (⟨s',(s'.graph.edges.getD edge.toNat default)⟩:Al) z0 hz (Eu hz (by assumption) (by assumption) (by assumption)).2.2.1) (by decide) (by simp) rfl))) rfl kr le ?_
 refine Aw.fin ?_
 cases c_5:(X6 ([]:List ByteArray) (fun z0=>NK (⟨s',(s'.graph.edges.getD edge.toNat default)⟩:Al) z0))
 refine Cf<|Ag.skip<|Sq<|Rg<|Aq (Cb s' edge)<|A2.sfw (vs:=[(Cb s' edge)]) (ss:=[(Dg s' edge)]) (r0:=(AV.b (Th (⟨s',(s'.graph.edges.getD edge.toNat default)⟩:Al)))) kr (show Bs _ _ _ from ⟨(A6.w (A6.cast (x':=(Cb s' edge)) kr kr (A6.st (A1.cons (Dv Ak.av s' (id:=0) rfl rfl kr) (A1.cons (A7 (x:=(Cc s' edge)) kr) A1.nil))))),trivial⟩) (I2 W hW (⟨s',(s'.graph.edges.getD edge.toNat default)⟩:Al) hz (Eu hz (by assumption) (by assumption) (by assumption)).2.2.1 (Eu hz (by assumption) (by assumption) (by assumption)).2.2.2) rfl kr le<|Aq (AV.b (Th (⟨s',(s'.graph.edges.getD edge.toNat default)⟩:Al)))<|Aq (AV.i .i64 (0:Int))<|Ad<|Rt ?_
 exact Fbi rfl (by simp only [B4,c_1,c_2,c_3,z_4,c_5,AZ])
 refine Ct<|Sq<|Rg<|Aq (AV.b false)<|Aq (AV.i .i64 (1901:Int))<|Ad<|Rt ?_
 exact Fbi rfl (by simp only [B4,c_1,c_2,c_3,z_4,c_5,AZ])
 refine Nt (A:=AV.s) (xs:=(E6 [(s'.graph.edges.getD edge.toNat default).ins,(s'.graph.edges.getD edge.toNat default).implicit,(s'.graph.edges.getD edge.toNat default).order])) (vs:=[(AV.own 2 0 3)]) (ss:=[(Lz s' edge)]) kr (show Bs _ _ _ from ⟨(A6.w (A6.cast (x':=(AV.own 2 0 3)) kr kr (A6.row (fun _=>rfl) (A:=(Az 1 AV.s)) (id:=2) (e:=24) (k:=1) (xs:=[(s'.graph.edges.getD edge.toNat default).ins,(s'.graph.edges.getD edge.toNat default).implicit,(s'.graph.edges.getD edge.toNat default).order]) rfl rfl sd sd))),trivial⟩) (Dc W [(s'.graph.edges.getD edge.toNat default).ins,(s'.graph.edges.getD edge.toNat default).implicit,(s'.graph.edges.getD edge.toNat default).order] (by simp only [List.flatten_cons,List.flatten_nil,List.append_nil,List.length_append];have:=PG hz (by assumption) (by assumption) (by assumption);omega) z_4) (fun _=>rfl) (fun _=>rfl) le<|Dq (Cb s' edge)<|Dq (Ed s' edge)<|Aw.sfw (vs:=[(AV.own 3 0 ((E6 [(s'.graph.edges.getD edge.toNat default).ins,(s'.graph.edges.getD edge.toNat default).implicit,(s'.graph.edges.getD edge.toNat default).order]).length)),(Ed s' edge)]) (ss:=[((Az 1 AV.s) (E6 [(s'.graph.edges.getD edge.toNat default).ins,(s'.graph.edges.getD edge.toNat default).implicit,(s'.graph.edges.getD edge.toNat default).order])),(AV.fn 1000056 [(Dg s' edge)])]) (r0:=(AV.b (X6 (E6 [(s'.graph.edges.getD edge.toNat default).ins,(s'.graph.edges.getD edge.toNat default).implicit,(s'.graph.edges.getD edge.toNat default).order]) (fun z0=>NK (⟨s',(s'.graph.edges.getD edge.toNat default)⟩:Al) z0)))) kr (show Bs _ _ _ from ⟨(A6.w (A6.cast (x':=(AV.own 3 0 ((E6 [(s'.graph.edges.getD edge.toNat default).ins,(s'.graph.edges.getD edge.toNat default).implicit,(s'.graph.edges.getD edge.toNat default).order]).length))) kr kr (A6.row (fun _=>rfl) (A:=AV.s) (id:=3) (e:=9) (k:=1) (xs:=(E6 [(s'.graph.edges.getD edge.toNat default).ins,(s'.graph.edges.getD edge.toNat default).implicit,(s'.graph.edges.getD edge.toNat default).order])) rfl rfl rfl sd))),⟨(A6.w (A6.cast (x':=(Ed s' edge)) kr kr (A6.fn (A1.cons (A6.st (A1.cons (Dv Ak.av s' (id:=0) rfl rfl kr) (A1.cons (A7 (x:=(Cc s' edge)) kr) A1.nil))) A1.nil)))),trivial⟩⟩) (CE W (E6 [(s'.graph.edges.getD edge.toNat default).ins,(s'.graph.edges.getD edge.toNat default).implicit,(s'.graph.edges.getD edge.toNat default).order]) 1000056 [(Dg s' edge)] (fun z0=>NK (⟨s',(s'.graph.edges.getD edge.toNat default)⟩:Al) z0) kr (fun z0=>(MN (f:=56) (bs:=[(Dg s' edge)]) (ys:=[(AV.s z0)]) (Hc W hW (⟨s',(s'.graph.edges.getD edge.toNat default)⟩:Al) z0 hz (Eu hz (by assumption) (by assumption) (by assumption)).2.2.1) (by decide) (by simp) rfl))) rfl kr le ?_
 refine Aw.fin ?_
 cases c_6:(X6 (E6 [(s'.graph.edges.getD edge.toNat default).ins,(s'.graph.edges.getD edge.toNat default).implicit,(s'.graph.edges.getD edge.toNat default).order]) (fun z0=>NK (⟨s',(s'.graph.edges.getD edge.toNat default)⟩:Al) z0))
 refine Cf<|Ag.skip<|Sq<|Rg<|Aq (Cb s' edge)<|A2.sfw (vs:=[(Cb s' edge)]) (ss:=[(Dg s' edge)]) (r0:=(AV.b (Th (⟨s',(s'.graph.edges.getD edge.toNat default)⟩:Al)))) kr (show Bs _ _ _ from ⟨(A6.w (A6.cast (x':=(Cb s' edge)) kr kr (A6.st (A1.cons (Dv Ak.av s' (id:=0) rfl rfl kr) (A1.cons (A7 (x:=(Cc s' edge)) kr) A1.nil))))),trivial⟩) (I2 W hW (⟨s',(s'.graph.edges.getD edge.toNat default)⟩:Al) hz (Eu hz (by assumption) (by assumption) (by assumption)).2.2.1 (Eu hz (by assumption) (by assumption) (by assumption)).2.2.2) rfl kr le<|Aq (AV.b (Th (⟨s',(s'.graph.edges.getD edge.toNat default)⟩:Al)))<|Aq (AV.i .i64 (0:Int))<|Ad<|Rt ?_
 exact Fbi rfl (by simp only [B4,c_1,c_2,c_3,c_6,AZ])
 refine Ct<|Sq<|Rg<|Aq (AV.b false)<|Aq (AV.i .i64 (1901:Int))<|Ad<|Rt ?_
 exact Fbi rfl (by simp only [B4,c_1,c_2,c_3,c_6,AZ])
 have k_3:=of_decide_eq_true c_3
 refine Ct<|Sq<|Rg<|Aq (AV.b false)<|Aq (AV.i .i64 (1900:Int))<|Ad<|Rt ?_
 exact Fbi rfl (by simp only [B4,c_1,c_2,c_3,AZ])
 have k_2:=of_decide_eq_true c_2
 refine An<|An<|An<|An<|An<|An<|Aq (AV.b true)<|Ad<|Ct<|Sq<|Rg<|Aq (AV.b false)<|Aq (AV.i .i64 (1900:Int))<|Ad<|Rt ?_
 exact Fbi rfl (by simp only [B4,c_1,c_2,AZ])
 refine An<|An<|Aq (AV.b true)<|Aq (AV.b true)<|An<|An<|An<|An<|An<|An<|Aq (AV.b true)<|Ad<|Ct<|Sq<|Rg<|Aq (AV.b false)<|Aq (AV.i .i64 (1900:Int))<|Ad<|Rt ?_
 exact Fbi rfl (by simp only [B4,c_1,AZ])
def CD (s':Ak):Obj:=⟨35,11,[(Ak.av s')]⟩
def Jf (s':Ak):AV:=(AV.i .i64 ((ID (⟨s'.graph.edges,s'.graph.pools,s'.graph.defaults⟩:Av)).2))
def Df (s':Ak):AV:=((Az 1 (AV.i .i64)) ((ID (⟨s'.graph.edges,s'.graph.pools,s'.graph.defaults⟩:Av)).1))
def Ly (s':Ak):AV:=(AV.st [((Az 7 AB.av) s'.graph.edges),((Az 2 Cp.av) s'.graph.pools),((Az 1 AV.s) s'.graph.defaults)])
def GY (s':Ak):AV:=(AV.i .i64 ((((ID (⟨s'.graph.edges,s'.graph.pools,s'.graph.defaults⟩:Av)).1).length:Nat):Int))
def Lx (s':Ak):AV:=(AV.tup [(Df s'),(Jf s')])
theorem Oi (W:World) {m0:Int} (hW:W.cell? ⟨0,0,none⟩=some (.int .i64 m0)) (s':Ak) (hz:s'.sz≤1048576):Am Go.Proofs.Tryz.prog W 19 [(Ak.av s')] (AV.tup [((Az 1 AV.b) ((GH s').1)),(AV.i .i64 ((GH s').2))]) []:=by
 have hzg:=s'.sz_graph
 have hgl:=Nat.le_trans s'.graph.sz_len (Nat.le_trans s'.sz_graph hz)
 refine Ao (fn:=Go.Proofs.Tryz.f19) Go.Proofs.Tryz.func19 rfl (en19 W) (ts:=[2,3]) rfl le<|Sq<|Rg<|Nn (AV.loc 0 0 0) (CD s')<|Aq (AV.sl 1 true [])<|Aq (AV.i .i64 (0:Int))<|Ad<|Sq<|Sq<|Rg<|A2.sfw (vs:=[(AV.loc 0 0 0)]) (ss:=[(AV.pt (Ak.av s').cells)]) (r0:=(AV.b (GT s'))) kr (show Bs _ _ _ from ⟨(A6.w (A6.cast (x':=(AV.loc 0 0 0)) kr kr (Dv Ak.av s' (id:=0) rfl rfl kr))),trivial⟩) (Oj W hW s' sd) rfl kr le<|Aq (AV.b (!(GT s')))<|Ad ?_
 cases c_1:(!(GT s'))
 refine Cf<|Ag.skip<|Sq<|Rg<|Aq (AV.loc 0 0 0)<|Aq (AV.loc 0 0 0)<|Aq ((Az 7 AB.av) s'.graph.edges)<|Ap (Ai s'.graph.edges.length) (Cs (k:=7) (nl:=false) (e:=65) (A:=AB.av) (xs:=s'.graph.edges) kr kr)<|A2.sn (x:=(AV.own 1 0 s'.graph.edges.length)) (h':=⟨2,[(1,some ⟨4,1,(List.replicate s'.graph.edges.length false).map AV.b⟩),(0,some (CD s'))]⟩) (WQ (e:=4) (i:=W6) (A:=AV.b) (z:=false) (n:=s'.graph.edges.length) kr kr kr kr ⟨by decide,by kernel_rfl⟩ kr (by show _*1≤140737488355328;first|omega|(simp only [List.length_append,List.length_cons,List.length_nil,List.length_set,List.length_replicate];omega)|(simp;omega)) sd) le<|Aq (AV.own 1 0 s'.graph.edges.length)<|Ad<|Sq<|Sq<|Rg<|Aq (AV.own 1 0 s'.graph.edges.length)<|Aq (Ai s'.graph.edges.length)<|Aq (AV.i .i64 (0:Int))<|Ad<|Ag.block ?_
 have hB1:s'.graph.edges.length≤281474976710656:=by first|omega|(simp;done)|(simp;omega)
 obtain ⟨R1,hR1⟩: ∃R,VE s' (List.replicate s'.graph.edges.length false) 0 (List.replicate s'.graph.edges.length false)=R:=⟨_,rfl⟩
 refine Bl (fun ((v25,row):Nat×(List Bool))=>[(1,(AV.loc 0 0 0)),(4,(AV.own 1 0 s'.graph.edges.length)),(24,(Ai s'.graph.edges.length)),(25,(Ai v25))]) (fun ((v25,row):Nat×(List Bool))=>⟨2,[(0,some (CD s')),(1,some ⟨4,1,row.map AV.b⟩)]⟩) (fun ((v25,row):Nat×(List Bool))=>v25≤s'.graph.edges.length∧row.length=s'.graph.edges.length∧VE s' ((List.replicate s'.graph.edges.length false).drop v25) v25 row=R1) (fun ((v25,row):Nat×(List Bool))=>s'.graph.edges.length-v25) (0,(List.replicate s'.graph.edges.length false)) ?_ ?_ ?_
 exact ⟨[0,1],⟨by decide,rfl,(A0.cons kr (A0.cons (Bp (fun _=>rfl) (e:=4) (k:=1) (A:=AV.b) (xs:=(List.replicate s'.graph.edges.length false)) rfl rfl) A0.nil)),(Au.cons (B8.f kr) (Au.cons (B8.f kr) (Ee (Ee Au.nil))))⟩,AE⟩
 exact ⟨od,by (try dsimp only)<;>(simp),hR1⟩
 rintro ⟨v25,row⟩ ⟨hi1,hq,hE1⟩
 try dsimp only
 refine Sq<|Rg<|Aq (AV.b (decide (((v25:Nat):Int)<((s'.graph.edges.length:Nat):Int))))<|Ad<|Sq ?_
 rcases Nat.lt_or_ge v25 s'.graph.edges.length with hl1|hl1
 have hc1:decide (((v25:Nat):Int)<((s'.graph.edges.length:Nat):Int))=true:=decide_eq_true (by omega)
 refine Ag.cond (t:=true) (by rw [←hc1]<;>kernel_rfl) (Ag.skip ?_)
 obtain ⟨x1,hx1⟩: ∃x,(List.replicate s'.graph.edges.length false)[v25]? =some x:=⟨_,List.getElem?_eq_getElem (by first|(simpa using hl1)|omega)⟩
 rw [Bo hx1,VE.eq_2] at hE1
 refine Sq<|Ag.block<|Sq<|Rg<|Aq (Ai v25)<|Aq (Ai v25)<|Ad<|Sq<|Rg<|Aq (Ak.av s')<|Aq (Ai v25)<|A2.sc0 (vs:=[(Ak.av s'),(Ai v25)]) (r0:=(AV.tup [(AV.b ((B4 s' ((v25:Nat):Int)).1)),(AV.i .i64 ((B4 s' ((v25:Nat):Int)).2))])) kr kr (BZ W hW s' ((v25:Nat):Int) hz) kr le<|Aq (AV.tup [(AV.b ((B4 s' ((v25:Nat):Int)).1)),(AV.i .i64 ((B4 s' ((v25:Nat):Int)).2))])<|Aq (AV.b ((B4 s' ((v25:Nat):Int)).1))<|Aq (AV.i .i64 ((B4 s' ((v25:Nat):Int)).2))<|Aq (AV.b ((B4 s' ((v25:Nat):Int)).1))<|Aq (AV.i .i64 ((B4 s' ((v25:Nat):Int)).2))<|Ad<|Sq<|Sq<|Rg<|Aq (AV.i .i64 ((B4 s' ((v25:Nat):Int)).2))<|Aq (AV.b (!decide ((B4 s' ((v25:Nat):Int)).2=(0:Int))))<|Ad ?_
 cases c_2:(!decide ((B4 s' ((v25:Nat):Int)).2=(0:Int)))
 have k_2:=nde c_2
 refine Cf<|Ag.skip<|Rg<|Aq (AV.own 1 0 s'.graph.edges.length)<|Aq (Ai v25)<|Aq (AV.b ((B4 s' ((v25:Nat):Int)).1))<|Ap (AV.loc 1 v25 0) (Ea (e:=4) (id:=1) (len:=s'.graph.edges.length) (kk:= .i64) (ob:=⟨4,1,row.map AV.b⟩) (i:=v25) kr kr kr rfl kr sd)<|A2.st (x:=AV.und) (h':=⟨2,[(0,some (CD s')),(1,some ⟨4,1,(row.set v25 ((B4 s' ((v25:Nat):Int)).1)).map AV.b⟩)]⟩) (UP (e:=4) (k:=1) (i:=W6) (id:=1) (A:=AV.b) (xs:=row) (y:=((B4 s' ((v25:Nat):Int)).1)) (j:=v25) kr kr kr rfl sd (fun _=>rfl) kr (fun _=>rfl) (fun _=>rfl))<|Ad<|Rg<|Ap (Ai (v25+1)) (B5 (i:=v25) (m:=1) kr kr sd)<|Aq (Ai (v25+1))<|Ad ?_
 try simp only [c_2,AZ] at hE1
 refine ⟨(v25+1,(row.set v25 ((B4 s' ((v25:Nat):Int)).1))),od,⟨od,by (try dsimp only)<;>(simp only [List.length_set];exact hq),hE1⟩,?_⟩
 exact ⟨[0,1],⟨by decide,rfl,(A0.cons kr (A0.cons (Bp (fun _=>rfl) (e:=4) (k:=1) (A:=AV.b) (xs:=(row.set v25 ((B4 s' ((v25:Nat):Int)).1))) rfl rfl) A0.nil)),(Au.cons (B8.f kr) (Au.cons (B8.f kr) (Ee (Ee Au.nil))))⟩,AE⟩
 have k_2:=ndt c_2
 refine Ct<|Sq<|Rg<|Aq (AV.i .i64 ((B4 s' ((v25:Nat):Int)).2))<|Aq (AV.sl 1 true [])<|Aq (AV.i .i64 ((B4 s' ((v25:Nat):Int)).2))<|Ad<|Rt ?_
 try simp only [c_2,AZ] at hE1
 subst hE1
 have hM:GH s'=(([]:List Bool),(B4 s' ((v25:Nat):Int)).2):=by simp only [GH,c_1,hR1,AZ]
 refine ⟨Or.inr rfl,?_⟩
 rw [hM]
 exact B8.cast (x':=(AV.tup [(AV.sl 1 true []),(AV.i .i64 ((B4 s' ((v25:Nat):Int)).2))])) (y':=(AV.tup [((Az 1 AV.b) ((([]:List Bool),(B4 s' ((v25:Nat):Int)).2).1)),(AV.i .i64 ((([]:List Bool),(B4 s' ((v25:Nat):Int)).2).2))])) kr kr (B8.tup ⟨(B8.w rfl (AL.nil 1)),⟨Ec,trivial⟩⟩ kr)
 have hc1:decide (((v25:Nat):Int)<((s'.graph.edges.length:Nat):Int))=false:=decide_eq_false (by omega)
 refine Ag.cond (t:=false) (by rw [←hc1]<;>kernel_rfl) (Ag.exit ?_)
 rw [List.drop_eq_nil_of_le (by first|(simpa using hl1)|omega),VE.eq_1] at hE1
 subst hE1
 refine Sq<|Rg<|Aq (AV.loc 0 0 0)<|Aq (Ly s')<|A2.sc0 (vs:=[(Ly s')]) (r0:=(Lx s')) kr kr (Q4 W hW (⟨s'.graph.edges,s'.graph.pools,s'.graph.defaults⟩:Av) (Nat.le_trans s'.sz_graph hz)) kr le<|Aq (Lx s')<|Aq (Df s')<|Aq (Jf s')<|Aq (Df s')<|Aq (Jf s')<|Ad<|Sq<|Sq<|Rg<|Aq (Df s')<|Ap (GY s') (Cs (k:=1) (nl:=false) (e:=3) (A:=(AV.i .i64)) (xs:=((ID (⟨s'.graph.edges,s'.graph.pools,s'.graph.defaults⟩:Av)).1)) kr kr) ?_
 refine Aq (AV.i .i64 (0:Int))<|Ad<|Ag.block<|Ag.lim 46 (x:=(Df s')) kr fun hlm2=> ?_
 have hB2:((ID (⟨s'.graph.edges,s'.graph.pools,s'.graph.defaults⟩:Av)).1).length≤281474976710656:=CI hlm2
 obtain ⟨R2,hR2⟩: ∃R,VF s' ((ID (⟨s'.graph.edges,s'.graph.pools,s'.graph.defaults⟩:Av)).1) 0 row=R:=⟨_,rfl⟩
 refine Bl (fun ((v50,row2):Nat×(List Bool))=>[(1,(AV.loc 0 0 0)),(4,(AV.own 1 0 s'.graph.edges.length)),(48,(Df s')),(49,(GY s')),(50,(Ai v50))]) (fun ((v50,row2):Nat×(List Bool))=>⟨2,[(0,some (CD s')),(1,some ⟨4,1,row2.map AV.b⟩)]⟩) (fun ((v50,row2):Nat×(List Bool))=>v50≤((ID (⟨s'.graph.edges,s'.graph.pools,s'.graph.defaults⟩:Av)).1).length∧row2.length=s'.graph.edges.length∧VF s' (((ID (⟨s'.graph.edges,s'.graph.pools,s'.graph.defaults⟩:Av)).1).drop v50) v50 row2=R2) (fun ((v50,row2):Nat×(List Bool))=>((ID (⟨s'.graph.edges,s'.graph.pools,s'.graph.defaults⟩:Av)).1).length-v50) (0,row) ?_ ?_ ?_
 exact ⟨[0,1],⟨by decide,rfl,(A0.cons kr (A0.cons (Bp (fun _=>rfl) (e:=4) (k:=1) (A:=AV.b) (xs:=row) rfl rfl) A0.nil)),(Au.cons (B8.f kr) (Au.cons (B8.f kr) (Ee (Ee (Ee Au.nil)))))⟩,AE⟩
 exact ⟨od,by (try dsimp only)<;>(exact hq),hR2⟩
 rintro ⟨v50,row2⟩ ⟨hi2,hq2,hE2⟩
 try dsimp only
 refine Sq<|Rg<|Aq (AV.b (decide (((v50:Nat):Int)<((((ID (⟨s'.graph.edges,s'.graph.pools,s'.graph.defaults⟩:Av)).1).length:Nat):Int))))<|Ad<|Sq ?_
 rcases Nat.lt_or_ge v50 ((ID (⟨s'.graph.edges,s'.graph.pools,s'.graph.defaults⟩:Av)).1).length with hl2|hl2
 have hc2:decide (((v50:Nat):Int)<((((ID (⟨s'.graph.edges,s'.graph.pools,s'.graph.defaults⟩:Av)).1).length:Nat):Int))=true:=decide_eq_true (by omega)
 refine Ag.cond (t:=true) (by rw [←hc2]<;>kernel_rfl) (Ag.skip ?_)
 obtain ⟨x2,hx2⟩: ∃x,((ID (⟨s'.graph.edges,s'.graph.pools,s'.graph.defaults⟩:Av)).1)[v50]? =some x:=⟨_,List.getElem?_eq_getElem hl2⟩
 rw [Bo hx2,VF.eq_2] at hE2
 have ha:=U7 hz (by assumption) (List.mem_of_getElem? hx2)
 have hcl:(E6 [(s'.graph.edges.getD x2.toNat default).ins,(s'.graph.edges.getD x2.toNat default).implicit]).length≤1048576:=by rw [LY];simp only [List.flatten_cons,List.flatten_nil,List.append_nil,List.length_append];omega
 refine Sq<|Ag.block<|Sq<|Rg<|Ap (AV.pt ((AV.i .i64) x2).cells) (C8 (k:=1) (nl:=false) (e:=3) (kk:= .i64) (A:=(AV.i .i64)) (xs:=((ID (⟨s'.graph.edges,s'.graph.pools,s'.graph.defaults⟩:Av)).1)) (i:=v50) kr kr kr ⟨by kernel_rfl,by decide⟩ hx2)<|Aq (AV.i .i64 x2)<|Aq (AV.i .i64 x2)<|Ad<|Sq<|Rg<|Aq (AV.loc 0 0 0)<|Aq (AV.loc 0 0 0)<|Aq ((Az 7 AB.av) s'.graph.edges)<|Aq (AV.i .i64 x2)<|Ap (AV.pt (AB.av (s'.graph.edges.getD x2.toNat default)).cells) (Lq (k:=7) (nl:=false) (e:=65) (kk:= .i64) (A:=AB.av) (xs:=s'.graph.edges) (n:=x2) kr kr kr ⟨by kernel_rfl,by decide⟩ sd (getD_some sd))<|Aq (AV.pt (AB.av (s'.graph.edges.getD x2.toNat default)).cells)<|Ad<|Sq<|Ag.drawn Aa Eb 12 kr le<|Dq (AV.pt (AB.av (s'.graph.edges.getD x2.toNat default)).cells)<|Dq (AV.pt (AB.av (s'.graph.edges.getD x2.toNat default)).cells)<|Dq (AV.pt ((AB.av (s'.graph.edges.getD x2.toNat default)).cells.drop 1))<|Dq ((Az 1 AV.s) ((s'.graph.edges.getD x2.toNat default).ins))<|Dq (AV.pt (AB.av (s'.graph.edges.getD x2.toNat default)).cells)<|Dq (AV.pt (AB.av (s'.graph.edges.getD x2.toNat default)).cells)<|Dq (AV.pt ((AB.av (s'.graph.edges.getD x2.toNat default)).cells.drop 2))<|Dq ((Az 1 AV.s) ((s'.graph.edges.getD x2.toNat default).implicit))<|Aw.sn (x:=(AV.own 2 0 2)) (h':=⟨3,[(2,some ⟨24,1,[(s'.graph.edges.getD x2.toNat default).ins,(s'.graph.edges.getD x2.toNat default).implicit].map (Az 1 AV.s)⟩),(0,some (CD s')),(1,some ⟨4,1,row2.map AV.b⟩)]⟩) kr le ?_
 by_cases z_3:(E6 [(s'.graph.edges.getD x2.toNat default).ins,(s'.graph.edges.getD x2.toNat default).implicit])=[]
 refine Aw.sfw (vs:=[(AV.own 2 0 2)]) (ss:=[((Az 1 (Az 1 AV.s)) [(s'.graph.edges.getD x2.toNat default).ins,(s'.graph.edges.getD x2.toNat default).implicit])]) (r0:=((Az 1 AV.s) ([]:List ByteArray))) kr (show Bs _ _ _ from ⟨(A6.w (A6.cast (x':=(AV.own 2 0 2)) kr kr (A6.row (fun _=>rfl) (A:=(Az 1 AV.s)) (id:=2) (e:=24) (k:=1) (xs:=[(s'.graph.edges.getD x2.toNat default).ins,(s'.graph.edges.getD x2.toNat default).implicit]) rfl rfl sd sd))),trivial⟩) (by rw [←show (E6 [(s'.graph.edges.getD x2.toNat default).ins,(s'.graph.edges.getD x2.toNat default).implicit])=[] from z_3];exact (Di W [(s'.graph.edges.getD x2.toNat default).ins,(s'.graph.edges.getD x2.toNat default).implicit] (by simp only [List.flatten_cons,List.flatten_nil,List.append_nil,List.length_append];omega))) rfl kr le<|Dp (AV.i .i64 ((([]:List ByteArray).length:Nat):Int)) (Cs (k:=1) (nl:=false) (e:=9) (A:=AV.s) (xs:=([]:List ByteArray)) kr kr)<|Dq (AV.i .i64 (0:Int))<|Aw.fin<|Ag.block<|Ag.lim 68 (x:=((Az 1 AV.s) ([]:List ByteArray))) kr fun hlm3=> ?_
 have hB3:([]:List ByteArray).length≤281474976710656:=CI hlm3
 obtain ⟨R3,hR3⟩: ∃R,Ov s' x2 ([]:List ByteArray) 0 row2=R:=⟨_,rfl⟩
 refine Bl (fun ((v70,row3):Nat×(List Bool))=>[(1,(AV.loc 0 0 0)),(4,(AV.own 1 0 s'.graph.edges.length)),(11,(AV.i .i64 x2)),(48,(Df s')),(49,(GY s')),(50,(Ai v50)),(68,((Az 1 AV.s) ([]:List ByteArray))),(69,(AV.i .i64 ((([]:List ByteArray).length:Nat):Int))),(70,(Ai v70))]) (fun ((v70,row3):Nat×(List Bool))=>⟨2,[(0,some (CD s')),(1,some ⟨4,1,row3.map AV.b⟩)]⟩) (fun ((v70,row3):Nat×(List Bool))=>v70≤([]:List ByteArray).length∧row3.length=s'.graph.edges.length∧Ov s' x2 (([]:List ByteArray).drop v70) v70 row3=R3) (fun ((v70,row3):Nat×(List Bool))=>([]:List ByteArray).length-v70) (0,row2) ?_ ?_ ?_
 exact ⟨[0,1],⟨by decide,rfl,(A0.cons kr (A0.cons (Bp (fun _=>rfl) (e:=4) (k:=1) (A:=AV.b) (xs:=row2) rfl rfl) A0.nil)),(Au.cons (B8.f kr) (Au.cons (B8.f kr) (Ee (Ee (Ee (Ee (Ee (Ee (Ee Au.nil)))))))))⟩,AE⟩
 exact ⟨od,by (try dsimp only)<;>(exact hq2),hR3⟩
 rintro ⟨v70,row3⟩ ⟨hi3,hq3,hE3⟩
 try dsimp only
 refine Sq<|Rg<|Aq (AV.b (decide (((v70:Nat):Int)<((([]:List ByteArray).length:Nat):Int))))<|Ad<|Sq ?_
 rcases Nat.lt_or_ge v70 ([]:List ByteArray).length with hl3|hl3
 have hc3:decide (((v70:Nat):Int)<((([]:List ByteArray).length:Nat):Int))=true:=decide_eq_true (by omega)
 refine Ag.cond (t:=true) (by rw [←hc3]<;>kernel_rfl) (Ag.skip ?_)
 obtain ⟨x3,hx3⟩: ∃x,([]:List ByteArray)[v70]? =some x:=⟨_,List.getElem?_eq_getElem hl3⟩
 rw [Bo hx3,Ov.eq_2] at hE3
 have hmk:=Tr s'.graph x3
 refine Sq<|Ag.block<|Sq<|Rg<|Ap (AV.pt (AV.s x3).cells) (C8 (k:=1) (nl:=false) (e:=9) (kk:= .i64) (A:=AV.s) (xs:=([]:List ByteArray)) (i:=v70) kr kr kr ⟨by kernel_rfl,by decide⟩ hx3)<|Aq (AV.s x3)<|Aq (AV.s x3)<|Ad<|Sq<|Rg<|Aq (AV.loc 0 0 0)<|Aq (AV.s x3)<|A2.sfw (vs:=[(AV.loc 0 0 0),(AV.s x3)]) (ss:=[(AV.pt (Av.av s'.graph).cells),(AV.s x3)]) (r0:=(AV.i .i64 (FJ s'.graph x3))) kr (show Bs _ _ _ from ⟨(A6.w (A6.cast (x':=(AV.loc 0 0 0)) kr kr (A6.wk (y':=(AV.pt (Av.av s'.graph).cells)) (Dv Ak.av s' (id:=0) rfl rfl kr) (Nx 3 kr)))),⟨(Bs.e kr),trivial⟩⟩) (HR W s'.graph x3) rfl kr le<|Aq (AV.i .i64 (FJ s'.graph x3))<|Ad<|Sq<|Rg<|Aq (AV.i .i64 (FJ s'.graph x3))<|Aq (AV.b (decide ((0:Int)≤(FJ s'.graph x3))))<|Aq (AV.b (decide ((0:Int)≤(FJ s'.graph x3)))) ?_
 cases c_4:decide ((0:Int)≤(FJ s'.graph x3))
 have k_4:=of_decide_eq_false c_4
 refine An<|An<|An<|An<|Aq (AV.b false)<|Ad<|Cf<|Ag.skip<|Rg<|Ap (Ai (v70+1)) (B5 (i:=v70) (m:=1) kr kr sd)<|Aq (Ai (v70+1))<|Ad ?_
 try simp only [c_4,AZ] at hE3
 refine ⟨(v70+1,row3),od,⟨od,by (try dsimp only)<;>(first|exact hq3|(simp only [List.length_set];exact hq3)),hE3⟩,?_⟩
 exact ⟨[0,1],⟨by decide,rfl,(A0.cons kr (A0.cons (Bp (fun _=>rfl) (e:=4) (k:=1) (A:=AV.b) (xs:=row3) rfl rfl) A0.nil)),(Au.cons (B8.f kr) (Au.cons (B8.f kr) (Ee (Ee (Ee (Ee (Ee (Ee (Ee Au.nil)))))))))⟩,AE⟩
 have k_4:=of_decide_eq_true c_4
 refine Ay<|Aq (AV.own 1 0 s'.graph.edges.length)<|Ay<|Aq (AV.i .i64 (FJ s'.graph x3))<|Ay<|Ap (AV.loc 1 ((FJ s'.graph x3).toNat) 0) (ON (e:=4) (id:=1) (len:=s'.graph.edges.length) (kk:= .i64) (ob:=⟨4,1,row3.map AV.b⟩) (n:=(FJ s'.graph x3)) kr kr kr rfl kr sd sd)<|Ay<|Ap (AV.b (row3.getD ((FJ s'.graph x3).toNat) default)) (DY (e:=4) (k:=1) (i:=W6) (id:=1) (xs:=row3) (A:=AV.b) (j:=(FJ s'.graph x3).toNat) kr kr rfl (getD_some sd) kr)<|Aq (AV.b (row3.getD ((FJ s'.graph x3).toNat) default))<|Ad ?_
 cases c_5:(row3.getD ((FJ s'.graph x3).toNat) default)
 refine Cf<|Ag.skip<|Rg<|Ap (Ai (v70+1)) (B5 (i:=v70) (m:=1) kr kr sd)<|Aq (Ai (v70+1))<|Ad ?_
 try simp only [c_4,c_5,AZ] at hE3
 refine ⟨(v70+1,row3),od,⟨od,by (try dsimp only)<;>(first|exact hq3|(simp only [List.length_set];exact hq3)),hE3⟩,?_⟩
 exact ⟨[0,1],⟨by decide,rfl,(A0.cons kr (A0.cons (Bp (fun _=>rfl) (e:=4) (k:=1) (A:=AV.b) (xs:=row3) rfl rfl) A0.nil)),(Au.cons (B8.f kr) (Au.cons (B8.f kr) (Ee (Ee (Ee (Ee (Ee (Ee (Ee Au.nil)))))))))⟩,AE⟩
 refine Ct<|Rg<|Aq (AV.own 1 0 s'.graph.edges.length)<|Aq (AV.i .i64 x2)<|Ap (AV.loc 1 x2.toNat 0) (ON (e:=4) (id:=1) (len:=s'.graph.edges.length) (kk:= .i64) (ob:=⟨4,1,row3.map AV.b⟩) (n:=x2) kr kr kr rfl kr sd sd)<|A2.st (x:=AV.und) (h':=⟨2,[(0,some (CD s')),(1,some ⟨4,1,(row3.set x2.toNat true).map AV.b⟩)]⟩) (UP (e:=4) (k:=1) (i:=W6) (id:=1) (A:=AV.b) (xs:=row3) (y:=true) (j:=x2.toNat) kr kr kr rfl sd (fun _=>rfl) kr (fun _=>rfl) (fun _=>rfl))<|Ad<|Rg<|Ap (Ai (v70+1)) (B5 (i:=v70) (m:=1) kr kr sd)<|Aq (Ai (v70+1))<|Ad ?_
 try simp only [c_4,c_5,AZ] at hE3
 refine ⟨(v70+1,(row3.set x2.toNat true)),od,⟨od,by (try dsimp only)<;>(first|exact hq3|(simp only [List.length_set];exact hq3)),hE3⟩,?_⟩
 exact ⟨[0,1],⟨by decide,rfl,(A0.cons kr (A0.cons (Bp (fun _=>rfl) (e:=4) (k:=1) (A:=AV.b) (xs:=(row3.set x2.toNat true)) rfl rfl) A0.nil)),(Au.cons (B8.f kr) (Au.cons (B8.f kr) (Ee (Ee (Ee (Ee (Ee (Ee (Ee Au.nil)))))))))⟩,AE⟩
 have hc3:decide (((v70:Nat):Int)<((([]:List ByteArray).length:Nat):Int))=false:=decide_eq_false (by omega)
 refine Ag.cond (t:=false) (by rw [←hc3]<;>kernel_rfl) (Ag.exit ?_)
 rw [List.drop_eq_nil_of_le (hl3),Ov.eq_1] at hE3
 subst hE3
 refine Rg<|Ap (Ai (v50+1)) (B5 (i:=v50) (m:=1) kr kr sd)<|Aq (Ai (v50+1))<|Ad ?_
 try simp only [z_3,hR3,AZ] at hE2
 refine ⟨(v50+1,row3),od,⟨od,by (try dsimp only)<;>(exact hq3),hE2⟩,?_⟩
 exact ⟨[0,1],⟨by decide,rfl,(A0.cons kr (A0.cons (Bp (fun _=>rfl) (e:=4) (k:=1) (A:=AV.b) (xs:=row3) rfl rfl) A0.nil)),(Au.cons (B8.f kr) (Au.cons (B8.f kr) (Ee (Ee (Ee Au.nil)))))⟩,AE⟩
 refine Nt (A:=AV.s) (xs:=(E6 [(s'.graph.edges.getD x2.toNat default).ins,(s'.graph.edges.getD x2.toNat default).implicit])) (vs:=[(AV.own 2 0 2)]) (ss:=[((Az 1 (Az 1 AV.s)) [(s'.graph.edges.getD x2.toNat default).ins,(s'.graph.edges.getD x2.toNat default).implicit])]) kr (show Bs _ _ _ from ⟨(A6.w (A6.cast (x':=(AV.own 2 0 2)) kr kr (A6.row (fun _=>rfl) (A:=(Az 1 AV.s)) (id:=2) (e:=24) (k:=1) (xs:=[(s'.graph.edges.getD x2.toNat default).ins,(s'.graph.edges.getD x2.toNat default).implicit]) rfl rfl sd sd))),trivial⟩) (Dc W [(s'.graph.edges.getD x2.toNat default).ins,(s'.graph.edges.getD x2.toNat default).implicit] (by simp only [List.flatten_cons,List.flatten_nil,List.append_nil,List.length_append];omega) z_3) (fun _=>rfl) (fun _=>rfl) le<|Dq (AV.i .i64 (((E6 [(s'.graph.edges.getD x2.toNat default).ins,(s'.graph.edges.getD x2.toNat default).implicit]).length:Nat):Int))<|Dq (AV.i .i64 (0:Int))<|Aw.fin<|Ag.block ?_
 have hB3:((E6 [(s'.graph.edges.getD x2.toNat default).ins,(s'.graph.edges.getD x2.toNat default).implicit]).length)≤281474976710656:=by first|omega|(simp;done)|(simp;omega)
 obtain ⟨R3,hR3⟩: ∃R,Ov s' x2 (E6 [(s'.graph.edges.getD x2.toNat default).ins,(s'.graph.edges.getD x2.toNat default).implicit]) 0 row2=R:=⟨_,rfl⟩
 refine Bl (fun ((v702,row4):Nat×(List Bool))=>[(1,(AV.loc 0 0 0)),(4,(AV.own 1 0 s'.graph.edges.length)),(11,(AV.i .i64 x2)),(48,(Df s')),(49,(GY s')),(50,(Ai v50)),(68,(AV.own 2 0 ((E6 [(s'.graph.edges.getD x2.toNat default).ins,(s'.graph.edges.getD x2.toNat default).implicit]).length))),(69,(AV.i .i64 (((E6 [(s'.graph.edges.getD x2.toNat default).ins,(s'.graph.edges.getD x2.toNat default).implicit]).length:Nat):Int))),(70,(Ai v702))]) (fun ((v702,row4):Nat×(List Bool))=>⟨3,[(0,some (CD s')),(1,some ⟨4,1,row4.map AV.b⟩),(2,some ⟨9,1,(E6 [(s'.graph.edges.getD x2.toNat default).ins,(s'.graph.edges.getD x2.toNat default).implicit]).map AV.s⟩)]⟩) (fun ((v702,row4):Nat×(List Bool))=>v702≤((E6 [(s'.graph.edges.getD x2.toNat default).ins,(s'.graph.edges.getD x2.toNat default).implicit]).length)∧row4.length=s'.graph.edges.length∧Ov s' x2 ((E6 [(s'.graph.edges.getD x2.toNat default).ins,(s'.graph.edges.getD x2.toNat default).implicit]).drop v702) v702 row4=R3) (fun ((v702,row4):Nat×(List Bool))=>((E6 [(s'.graph.edges.getD x2.toNat default).ins,(s'.graph.edges.getD x2.toNat default).implicit]).length)-v702) (0,row2) ?_ ?_ ?_
 exact ⟨[0,1,3],⟨by decide,rfl,(A0.cons kr (A0.cons (Bp (fun _=>rfl) (e:=4) (k:=1) (A:=AV.b) (xs:=row2) rfl rfl) (A0.cons (Bp (fun _=>rfl) (e:=9) (k:=1) (A:=AV.s) (xs:=(E6 [(s'.graph.edges.getD x2.toNat default).ins,(s'.graph.edges.getD x2.toNat default).implicit])) rfl rfl) A0.nil))),(Au.cons (B8.f kr) (Au.cons (B8.f kr) (Ee (Ee (Ee (Ee (Au.cons (B8.f kr) (Ee (Ee Au.nil)))))))))⟩,AE⟩
 exact ⟨od,by (try dsimp only)<;>(exact hq2),hR3⟩
 rintro ⟨v702,row4⟩ ⟨hi3,hq3,hE3⟩
 try dsimp only
 refine Sq<|Rg<|Aq (AV.b (decide (((v702:Nat):Int)<(((E6 [(s'.graph.edges.getD x2.toNat default).ins,(s'.graph.edges.getD x2.toNat default).implicit]).length:Nat):Int))))<|Ad<|Sq ?_
 rcases Nat.lt_or_ge v702 ((E6 [(s'.graph.edges.getD x2.toNat default).ins,(s'.graph.edges.getD x2.toNat default).implicit]).length) with hl3|hl3
 have hc3:decide (((v702:Nat):Int)<((((E6 [(s'.graph.edges.getD x2.toNat default).ins,(s'.graph.edges.getD x2.toNat default).implicit]).length):Nat):Int))=true:=decide_eq_true (by omega)
 refine Ag.cond (t:=true) (by rw [←hc3]<;>kernel_rfl) (Ag.skip ?_)
 obtain ⟨x32,hx3⟩: ∃x,(E6 [(s'.graph.edges.getD x2.toNat default).ins,(s'.graph.edges.getD x2.toNat default).implicit])[v702]? =some x:=⟨_,List.getElem?_eq_getElem (by first|(simpa using hl3)|omega)⟩
 rw [Bo hx3,Ov.eq_2] at hE3
 have hmk:=Tr s'.graph x32
 refine Sq<|Ag.block<|Sq<|Rg<|Ap (AV.loc 2 v702 0) (Ea (e:=9) (id:=2) (len:=((E6 [(s'.graph.edges.getD x2.toNat default).ins,(s'.graph.edges.getD x2.toNat default).implicit]).length)) (kk:= .i64) (ob:=⟨9,1,(E6 [(s'.graph.edges.getD x2.toNat default).ins,(s'.graph.edges.getD x2.toNat default).implicit]).map AV.s⟩) (i:=v702) kr kr kr rfl kr sd)<|Ap (AV.s x32) (DY (e:=9) (k:=1) (i:=GI) (id:=2) (xs:=(E6 [(s'.graph.edges.getD x2.toNat default).ins,(s'.graph.edges.getD x2.toNat default).implicit])) (A:=AV.s) (j:=v702) kr kr rfl hx3 kr)<|Aq (AV.s x32)<|Ad<|Sq<|Rg<|Aq (AV.loc 0 0 0)<|Aq (AV.s x32)<|A2.sfw (vs:=[(AV.loc 0 0 0),(AV.s x32)]) (ss:=[(AV.pt (Av.av s'.graph).cells),(AV.s x32)]) (r0:=(AV.i .i64 (FJ s'.graph x32))) kr (show Bs _ _ _ from ⟨(A6.w (A6.cast (x':=(AV.loc 0 0 0)) kr kr (A6.wk (y':=(AV.pt (Av.av s'.graph).cells)) (Dv Ak.av s' (id:=0) rfl rfl kr) (Nx 3 kr)))),⟨(Bs.e kr),trivial⟩⟩) (HR W s'.graph x32) rfl kr le<|Aq (AV.i .i64 (FJ s'.graph x32))<|Ad<|Sq<|Rg<|Aq (AV.i .i64 (FJ s'.graph x32))<|Aq (AV.b (decide ((0:Int)≤(FJ s'.graph x32))))<|Aq (AV.b (decide ((0:Int)≤(FJ s'.graph x32)))) ?_
 cases c_6:decide ((0:Int)≤(FJ s'.graph x32))
 have k_6:=of_decide_eq_false c_6
 refine An<|An<|An<|An<|Aq (AV.b false)<|Ad<|Cf<|Ag.skip<|Rg<|Ap (Ai (v702+1)) (B5 (i:=v702) (m:=1) kr kr sd)<|Aq (Ai (v702+1))<|Ad ?_
 try simp only [c_6,AZ] at hE3
 refine ⟨(v702+1,row4),od,⟨od,by (try dsimp only)<;>(first|exact hq3|(simp only [List.length_set];exact hq3)),hE3⟩,?_⟩
 exact ⟨[0,1,2],⟨by decide,rfl,(A0.cons kr (A0.cons (Bp (fun _=>rfl) (e:=4) (k:=1) (A:=AV.b) (xs:=row4) rfl rfl) (A0.cons (Bp (fun _=>rfl) (e:=9) (k:=1) (A:=AV.s) (xs:=(E6 [(s'.graph.edges.getD x2.toNat default).ins,(s'.graph.edges.getD x2.toNat default).implicit])) rfl rfl) A0.nil))),(Au.cons (B8.f kr) (Au.cons (B8.f kr) (Ee (Ee (Ee (Ee (Au.cons (B8.f kr) (Ee (Ee Au.nil)))))))))⟩,AE⟩
 have k_6:=of_decide_eq_true c_6
 refine Ay<|Aq (AV.own 1 0 s'.graph.edges.length)<|Ay<|Aq (AV.i .i64 (FJ s'.graph x32))<|Ay<|Ap (AV.loc 1 ((FJ s'.graph x32).toNat) 0) (ON (e:=4) (id:=1) (len:=s'.graph.edges.length) (kk:= .i64) (ob:=⟨4,1,row4.map AV.b⟩) (n:=(FJ s'.graph x32)) kr kr kr rfl kr sd sd)<|Ay<|Ap (AV.b (row4.getD ((FJ s'.graph x32).toNat) default)) (DY (e:=4) (k:=1) (i:=W6) (id:=1) (xs:=row4) (A:=AV.b) (j:=(FJ s'.graph x32).toNat) kr kr rfl (getD_some sd) kr)<|Aq (AV.b (row4.getD ((FJ s'.graph x32).toNat) default))<|Ad ?_
 cases c_7:(row4.getD ((FJ s'.graph x32).toNat) default)
 refine Cf<|Ag.skip<|Rg<|Ap (Ai (v702+1)) (B5 (i:=v702) (m:=1) kr kr sd)<|Aq (Ai (v702+1))<|Ad ?_
 try simp only [c_6,c_7,AZ] at hE3
 refine ⟨(v702+1,row4),od,⟨od,by (try dsimp only)<;>(first|exact hq3|(simp only [List.length_set];exact hq3)),hE3⟩,?_⟩
 exact ⟨[0,1,2],⟨by decide,rfl,(A0.cons kr (A0.cons (Bp (fun _=>rfl) (e:=4) (k:=1) (A:=AV.b) (xs:=row4) rfl rfl) (A0.cons (Bp (fun _=>rfl) (e:=9) (k:=1) (A:=AV.s) (xs:=(E6 [(s'.graph.edges.getD x2.toNat default).ins,(s'.graph.edges.getD x2.toNat default).implicit])) rfl rfl) A0.nil))),(Au.cons (B8.f kr) (Au.cons (B8.f kr) (Ee (Ee (Ee (Ee (Au.cons (B8.f kr) (Ee (Ee Au.nil)))))))))⟩,AE⟩
 refine Ct<|Rg<|Aq (AV.own 1 0 s'.graph.edges.length)<|Aq (AV.i .i64 x2)<|Ap (AV.loc 1 x2.toNat 0) (ON (e:=4) (id:=1) (len:=s'.graph.edges.length) (kk:= .i64) (ob:=⟨4,1,row4.map AV.b⟩) (n:=x2) kr kr kr rfl kr sd sd)<|A2.st (x:=AV.und) (h':=⟨3,[(0,some (CD s')),(1,some ⟨4,1,(row4.set x2.toNat true).map AV.b⟩),(2,some ⟨9,1,(E6 [(s'.graph.edges.getD x2.toNat default).ins,(s'.graph.edges.getD x2.toNat default).implicit]).map AV.s⟩)]⟩) (UP (e:=4) (k:=1) (i:=W6) (id:=1) (A:=AV.b) (xs:=row4) (y:=true) (j:=x2.toNat) kr kr kr rfl sd (fun _=>rfl) kr (fun _=>rfl) (fun _=>rfl))<|Ad<|Rg<|Ap (Ai (v702+1)) (B5 (i:=v702) (m:=1) kr kr sd)<|Aq (Ai (v702+1))<|Ad ?_
 try simp only [c_6,c_7,AZ] at hE3
 refine ⟨(v702+1,(row4.set x2.toNat true)),od,⟨od,by (try dsimp only)<;>(first|exact hq3|(simp only [List.length_set];exact hq3)),hE3⟩,?_⟩
 exact ⟨[0,1,2],⟨by decide,rfl,(A0.cons kr (A0.cons (Bp (fun _=>rfl) (e:=4) (k:=1) (A:=AV.b) (xs:=(row4.set x2.toNat true)) rfl rfl) (A0.cons (Bp (fun _=>rfl) (e:=9) (k:=1) (A:=AV.s) (xs:=(E6 [(s'.graph.edges.getD x2.toNat default).ins,(s'.graph.edges.getD x2.toNat default).implicit])) rfl rfl) A0.nil))),(Au.cons (B8.f kr) (Au.cons (B8.f kr) (Ee (Ee (Ee (Ee (Au.cons (B8.f kr) (Ee (Ee Au.nil)))))))))⟩,AE⟩
 have hc3:decide (((v702:Nat):Int)<((((E6 [(s'.graph.edges.getD x2.toNat default).ins,(s'.graph.edges.getD x2.toNat default).implicit]).length):Nat):Int))=false:=decide_eq_false (by omega)
 refine Ag.cond (t:=false) (by rw [←hc3]<;>kernel_rfl) (Ag.exit ?_)
 rw [List.drop_eq_nil_of_le (by first|(simpa using hl3)|omega),Ov.eq_1] at hE3
 subst hE3
 refine Rg<|Ap (Ai (v50+1)) (B5 (i:=v50) (m:=1) kr kr sd)<|Aq (Ai (v50+1))<|Ad ?_
 try simp only [hR3,AZ] at hE2
 refine ⟨(v50+1,row4),od,⟨od,by (try dsimp only)<;>(exact hq3),hE2⟩,?_⟩
 exact ⟨[0,1],⟨by decide,rfl,(A0.cons kr (A0.cons (Bp (fun _=>rfl) (e:=4) (k:=1) (A:=AV.b) (xs:=row4) rfl rfl) A0.nil)),(Au.cons (B8.f kr) (Au.cons (B8.f kr) (Ee (Ee (Ee Au.nil)))))⟩,AE⟩
 have hc2:decide (((v50:Nat):Int)<((((ID (⟨s'.graph.edges,s'.graph.pools,s'.graph.defaults⟩:Av)).1).length:Nat):Int))=false:=decide_eq_false (by omega)
 refine Ag.cond (t:=false) (by rw [←hc2]<;>kernel_rfl) (Ag.exit ?_)
 rw [List.drop_eq_nil_of_le (hl2),VF.eq_1] at hE2
 subst hE2
 refine Sq<|Rg<|Aq (AV.own 1 0 s'.graph.edges.length)<|Aq (AV.own 1 0 s'.graph.edges.length)<|Aq (AV.i .i64 (0:Int))<|Ad<|Rt ?_
 have hM:GH s'=(row2,(0:Int)):=by simp only [GH,c_1,hR1,hR2,AZ]
 refine ⟨Or.inr rfl,?_⟩
 rw [hM]
 exact B8.cast (x':=(AV.tup [(AV.own 1 0 s'.graph.edges.length),(AV.i .i64 (0:Int))])) (y':=(AV.tup [((Az 1 AV.b) ((row2,(0:Int)).1)),(AV.i .i64 ((row2,(0:Int)).2))])) kr kr (B8.tup ⟨(EP.kk (x':=(AV.own 1 0 s'.graph.edges.length)) kr kr rfl (A6.row (fun _=>rfl) (A:=AV.b) (id:=1) (e:=4) (k:=1) (xs:=row2) rfl rfl sd sd)),⟨Ec,trivial⟩⟩ kr)
 refine Ct<|Sq<|Rg<|Aq (AV.sl 1 true [])<|Aq (AV.i .i64 (1900:Int))<|Ad<|Rt ?_
 have hM:GH s'=(([]:List Bool),(1900:Int)):=by simp only [GH,c_1,AZ]
 refine ⟨Or.inr rfl,?_⟩
 rw [hM]
 exact B8.cast (x':=(AV.tup [(AV.sl 1 true []),(AV.i .i64 (1900:Int))])) (y':=(AV.tup [((Az 1 AV.b) ((([]:List Bool),(1900:Int)).1)),(AV.i .i64 ((([]:List Bool),(1900:Int)).2))])) kr kr (B8.tup ⟨(B8.w rfl (AL.nil 1)),⟨Ec,trivial⟩⟩ kr)
def G6:AV:=(AV.st [(AV.s (⟨#[]⟩:ByteArray)),(AV.i .i64 (0:Int)),(AV.i .i64 (0:Int))])
def Ic:Obj:=⟨85,3,[G6]⟩
def G5:AV:=(AV.tup [G6,(AV.b false)])
def L9:AV:=(AV.tup [(A3.av (((⟨(⟨#[]⟩:ByteArray),(0:Int),(0:Int)⟩:A3),false).1)),(AV.b (((⟨(⟨#[]⟩:ByteArray),(0:Int),(0:Int)⟩:A3),false).2))])
theorem Sv (W:World) (d:Aj) (name:ByteArray) (hz:d.sz≤1048576):Am Go.Proofs.Tryz.prog W 43 [(Aj.av d),(AV.s name)] (AV.tup [(A3.av ((Jv d name).1)),(AV.b ((Jv d name).2))]) []:=by
 have hl:=Ha A3.sz_one d.files
 have hl2:=d.sz_files
 refine Du Aa (fn:=Go.Proofs.Tryz.f43) Go.Proofs.Tryz.func43 rfl (en43 W) le<|Sq<|Rg<|Nn (AV.loc 0 0 0) ⟨30,2,[(Aj.av d)]⟩<|Nn (AV.loc 1 0 0) Ic<|Aq (AV.b false)<|Ad<|Sq<|Sq<|Rg<|Aq (AV.i .i64 (0:Int))<|Ad<|Ag.block ?_
 obtain ⟨R1,hR1⟩: ∃R,X4 d name (d.files.length-0+1) 0 (⟨#[]⟩:ByteArray) (0:Int) (0:Int)=R:=⟨_,rfl⟩
 refine Bl (fun ((kf1,(i,cell,cell2,cell3)):Nat×(Nat×ByteArray×Int×Int))=>[(1,(AV.s name)),(2,(AV.loc 0 0 0)),(4,(AV.loc 1 0 0)),(6,(Ai i))]) (fun ((kf1,(i,cell,cell2,cell3)):Nat×(Nat×ByteArray×Int×Int))=>⟨2,[(0,some ⟨30,2,[(Aj.av d)]⟩),(1,some ⟨85,3,[(AV.st [(AV.s cell),(AV.i .i64 cell2),(AV.i .i64 cell3)])]⟩)]⟩) (fun ((kf1,(i,cell,cell2,cell3)):Nat×(Nat×ByteArray×Int×Int))=>d.files.length-i<kf1∧i≤d.files.length∧X4 d name kf1 i cell cell2 cell3=R1) (fun ((kf1,(i,cell,cell2,cell3)):Nat×(Nat×ByteArray×Int×Int))=>kf1) (d.files.length-0+1,(0,(⟨#[]⟩:ByteArray),(0:Int),(0:Int))) ?_ ?_ ?_
 exact ⟨[0,1],⟨by decide,rfl,(A0.cons kr (A0.cons kr A0.nil)),(Ee (Au.cons (B8.f kr) (Au.cons (B8.f kr) (Ee Au.nil))))⟩,AE⟩
 exact ⟨od,Iv,hR1⟩
 rintro ⟨kf1,i,cell,cell2,cell3⟩ ⟨hi1,hi,hE1⟩
 try dsimp only
 rcases kf1 with _|kf1
 exact absurd hi1 (Nat.not_lt_zero _)
 rw [X4.eq_2] at hE1
 refine Sq<|Sq<|Rg<|Aq (Ai i)<|Aq (AV.loc 0 0 1)<|Aq ((Az 3 A3.av) d.files)<|Ap (Ai d.files.length) (Cs (k:=3) (nl:=false) (e:=85) (A:=A3.av) (xs:=d.files) kr kr)<|Aq (AV.b (decide (((i:Nat):Int)<((d.files.length:Nat):Int))))<|Aq (AV.b (decide (((i:Nat):Int)<((d.files.length:Nat):Int)))) ?_
 cases c_1:decide (((i:Nat):Int)<((d.files.length:Nat):Int))
 have k_1:=of_decide_eq_false c_1
 refine An<|An<|Aq (AV.b false)<|Ad<|Cf<|Ag.exit ?_
 try simp only [c_1,AZ] at hE1
 subst hE1
 refine Sq<|Rg<|Nb G6<|Sp 1 Ic<|Aq (AV.b false)<|Ad<|Rt ?_
 have hM:Jv d name=((⟨(⟨#[]⟩:ByteArray),(0:Int),(0:Int)⟩:A3),false):=by simp only [Jv,hR1,AZ]
 refine ⟨Or.inr rfl,G5,kr,?_⟩
 rw [hM]
 exact B8.cast (x':=G5) (y':=L9) kr kr (B8.tup ⟨Ec,⟨Ec,trivial⟩⟩ kr)
 have k_1:=of_decide_eq_true c_1
 refine Ay<|Aq (Aj.av d)<|Ay<|A2.sc0 (vs:=[(Aj.av d)]) (r0:=(AV.b (NI d))) kr kr (Ie W d) kr le<|Aq (AV.b (NI d))<|Ad ?_
 cases c_2:(NI d)
 refine Cf<|Ag.exit ?_
 try simp only [c_1,c_2,AZ] at hE1
 subst hE1
 refine Sq<|Rg<|Nb G6<|Sp 1 Ic<|Aq (AV.b false)<|Ad<|Rt ?_
 have hM:Jv d name=((⟨(⟨#[]⟩:ByteArray),(0:Int),(0:Int)⟩:A3),false):=by simp only [Jv,hR1,AZ]
 refine ⟨Or.inr rfl,G5,kr,?_⟩
 rw [hM]
 exact B8.cast (x':=G5) (y':=L9) kr kr (B8.tup ⟨Ec,⟨Ec,trivial⟩⟩ kr)
 refine Ct<|Ag.skip<|Sq<|Ag.block<|Sq<|Rg<|Aq (AV.loc 0 0 1)<|Aq ((Az 3 A3.av) d.files)<|Aq (Ai i)<|Ap (AV.pt (A3.av (d.files.getD i default)).cells) (C8 (k:=3) (nl:=false) (e:=85) (kk:= .i64) (A:=A3.av) (xs:=d.files) (i:=i) kr kr kr ⟨by kernel_rfl,by decide⟩ (getD_some sd))<|Aq (AV.pt ((A3.av (d.files.getD i default)).cells.drop 0))<|Aq (AV.s ((d.files.getD i default).name))<|Aq (AV.s name)<|Aq (AV.b (decide ((d.files.getD i default).name=name)))<|Ad ?_
 cases c_3:decide ((d.files.getD i default).name=name)
 refine Cf<|Ag.skip<|Rg<|Aq (Ai i)<|Ap (Ai (i+1)) (B5 (i:=i) (m:=1) kr kr sd)<|Aq (Ai (i+1))<|Ad ?_
 try simp only [c_1,c_2,c_3,AZ] at hE1
 refine ⟨(kf1,(i+1,cell,cell2,cell3)),od,⟨Iv,Iv,hE1⟩,?_⟩
 exact ⟨[0,1],⟨by decide,rfl,(A0.cons kr (A0.cons kr A0.nil)),(Ee (Au.cons (B8.f kr) (Au.cons (B8.f kr) (Ee Au.nil))))⟩,AE⟩
 refine Ct<|Sq<|Rg<|Aq (AV.loc 0 0 1)<|Aq ((Az 3 A3.av) d.files)<|Aq (Ai i)<|Ap (AV.pt (A3.av (d.files.getD i default)).cells) (C8 (k:=3) (nl:=false) (e:=85) (kk:= .i64) (A:=A3.av) (xs:=d.files) (i:=i) kr kr kr ⟨by kernel_rfl,by decide⟩ (getD_some sd))<|Aq (A3.av (d.files.getD i default))<|Sp 1 ⟨85,3,[(AV.st [(AV.s ((d.files.getD i default).name)),(AV.i .i64 ((d.files.getD i default).content)),(AV.i .i64 ((d.files.getD i default).time))])]⟩<|Aq (AV.b true)<|Ad<|Rt ?_
 try simp only [c_1,c_2,c_3,AZ] at hE1
 subst hE1
 have hM:Jv d name=((⟨(d.files.getD i default).name,(d.files.getD i default).content,(d.files.getD i default).time⟩:A3),true):=by simp only [Jv,hR1,AZ]
 refine ⟨Or.inr rfl,(AV.tup [(AV.st [(AV.s ((d.files.getD i default).name)),(AV.i .i64 ((d.files.getD i default).content)),(AV.i .i64 ((d.files.getD i default).time))]),(AV.b true)]),kr,?_⟩
 rw [hM]
 exact B8.cast (x':=(AV.tup [(AV.st [(AV.s ((d.files.getD i default).name)),(AV.i .i64 ((d.files.getD i default).content)),(AV.i .i64 ((d.files.getD i default).time))]),(AV.b true)])) (y':=(AV.tup [(A3.av (((⟨(d.files.getD i default).name,(d.files.getD i default).content,(d.files.getD i default).time⟩:A3),true).1)),(AV.b (((⟨(d.files.getD i default).name,(d.files.getD i default).content,(d.files.getD i default).time⟩:A3),true).2))])) kr kr (B8.tup ⟨Ec,⟨Ec,trivial⟩⟩ kr)
def Db (d:Aj):AV:=(AV.st [(AV.i .i64 d.clock),(AV.sl 3 true [])])
def Da:Obj:=⟨30,2,[(AV.st [(AV.i .i64 (0:Int)),(AV.sl 3 true [])])]⟩
theorem OH (W:World) (d:Aj) (name:ByteArray) (hz:d.sz≤1048576):Am Go.Proofs.Tryz.prog W 71 [(Aj.av d),(AV.s name)] (Aj.av (Ld d name)) []:=by
 have hl:=Ha A3.sz_one d.files
 have hl2:=d.sz_files
 refine Du Aa (fn:=Go.Proofs.Tryz.f71) Go.Proofs.Tryz.func71 rfl (en71 W) le<|Sq<|Rg<|Nn (AV.loc 0 0 0) ⟨30,2,[(Aj.av d)]⟩<|Nn (AV.loc 1 0 0) Da<|Ad<|Sq<|Rg<|Aq (AV.loc 0 0 0)<|Aq (AV.i .i64 d.clock)<|Nb (Db d)<|Nn (AV.loc 2 0 0) Da<|Sp 2 ⟨30,2,[(Db d)]⟩<|Ad<|Sq<|Sq<|Rg<|Aq (AV.i .i64 (0:Int))<|Ad<|Ag.block<|Ag.lim 0 (x:=(Aj.av d)) kr fun hlm1=> ?_
 have hB1:d.files.length≤281474976710656:=CI (I4 hlm1)
 obtain ⟨R1,hR1⟩: ∃R,Uo name d.files 0 []=R:=⟨_,rfl⟩
 refine Bl (fun ((i,cell):Nat×(List A3))=>[(1,(AV.s name)),(2,(AV.loc 0 0 0)),(4,(AV.loc 1 0 0)),(5,(AV.loc 2 0 0)),(6,(Ai i))]) (fun ((i,cell):Nat×(List A3))=>⟨4,[(0,some ⟨30,2,[(Aj.av d)]⟩),(1,some Da),(3,Kq 85 3 A3.av cell),(2,some ⟨30,2,[(AV.st [(AV.i .i64 d.clock),(BO 3 3 A3.av cell)])]⟩)]⟩) (fun ((i,cell):Nat×(List A3))=>i≤d.files.length∧cell.length≤i∧Uo name (d.files.drop i) i cell=R1) (fun ((i,cell):Nat×(List A3))=>d.files.length-i) (0,[]) ?_ ?_ ?_
 exact ⟨[0,1,2,1000003],⟨by decide,rfl,(A0.cons kr (A0.cons kr (A0.cons (Qd (e:=30) (k:=2) (xs:=[(Db d)]) (ys:=[(AV.st [(AV.i .i64 d.clock),(BO 3 3 A3.av [])])]) rfl (BN.cons (Kb (BN.cons (Mc kr) (BN.cons rfl BN.nil))) BN.nil) rfl) (A0.cons rfl A0.nil)))),(Ee (Au.cons (B8.f kr) (Au.cons (B8.f kr) (Au.cons (B8.f kr) (Ee Au.nil)))))⟩,AE⟩
 exact ⟨od,Iv,hR1⟩
 rintro ⟨i,cell⟩ ⟨hi1,ha,hE1⟩
 try dsimp only
 refine Sq<|Sq<|Rg<|Aq (Ai i)<|Aq (AV.loc 0 0 1)<|Aq ((Az 3 A3.av) d.files)<|Ap (Ai d.files.length) (Cs (k:=3) (nl:=false) (e:=85) (A:=A3.av) (xs:=d.files) kr kr)<|Aq (AV.b (decide (((i:Nat):Int)<((d.files.length:Nat):Int))))<|Ad ?_
 rcases Nat.lt_or_ge i d.files.length with hl1|hl1
 have hc1:decide (((i:Nat):Int)<((d.files.length:Nat):Int))=true:=decide_eq_true (by omega)
 refine Ag.cond (t:=true) (by rw [←hc1]<;>kernel_rfl) (Ag.skip ?_)
 obtain ⟨x1,hx1⟩: ∃x,d.files[i]? =some x:=⟨_,List.getElem?_eq_getElem hl1⟩
 rw [Bo hx1,Uo.eq_2] at hE1
 refine Sq<|Ag.block<|Sq<|Rg<|Aq (AV.loc 0 0 1)<|Aq ((Az 3 A3.av) d.files)<|Aq (Ai i)<|Ap (AV.pt (A3.av x1).cells) (C8 (k:=3) (nl:=false) (e:=85) (kk:= .i64) (A:=A3.av) (xs:=d.files) (i:=i) kr kr kr ⟨by kernel_rfl,by decide⟩ hx1)<|Aq (AV.pt ((A3.av x1).cells.drop 0))<|Aq (AV.s x1.name)<|Aq (AV.s name)<|Aq (AV.b (!decide (x1.name=name)))<|Ad ?_
 cases c_1:(!decide (x1.name=name))
 refine Cf<|Ag.skip<|Rg<|Aq (Ai i)<|Ap (Ai (i+1)) (B5 (i:=i) (m:=1) kr kr sd)<|Aq (Ai (i+1))<|Ad ?_
 try simp only [c_1,AZ] at hE1
 refine ⟨(i+1,cell),od,⟨od,Iv,hE1⟩,?_⟩
 exact ⟨[0,1,2,3],⟨by decide,rfl,(A0.cons kr (A0.cons kr (A0.cons (Qd (e:=30) (k:=2) (xs:=[(AV.st [(AV.i .i64 d.clock),(BO 3 3 A3.av cell)])]) (ys:=[(AV.st [(AV.i .i64 d.clock),(BO 3 3 A3.av cell)])]) rfl (BN.cons (Kb (BN.cons (Mc kr) (BN.cons (RP rfl) BN.nil))) BN.nil) rfl) (A0.cons (GW (fun _=>rfl) (e:=85) (k:=3) (A:=A3.av) (xs:=cell) rfl rfl) A0.nil)))),(Ee (Au.cons (B8.f kr) (Au.cons (B8.f kr) (Au.cons (B8.f kr) (Ee Au.nil)))))⟩,AE⟩
 refine Ct<|Ag.drawn Aa Eb 8 kr le<|Dq (AV.loc 2 0 1)<|Dq (BO 3 3 A3.av cell)<|Dq (AV.loc 0 0 1)<|Dq ((Az 3 A3.av) d.files)<|Dq (Ai i)<|Dp (AV.pt (A3.av x1).cells) (C8 (k:=3) (nl:=false) (e:=85) (kk:= .i64) (A:=A3.av) (xs:=d.files) (i:=i) kr kr kr ⟨by kernel_rfl,by decide⟩ hx1)<|Dq (A3.av x1)<|Aw.sn (x:=(AV.own 4 0 1)) (h':=⟨5,[(4,some ⟨85,3,[x1].map A3.av⟩),(0,some ⟨30,2,[(Aj.av d)]⟩),(1,some Da),(3,Kq 85 3 A3.av cell),(2,some ⟨30,2,[(AV.st [(AV.i .i64 d.clock),(BO 3 3 A3.av cell)])]⟩)]⟩) kr le<|Aw.se (by decide) (x:=(AV.own 5 0 ((cell++[x1]).length))) (h':=⟨6,[(5,some ⟨85,3,(cell++[x1]).map A3.av⟩),(4,some ⟨85,3,[x1].map A3.av⟩),(0,some ⟨30,2,[(Aj.av d)]⟩),(1,some Da),(3,none),(2,some ⟨30,2,[(AV.st [(AV.i .i64 d.clock),(BO 3 3 A3.av cell)])]⟩)]⟩) (O8 (e:=85) (X:=(AV.own 4 0 1)) (A:=A3.av) (i:=Rk) (p:=3) (xs:=cell) (ys:=[x1]) kr kr kr (hx:=kr) kr (by simp) ⟨by decide,by kernel_rfl⟩ rfl (by intro q;first|(subst q;rfl)|(rw [q];rfl)|(simp only [q];rfl)) (by show _*32≤140737488355328;first|omega|(simp only [List.length_append,List.length_cons,List.length_nil,List.length_set,List.length_replicate];omega)|(simp;omega)) sd) le<|Dq (AV.loc 2 0 1)<|Aw.st (by decide) (x:=AV.und) (h':=⟨6,[(5,some ⟨85,3,(cell++[x1]).map A3.av⟩),(4,some ⟨85,3,[x1].map A3.av⟩),(0,some ⟨30,2,[(Aj.av d)]⟩),(1,some Da),(3,none),(2,some ⟨30,2,[(AV.st [(AV.i .i64 d.clock),(AV.own 5 0 ((cell++[x1]).length))])]⟩)]⟩) kr ?_
 refine Aw.fin<|Rg<|Aq (Ai i)<|Ap (Ai (i+1)) (B5 (i:=i) (m:=1) kr kr sd)<|Aq (Ai (i+1))<|Ad ?_
 try simp only [c_1,AZ] at hE1
 refine ⟨(i+1,(cell++[x1])),od,⟨od,Iv,hE1⟩,?_⟩
 exact ⟨[0,1,2,5],⟨by decide,rfl,(A0.cons kr (A0.cons kr (A0.cons (Qd (e:=30) (k:=2) (xs:=[(AV.st [(AV.i .i64 d.clock),(AV.own 5 0 ((cell++[x1]).length))])]) (ys:=[(AV.st [(AV.i .i64 d.clock),(BO 3 3 A3.av (cell++[x1]))])]) rfl (BN.cons (Kb (BN.cons (Mc kr) (BN.cons (MW (A:=A3.av) (k:=3) (xs:=(cell++[x1])) (by simp) rfl rfl) BN.nil))) BN.nil) rfl) (A0.cons (HX (fun _=>rfl) (e:=85) (k:=3) (A:=A3.av) (xs:=(cell++[x1])) (by simp) rfl rfl) A0.nil)))),(Ee (Au.cons (B8.f kr) (Au.cons (B8.f kr) (Au.cons (B8.f kr) (Ee Au.nil)))))⟩,AE⟩
 have hc1:decide (((i:Nat):Int)<((d.files.length:Nat):Int))=false:=decide_eq_false (by omega)
 refine Ag.cond (t:=false) (by rw [←hc1]<;>kernel_rfl) (Ag.exit ?_)
 rw [List.drop_eq_nil_of_le (hl1),Uo.eq_1] at hE1
 subst hE1
 refine Sq<|Rg<|Aq (AV.st [(AV.i .i64 d.clock),(BO 3 3 A3.av cell)]) ?_
 by_cases z_2:cell=[]
 simp only [Wn z_2,Wm z_2]
 refine Sp 1 ⟨30,2,[(Db d)]⟩<|Ad<|Rt ?_
 have hM:Ld d name=(⟨d.clock,[]⟩:Aj):=by simp only [Ld,hR1,z_2,AZ]
 refine ⟨Or.inr rfl,(Db d),kr,?_⟩
 rw [hM]
 exact B8.cast (x':=(Db d)) (y':=(Aj.av (⟨d.clock,[]⟩:Aj))) kr kr (B8.st ⟨Ec,⟨(B8.w rfl (AL.nil 3)),trivial⟩⟩ kr)
 simp only [SR z_2,SQ z_2]
 refine Sp 1 ⟨30,2,[(AV.st [(AV.i .i64 d.clock),(AV.own 3 0 cell.length)])]⟩<|Ad<|Rt ?_
 have hM:Ld d name=(⟨d.clock,cell⟩:Aj):=by simp only [Ld,hR1,AZ]
 refine ⟨Or.inr rfl,(AV.st [(AV.i .i64 d.clock),(AV.own 3 0 cell.length)]),kr,?_⟩
 rw [hM]
 exact B8.cast (x':=(AV.st [(AV.i .i64 d.clock),(AV.own 3 0 cell.length)])) (y':=(Aj.av (⟨d.clock,cell⟩:Aj))) kr kr (B8.st ⟨Ec,⟨(EP.kk (x':=(AV.own 3 0 cell.length)) kr kr rfl (A6.row (fun _=>rfl) (A:=A3.av) (id:=3) (e:=85) (k:=3) (xs:=cell) rfl rfl rfl sd)),trivial⟩⟩ kr)
def Ci (d:Aj):AV:=((Az 3 A3.av) d.files)
def BR:AV:=(AV.st [(AV.i .i64 (0:Int)),(AV.sl 3 true [])])
def Ar (d:Aj):AV:=(AV.i .i64 (IntKind.wrap .i64 (d.clock+(1:Int))))
def AM:Obj:=⟨30,2,[BR]⟩
def DO (d:Aj):AV:=(AV.st [(Ar d),(AV.sl 3 true [])])
def D9:AV:=(AV.tup [BR,(AV.i .i64 (1200:Int))])
def Cr:AV:=(AV.tup [BR,(AV.i .i64 (1201:Int))])
def CN (name:ByteArray) (content:Int) (d:Aj):Obj:=⟨85,3,[(⟨name,content,(IntKind.wrap .i64 (d.clock+(1:Int)))⟩:A3)].map A3.av⟩
def EH (name:ByteArray) (content:Int) (d:Aj):AV:=(AV.st [(AV.s name),(AV.i .i64 content),(Ar d)])
def BG (name:ByteArray) (content:Int) (d:Aj):Obj:=⟨85,3,[(EH name content d)]⟩
def Jh (d:Aj):AV:=(AV.tup [(DO d),(AV.i .i64 (0:Int))])
def Gt:AV:=(AV.tup [(Aj.av (((⟨(0:Int),[]⟩:Aj),(1200:Int)).1)),(AV.i .i64 (((⟨(0:Int),[]⟩:Aj),(1200:Int)).2))])
def EG:AV:=(AV.tup [(Aj.av (((⟨(0:Int),[]⟩:Aj),(1201:Int)).1)),(AV.i .i64 (((⟨(0:Int),[]⟩:Aj),(1201:Int)).2))])
theorem CJ (W:World) (d:Aj) (name:ByteArray) (content:Int) (hz:d.sz≤1048576):Am Go.Proofs.Tryz.prog W 28 [(Aj.av d),(AV.s name),(AV.i .i64 content)] (AV.tup [(Aj.av ((Ij d name content).1)),(AV.i .i64 ((Ij d name content).2))]) []:=by
 have hl:=Ha A3.sz_one d.files
 have hl2:=d.sz_files
 refine Du Aa (fn:=Go.Proofs.Tryz.f28) Go.Proofs.Tryz.func28 rfl (en28 W) le<|Sq<|Rg<|Nn (AV.loc 0 0 0) ⟨30,2,[(Aj.av d)]⟩<|Nn (AV.loc 1 0 0) AM<|Aq (AV.i .i64 (0:Int))<|Ad<|Sq<|Sq<|Rg<|Aq (Aj.av d)<|A2.sc0 (vs:=[(Aj.av d)]) (r0:=(AV.b (NI d))) kr kr (Ie W d) kr le<|Aq (AV.b (!(NI d)))<|Aq (AV.b (!(NI d))) ?_
 cases c_1:(!(NI d))
 refine Ay<|Aq (AV.s name)<|Ay<|A2.sc0 (vs:=[(AV.s name)]) (r0:=(AV.b (I5 name))) kr kr (Jr W name) kr le<|Ay<|Aq (AV.b (!(I5 name)))<|Aq (AV.b (!(I5 name)))<|Aq (AV.b (!(I5 name))) ?_
 cases c_2:(!(I5 name))
 refine Ay<|Aq (AV.i .i64 content)<|Ay<|A2.sc0 (vs:=[(AV.i .i64 content),(AV.i .i64 (0:Int)),(AV.i .i64 (2147483647:Int))]) (r0:=(AV.b (FI content (0:Int) (2147483647:Int)))) kr kr (Iw W content (0:Int) (2147483647:Int)) kr le<|Ay<|Aq (AV.b (!(FI content (0:Int) (2147483647:Int))))<|Aq (AV.b (!(FI content (0:Int) (2147483647:Int))))<|Ad ?_
 cases c_3:(!(FI content (0:Int) (2147483647:Int)))
 refine Cf<|Ag.skip<|Sq<|Rg<|Aq (AV.s name)<|Aq (AV.i .i64 content)<|Aq (AV.loc 0 0 0)<|Aq (AV.i .i64 d.clock)<|Aq (Ar d)<|Nb (EH name content d)<|Nn (AV.loc 2 0 0) ⟨85,3,[(AV.st [(AV.s (⟨#[]⟩:ByteArray)),(AV.i .i64 (0:Int)),(AV.i .i64 (0:Int))])]⟩<|Sp 2 (BG name content d)<|Ad<|Sq<|Rg<|Aq (AV.loc 0 0 0)<|Aq (AV.i .i64 d.clock)<|Aq (Ar d)<|Nb (DO d)<|Nn (AV.loc 3 0 0) AM<|Sp 3 ⟨30,2,[(DO d)]⟩<|Ad<|Sq<|Rg<|Aq (AV.b false)<|Ad<|Sq<|Sq<|Rg<|Aq (AV.i .i64 (0:Int))<|Ad<|Ag.block<|Ag.lim 0 (x:=(Aj.av d)) kr fun hlm1=> ?_
 have hB1:d.files.length≤281474976710656:=CI (I4 hlm1)
 obtain ⟨R1,hR1⟩: ∃R,Pq name content d d.files 0 false []=R:=⟨_,rfl⟩
 refine Bl (fun ((in',i,cell):Bool×Nat×(List A3))=>[(1,(AV.s name)),(3,(AV.loc 0 0 0)),(6,(AV.loc 1 0 0)),(8,(AV.loc 2 0 0)),(9,(AV.loc 3 0 0)),(10,(AV.b in')),(11,(Ai i))]) (fun ((in',i,cell):Bool×Nat×(List A3))=>⟨5,[(0,some ⟨30,2,[(Aj.av d)]⟩),(1,some AM),(2,some (BG name content d)),(4,Kq 85 3 A3.av cell),(3,some ⟨30,2,[(AV.st [(Ar d),(BO 4 3 A3.av cell)])]⟩)]⟩) (fun ((in',i,cell):Bool×Nat×(List A3))=>i≤d.files.length∧cell.length≤2*i∧Pq name content d (d.files.drop i) i in' cell=R1) (fun ((in',i,cell):Bool×Nat×(List A3))=>d.files.length-i) (false,0,[]) ?_ ?_ ?_
 exact ⟨[0,1,2,3,1000004],⟨by decide,rfl,(A0.cons kr (A0.cons kr (A0.cons kr (A0.cons (Qd (e:=30) (k:=2) (xs:=[(DO d)]) (ys:=[(AV.st [(Ar d),(BO 4 3 A3.av [])])]) rfl (BN.cons (Kb (BN.cons (Mc kr) (BN.cons rfl BN.nil))) BN.nil) rfl) (A0.cons rfl A0.nil))))),(Ee (Au.cons (B8.f kr) (Au.cons (B8.f kr) (Au.cons (B8.f kr) (Au.cons (B8.f kr) (Ee (Ee Au.nil)))))))⟩,AE⟩
 exact ⟨od,Iv,hR1⟩
 rintro ⟨in',i,cell⟩ ⟨hi1,ha,hE1⟩
 try dsimp only
 refine Sq<|Sq<|Rg<|Aq (Ai i)<|Aq (AV.loc 0 0 1)<|Aq (Ci d)<|Ap (Ai d.files.length) (Cs (k:=3) (nl:=false) (e:=85) (A:=A3.av) (xs:=d.files) kr kr)<|Aq (AV.b (decide (((i:Nat):Int)<((d.files.length:Nat):Int))))<|Ad ?_
 rcases Nat.lt_or_ge i d.files.length with hl1|hl1
 have hc1:decide (((i:Nat):Int)<((d.files.length:Nat):Int))=true:=decide_eq_true (by omega)
 refine Ag.cond (t:=true) (by rw [←hc1]<;>kernel_rfl) (Ag.skip ?_)
 obtain ⟨x1,hx1⟩: ∃x,d.files[i]? =some x:=⟨_,List.getElem?_eq_getElem hl1⟩
 rw [Bo hx1,Pq.eq_2] at hE1
 refine Sq<|Ag.block<|Sq<|Sq<|Rg<|Aq (AV.b in')<|Aq (AV.b (!in'))<|Aq (AV.b (!in')) ?_
 cases c_4:(!in')
 refine An<|An<|An<|An<|An<|An<|An<|An<|Aq (AV.b false)<|Ad<|Cf<|Ag.skip<|Sq<|Rg<|Aq (AV.loc 0 0 1)<|Aq (Ci d)<|Aq (Ai i)<|Ap (AV.pt (A3.av x1).cells) (C8 (k:=3) (nl:=false) (e:=85) (kk:= .i64) (A:=A3.av) (xs:=d.files) (i:=i) kr kr kr ⟨by kernel_rfl,by decide⟩ hx1)<|Aq (AV.pt ((A3.av x1).cells.drop 0))<|Aq (AV.s x1.name)<|Aq (AV.s name)<|Aq (AV.b (!decide (x1.name=name)))<|Ad ?_
 cases c_5:(!decide (x1.name=name))
 refine Cf<|Ag.skip<|Rg<|Aq (Ai i)<|Ap (Ai (i+1)) (B5 (i:=i) (m:=1) kr kr sd)<|Aq (Ai (i+1))<|Ad ?_
 try simp only [c_4,c_5,AZ] at hE1
 refine ⟨(in',i+1,cell),od,⟨od,Iv,hE1⟩,?_⟩
 exact ⟨[0,1,2,3,4],⟨by decide,rfl,(A0.cons kr (A0.cons kr (A0.cons kr (A0.cons (Qd (e:=30) (k:=2) (xs:=[(AV.st [(Ar d),(BO 4 3 A3.av cell)])]) (ys:=[(AV.st [(Ar d),(BO 4 3 A3.av cell)])]) rfl (BN.cons (Kb (BN.cons (Mc kr) (BN.cons (RP rfl) BN.nil))) BN.nil) rfl) (A0.cons (GW (fun _=>rfl) (e:=85) (k:=3) (A:=A3.av) (xs:=cell) rfl rfl) A0.nil))))),(Ee (Au.cons (B8.f kr) (Au.cons (B8.f kr) (Au.cons (B8.f kr) (Au.cons (B8.f kr) (Ee (Ee Au.nil)))))))⟩,AE⟩
 refine Ct<|Ag.drawn Aa Eb 8 kr le<|Dq (AV.loc 3 0 1)<|Dq (BO 4 3 A3.av cell)<|Dq (AV.loc 0 0 1)<|Dq (Ci d)<|Dq (Ai i)<|Dp (AV.pt (A3.av x1).cells) (C8 (k:=3) (nl:=false) (e:=85) (kk:= .i64) (A:=A3.av) (xs:=d.files) (i:=i) kr kr kr ⟨by kernel_rfl,by decide⟩ hx1)<|Dq (A3.av x1)<|Aw.sn (x:=(AV.own 5 0 1)) (h':=⟨6,[(5,some ⟨85,3,[x1].map A3.av⟩),(0,some ⟨30,2,[(Aj.av d)]⟩),(1,some AM),(2,some (BG name content d)),(4,Kq 85 3 A3.av cell),(3,some ⟨30,2,[(AV.st [(Ar d),(BO 4 3 A3.av cell)])]⟩)]⟩) kr le<|Aw.se (by decide) (x:=(AV.own 6 0 ((cell++[x1]).length))) (h':=⟨7,[(6,some ⟨85,3,(cell++[x1]).map A3.av⟩),(5,some ⟨85,3,[x1].map A3.av⟩),(0,some ⟨30,2,[(Aj.av d)]⟩),(1,some AM),(2,some (BG name content d)),(4,none),(3,some ⟨30,2,[(AV.st [(Ar d),(BO 4 3 A3.av cell)])]⟩)]⟩) (O8 (e:=85) (X:=(AV.own 5 0 1)) (A:=A3.av) (i:=Rk) (p:=4) (xs:=cell) (ys:=[x1]) kr kr kr (hx:=kr) kr (by simp) ⟨by decide,by kernel_rfl⟩ rfl (by intro q;first|(subst q;rfl)|(rw [q];rfl)|(simp only [q];rfl)) (by show _*32≤140737488355328;first|omega|(simp only [List.length_append,List.length_cons,List.length_nil,List.length_set,List.length_replicate];omega)|(simp;omega)) sd) le ?_
 refine Dq (AV.loc 3 0 1)<|Aw.st (by decide) (x:=AV.und) (h':=⟨7,[(6,some ⟨85,3,(cell++[x1]).map A3.av⟩),(5,some ⟨85,3,[x1].map A3.av⟩),(0,some ⟨30,2,[(Aj.av d)]⟩),(1,some AM),(2,some (BG name content d)),(4,none),(3,some ⟨30,2,[(AV.st [(Ar d),(AV.own 6 0 ((cell++[x1]).length))])]⟩)]⟩) kr<|Aw.fin<|Rg<|Aq (Ai i)<|Ap (Ai (i+1)) (B5 (i:=i) (m:=1) kr kr sd)<|Aq (Ai (i+1))<|Ad ?_
 try simp only [c_4,c_5,AZ] at hE1
 refine ⟨(in',i+1,(cell++[x1])),od,⟨od,Iv,hE1⟩,?_⟩
 exact ⟨[0,1,2,3,6],⟨by decide,rfl,(A0.cons kr (A0.cons kr (A0.cons kr (A0.cons (Qd (e:=30) (k:=2) (xs:=[(AV.st [(Ar d),(AV.own 6 0 ((cell++[x1]).length))])]) (ys:=[(AV.st [(Ar d),(BO 4 3 A3.av (cell++[x1]))])]) rfl (BN.cons (Kb (BN.cons (Mc kr) (BN.cons (MW (A:=A3.av) (k:=3) (xs:=(cell++[x1])) (by simp) rfl rfl) BN.nil))) BN.nil) rfl) (A0.cons (HX (fun _=>rfl) (e:=85) (k:=3) (A:=A3.av) (xs:=(cell++[x1])) (by simp) rfl rfl) A0.nil))))),(Ee (Au.cons (B8.f kr) (Au.cons (B8.f kr) (Au.cons (B8.f kr) (Au.cons (B8.f kr) (Ee (Ee Au.nil)))))))⟩,AE⟩
 refine Ay<|Aq (AV.loc 0 0 1)<|Ay<|Aq (Ci d)<|Ay<|Aq (Ai i)<|Ay<|Ap (AV.pt (A3.av x1).cells) (C8 (k:=3) (nl:=false) (e:=85) (kk:= .i64) (A:=A3.av) (xs:=d.files) (i:=i) kr kr kr ⟨by kernel_rfl,by decide⟩ hx1)<|Ay<|Aq (AV.pt ((A3.av x1).cells.drop 0))<|Ay<|Aq (AV.s x1.name)<|Ay<|Aq (AV.s name)<|Ay<|Aq (AV.b (!Op.bytesLess x1.name.toList name.toList))<|Aq (AV.b (!Op.bytesLess x1.name.toList name.toList))<|Ad ?_
 cases c_6:(!Op.bytesLess x1.name.toList name.toList)
 refine Cf<|Ag.skip<|Sq<|Rg<|Aq (AV.loc 0 0 1)<|Aq (Ci d)<|Aq (Ai i)<|Ap (AV.pt (A3.av x1).cells) (C8 (k:=3) (nl:=false) (e:=85) (kk:= .i64) (A:=A3.av) (xs:=d.files) (i:=i) kr kr kr ⟨by kernel_rfl,by decide⟩ hx1)<|Aq (AV.pt ((A3.av x1).cells.drop 0))<|Aq (AV.s x1.name)<|Aq (AV.s name)<|Aq (AV.b (!decide (x1.name=name)))<|Ad ?_
 cases c_7:(!decide (x1.name=name))
 refine Cf<|Ag.skip<|Rg<|Aq (Ai i)<|Ap (Ai (i+1)) (B5 (i:=i) (m:=1) kr kr sd)<|Aq (Ai (i+1))<|Ad ?_
 try simp only [c_4,c_6,c_7,AZ] at hE1
 refine ⟨(in',i+1,cell),od,⟨od,Iv,hE1⟩,?_⟩
 exact ⟨[0,1,2,3,4],⟨by decide,rfl,(A0.cons kr (A0.cons kr (A0.cons kr (A0.cons (Qd (e:=30) (k:=2) (xs:=[(AV.st [(Ar d),(BO 4 3 A3.av cell)])]) (ys:=[(AV.st [(Ar d),(BO 4 3 A3.av cell)])]) rfl (BN.cons (Kb (BN.cons (Mc kr) (BN.cons (RP rfl) BN.nil))) BN.nil) rfl) (A0.cons (GW (fun _=>rfl) (e:=85) (k:=3) (A:=A3.av) (xs:=cell) rfl rfl) A0.nil))))),(Ee (Au.cons (B8.f kr) (Au.cons (B8.f kr) (Au.cons (B8.f kr) (Au.cons (B8.f kr) (Ee (Ee Au.nil)))))))⟩,AE⟩
 refine Ct<|Ag.drawn Aa Eb 8 kr le<|Dq (AV.loc 3 0 1)<|Dq (BO 4 3 A3.av cell)<|Dq (AV.loc 0 0 1)<|Dq (Ci d)<|Dq (Ai i)<|Dp (AV.pt (A3.av x1).cells) (C8 (k:=3) (nl:=false) (e:=85) (kk:= .i64) (A:=A3.av) (xs:=d.files) (i:=i) kr kr kr ⟨by kernel_rfl,by decide⟩ hx1)<|Dq (A3.av x1)<|Aw.sn (x:=(AV.own 5 0 1)) (h':=⟨6,[(5,some ⟨85,3,[x1].map A3.av⟩),(0,some ⟨30,2,[(Aj.av d)]⟩),(1,some AM),(2,some (BG name content d)),(4,Kq 85 3 A3.av cell),(3,some ⟨30,2,[(AV.st [(Ar d),(BO 4 3 A3.av cell)])]⟩)]⟩) kr le<|Aw.se (by decide) (x:=(AV.own 6 0 ((cell++[x1]).length))) (h':=⟨7,[(6,some ⟨85,3,(cell++[x1]).map A3.av⟩),(5,some ⟨85,3,[x1].map A3.av⟩),(0,some ⟨30,2,[(Aj.av d)]⟩),(1,some AM),(2,some (BG name content d)),(4,none),(3,some ⟨30,2,[(AV.st [(Ar d),(BO 4 3 A3.av cell)])]⟩)]⟩) (O8 (e:=85) (X:=(AV.own 5 0 1)) (A:=A3.av) (i:=Rk) (p:=4) (xs:=cell) (ys:=[x1]) kr kr kr (hx:=kr) kr (by simp) ⟨by decide,by kernel_rfl⟩ rfl (by intro q;first|(subst q;rfl)|(rw [q];rfl)|(simp only [q];rfl)) (by show _*32≤140737488355328;first|omega|(simp only [List.length_append,List.length_cons,List.length_nil,List.length_set,List.length_replicate];omega)|(simp;omega)) sd) le ?_
 refine Dq (AV.loc 3 0 1)<|Aw.st (by decide) (x:=AV.und) (h':=⟨7,[(6,some ⟨85,3,(cell++[x1]).map A3.av⟩),(5,some ⟨85,3,[x1].map A3.av⟩),(0,some ⟨30,2,[(Aj.av d)]⟩),(1,some AM),(2,some (BG name content d)),(4,none),(3,some ⟨30,2,[(AV.st [(Ar d),(AV.own 6 0 ((cell++[x1]).length))])]⟩)]⟩) kr<|Aw.fin<|Rg<|Aq (Ai i)<|Ap (Ai (i+1)) (B5 (i:=i) (m:=1) kr kr sd)<|Aq (Ai (i+1))<|Ad ?_
 try simp only [c_4,c_6,c_7,AZ] at hE1
 refine ⟨(in',i+1,(cell++[x1])),od,⟨od,Iv,hE1⟩,?_⟩
 exact ⟨[0,1,2,3,6],⟨by decide,rfl,(A0.cons kr (A0.cons kr (A0.cons kr (A0.cons (Qd (e:=30) (k:=2) (xs:=[(AV.st [(Ar d),(AV.own 6 0 ((cell++[x1]).length))])]) (ys:=[(AV.st [(Ar d),(BO 4 3 A3.av (cell++[x1]))])]) rfl (BN.cons (Kb (BN.cons (Mc kr) (BN.cons (MW (A:=A3.av) (k:=3) (xs:=(cell++[x1])) (by simp) rfl rfl) BN.nil))) BN.nil) rfl) (A0.cons (HX (fun _=>rfl) (e:=85) (k:=3) (A:=A3.av) (xs:=(cell++[x1])) (by simp) rfl rfl) A0.nil))))),(Ee (Au.cons (B8.f kr) (Au.cons (B8.f kr) (Au.cons (B8.f kr) (Au.cons (B8.f kr) (Ee (Ee Au.nil)))))))⟩,AE⟩
 refine Ct<|Sq<|Rg<|Aq (AV.loc 3 0 1)<|Aq (BO 4 3 A3.av cell)<|Aq (EH name content d)<|Nn (AV.own 5 0 1) (CN name content d)<|A2.se (x:=(AV.own 6 0 ((cell++[(⟨name,content,(IntKind.wrap .i64 (d.clock+(1:Int)))⟩:A3)]).length))) (h':=⟨7,[(6,some ⟨85,3,(cell++[(⟨name,content,(IntKind.wrap .i64 (d.clock+(1:Int)))⟩:A3)]).map A3.av⟩),(5,some (CN name content d)),(0,some ⟨30,2,[(Aj.av d)]⟩),(1,some AM),(2,some (BG name content d)),(4,none),(3,some ⟨30,2,[(AV.st [(Ar d),(BO 4 3 A3.av cell)])]⟩)]⟩) (O8 (e:=85) (X:=(AV.own 5 0 1)) (A:=A3.av) (i:=Rk) (p:=4) (xs:=cell) (ys:=[(⟨name,content,(IntKind.wrap .i64 (d.clock+(1:Int)))⟩:A3)]) kr kr kr (hx:=kr) kr (by simp) ⟨by decide,by kernel_rfl⟩ rfl (by intro q;first|(subst q;rfl)|(rw [q];rfl)|(simp only [q];rfl)) (by show _*32≤140737488355328;first|omega|(simp only [List.length_append,List.length_cons,List.length_nil,List.length_set,List.length_replicate];omega)|(simp;omega)) sd) le<|Aq (AV.loc 3 0 1) ?_
 refine Sp 3 ⟨30,2,[(AV.st [(Ar d),(AV.own 6 0 ((cell++[(⟨name,content,(IntKind.wrap .i64 (d.clock+(1:Int)))⟩:A3)]).length))])]⟩<|Ad<|Rg<|Aq (AV.b true)<|Ad<|Sq<|Rg<|Aq (AV.loc 0 0 1)<|Aq (Ci d)<|Aq (Ai i)<|Ap (AV.pt (A3.av x1).cells) (C8 (k:=3) (nl:=false) (e:=85) (kk:= .i64) (A:=A3.av) (xs:=d.files) (i:=i) kr kr kr ⟨by kernel_rfl,by decide⟩ hx1)<|Aq (AV.pt ((A3.av x1).cells.drop 0))<|Aq (AV.s x1.name)<|Aq (AV.s name)<|Aq (AV.b (!decide (x1.name=name)))<|Ad ?_
 cases c_8:(!decide (x1.name=name))
 refine Cf<|Ag.skip<|Rg<|Aq (Ai i)<|Ap (Ai (i+1)) (B5 (i:=i) (m:=1) kr kr sd)<|Aq (Ai (i+1))<|Ad ?_
 try simp only [c_4,c_6,c_8,AZ] at hE1
 refine ⟨(true,i+1,(cell++[(⟨name,content,(IntKind.wrap .i64 (d.clock+(1:Int)))⟩:A3)])),od,⟨od,Iv,hE1⟩,?_⟩
 exact ⟨[0,1,2,3,6],⟨by decide,rfl,(A0.cons kr (A0.cons kr (A0.cons kr (A0.cons (Qd (e:=30) (k:=2) (xs:=[(AV.st [(Ar d),(AV.own 6 0 ((cell++[(⟨name,content,(IntKind.wrap .i64 (d.clock+(1:Int)))⟩:A3)]).length))])]) (ys:=[(AV.st [(Ar d),(BO 4 3 A3.av (cell++[(⟨name,content,(IntKind.wrap .i64 (d.clock+(1:Int)))⟩:A3)]))])]) rfl (BN.cons (Kb (BN.cons (Mc kr) (BN.cons (MW (A:=A3.av) (k:=3) (xs:=(cell++[(⟨name,content,(IntKind.wrap .i64 (d.clock+(1:Int)))⟩:A3)])) (by simp) rfl rfl) BN.nil))) BN.nil) rfl) (A0.cons (HX (fun _=>rfl) (e:=85) (k:=3) (A:=A3.av) (xs:=(cell++[(⟨name,content,(IntKind.wrap .i64 (d.clock+(1:Int)))⟩:A3)])) (by simp) rfl rfl) A0.nil))))),(Ee (Au.cons (B8.f kr) (Au.cons (B8.f kr) (Au.cons (B8.f kr) (Au.cons (B8.f kr) (Ee (Ee Au.nil)))))))⟩,AE⟩
 refine Ct<|Ag.drawn Aa Eb 8 kr le<|Dq (AV.loc 3 0 1)<|Dq (AV.own 6 0 ((cell++[(⟨name,content,(IntKind.wrap .i64 (d.clock+(1:Int)))⟩:A3)]).length))<|Dq (AV.loc 0 0 1)<|Dq (Ci d)<|Dq (Ai i)<|Dp (AV.pt (A3.av x1).cells) (C8 (k:=3) (nl:=false) (e:=85) (kk:= .i64) (A:=A3.av) (xs:=d.files) (i:=i) kr kr kr ⟨by kernel_rfl,by decide⟩ hx1)<|Dq (A3.av x1)<|Aw.sn (x:=(AV.own 7 0 1)) (h':=⟨8,[(7,some ⟨85,3,[x1].map A3.av⟩),(6,some ⟨85,3,(cell++[(⟨name,content,(IntKind.wrap .i64 (d.clock+(1:Int)))⟩:A3)]).map A3.av⟩),(5,some (CN name content d)),(0,some ⟨30,2,[(Aj.av d)]⟩),(1,some AM),(2,some (BG name content d)),(4,none),(3,some ⟨30,2,[(AV.st [(Ar d),(AV.own 6 0 ((cell++[(⟨name,content,(IntKind.wrap .i64 (d.clock+(1:Int)))⟩:A3)]).length))])]⟩)]⟩) kr le<|Aw.se (by decide) (x:=(AV.own 8 0 (((cell++[(⟨name,content,(IntKind.wrap .i64 (d.clock+(1:Int)))⟩:A3)])++[x1]).length))) (h':=⟨9,[(8,some ⟨85,3,((cell++[(⟨name,content,(IntKind.wrap .i64 (d.clock+(1:Int)))⟩:A3)])++[x1]).map A3.av⟩),(7,some ⟨85,3,[x1].map A3.av⟩),(6,none),(5,some (CN name content d)),(0,some ⟨30,2,[(Aj.av d)]⟩),(1,some AM),(2,some (BG name content d)),(4,none),(3,some ⟨30,2,[(AV.st [(Ar d),(AV.own 6 0 ((cell++[(⟨name,content,(IntKind.wrap .i64 (d.clock+(1:Int)))⟩:A3)]).length))])]⟩)]⟩) (Kc (len:=((cell++[(⟨name,content,(IntKind.wrap .i64 (d.clock+(1:Int)))⟩:A3)]).length)) (e:=85) (X:=(AV.own 7 0 1)) (A:=A3.av) (i:=Rk) (p:=6) (xs:=(cell++[(⟨name,content,(IntKind.wrap .i64 (d.clock+(1:Int)))⟩:A3)])) (ys:=[x1]) kr kr kr (hx:=kr) kr ⟨by decide,by kernel_rfl⟩ rfl rfl (by show _*32≤140737488355328;first|omega|(simp only [List.length_append,List.length_cons,List.length_nil,List.length_set,List.length_replicate];omega)|(simp;omega)) sd) le ?_
 refine Dq (AV.loc 3 0 1)<|Aw.st (by decide) (x:=AV.und) (h':=⟨9,[(8,some ⟨85,3,((cell++[(⟨name,content,(IntKind.wrap .i64 (d.clock+(1:Int)))⟩:A3)])++[x1]).map A3.av⟩),(7,some ⟨85,3,[x1].map A3.av⟩),(6,none),(5,some (CN name content d)),(0,some ⟨30,2,[(Aj.av d)]⟩),(1,some AM),(2,some (BG name content d)),(4,none),(3,some ⟨30,2,[(AV.st [(Ar d),(AV.own 8 0 (((cell++[(⟨name,content,(IntKind.wrap .i64 (d.clock+(1:Int)))⟩:A3)])++[x1]).length))])]⟩)]⟩) kr<|Aw.fin<|Rg<|Aq (Ai i)<|Ap (Ai (i+1)) (B5 (i:=i) (m:=1) kr kr sd)<|Aq (Ai (i+1))<|Ad ?_
 try simp only [c_4,c_6,c_8,AZ] at hE1
 refine ⟨(true,i+1,((cell++[(⟨name,content,(IntKind.wrap .i64 (d.clock+(1:Int)))⟩:A3)])++[x1])),od,⟨od,Iv,hE1⟩,?_⟩
 exact ⟨[0,1,2,3,8],⟨by decide,rfl,(A0.cons kr (A0.cons kr (A0.cons kr (A0.cons (Qd (e:=30) (k:=2) (xs:=[(AV.st [(Ar d),(AV.own 8 0 (((cell++[(⟨name,content,(IntKind.wrap .i64 (d.clock+(1:Int)))⟩:A3)])++[x1]).length))])]) (ys:=[(AV.st [(Ar d),(BO 4 3 A3.av ((cell++[(⟨name,content,(IntKind.wrap .i64 (d.clock+(1:Int)))⟩:A3)])++[x1]))])]) rfl (BN.cons (Kb (BN.cons (Mc kr) (BN.cons (MW (A:=A3.av) (k:=3) (xs:=((cell++[(⟨name,content,(IntKind.wrap .i64 (d.clock+(1:Int)))⟩:A3)])++[x1])) (by simp) rfl rfl) BN.nil))) BN.nil) rfl) (A0.cons (HX (fun _=>rfl) (e:=85) (k:=3) (A:=A3.av) (xs:=((cell++[(⟨name,content,(IntKind.wrap .i64 (d.clock+(1:Int)))⟩:A3)])++[x1])) (by simp) rfl rfl) A0.nil))))),(Ee (Au.cons (B8.f kr) (Au.cons (B8.f kr) (Au.cons (B8.f kr) (Au.cons (B8.f kr) (Ee (Ee Au.nil)))))))⟩,AE⟩
 have hc1:decide (((i:Nat):Int)<((d.files.length:Nat):Int))=false:=decide_eq_false (by omega)
 refine Ag.cond (t:=false) (by rw [←hc1]<;>kernel_rfl) (Ag.exit ?_)
 rw [List.drop_eq_nil_of_le (hl1),Pq.eq_1] at hE1
 subst hE1
 refine Sq<|Sq<|Rg<|Aq (AV.b in')<|Aq (AV.b (!in'))<|Ad ?_
 cases c_9:(!in')
 refine Cf<|Ag.skip<|Sq<|Sq<|Rg<|Aq (AV.loc 3 0 0)<|Aq (Ar d)<|Aq (AV.b (decide ((1048576:Int)<(IntKind.wrap .i64 (d.clock+(1:Int))))))<|Aq (AV.b (decide ((1048576:Int)<(IntKind.wrap .i64 (d.clock+(1:Int)))))) ?_
 cases c_10:decide ((1048576:Int)<(IntKind.wrap .i64 (d.clock+(1:Int))))
 have k_10:=of_decide_eq_false c_10
 refine Ay<|Aq (AV.loc 3 0 1)<|Ay<|Aq (BO 4 3 A3.av cell)<|Ay<|Ap (Ai cell.length) (T4 (e:=85) (A:=A3.av) (xs:=cell) (p:=4) (k:=3) kr kr (fun q=>ST (e:=85) (k:=3) (A:=A3.av) q rfl))<|Ay<|Aq (AV.b (decide ((64:Int)<((cell.length:Nat):Int))))<|Aq (AV.b (decide ((64:Int)<((cell.length:Nat):Int))))<|Ad ?_
 cases c_11:decide ((64:Int)<((cell.length:Nat):Int))
 have k_11:=of_decide_eq_false c_11
 refine Cf<|Ag.skip<|Sq<|Rg<|Aq (AV.st [(Ar d),(BO 4 3 A3.av cell)]) ?_
 by_cases z_12:cell=[]
 simp only [Wn z_12,Wm z_12]
 refine Sp 1 ⟨30,2,[(DO d)]⟩<|Aq (AV.i .i64 (0:Int))<|Ad<|Rt ?_
 have hM:Ij d name content=((⟨(IntKind.wrap .i64 (d.clock+(1:Int))),[]⟩:Aj),(0:Int)):=by simp only [Ij,c_1,c_2,c_3,hR1,c_9,c_10,c_11,AZ];rw [z_12]
 refine ⟨Or.inr rfl,(Jh d),kr,?_⟩
 rw [hM]
 exact B8.cast (x':=(Jh d)) (y':=(AV.tup [(Aj.av (((⟨(IntKind.wrap .i64 (d.clock+(1:Int))),[]⟩:Aj),(0:Int)).1)),(AV.i .i64 (((⟨(IntKind.wrap .i64 (d.clock+(1:Int))),[]⟩:Aj),(0:Int)).2))])) kr kr (B8.tup ⟨(B8.st ⟨Ec,⟨(B8.w rfl (AL.nil 3)),trivial⟩⟩ kr),⟨Ec,trivial⟩⟩ kr)
 simp only [SR z_12,SQ z_12]
 refine Sp 1 ⟨30,2,[(AV.st [(Ar d),(AV.own 4 0 cell.length)])]⟩<|Aq (AV.i .i64 (0:Int))<|Ad<|Rt ?_
 have hM:Ij d name content=((⟨(IntKind.wrap .i64 (d.clock+(1:Int))),cell⟩:Aj),(0:Int)):=by simp only [Ij,c_1,c_2,c_3,hR1,c_9,c_10,c_11,AZ]
 refine ⟨Or.inr rfl,(AV.tup [(AV.st [(Ar d),(AV.own 4 0 cell.length)]),(AV.i .i64 (0:Int))]),kr,?_⟩
 rw [hM]
 exact B8.cast (x':=(AV.tup [(AV.st [(Ar d),(AV.own 4 0 cell.length)]),(AV.i .i64 (0:Int))])) (y':=(AV.tup [(Aj.av (((⟨(IntKind.wrap .i64 (d.clock+(1:Int))),cell⟩:Aj),(0:Int)).1)),(AV.i .i64 (((⟨(IntKind.wrap .i64 (d.clock+(1:Int))),cell⟩:Aj),(0:Int)).2))])) kr kr (B8.tup ⟨(B8.st ⟨Ec,⟨(EP.kk (x':=(AV.own 4 0 cell.length)) kr kr rfl (A6.row (fun _=>rfl) (A:=A3.av) (id:=4) (e:=85) (k:=3) (xs:=cell) rfl rfl rfl sd)),trivial⟩⟩ kr),⟨Ec,trivial⟩⟩ kr)
 have k_11:=of_decide_eq_true c_11
 refine Ct<|Sq<|Rg<|Nb BR<|Sp 1 AM<|Aq (AV.i .i64 (1201:Int))<|Ad<|Rt ?_
 have hM:Ij d name content=((⟨(0:Int),[]⟩:Aj),(1201:Int)):=by simp only [Ij,c_1,c_2,c_3,hR1,c_9,c_10,c_11,AZ]
 refine ⟨Or.inr rfl,Cr,kr,?_⟩
 rw [hM]
 exact B8.cast (x':=Cr) (y':=EG) kr kr (B8.tup ⟨(B8.st ⟨Ec,⟨(B8.w rfl (AL.nil 3)),trivial⟩⟩ kr),⟨Ec,trivial⟩⟩ kr)
 have k_10:=of_decide_eq_true c_10
 refine An<|An<|An<|An<|Aq (AV.b true)<|Ad<|Ct<|Sq<|Rg<|Nb BR<|Sp 1 AM<|Aq (AV.i .i64 (1201:Int))<|Ad<|Rt ?_
 have hM:Ij d name content=((⟨(0:Int),[]⟩:Aj),(1201:Int)):=by simp only [Ij,c_1,c_2,c_3,hR1,c_9,c_10,AZ]
 refine ⟨Or.inr rfl,Cr,kr,?_⟩
 rw [hM]
 exact B8.cast (x':=Cr) (y':=EG) kr kr (B8.tup ⟨(B8.st ⟨Ec,⟨(B8.w rfl (AL.nil 3)),trivial⟩⟩ kr),⟨Ec,trivial⟩⟩ kr)
 refine Ct<|Rg<|Aq (AV.loc 3 0 1)<|Aq (BO 4 3 A3.av cell)<|Aq (EH name content d)<|Nn (AV.own 5 0 1) (CN name content d)<|A2.se (x:=(AV.own 6 0 ((cell++[(⟨name,content,(IntKind.wrap .i64 (d.clock+(1:Int)))⟩:A3)]).length))) (h':=⟨7,[(6,some ⟨85,3,(cell++[(⟨name,content,(IntKind.wrap .i64 (d.clock+(1:Int)))⟩:A3)]).map A3.av⟩),(5,some (CN name content d)),(0,some ⟨30,2,[(Aj.av d)]⟩),(1,some AM),(2,some (BG name content d)),(4,none),(3,some ⟨30,2,[(AV.st [(Ar d),(BO 4 3 A3.av cell)])]⟩)]⟩) (O8 (e:=85) (X:=(AV.own 5 0 1)) (A:=A3.av) (i:=Rk) (p:=4) (xs:=cell) (ys:=[(⟨name,content,(IntKind.wrap .i64 (d.clock+(1:Int)))⟩:A3)]) kr kr kr (hx:=kr) kr (by simp) ⟨by decide,by kernel_rfl⟩ rfl (by intro q;first|(subst q;rfl)|(rw [q];rfl)|(simp only [q];rfl)) (by show _*32≤140737488355328;first|omega|(simp only [List.length_append,List.length_cons,List.length_nil,List.length_set,List.length_replicate];omega)|(simp;omega)) sd) le<|Aq (AV.loc 3 0 1) ?_
 refine Sp 3 ⟨30,2,[(AV.st [(Ar d),(AV.own 6 0 ((cell++[(⟨name,content,(IntKind.wrap .i64 (d.clock+(1:Int)))⟩:A3)]).length))])]⟩<|Ad<|Sq<|Sq<|Rg<|Aq (AV.loc 3 0 0)<|Aq (Ar d)<|Aq (AV.b (decide ((1048576:Int)<(IntKind.wrap .i64 (d.clock+(1:Int))))))<|Aq (AV.b (decide ((1048576:Int)<(IntKind.wrap .i64 (d.clock+(1:Int)))))) ?_
 cases c_13:decide ((1048576:Int)<(IntKind.wrap .i64 (d.clock+(1:Int))))
 have k_13:=of_decide_eq_false c_13
 refine Ay<|Aq (AV.loc 3 0 1)<|Ay<|Aq (AV.own 6 0 ((cell++[(⟨name,content,(IntKind.wrap .i64 (d.clock+(1:Int)))⟩:A3)]).length))<|Ay<|Aq (AV.i .i64 (((cell++[(⟨name,content,(IntKind.wrap .i64 (d.clock+(1:Int)))⟩:A3)]).length:Nat):Int))<|Ay<|Aq (AV.b (decide ((64:Int)<(((cell++[(⟨name,content,(IntKind.wrap .i64 (d.clock+(1:Int)))⟩:A3)]).length:Nat):Int))))<|Aq (AV.b (decide ((64:Int)<(((cell++[(⟨name,content,(IntKind.wrap .i64 (d.clock+(1:Int)))⟩:A3)]).length:Nat):Int))))<|Ad ?_
 cases c_14:decide ((64:Int)<(((cell++[(⟨name,content,(IntKind.wrap .i64 (d.clock+(1:Int)))⟩:A3)]).length:Nat):Int))
 have k_14:=of_decide_eq_false c_14
 refine Cf<|Ag.skip<|Sq<|Rg<|Aq (AV.st [(Ar d),(AV.own 6 0 ((cell++[(⟨name,content,(IntKind.wrap .i64 (d.clock+(1:Int)))⟩:A3)]).length))])<|Sp 1 ⟨30,2,[(AV.st [(Ar d),(AV.own 6 0 ((cell++[(⟨name,content,(IntKind.wrap .i64 (d.clock+(1:Int)))⟩:A3)]).length))])]⟩<|Aq (AV.i .i64 (0:Int))<|Ad<|Rt ?_
 have hM:Ij d name content=((⟨(IntKind.wrap .i64 (d.clock+(1:Int))),(cell++[(⟨name,content,(IntKind.wrap .i64 (d.clock+(1:Int)))⟩:A3)])⟩:Aj),(0:Int)):=by simp only [Ij,c_1,c_2,c_3,hR1,c_9,c_13,c_14,AZ]
 refine ⟨Or.inr rfl,(AV.tup [(AV.st [(Ar d),(AV.own 6 0 ((cell++[(⟨name,content,(IntKind.wrap .i64 (d.clock+(1:Int)))⟩:A3)]).length))]),(AV.i .i64 (0:Int))]),kr,?_⟩
 rw [hM]
 exact B8.cast (x':=(AV.tup [(AV.st [(Ar d),(AV.own 6 0 ((cell++[(⟨name,content,(IntKind.wrap .i64 (d.clock+(1:Int)))⟩:A3)]).length))]),(AV.i .i64 (0:Int))])) (y':=(AV.tup [(Aj.av (((⟨(IntKind.wrap .i64 (d.clock+(1:Int))),(cell++[(⟨name,content,(IntKind.wrap .i64 (d.clock+(1:Int)))⟩:A3)])⟩:Aj),(0:Int)).1)),(AV.i .i64 (((⟨(IntKind.wrap .i64 (d.clock+(1:Int))),(cell++[(⟨name,content,(IntKind.wrap .i64 (d.clock+(1:Int)))⟩:A3)])⟩:Aj),(0:Int)).2))])) kr kr (B8.tup ⟨(B8.st ⟨Ec,⟨(EP.kk (x':=(AV.own 6 0 ((cell++[(⟨name,content,(IntKind.wrap .i64 (d.clock+(1:Int)))⟩:A3)]).length))) kr kr rfl (A6.row (fun _=>rfl) (A:=A3.av) (id:=6) (e:=85) (k:=3) (xs:=(cell++[(⟨name,content,(IntKind.wrap .i64 (d.clock+(1:Int)))⟩:A3)])) rfl rfl rfl sd)),trivial⟩⟩ kr),⟨Ec,trivial⟩⟩ kr)
 have k_14:=of_decide_eq_true c_14
 refine Ct<|Sq<|Rg<|Nb BR<|Sp 1 AM<|Aq (AV.i .i64 (1201:Int))<|Ad<|Rt ?_
 have hM:Ij d name content=((⟨(0:Int),[]⟩:Aj),(1201:Int)):=by simp only [Ij,c_1,c_2,c_3,hR1,c_9,c_13,c_14,AZ]
 refine ⟨Or.inr rfl,Cr,kr,?_⟩
 rw [hM]
 exact B8.cast (x':=Cr) (y':=EG) kr kr (B8.tup ⟨(B8.st ⟨Ec,⟨(B8.w rfl (AL.nil 3)),trivial⟩⟩ kr),⟨Ec,trivial⟩⟩ kr)
 have k_13:=of_decide_eq_true c_13
 refine An<|An<|An<|An<|Aq (AV.b true)<|Ad<|Ct<|Sq<|Rg<|Nb BR<|Sp 1 AM<|Aq (AV.i .i64 (1201:Int))<|Ad<|Rt ?_
 have hM:Ij d name content=((⟨(0:Int),[]⟩:Aj),(1201:Int)):=by simp only [Ij,c_1,c_2,c_3,hR1,c_9,c_13,AZ]
 refine ⟨Or.inr rfl,Cr,kr,?_⟩
 rw [hM]
 exact B8.cast (x':=Cr) (y':=EG) kr kr (B8.tup ⟨(B8.st ⟨Ec,⟨(B8.w rfl (AL.nil 3)),trivial⟩⟩ kr),⟨Ec,trivial⟩⟩ kr)
 refine Ct<|Sq<|Rg<|Nb BR<|Sp 1 AM<|Aq (AV.i .i64 (1200:Int))<|Ad<|Rt ?_
 have hM:Ij d name content=((⟨(0:Int),[]⟩:Aj),(1200:Int)):=by simp only [Ij,c_1,c_2,c_3,AZ]
 refine ⟨Or.inr rfl,D9,kr,?_⟩
 rw [hM]
 exact B8.cast (x':=D9) (y':=Gt) kr kr (B8.tup ⟨(B8.st ⟨Ec,⟨(B8.w rfl (AL.nil 3)),trivial⟩⟩ kr),⟨Ec,trivial⟩⟩ kr)
 refine An<|An<|An<|Aq (AV.b true)<|Ad<|Ct<|Sq<|Rg<|Nb BR<|Sp 1 AM<|Aq (AV.i .i64 (1200:Int))<|Ad<|Rt ?_
 have hM:Ij d name content=((⟨(0:Int),[]⟩:Aj),(1200:Int)):=by simp only [Ij,c_1,c_2,AZ]
 refine ⟨Or.inr rfl,D9,kr,?_⟩
 rw [hM]
 exact B8.cast (x':=D9) (y':=Gt) kr kr (B8.tup ⟨(B8.st ⟨Ec,⟨(B8.w rfl (AL.nil 3)),trivial⟩⟩ kr),⟨Ec,trivial⟩⟩ kr)
 refine An<|An<|An<|Aq (AV.b true)<|Aq (AV.b true)<|An<|An<|An<|Aq (AV.b true)<|Ad<|Ct<|Sq<|Rg<|Nb BR<|Sp 1 AM<|Aq (AV.i .i64 (1200:Int))<|Ad<|Rt ?_
 have hM:Ij d name content=((⟨(0:Int),[]⟩:Aj),(1200:Int)):=by simp only [Ij,c_1,AZ]
 refine ⟨Or.inr rfl,D9,kr,?_⟩
 rw [hM]
 exact B8.cast (x':=D9) (y':=Gt) kr kr (B8.tup ⟨(B8.st ⟨Ec,⟨(B8.w rfl (AL.nil 3)),trivial⟩⟩ kr),⟨Ec,trivial⟩⟩ kr)
def Cj:AV:=(AV.st [(AV.i .i64 (0:Int)),(AV.sl 3 true [])])
def DS:Obj:=⟨30,2,[Cj]⟩
def DR:AV:=(AV.tup [Cj,(AV.i .i64 (1200:Int))])
def Hl:AV:=(AV.tup [(Aj.av (((⟨(0:Int),[]⟩:Aj),(1200:Int)).1)),(AV.i .i64 (((⟨(0:Int),[]⟩:Aj),(1200:Int)).2))])
def Hk (d:Aj) (name:ByteArray):AV:=(AV.tup [(AV.st [(AV.i .i64 ((Ld d name).clock)),((Az 3 A3.av) ((Ld d name).files))]),(AV.i .i64 (0:Int))])
theorem Jq (W:World) (d:Aj) (name:ByteArray) (hz:d.sz≤1048576):Am Go.Proofs.Tryz.prog W 27 [(Aj.av d),(AV.s name)] (AV.tup [(Aj.av ((OP d name).1)),(AV.i .i64 ((OP d name).2))]) []:=by
 have hl:=Ha A3.sz_one d.files
 have hl2:=d.sz_files
 refine Du Aa (fn:=Go.Proofs.Tryz.f27) Go.Proofs.Tryz.func27 rfl (en27 W) le<|Sq<|Rg<|Nn (AV.loc 0 0 0) ⟨30,2,[(Aj.av d)]⟩<|Nn (AV.loc 1 0 0) DS<|Aq (AV.i .i64 (0:Int))<|Ad<|Sq<|Sq<|Rg<|Aq (Aj.av d)<|A2.sc0 (vs:=[(Aj.av d)]) (r0:=(AV.b (NI d))) kr kr (Ie W d) kr le<|Aq (AV.b (!(NI d)))<|Aq (AV.b (!(NI d))) ?_
 cases c_1:(!(NI d))
 refine Ay<|Aq (AV.s name)<|Ay<|A2.sc0 (vs:=[(AV.s name)]) (r0:=(AV.b (I5 name))) kr kr (Jr W name) kr le<|Ay<|Aq (AV.b (!(I5 name)))<|Aq (AV.b (!(I5 name)))<|Ad ?_
 cases c_2:(!(I5 name))
 refine Cf<|Ag.skip<|Sq<|Rg<|Aq (Aj.av d)<|Aq (AV.s name)<|A2.sc0 (vs:=[(Aj.av d),(AV.s name)]) (r0:=(AV.tup [(A3.av ((Jv d name).1)),(AV.b ((Jv d name).2))])) kr kr (Sv W d name sd) kr le<|Aq (AV.tup [(A3.av ((Jv d name).1)),(AV.b ((Jv d name).2))])<|Aq (A3.av ((Jv d name).1))<|Aq (AV.b ((Jv d name).2))<|Nn (AV.loc 2 0 0) ⟨85,3,[(AV.st [(AV.s (⟨#[]⟩:ByteArray)),(AV.i .i64 (0:Int)),(AV.i .i64 (0:Int))])]⟩<|Sp 2 ⟨85,3,[(AV.st [(AV.s (((Jv d name).1).name)),(AV.i .i64 (((Jv d name).1).content)),(AV.i .i64 (((Jv d name).1).time))])]⟩<|Aq (AV.b ((Jv d name).2))<|Ad<|Sq<|Sq<|Rg<|Aq (AV.b ((Jv d name).2))<|Aq (AV.b (!(Jv d name).2))<|Ad ?_
 cases c_3:(!(Jv d name).2)
 refine Cf<|Ag.skip<|Sq<|Rg<|Aq (Aj.av d)<|Aq (AV.s name)<|A2.sc0 (vs:=[(Aj.av d),(AV.s name)]) (r0:=(Aj.av (Ld d name))) kr kr (OH W d name sd) kr le<|Sp 1 ⟨30,2,[(AV.st [(AV.i .i64 ((Ld d name).clock)),((Az 3 A3.av) ((Ld d name).files))])]⟩<|Aq (AV.i .i64 (0:Int))<|Ad<|Rt ?_
 have hM:OP d name=((⟨(Ld d name).clock,(Ld d name).files⟩:Aj),(0:Int)):=by simp only [OP,c_1,c_2,c_3,AZ]
 refine ⟨Or.inr rfl,(Hk d name),kr,?_⟩
 rw [hM]
 exact B8.cast (x':=(Hk d name)) (y':=(AV.tup [(Aj.av (((⟨(Ld d name).clock,(Ld d name).files⟩:Aj),(0:Int)).1)),(AV.i .i64 (((⟨(Ld d name).clock,(Ld d name).files⟩:Aj),(0:Int)).2))])) kr kr (B8.tup ⟨Ec,⟨Ec,trivial⟩⟩ kr)
 refine Ct<|Sq<|Rg<|Nb Cj<|Sp 1 DS<|Aq (AV.i .i64 (1202:Int))<|Ad<|Rt ?_
 have hM:OP d name=((⟨(0:Int),[]⟩:Aj),(1202:Int)):=by simp only [OP,c_1,c_2,c_3,AZ]
 refine ⟨Or.inr rfl,(AV.tup [Cj,(AV.i .i64 (1202:Int))]),kr,?_⟩
 rw [hM]
 exact B8.cast (x':=(AV.tup [Cj,(AV.i .i64 (1202:Int))])) (y':=(AV.tup [(Aj.av (((⟨(0:Int),[]⟩:Aj),(1202:Int)).1)),(AV.i .i64 (((⟨(0:Int),[]⟩:Aj),(1202:Int)).2))])) kr kr (B8.tup ⟨(B8.st ⟨Ec,⟨(B8.w rfl (AL.nil 3)),trivial⟩⟩ kr),⟨Ec,trivial⟩⟩ kr)
 refine Ct<|Sq<|Rg<|Nb Cj<|Sp 1 DS<|Aq (AV.i .i64 (1200:Int))<|Ad<|Rt ?_
 have hM:OP d name=((⟨(0:Int),[]⟩:Aj),(1200:Int)):=by simp only [OP,c_1,c_2,AZ]
 refine ⟨Or.inr rfl,DR,kr,?_⟩
 rw [hM]
 exact B8.cast (x':=DR) (y':=Hl) kr kr (B8.tup ⟨(B8.st ⟨Ec,⟨(B8.w rfl (AL.nil 3)),trivial⟩⟩ kr),⟨Ec,trivial⟩⟩ kr)
 refine An<|An<|An<|Aq (AV.b true)<|Ad<|Ct<|Sq<|Rg<|Nb Cj<|Sp 1 DS<|Aq (AV.i .i64 (1200:Int))<|Ad<|Rt ?_
 have hM:OP d name=((⟨(0:Int),[]⟩:Aj),(1200:Int)):=by simp only [OP,c_1,AZ]
 refine ⟨Or.inr rfl,DR,kr,?_⟩
 rw [hM]
 exact B8.cast (x':=DR) (y':=Hl) kr kr (B8.tup ⟨(B8.st ⟨Ec,⟨(B8.w rfl (AL.nil 3)),trivial⟩⟩ kr),⟨Ec,trivial⟩⟩ kr)
def H9:AV:=(AV.st [(AV.own 9 0 3),(AV.own 10 0 1),(AV.own 11 0 1)])
def JX:AV:=(AV.st [(AV.own 1 0 1),(AV.own 2 0 2),(AV.sl 1 true []),(AV.sl 1 true []),(AV.s (⟨#[97,114]⟩:ByteArray)),(AV.b false),(AV.s (⟨#[]⟩:ByteArray))])
def JW:AV:=(AV.st [(AV.own 3 0 2),(AV.own 4 0 1),(AV.own 5 0 1),(AV.sl 1 true []),(AV.s (⟨#[99,99,32,97]⟩:ByteArray)),(AV.b true),(AV.s (⟨#[116,119,111]⟩:ByteArray))])
def JV:AV:=(AV.st [(AV.own 6 0 1),(AV.own 7 0 1),(AV.sl 1 true []),(AV.own 8 0 1),(AV.s (⟨#[99,99,32,98]⟩:ByteArray)),(AV.b false),(AV.s (⟨#[116,119,111]⟩:ByteArray))])
def H8:AV:=(AV.st [(AV.own 9 0 3),(AV.own 10 0 1),(AV.own 11 0 1),(AV.own 16 0 1),(AV.i .i64 (4:Int)),(AV.own 13 0 4),(AV.sl 3 true []),(AV.sl 3 true []),(AV.i .i64 (2:Int)),(AV.b false),(AV.sl 1 true [])])
theorem Ft (W:World):Am Go.Proofs.Tryz.prog W 29 [] (AV.st [(AV.own 0 0 3),(AV.own 9 0 1),(AV.own 10 0 1),(AV.own 11 0 1),(AV.i .i64 (4:Int)),(AV.own 13 0 4),(AV.sl 3 true []),(AV.sl 3 true []),(AV.i .i64 (2:Int)),(AV.b false),(AV.sl 1 true [])]) [⟨65,7,[(AV.st [(AV.own 1 0 1),(AV.own 2 0 2),(AV.sl 1 true []),(AV.sl 1 true []),(AV.s (⟨#[97,114]⟩:ByteArray)),(AV.b false),(AV.s (⟨#[]⟩:ByteArray))]),(AV.st [(AV.own 3 0 2),(AV.own 4 0 1),(AV.own 5 0 1),(AV.sl 1 true []),(AV.s (⟨#[99,99,32,97]⟩:ByteArray)),(AV.b true),(AV.s (⟨#[116,119,111]⟩:ByteArray))]),(AV.st [(AV.own 6 0 1),(AV.own 7 0 1),(AV.sl 1 true []),(AV.own 8 0 1),(AV.s (⟨#[99,99,32,98]⟩:ByteArray)),(AV.b false),(AV.s (⟨#[116,119,111]⟩:ByteArray))])]⟩,⟨9,1,[(⟨#[108,105,98]⟩:ByteArray)].map AV.s⟩,⟨9,1,[(⟨#[97,46,111]⟩:ByteArray),(⟨#[98,46,111]⟩:ByteArray)].map AV.s⟩,⟨9,1,[(⟨#[97,46,111]⟩:ByteArray),(⟨#[97,46,100]⟩:ByteArray)].map AV.s⟩,⟨9,1,[(⟨#[97,46,99]⟩:ByteArray)].map AV.s⟩,⟨9,1,[(⟨#[97,46,104]⟩:ByteArray)].map AV.s⟩,⟨9,1,[(⟨#[98,46,111]⟩:ByteArray)].map AV.s⟩,⟨9,1,[(⟨#[98,46,99]⟩:ByteArray)].map AV.s⟩,⟨9,1,[(⟨#[97,46,111]⟩:ByteArray)].map AV.s⟩,⟨122,2,[(⟨(⟨#[116,119,111]⟩:ByteArray),(2:Int)⟩:Cp)].map Cp.av⟩,⟨9,1,[(⟨#[108,105,98]⟩:ByteArray)].map AV.s⟩,⟨67,3,[(AV.st [(AV.s (⟨#[99,99,32,97]⟩:ByteArray)),(AV.own 12 0 1),(AV.b false)])]⟩,⟨9,1,[(⟨#[122,46,104]⟩:ByteArray)].map AV.s⟩,⟨85,3,[AQ,AU,AW,AR].map A3.av⟩]:=by
 refine Od Aa (fn:=Go.Proofs.Tryz.f29) Go.Proofs.Tryz.func29 rfl (en29 W) le<|Sq<|Rg<|Nn (AV.loc 0 0 0) ⟨35,11,[(AV.st [(AV.sl 7 true []),(AV.sl 2 true []),(AV.sl 1 true []),(AV.sl 3 true []),(AV.i .i64 (0:Int)),(AV.sl 3 true []),(AV.sl 3 true []),(AV.sl 3 true []),(AV.i .i64 (0:Int)),(AV.b false),(AV.sl 1 true [])])]⟩<|Ad<|Sq<|Rg<|Nn (AV.own 1 0 1) ⟨9,1,[(⟨#[108,105,98]⟩:ByteArray)].map AV.s⟩<|Nn (AV.own 2 0 2) ⟨9,1,[(⟨#[97,46,111]⟩:ByteArray),(⟨#[98,46,111]⟩:ByteArray)].map AV.s⟩<|Nb JX<|Nn (AV.own 3 0 2) ⟨9,1,[(⟨#[97,46,111]⟩:ByteArray),(⟨#[97,46,100]⟩:ByteArray)].map AV.s⟩<|Nn (AV.own 4 0 1) ⟨9,1,[(⟨#[97,46,99]⟩:ByteArray)].map AV.s⟩<|Nn (AV.own 5 0 1) ⟨9,1,[(⟨#[97,46,104]⟩:ByteArray)].map AV.s⟩<|Nb JW<|Nn (AV.own 6 0 1) ⟨9,1,[(⟨#[98,46,111]⟩:ByteArray)].map AV.s⟩<|Nn (AV.own 7 0 1) ⟨9,1,[(⟨#[98,46,99]⟩:ByteArray)].map AV.s⟩<|Nn (AV.own 8 0 1) ⟨9,1,[(⟨#[97,46,111]⟩:ByteArray)].map AV.s⟩<|Nb JV ?_
 refine Nn (AV.own 9 0 3) ⟨65,7,[JX,JW,JV]⟩<|Nb (AV.st [(AV.s (⟨#[116,119,111]⟩:ByteArray)),(AV.i .i64 (2:Int))])<|Nn (AV.own 10 0 1) ⟨122,2,[(⟨(⟨#[116,119,111]⟩:ByteArray),(2:Int)⟩:Cp)].map Cp.av⟩<|Nn (AV.own 11 0 1) ⟨9,1,[(⟨#[108,105,98]⟩:ByteArray)].map AV.s⟩<|Nb H9<|Nn (AV.loc 12 0 0) ⟨26,3,[(AV.st [(AV.sl 7 true []),(AV.sl 2 true []),(AV.sl 1 true [])])]⟩<|Sp 12 ⟨26,3,[H9]⟩<|Ad<|Sq<|Rg<|Nb (AV.st [(AV.s (⟨#[97,46,99]⟩:ByteArray)),(AV.i .i64 (1:Int)),(AV.i .i64 (1:Int))])<|Nb (AV.st [(AV.s (⟨#[97,46,104]⟩:ByteArray)),(AV.i .i64 (2:Int)),(AV.i .i64 (2:Int))])<|Nb (AV.st [(AV.s (⟨#[98,46,99]⟩:ByteArray)),(AV.i .i64 (3:Int)),(AV.i .i64 (3:Int))])<|Nb (AV.st [(AV.s (⟨#[122,46,104]⟩:ByteArray)),(AV.i .i64 (4:Int)),(AV.i .i64 (4:Int))])<|Nn (AV.own 13 0 4) ⟨85,3,[AQ,AU,AW,AR].map A3.av⟩ ?_
 refine Nb (AV.st [(AV.i .i64 (4:Int)),(AV.own 13 0 4)])<|Nn (AV.loc 14 0 0) ⟨30,2,[(AV.st [(AV.i .i64 (0:Int)),(AV.sl 3 true [])])]⟩<|Sp 14 ⟨30,2,[(AV.st [(AV.i .i64 (4:Int)),(AV.own 13 0 4)])]⟩<|Ad<|Sq<|Rg<|Aq H9<|Nn (AV.own 15 0 1) ⟨9,1,[(⟨#[122,46,104]⟩:ByteArray)].map AV.s⟩<|Nb (AV.st [(AV.s (⟨#[99,99,32,97]⟩:ByteArray)),(AV.own 15 0 1),(AV.b false)])<|Nn (AV.own 16 0 1) ⟨67,3,[(AV.st [(AV.s (⟨#[99,99,32,97]⟩:ByteArray)),(AV.own 15 0 1),(AV.b false)])]⟩<|Aq (AV.st [(AV.i .i64 (4:Int)),(AV.own 13 0 4)])<|Nb H8<|Sp 0 ⟨35,11,[H8]⟩<|Ad<|Rt ?_
 have hM:Cu=B3:=by simp only [Cu,AZ]
 exact ⟨[9,1,2,3,4,5,6,7,8,10,11,16,15,13],Or.inr rfl,by decide,rfl,⟨kr,⟨kr,⟨kr,⟨kr,⟨kr,⟨kr,⟨kr,⟨kr,⟨kr,⟨kr,⟨kr,⟨kr,⟨kr,⟨kr,trivial⟩⟩⟩⟩⟩⟩⟩⟩⟩⟩⟩⟩⟩⟩,H8,kr,kr⟩
theorem Q7 (W:World):Am Go.Proofs.Tryz.prog W 29 [] (AV.st [((Az 7 AB.av) Cu.graph.edges),((Az 2 Cp.av) Cu.graph.pools),((Az 1 AV.s) Cu.graph.defaults),((Az 3 B0.av) Cu.actions),(AV.i .i64 Cu.disk.clock),((Az 3 A3.av) Cu.disk.files),(AV.sl 3 true []),(AV.sl 3 true []),(AV.i .i64 Cu.jobs),(AV.b Cu.going),(AV.sl 1 true [])]) []:=
 (Ft W).freeze (B8.st ⟨(EP.kk (x':=(AV.own 0 0 3)) kr kr rfl (A6.own (id:=0) (len:=3) (e:=65) (k:=7) (els:=[(AV.st [(AV.own 1 0 1),(AV.own 2 0 2),(AV.sl 1 true []),(AV.sl 1 true []),(AV.s (⟨#[97,114]⟩:ByteArray)),(AV.b false),(AV.s (⟨#[]⟩:ByteArray))]),(AV.st [(AV.own 3 0 2),(AV.own 4 0 1),(AV.own 5 0 1),(AV.sl 1 true []),(AV.s (⟨#[99,99,32,97]⟩:ByteArray)),(AV.b true),(AV.s (⟨#[116,119,111]⟩:ByteArray))]),(AV.st [(AV.own 6 0 1),(AV.own 7 0 1),(AV.sl 1 true []),(AV.own 8 0 1),(AV.s (⟨#[99,99,32,98]⟩:ByteArray)),(AV.b false),(AV.s (⟨#[116,119,111]⟩:ByteArray))])]) rfl rfl rfl sd (B7.cons (CP.st (A1.cons (A6.row (fun _=>rfl) (A:=AV.s) (id:=1) (e:=9) (k:=1) (xs:=[(⟨#[108,105,98]⟩:ByteArray)]) rfl rfl sd sd) (A1.cons (A6.row (fun _=>rfl) (A:=AV.s) (id:=2) (e:=9) (k:=1) (xs:=[(⟨#[97,46,111]⟩:ByteArray),(⟨#[98,46,111]⟩:ByteArray)]) rfl rfl sd sd) (A1.cons (A6.c rfl (AL.nil 1)) (A1.cons (A6.c rfl (AL.nil 1)) (A1.cons (A7 (x:=(AV.s (⟨#[97,114]⟩:ByteArray))) kr) (A1.cons (A7 (x:=(AV.b false)) kr) (A1.cons (A7 (x:=(AV.s (⟨#[]⟩:ByteArray))) kr) A1.nil)))))))) (B7.cons (CP.st (A1.cons (A6.row (fun _=>rfl) (A:=AV.s) (id:=3) (e:=9) (k:=1) (xs:=[(⟨#[97,46,111]⟩:ByteArray),(⟨#[97,46,100]⟩:ByteArray)]) rfl rfl sd sd) (A1.cons (A6.row (fun _=>rfl) (A:=AV.s) (id:=4) (e:=9) (k:=1) (xs:=[(⟨#[97,46,99]⟩:ByteArray)]) rfl rfl sd sd) (A1.cons (A6.row (fun _=>rfl) (A:=AV.s) (id:=5) (e:=9) (k:=1) (xs:=[(⟨#[97,46,104]⟩:ByteArray)]) rfl rfl sd sd) (A1.cons (A6.c rfl (AL.nil 1)) (A1.cons (A7 (x:=(AV.s (⟨#[99,99,32,97]⟩:ByteArray))) kr) (A1.cons (A7 (x:=(AV.b true)) kr) (A1.cons (A7 (x:=(AV.s (⟨#[116,119,111]⟩:ByteArray))) kr) A1.nil)))))))) (B7.cons (CP.st (A1.cons (A6.row (fun _=>rfl) (A:=AV.s) (id:=6) (e:=9) (k:=1) (xs:=[(⟨#[98,46,111]⟩:ByteArray)]) rfl rfl sd sd) (A1.cons (A6.row (fun _=>rfl) (A:=AV.s) (id:=7) (e:=9) (k:=1) (xs:=[(⟨#[98,46,99]⟩:ByteArray)]) rfl rfl sd sd) (A1.cons (A6.c rfl (AL.nil 1)) (A1.cons (A6.row (fun _=>rfl) (A:=AV.s) (id:=8) (e:=9) (k:=1) (xs:=[(⟨#[97,46,111]⟩:ByteArray)]) rfl rfl sd sd) (A1.cons (A7 (x:=(AV.s (⟨#[99,99,32,98]⟩:ByteArray))) kr) (A1.cons (A7 (x:=(AV.b false)) kr) (A1.cons (A7 (x:=(AV.s (⟨#[116,119,111]⟩:ByteArray))) kr) A1.nil)))))))) B7.nil))))),⟨(EP.kk (x':=(AV.own 9 0 1)) kr kr rfl (A6.row (fun _=>rfl) (A:=Cp.av) (id:=9) (e:=122) (k:=2) (xs:=[(⟨(⟨#[116,119,111]⟩:ByteArray),(2:Int)⟩:Cp)]) rfl rfl sd sd)),⟨(EP.kk (x':=(AV.own 10 0 1)) kr kr rfl (A6.row (fun _=>rfl) (A:=AV.s) (id:=10) (e:=9) (k:=1) (xs:=[(⟨#[108,105,98]⟩:ByteArray)]) rfl rfl sd sd)),⟨(EP.kk (x':=(AV.own 11 0 1)) kr kr rfl (A6.own (id:=11) (len:=1) (e:=67) (k:=3) (els:=[(AV.st [(AV.s (⟨#[99,99,32,97]⟩:ByteArray)),(AV.own 12 0 1),(AV.b false)])]) rfl rfl rfl sd (B7.cons (CP.st (A1.cons (A7 (x:=(AV.s (⟨#[99,99,32,97]⟩:ByteArray))) kr) (A1.cons (A6.row (fun _=>rfl) (A:=AV.s) (id:=12) (e:=9) (k:=1) (xs:=[(⟨#[122,46,104]⟩:ByteArray)]) rfl rfl sd sd) (A1.cons (A7 (x:=(AV.b false)) kr) A1.nil)))) B7.nil))),⟨(B8.c kr kr),⟨(EP.kk (x':=(AV.own 13 0 4)) kr kr rfl (A6.row (fun _=>rfl) (A:=A3.av) (id:=13) (e:=85) (k:=3) (xs:=[AQ,AU,AW,AR]) rfl rfl sd sd)),⟨Ec,⟨Ec,⟨(B8.c kr kr),⟨(B8.c kr kr),⟨Ec,trivial⟩⟩⟩⟩⟩⟩⟩⟩⟩⟩⟩ kr)
def C6:AV:=(AV.i .i64 Cu.jobs)
def Ff:AV:=(AV.s (⟨#[98,46,111]⟩:ByteArray))
def Fe:AV:=(AV.s (⟨#[97,46,100]⟩:ByteArray))
def Dl:AV:=(AV.s (⟨#[97,46,111]⟩:ByteArray))
def Fd:AV:=(AV.s (⟨#[108,105,98]⟩:ByteArray))
def C5:AV:=((Az 3 B0.av) Cu.actions)
def C4:AV:=((Az 1 AV.s) Cu.graph.defaults)
def C3:AV:=((Az 2 Cp.av) Cu.graph.pools)
def C2:AV:=((Az 7 AB.av) Cu.graph.edges)
def Fc:AV:=(AV.st [(AV.i .i64 (7:Int)),((Az 3 A3.av) dk3.files)])
def Fa:AV:=(AV.st [(AV.i .i64 (6:Int)),((Az 3 A3.av) dk2.files)])
def EZ:AV:=(AV.st [(AV.i .i64 (5:Int)),((Az 3 A3.av) dk1.files)])
def EY:Obj:=⟨30,2,[(AV.st [(AV.i .i64 (0:Int)),(AV.sl 3 true [])])]⟩
def EX:Obj:=⟨30,2,[(AV.st [(AV.i .i64 (8:Int)),((Az 3 A3.av) Q8.files)])]⟩
def Cl:Obj:=⟨30,2,[Fc]⟩
def BF:Obj:=⟨30,2,[Fa]⟩
def B6:Obj:=⟨30,2,[EZ]⟩
def EW:AV:=(AV.s (⟨#[97,46,111,32,97,46,100,124,97,46,99,124,97,46,104,124,100,124,99,99,32,97]⟩:ByteArray))
def AD:Obj:=⟨9,1,[(⟨#[97,46,111]⟩:ByteArray),(⟨#[97,46,100]⟩:ByteArray),(⟨#[98,46,111]⟩:ByteArray),(⟨#[108,105,98]⟩:ByteArray)].map AV.s⟩
def CB:Obj:=⟨56,3,[D5].map Ae.av⟩
def H7:Obj:=⟨56,3,[Fl].map Ae.av⟩
def BK:Obj:=⟨56,3,[C9].map Ae.av⟩
def AO:Obj:=⟨56,3,[Ca].map Ae.av⟩
def AX:Obj:=⟨35,11,[(AV.st [(AV.sl 7 true []),(AV.sl 2 true []),(AV.sl 1 true []),(AV.sl 3 true []),(AV.i .i64 (0:Int)),(AV.sl 3 true []),(AV.sl 3 true []),(AV.sl 3 true []),(AV.i .i64 (0:Int)),(AV.b false),(AV.sl 1 true [])])]⟩
def E3:Obj:=⟨56,3,[Ca,C9].map Ae.av⟩
def H6:Obj:=⟨35,11,[(AV.st [C2,C3,C4,C5,(AV.i .i64 (6:Int)),((Az 3 A3.av) dk2.files),(AV.own 6 0 1),(AV.sl 3 true []),C6,(AV.b Cu.going),(AV.sl 1 true [])])]⟩
def H5:Obj:=⟨35,11,[(AV.st [C2,C3,C4,C5,(AV.i .i64 (5:Int)),((Az 3 A3.av) dk1.files),(AV.own 6 0 1),(AV.sl 3 true []),C6,(AV.b Cu.going),(AV.sl 1 true [])])]⟩
def H4:Obj:=⟨35,11,[(AV.st [C2,C3,C4,C5,(AV.i .i64 (5:Int)),((Az 3 A3.av) dk1.files),(AV.sl 3 true []),(AV.sl 3 true []),C6,(AV.b Cu.going),(AV.sl 1 true [])])]⟩
def JU:AV:=(AV.st [C2,C3,C4,C5,(AV.i .i64 Cu.disk.clock),((Az 3 A3.av) Cu.disk.files),(AV.sl 3 true []),(AV.sl 3 true []),C6,(AV.b Cu.going),(AV.sl 1 true [])])
def H3:Obj:=⟨35,11,[JU]⟩
def AN:Obj:=⟨9,1,[(⟨#[97,46,111,32,97,46,100,124,97,46,99,124,97,46,104,124,100,124,99,99,32,97]⟩:ByteArray),(⟨#[97,46,111,32,97,46,100,124,97,46,99,124,97,46,104,124,100,124,99,99,32,97]⟩:ByteArray),(⟨#[98,46,111,124,98,46,99,124,124,110,124,99,99,32,98]⟩:ByteArray),(⟨#[108,105,98,124,97,46,111,32,98,46,111,124,124,110,124,97,114]⟩:ByteArray)].map AV.s⟩
def Ek:Obj:=⟨56,3,[Ca,C9,D5].map Ae.av⟩
def KI:Obj:=⟨56,3,[Ca,C9,D5,Fl].map Ae.av⟩
def HF:Obj:=⟨35,11,[(AV.st [C2,C3,C4,C5,(AV.i .i64 (7:Int)),((Az 3 A3.av) dk3.files),(AV.own 9 0 ([Ca,C9].length)),(AV.sl 3 true []),C6,(AV.b Cu.going),(AV.sl 1 true [])])]⟩
def HE:Obj:=⟨35,11,[(AV.st [C2,C3,C4,C5,(AV.i .i64 (6:Int)),((Az 3 A3.av) dk2.files),(AV.own 9 0 ([Ca,C9].length)),(AV.sl 3 true []),C6,(AV.b Cu.going),(AV.sl 1 true [])])]⟩
def HD:Obj:=⟨35,11,[(AV.st [C2,C3,C4,C5,(AV.i .i64 (8:Int)),((Az 3 A3.av) Q8.files),(AV.own 12 0 ([Ca,C9,D5].length)),(AV.sl 3 true []),C6,(AV.b Cu.going),(AV.sl 1 true [])])]⟩
def HC:Obj:=⟨35,11,[(AV.st [C2,C3,C4,C5,(AV.i .i64 (7:Int)),((Az 3 A3.av) dk3.files),(AV.own 12 0 ([Ca,C9,D5].length)),(AV.sl 3 true []),C6,(AV.b Cu.going),(AV.sl 1 true [])])]⟩
def HB:AV:=(AV.st [C2,C3,C4,C5,(AV.i .i64 (8:Int)),((Az 3 A3.av) Q8.files),(AV.own 15 0 ([Ca,C9,D5,Fl].length)),(AV.own 17 0 1),C6,(AV.b Cu.going),(AV.sl 1 true [])])
def KH:Obj:=⟨35,11,[HB]⟩
theorem QH (W:World):Am Go.Proofs.Tryz.prog W 26 [] (AV.st [((Az 7 AB.av) Cu.graph.edges),((Az 2 Cp.av) Cu.graph.pools),((Az 1 AV.s) Cu.graph.defaults),((Az 3 B0.av) Cu.actions),(AV.i .i64 (8:Int)),((Az 3 A3.av) Q8.files),(AV.own 0 0 ([Ca,C9,D5,Fl].length)),(AV.own 1 0 1),(AV.i .i64 Cu.jobs),(AV.b Cu.going),(AV.sl 1 true [])]) [⟨56,3,[Ca,C9,D5,Fl].map Ae.av⟩,⟨61,3,[(AV.st [(AV.s (⟨#[97,46,111]⟩:ByteArray)),(AV.i .i64 (5:Int)),(AV.own 2 0 1)])]⟩,⟨9,1,[(⟨#[122,46,104]⟩:ByteArray)].map AV.s⟩]:=by
 refine Od Aa (fn:=Go.Proofs.Tryz.f26) Go.Proofs.Tryz.func26 rfl (en26 W) le<|Sq<|Rg<|Nn (AV.loc 0 0 0) AX<|Ad<|Sq<|Rg<|A2.sc0 (vs:=[]) (r0:=JU) kr kr (Q7 W) kr le<|Nn (AV.loc 1 0 0) AX<|Sp 1 H3<|Ad ?_
 refine Sq<|Rg<|Nn (AV.own 2 0 4) AD<|Aq (AV.own 2 0 4)<|Ad<|Sq<|Rg<|Nn (AV.own 3 0 4) AN<|Aq (AV.own 3 0 4)<|Ad<|Sq<|Sq<|Rg<|Aq (AV.i .i64 (0:Int))<|Ad<|Ag.block<|TX 5<|OS.next (m:=4)<|Sq<|Sq<|Rg<|Aq (AV.i .i64 (0:Int))<|Aq (AV.b true)<|Ad<|Ct<|Ag.skip<|Sq<|Ag.block<|Sq<|Hm Aa Eb 12 [10] kr kr kr le<|Dq (AV.loc 1 0 4)<|Dq (AV.st [(AV.i .i64 Cu.disk.clock),((Az 3 A3.av) Cu.disk.files)])<|Dq (AV.own 2 0 4)<|Dq (AV.i .i64 (0:Int))<|Dp (AV.loc 2 0 0) (Ea (e:=9) (id:=2) (len:=4) (kk:= .i64) (ob:=AD) (i:=0) kr kr kr rfl kr sd)<|Dp Dl (DY (e:=9) (k:=1) (i:=GI) (id:=2) (xs:=[(⟨#[97,46,111]⟩:ByteArray),(⟨#[97,46,100]⟩:ByteArray),(⟨#[98,46,111]⟩:ByteArray),(⟨#[108,105,98]⟩:ByteArray)]) (A:=AV.s) (j:=0) kr kr rfl rfl kr) ?_
 refine Dq (AV.i .i64 (0:Int))<|Aw.sc0 (vs:=[(AV.st [(AV.i .i64 Cu.disk.clock),((Az 3 A3.av) Cu.disk.files)]),Dl,(AV.i .i64 (0:Int))]) (r0:=(AV.tup [(Aj.av dk1),(AV.i .i64 (0:Int))])) kr kr (LV (CJ W (⟨Cu.disk.clock,Cu.disk.files⟩:Aj) (⟨#[97,46,111]⟩:ByteArray) (0:Int) sd) kr) kr le<|Dq (AV.tup [(Aj.av dk1),(AV.i .i64 (0:Int))])<|Dq (Aj.av dk1)<|Dq (AV.i .i64 (0:Int))<|Aw.sn (x:=(AV.loc 4 0 0)) (h':=⟨5,[(4,some EY),(3,some AN),(2,some AD),(1,some H3),(0,some AX)]⟩) kr le ?_
 refine Aw.st (by decide) (x:=AV.und) (h':=⟨5,[(4,some B6),(3,some AN),(2,some AD),(1,some H3),(0,some AX)]⟩) kr<|Dq (AV.i .i64 (0:Int))<|Aw.fin<|Sq<|Rg<|Aq EZ ?_
 refine Aq (AV.loc 1 0 4)<|Sp 1 H4<|Ad<|Ag.drawn Aa Eb 14 kr le<|Dq (AV.loc 1 0 6)<|Dq (AV.sl 3 true [])<|Dq (AV.own 2 0 4)<|Dq (AV.i .i64 (0:Int))<|Dp (AV.loc 2 0 0) (Ea (e:=9) (id:=2) (len:=4) (kk:= .i64) (ob:=AD) (i:=0) kr kr kr rfl kr sd)<|Dp Dl (DY (e:=9) (k:=1) (i:=GI) (id:=2) (xs:=[(⟨#[97,46,111]⟩:ByteArray),(⟨#[97,46,100]⟩:ByteArray),(⟨#[98,46,111]⟩:ByteArray),(⟨#[108,105,98]⟩:ByteArray)]) (A:=AV.s) (j:=0) kr kr rfl rfl kr)<|Dq (AV.loc 4 0 0)<|Dq (AV.i .i64 (5:Int))<|Dq (AV.own 3 0 4)<|Dq (AV.i .i64 (0:Int))<|Dp (AV.loc 3 0 0) (Ea (e:=9) (id:=3) (len:=4) (kk:= .i64) (ob:=AN) (i:=0) kr kr kr rfl kr sd) ?_
 refine Dp EW (DY (e:=9) (k:=1) (i:=GI) (id:=3) (xs:=[(⟨#[97,46,111,32,97,46,100,124,97,46,99,124,97,46,104,124,100,124,99,99,32,97]⟩:ByteArray),(⟨#[97,46,111,32,97,46,100,124,97,46,99,124,97,46,104,124,100,124,99,99,32,97]⟩:ByteArray),(⟨#[98,46,111,124,98,46,99,124,124,110,124,99,99,32,98]⟩:ByteArray),(⟨#[108,105,98,124,97,46,111,32,98,46,111,124,124,110,124,97,114]⟩:ByteArray)]) (A:=AV.s) (j:=0) kr kr rfl rfl kr)<|Nd (AV.st [Dl,(AV.i .i64 (5:Int)),EW])<|Aw.sn (x:=(AV.own 5 0 1)) (h':=⟨6,[(5,some AO),(4,some B6),(3,some AN),(2,some AD),(1,some H4),(0,some AX)]⟩) kr le ?_
 refine Aw.se (by decide) (x:=(AV.own 6 0 1)) (h':=⟨7,[(6,some AO),(5,some AO),(4,some B6),(3,some AN),(2,some AD),(1,some H4),(0,some AX)]⟩) kr le ?_
 refine Dq (AV.loc 1 0 6)<|Aw.st (by decide) (x:=AV.und) (h':=⟨7,[(6,some AO),(5,some AO),(4,some B6),(3,some AN),(2,some AD),(1,some H5),(0,some AX)]⟩) kr ?_
 refine Aw.fin<|Rg<|Aq (AV.i .i64 (0:Int))<|Aq (AV.i .i64 (1:Int))<|Aq (AV.i .i64 (1:Int))<|Ad<|OS.next (m:=3)<|Sq<|Sq<|Rg<|Aq (AV.i .i64 (1:Int))<|Aq (AV.b true)<|Ad<|Ct<|Ag.skip<|Sq<|Ag.block<|Sq<|Hm Aa Eb 12 [10] kr kr kr le<|Dq (AV.loc 1 0 4)<|Dq EZ<|Dq (AV.own 2 0 4)<|Dq (AV.i .i64 (1:Int))<|Dp (AV.loc 2 1 0) (Ea (e:=9) (id:=2) (len:=4) (kk:= .i64) (ob:=AD) (i:=1) kr kr kr rfl kr sd)<|Dp Fe (DY (e:=9) (k:=1) (i:=GI) (id:=2) (xs:=[(⟨#[97,46,111]⟩:ByteArray),(⟨#[97,46,100]⟩:ByteArray),(⟨#[98,46,111]⟩:ByteArray),(⟨#[108,105,98]⟩:ByteArray)]) (A:=AV.s) (j:=1) kr kr rfl rfl kr)<|Dq (AV.i .i64 (1:Int))<|Aw.sc0 (vs:=[EZ,Fe,(AV.i .i64 (1:Int))]) (r0:=(AV.tup [(Aj.av dk2),(AV.i .i64 (0:Int))])) kr kr (LV (CJ W (⟨(5:Int),dk1.files⟩:Aj) (⟨#[97,46,100]⟩:ByteArray) (1:Int) sd) kr) kr le<|Dq (AV.tup [(Aj.av dk2),(AV.i .i64 (0:Int))])<|Dq (Aj.av dk2)<|Dq (AV.i .i64 (0:Int))<|Aw.sn (x:=(AV.loc 7 0 0)) (h':=⟨8,[(7,some EY),(6,some AO),(5,some AO),(4,some B6),(3,some AN),(2,some AD),(1,some H5),(0,some AX)]⟩) kr le ?_
 refine Aw.st (by decide) (x:=AV.und) (h':=⟨8,[(7,some BF),(6,some AO),(5,some AO),(4,some B6),(3,some AN),(2,some AD),(1,some H5),(0,some AX)]⟩) kr ?_
 refine Dq (AV.i .i64 (0:Int))<|Aw.fin<|Sq<|Rg<|Aq Fa<|Aq (AV.loc 1 0 4)<|Sp 1 H6<|Ad<|Ag.drawn Aa Eb 14 kr le<|Dq (AV.loc 1 0 6)<|Dq (AV.own 6 0 1)<|Dq (AV.own 2 0 4)<|Dq (AV.i .i64 (1:Int))<|Dp (AV.loc 2 1 0) (Ea (e:=9) (id:=2) (len:=4) (kk:= .i64) (ob:=AD) (i:=1) kr kr kr rfl kr sd)<|Dp Fe (DY (e:=9) (k:=1) (i:=GI) (id:=2) (xs:=[(⟨#[97,46,111]⟩:ByteArray),(⟨#[97,46,100]⟩:ByteArray),(⟨#[98,46,111]⟩:ByteArray),(⟨#[108,105,98]⟩:ByteArray)]) (A:=AV.s) (j:=1) kr kr rfl rfl kr)<|Dq (AV.loc 7 0 0)<|Dq (AV.i .i64 (6:Int))<|Dq (AV.own 3 0 4)<|Dq (AV.i .i64 (1:Int))<|Dp (AV.loc 3 1 0) (Ea (e:=9) (id:=3) (len:=4) (kk:= .i64) (ob:=AN) (i:=1) kr kr kr rfl kr sd) ?_
 refine Dp EW (DY (e:=9) (k:=1) (i:=GI) (id:=3) (xs:=[(⟨#[97,46,111,32,97,46,100,124,97,46,99,124,97,46,104,124,100,124,99,99,32,97]⟩:ByteArray),(⟨#[97,46,111,32,97,46,100,124,97,46,99,124,97,46,104,124,100,124,99,99,32,97]⟩:ByteArray),(⟨#[98,46,111,124,98,46,99,124,124,110,124,99,99,32,98]⟩:ByteArray),(⟨#[108,105,98,124,97,46,111,32,98,46,111,124,124,110,124,97,114]⟩:ByteArray)]) (A:=AV.s) (j:=1) kr kr rfl rfl kr)<|Nd (AV.st [Fe,(AV.i .i64 (6:Int)),EW])<|Aw.sn (x:=(AV.own 8 0 1)) (h':=⟨9,[(8,some BK),(7,some BF),(6,some AO),(5,some AO),(4,some B6),(3,some AN),(2,some AD),(1,some H6),(0,some AX)]⟩) kr le ?_
 refine Aw.se (by decide) (x:=(AV.own 9 0 ([Ca,C9].length))) (h':=⟨10,[(9,some E3),(8,some BK),(7,some BF),(6,none),(5,some AO),(4,some B6),(3,some AN),(2,some AD),(1,some H6),(0,some AX)]⟩) (Kc (len:=1) (e:=56) (X:=(AV.own 8 0 1)) (A:=Ae.av) (i:=V4) (p:=6) (xs:=[Ca]) (ys:=[C9]) kr kr kr (hx:=kr) kr ⟨by decide,by kernel_rfl⟩ rfl sd (by show _*40≤140737488355328;first|omega|(simp only [List.length_append,List.length_cons,List.length_nil,List.length_set,List.length_replicate];omega)|(simp;omega)) sd) le ?_
 refine Dq (AV.loc 1 0 6)<|Aw.st (by decide) (x:=AV.und) (h':=⟨10,[(9,some E3),(8,some BK),(7,some BF),(6,none),(5,some AO),(4,some B6),(3,some AN),(2,some AD),(1,some HE),(0,some AX)]⟩) kr ?_
 refine Aw.fin<|Rg<|Aq (AV.i .i64 (1:Int))<|Aq (AV.i .i64 (2:Int))<|Aq (AV.i .i64 (2:Int))<|Ad<|OS.next (m:=2)<|Sq<|Sq<|Rg<|Aq (AV.i .i64 (2:Int))<|Aq (AV.b true)<|Ad<|Ct<|Ag.skip<|Sq<|Ag.block<|Sq<|Hm Aa Eb 12 [10] kr kr kr le<|Dq (AV.loc 1 0 4)<|Dq Fa<|Dq (AV.own 2 0 4)<|Dq (AV.i .i64 (2:Int))<|Dp (AV.loc 2 2 0) (Ea (e:=9) (id:=2) (len:=4) (kk:= .i64) (ob:=AD) (i:=2) kr kr kr rfl kr sd)<|Dp Ff (DY (e:=9) (k:=1) (i:=GI) (id:=2) (xs:=[(⟨#[97,46,111]⟩:ByteArray),(⟨#[97,46,100]⟩:ByteArray),(⟨#[98,46,111]⟩:ByteArray),(⟨#[108,105,98]⟩:ByteArray)]) (A:=AV.s) (j:=2) kr kr rfl rfl kr)<|Dq (AV.i .i64 (2:Int))<|Aw.sc0 (vs:=[Fa,Ff,(AV.i .i64 (2:Int))]) (r0:=(AV.tup [(Aj.av dk3),(AV.i .i64 (0:Int))])) kr kr (LV (CJ W (⟨(6:Int),dk2.files⟩:Aj) (⟨#[98,46,111]⟩:ByteArray) (2:Int) sd) kr) kr le<|Dq (AV.tup [(Aj.av dk3),(AV.i .i64 (0:Int))])<|Dq (Aj.av dk3)<|Dq (AV.i .i64 (0:Int))<|Aw.sn (x:=(AV.loc 10 0 0)) (h':=⟨11,[(10,some EY),(9,some E3),(8,some BK),(7,some BF),(6,none),(5,some AO),(4,some B6),(3,some AN),(2,some AD),(1,some HE),(0,some AX)]⟩) kr le ?_
 refine Aw.st (by decide) (x:=AV.und) (h':=⟨11,[(10,some Cl),(9,some E3),(8,some BK),(7,some BF),(6,none),(5,some AO),(4,some B6),(3,some AN),(2,some AD),(1,some HE),(0,some AX)]⟩) kr ?_
 refine Dq (AV.i .i64 (0:Int))<|Aw.fin<|Sq<|Rg<|Aq Fc<|Aq (AV.loc 1 0 4)<|Sp 1 HF<|Ad<|Ag.drawn Aa Eb 14 kr le<|Dq (AV.loc 1 0 6)<|Dq (AV.own 9 0 ([Ca,C9].length))<|Dq (AV.own 2 0 4)<|Dq (AV.i .i64 (2:Int))<|Dp (AV.loc 2 2 0) (Ea (e:=9) (id:=2) (len:=4) (kk:= .i64) (ob:=AD) (i:=2) kr kr kr rfl kr sd) ?_
 refine Dp Ff (DY (e:=9) (k:=1) (i:=GI) (id:=2) (xs:=[(⟨#[97,46,111]⟩:ByteArray),(⟨#[97,46,100]⟩:ByteArray),(⟨#[98,46,111]⟩:ByteArray),(⟨#[108,105,98]⟩:ByteArray)]) (A:=AV.s) (j:=2) kr kr rfl rfl kr)<|Dq (AV.loc 10 0 0)<|Dq (AV.i .i64 (7:Int))<|Dq (AV.own 3 0 4)<|Dq (AV.i .i64 (2:Int))<|Dp (AV.loc 3 2 0) (Ea (e:=9) (id:=3) (len:=4) (kk:= .i64) (ob:=AN) (i:=2) kr kr kr rfl kr sd)<|Dp (AV.s (⟨#[98,46,111,124,98,46,99,124,124,110,124,99,99,32,98]⟩:ByteArray)) (DY (e:=9) (k:=1) (i:=GI) (id:=3) (xs:=[(⟨#[97,46,111,32,97,46,100,124,97,46,99,124,97,46,104,124,100,124,99,99,32,97]⟩:ByteArray),(⟨#[97,46,111,32,97,46,100,124,97,46,99,124,97,46,104,124,100,124,99,99,32,97]⟩:ByteArray),(⟨#[98,46,111,124,98,46,99,124,124,110,124,99,99,32,98]⟩:ByteArray),(⟨#[108,105,98,124,97,46,111,32,98,46,111,124,124,110,124,97,114]⟩:ByteArray)]) (A:=AV.s) (j:=2) kr kr rfl rfl kr) ?_
 refine Nd (AV.st [Ff,(AV.i .i64 (7:Int)),(AV.s (⟨#[98,46,111,124,98,46,99,124,124,110,124,99,99,32,98]⟩:ByteArray))])<|Aw.sn (x:=(AV.own 11 0 1)) (h':=⟨12,[(11,some CB),(10,some Cl),(9,some E3),(8,some BK),(7,some BF),(6,none),(5,some AO),(4,some B6),(3,some AN),(2,some AD),(1,some HF),(0,some AX)]⟩) kr le ?_
 refine Aw.se (by decide) (x:=(AV.own 12 0 ([Ca,C9,D5].length))) (h':=⟨13,[(12,some Ek),(11,some CB),(10,some Cl),(9,none),(8,some BK),(7,some BF),(6,none),(5,some AO),(4,some B6),(3,some AN),(2,some AD),(1,some HF),(0,some AX)]⟩) (Kc (len:=([Ca,C9].length)) (e:=56) (X:=(AV.own 11 0 1)) (A:=Ae.av) (i:=V4) (p:=9) (xs:=[Ca,C9]) (ys:=[D5]) kr kr kr (hx:=kr) kr ⟨by decide,by kernel_rfl⟩ rfl rfl (by show _*40≤140737488355328;first|omega|(simp only [List.length_append,List.length_cons,List.length_nil,List.length_set,List.length_replicate];omega)|(simp;omega)) sd) le ?_
 refine Dq (AV.loc 1 0 6)<|Aw.st (by decide) (x:=AV.und) (h':=⟨13,[(12,some Ek),(11,some CB),(10,some Cl),(9,none),(8,some BK),(7,some BF),(6,none),(5,some AO),(4,some B6),(3,some AN),(2,some AD),(1,some HC),(0,some AX)]⟩) kr ?_
 refine Aw.fin<|Rg<|Aq (AV.i .i64 (2:Int))<|Aq (AV.i .i64 (3:Int))<|Aq (AV.i .i64 (3:Int))<|Ad<|OS.next (m:=1)<|Sq<|Sq<|Rg<|Aq (AV.i .i64 (3:Int))<|Aq (AV.b true)<|Ad<|Ct<|Ag.skip<|Sq<|Ag.block<|Sq<|Hm Aa Eb 12 [10] kr kr kr le<|Dq (AV.loc 1 0 4)<|Dq Fc<|Dq (AV.own 2 0 4)<|Dq (AV.i .i64 (3:Int))<|Dp (AV.loc 2 3 0) (Ea (e:=9) (id:=2) (len:=4) (kk:= .i64) (ob:=AD) (i:=3) kr kr kr rfl kr sd)<|Dp Fd (DY (e:=9) (k:=1) (i:=GI) (id:=2) (xs:=[(⟨#[97,46,111]⟩:ByteArray),(⟨#[97,46,100]⟩:ByteArray),(⟨#[98,46,111]⟩:ByteArray),(⟨#[108,105,98]⟩:ByteArray)]) (A:=AV.s) (j:=3) kr kr rfl rfl kr)<|Dq (AV.i .i64 (3:Int))<|Aw.sc0 (vs:=[Fc,Fd,(AV.i .i64 (3:Int))]) (r0:=(AV.tup [(Aj.av Q8),(AV.i .i64 (0:Int))])) kr kr (LV (CJ W (⟨(7:Int),dk3.files⟩:Aj) (⟨#[108,105,98]⟩:ByteArray) (3:Int) sd) kr) kr le<|Dq (AV.tup [(Aj.av Q8),(AV.i .i64 (0:Int))])<|Dq (Aj.av Q8)<|Dq (AV.i .i64 (0:Int))<|Aw.sn (x:=(AV.loc 13 0 0)) (h':=⟨14,[(13,some EY),(12,some Ek),(11,some CB),(10,some Cl),(9,none),(8,some BK),(7,some BF),(6,none),(5,some AO),(4,some B6),(3,some AN),(2,some AD),(1,some HC),(0,some AX)]⟩) kr le ?_
 refine Aw.st (by decide) (x:=AV.und) (h':=⟨14,[(13,some EX),(12,some Ek),(11,some CB),(10,some Cl),(9,none),(8,some BK),(7,some BF),(6,none),(5,some AO),(4,some B6),(3,some AN),(2,some AD),(1,some HC),(0,some AX)]⟩) kr ?_
 refine Dq (AV.i .i64 (0:Int))<|Aw.fin<|Sq<|Rg<|Aq (AV.st [(AV.i .i64 (8:Int)),((Az 3 A3.av) Q8.files)])<|Aq (AV.loc 1 0 4)<|Sp 1 HD<|Ad<|Ag.drawn Aa Eb 14 kr le<|Dq (AV.loc 1 0 6)<|Dq (AV.own 12 0 ([Ca,C9,D5].length)) ?_
 refine Dq (AV.own 2 0 4)<|Dq (AV.i .i64 (3:Int))<|Dp (AV.loc 2 3 0) (Ea (e:=9) (id:=2) (len:=4) (kk:= .i64) (ob:=AD) (i:=3) kr kr kr rfl kr sd)<|Dp Fd (DY (e:=9) (k:=1) (i:=GI) (id:=2) (xs:=[(⟨#[97,46,111]⟩:ByteArray),(⟨#[97,46,100]⟩:ByteArray),(⟨#[98,46,111]⟩:ByteArray),(⟨#[108,105,98]⟩:ByteArray)]) (A:=AV.s) (j:=3) kr kr rfl rfl kr)<|Dq (AV.loc 13 0 0)<|Dq (AV.i .i64 (8:Int))<|Dq (AV.own 3 0 4)<|Dq (AV.i .i64 (3:Int))<|Dp (AV.loc 3 3 0) (Ea (e:=9) (id:=3) (len:=4) (kk:= .i64) (ob:=AN) (i:=3) kr kr kr rfl kr sd)<|Dp (AV.s (⟨#[108,105,98,124,97,46,111,32,98,46,111,124,124,110,124,97,114]⟩:ByteArray)) (DY (e:=9) (k:=1) (i:=GI) (id:=3) (xs:=[(⟨#[97,46,111,32,97,46,100,124,97,46,99,124,97,46,104,124,100,124,99,99,32,97]⟩:ByteArray),(⟨#[97,46,111,32,97,46,100,124,97,46,99,124,97,46,104,124,100,124,99,99,32,97]⟩:ByteArray),(⟨#[98,46,111,124,98,46,99,124,124,110,124,99,99,32,98]⟩:ByteArray),(⟨#[108,105,98,124,97,46,111,32,98,46,111,124,124,110,124,97,114]⟩:ByteArray)]) (A:=AV.s) (j:=3) kr kr rfl rfl kr) ?_
 refine Nd (AV.st [Fd,(AV.i .i64 (8:Int)),(AV.s (⟨#[108,105,98,124,97,46,111,32,98,46,111,124,124,110,124,97,114]⟩:ByteArray))])<|Aw.sn (x:=(AV.own 14 0 1)) (h':=⟨15,[(14,some H7),(13,some EX),(12,some Ek),(11,some CB),(10,some Cl),(9,none),(8,some BK),(7,some BF),(6,none),(5,some AO),(4,some B6),(3,some AN),(2,some AD),(1,some HD),(0,some AX)]⟩) kr le ?_
 refine Aw.se (by decide) (x:=(AV.own 15 0 ([Ca,C9,D5,Fl].length))) (h':=⟨16,[(15,some KI),(14,some H7),(13,some EX),(12,none),(11,some CB),(10,some Cl),(9,none),(8,some BK),(7,some BF),(6,none),(5,some AO),(4,some B6),(3,some AN),(2,some AD),(1,some HD),(0,some AX)]⟩) (Kc (len:=([Ca,C9,D5].length)) (e:=56) (X:=(AV.own 14 0 1)) (A:=Ae.av) (i:=V4) (p:=12) (xs:=[Ca,C9,D5]) (ys:=[Fl]) kr kr kr (hx:=kr) kr ⟨by decide,by kernel_rfl⟩ rfl rfl (by show _*40≤140737488355328;first|omega|(simp only [List.length_append,List.length_cons,List.length_nil,List.length_set,List.length_replicate];omega)|(simp;omega)) sd) le ?_
 refine Dq (AV.loc 1 0 6)<|Aw.st (by decide) (x:=AV.und) (h':=⟨16,[(15,some KI),(14,some H7),(13,some EX),(12,none),(11,some CB),(10,some Cl),(9,none),(8,some BK),(7,some BF),(6,none),(5,some AO),(4,some B6),(3,some AN),(2,some AD),(1,some ⟨35,11,[(AV.st [C2,C3,C4,C5,(AV.i .i64 (8:Int)),((Az 3 A3.av) Q8.files),(AV.own 15 0 ([Ca,C9,D5,Fl].length)),(AV.sl 3 true []),C6,(AV.b Cu.going),(AV.sl 1 true [])])]⟩),(0,some AX)]⟩) kr ?_
 refine Aw.fin<|Rg<|Aq (AV.i .i64 (3:Int))<|Aq (AV.i .i64 (4:Int))<|Aq (AV.i .i64 (4:Int))<|Ad<|OS.next (m:=0)<|Sq<|Sq<|Rg<|Aq (AV.i .i64 (4:Int))<|Aq (AV.b false)<|Ad<|Cf<|Ag.exit<|Sq<|Rg<|Nn (AV.own 16 0 1) ⟨9,1,[(⟨#[122,46,104]⟩:ByteArray)].map AV.s⟩<|Nb (AV.st [Dl,(AV.i .i64 (5:Int)),(AV.own 16 0 1)])<|Nn (AV.own 17 0 1) ⟨61,3,[(AV.st [Dl,(AV.i .i64 (5:Int)),(AV.own 16 0 1)])]⟩<|Aq (AV.loc 1 0 7)<|Sp 1 KH ?_
 refine Ad<|Sq<|Rg<|Aq HB<|Sp 0 KH ?_
 refine Ad<|Rt ?_
 have hM:Tl=(⟨(⟨Cu.graph.edges,Cu.graph.pools,Cu.graph.defaults⟩:Av),Cu.actions,(⟨(8:Int),Q8.files⟩:Aj),[Ca,C9,D5,Fl],[Pp],Cu.jobs,Cu.going,[]⟩:Ak):=by simp only [Tl,AZ]
 exact ⟨[15,17,16],Or.inr rfl,by decide,rfl,⟨kr,⟨kr,⟨kr,trivial⟩⟩⟩,HB,kr,kr⟩
def C1:AV:=(AV.s (⟨#[]⟩:ByteArray))
def Dk:AV:=(AV.s (⟨#[97,114]⟩:ByteArray))
def BE:AV:=(AV.s (⟨#[116,119,111]⟩:ByteArray))
def D0:AV:=(AV.s (⟨#[99,99,32,98]⟩:ByteArray))
def Bu:AV:=(AV.s (⟨#[99,99,32,97]⟩:ByteArray))
def EV:AV:=(AV.st [Bu,(AV.own 12 0 1),(AV.b false)])
def JT:AV:=(AV.st [(AV.own 1 0 1),(AV.own 2 0 2),(AV.sl 1 true []),(AV.sl 1 true []),C1,(AV.b false),C1])
def H2:AV:=(AV.st [(AV.own 1 0 1),(AV.own 2 0 2),(AV.sl 1 true []),(AV.sl 1 true []),Dk,(AV.b false),C1])
def JS:AV:=(AV.st [(AV.own 15 0 1),(AV.own 16 0 2),(AV.sl 1 true []),(AV.sl 1 true []),Dk,(AV.b false),C1])
def E2:AV:=(AV.st [(AV.own 3 0 2),(AV.own 4 0 1),(AV.own 5 0 1),(AV.sl 1 true []),Bu,(AV.b true),BE])
def E1:AV:=(AV.st [(AV.own 6 0 1),(AV.own 7 0 1),(AV.sl 1 true []),(AV.own 8 0 1),D0,(AV.b false),BE])
def JR:AV:=(AV.st [(AV.own 17 0 2),(AV.own 18 0 1),(AV.own 19 0 1),(AV.sl 1 true []),Bu,(AV.b true),BE])
def JQ:AV:=(AV.st [(AV.own 20 0 1),(AV.own 21 0 1),(AV.sl 1 true []),(AV.own 22 0 1),D0,(AV.b false),BE])
def E0:AV:=(AV.st [(AV.own 0 0 3),(AV.own 9 0 1),(AV.own 10 0 1),(AV.own 11 0 1),(AV.i .i64 (4:Int)),(AV.own 13 0 4),(AV.sl 3 true []),(AV.sl 3 true []),(AV.i .i64 (2:Int)),(AV.b false),(AV.sl 1 true [])])
def EU:AV:=(AV.st [(AV.own 14 0 3),(AV.own 23 0 1),(AV.own 24 0 1),(AV.own 25 0 1),(AV.i .i64 (4:Int)),(AV.own 27 0 4),(AV.sl 3 true []),(AV.sl 3 true []),(AV.i .i64 (2:Int)),(AV.b false),(AV.sl 1 true [])])
def JP:AV:=((Az 3 A3.av) [AQ,AU,AW,AR])
def ET:AV:=((Az 3 A3.av) (([AQ,AU,AW,AR].take [AQ,AU,AW,AR].length).drop 1))
def CZ:AV:=(AV.st [(AV.own 0 0 3),(AV.own 9 0 1),(AV.own 10 0 1),(AV.own 11 0 1),(AV.i .i64 (4:Int)),ET,(AV.sl 3 true []),(AV.sl 3 true []),(AV.i .i64 (2:Int)),(AV.b false),(AV.sl 1 true [])])
def ES:AV:=(Ak.av B3)
def Dj:AV:=(AV.i .i64 ((GH B3).2))
def D8:AV:=((Az 1 AV.b) ((GH B3).1))
def Ej:AV:=(AV.i .i64 ((B4 B3 (3:Int)).2))
def CT:AV:=(AV.i .i64 ((B4 B3 (1:Int)).2))
def Ei:AV:=(AV.i .i64 ((GH (⟨GS,[Cq],(⟨(4:Int),(([AQ,AU,AW,AR].take [AQ,AU,AW,AR].length).drop 1)⟩:Aj),[],[],(2:Int),false,[]⟩:Ak)).2))
def Eh:AV:=(AV.i .i64 ((B4 (⟨DZ,[Cq],(⟨(4:Int),(([AQ,AU,AW,AR].take [AQ,AU,AW,AR].length).drop 1)⟩:Aj),[],[],(2:Int),false,[]⟩:Ak) (1:Int)).2))
def KG:AV:=(AV.tup [AV.und,Ei])
def KF:AV:=(AV.tup [D8,Dj])
def KE:AV:=(AV.tup [(AV.b ((B4 B3 (3:Int)).1)),Ej])
def KD:AV:=(AV.tup [(AV.b ((B4 (⟨DZ,[Cq],(⟨(4:Int),(([AQ,AU,AW,AR].take [AQ,AU,AW,AR].length).drop 1)⟩:Aj),[],[],(2:Int),false,[]⟩:Ak) (1:Int)).1)),Eh])
theorem QE (W:World) {m0:Int} (hW:W.cell? ⟨0,0,none⟩=some (.int .i64 m0)):Am Go.Proofs.Tryz.prog W 25 [] (AV.b N2) []:=by
 refine Ao (fn:=Go.Proofs.Tryz.f25) Go.Proofs.Tryz.func25 rfl (en25 W) (ts:=[0]) rfl le<|Sq<|Rg<|Aq (AV.b false)<|Ad<|Sq<|Rg<|Sc E0 (Ft W)<|A2.sfw (vs:=[E0,(AV.i .i64 (1:Int))]) (ss:=[ES,(AV.i .i64 (1:Int))]) (r0:=(AV.tup [(AV.b ((B4 B3 (1:Int)).1)),CT])) kr (show Bs _ _ _ from ⟨(A6.w (A6.cast (x':=E0) kr kr (A6.st (A1.cons (A6.own (id:=0) (len:=3) (e:=65) (k:=7) (els:=[H2,E2,E1]) rfl rfl rfl sd (B7.cons (CP.st (A1.cons (A6.row (fun _=>rfl) (A:=AV.s) (id:=1) (e:=9) (k:=1) (xs:=[(⟨#[108,105,98]⟩:ByteArray)]) rfl rfl sd sd) (A1.cons (A6.row (fun _=>rfl) (A:=AV.s) (id:=2) (e:=9) (k:=1) (xs:=[(⟨#[97,46,111]⟩:ByteArray),(⟨#[98,46,111]⟩:ByteArray)]) rfl rfl sd sd) (A1.cons (A6.c rfl (AL.nil 1)) (A1.cons (A6.c rfl (AL.nil 1)) (A1.cons (A7 (x:=Dk) kr) (A1.cons (A7 (x:=(AV.b false)) kr) (A1.cons (A7 (x:=C1) kr) A1.nil)))))))) (B7.cons (CP.st (A1.cons (A6.row (fun _=>rfl) (A:=AV.s) (id:=3) (e:=9) (k:=1) (xs:=[(⟨#[97,46,111]⟩:ByteArray),(⟨#[97,46,100]⟩:ByteArray)]) rfl rfl sd sd) (A1.cons (A6.row (fun _=>rfl) (A:=AV.s) (id:=4) (e:=9) (k:=1) (xs:=[(⟨#[97,46,99]⟩:ByteArray)]) rfl rfl sd sd) (A1.cons (A6.row (fun _=>rfl) (A:=AV.s) (id:=5) (e:=9) (k:=1) (xs:=[(⟨#[97,46,104]⟩:ByteArray)]) rfl rfl sd sd) (A1.cons (A6.c rfl (AL.nil 1)) (A1.cons (A7 (x:=Bu) kr) (A1.cons (A7 (x:=(AV.b true)) kr) (A1.cons (A7 (x:=BE) kr) A1.nil)))))))) (B7.cons (CP.st (A1.cons (A6.row (fun _=>rfl) (A:=AV.s) (id:=6) (e:=9) (k:=1) (xs:=[(⟨#[98,46,111]⟩:ByteArray)]) rfl rfl sd sd) (A1.cons (A6.row (fun _=>rfl) (A:=AV.s) (id:=7) (e:=9) (k:=1) (xs:=[(⟨#[98,46,99]⟩:ByteArray)]) rfl rfl sd sd) (A1.cons (A6.c rfl (AL.nil 1)) (A1.cons (A6.row (fun _=>rfl) (A:=AV.s) (id:=8) (e:=9) (k:=1) (xs:=[(⟨#[97,46,111]⟩:ByteArray)]) rfl rfl sd sd) (A1.cons (A7 (x:=D0) kr) (A1.cons (A7 (x:=(AV.b false)) kr) (A1.cons (A7 (x:=BE) kr) A1.nil)))))))) B7.nil)))) (A1.cons (A6.row (fun _=>rfl) (A:=Cp.av) (id:=9) (e:=122) (k:=2) (xs:=[(⟨(⟨#[116,119,111]⟩:ByteArray),(2:Int)⟩:Cp)]) rfl rfl sd sd) (A1.cons (A6.row (fun _=>rfl) (A:=AV.s) (id:=10) (e:=9) (k:=1) (xs:=[(⟨#[108,105,98]⟩:ByteArray)]) rfl rfl sd sd) (A1.cons (A6.own (id:=11) (len:=1) (e:=67) (k:=3) (els:=[EV]) rfl rfl rfl sd (B7.cons (CP.st (A1.cons (A7 (x:=Bu) kr) (A1.cons (A6.row (fun _=>rfl) (A:=AV.s) (id:=12) (e:=9) (k:=1) (xs:=[(⟨#[122,46,104]⟩:ByteArray)]) rfl rfl sd sd) (A1.cons (A7 (x:=(AV.b false)) kr) A1.nil)))) B7.nil)) (A1.cons (A7 (x:=(AV.i .i64 (4:Int))) kr) (A1.cons (A6.row (fun _=>rfl) (A:=A3.av) (id:=13) (e:=85) (k:=3) (xs:=[AQ,AU,AW,AR]) rfl rfl sd sd) (A1.cons (A6.c rfl (AL.nil 3)) (A1.cons (A6.c rfl (AL.nil 3)) (A1.cons (A7 (x:=(AV.i .i64 (2:Int))) kr) (A1.cons (A7 (x:=(AV.b false)) kr) (A1.cons (A6.c rfl (AL.nil 1)) A1.nil)))))))))))))),⟨(Bs.e kr),trivial⟩⟩) (BZ W hW B3 (1:Int) sd) rfl kr le ?_
 refine Aq (AV.tup [(AV.b ((B4 B3 (1:Int)).1)),CT]) ?_
 refine Aq (AV.b ((B4 B3 (1:Int)).1))<|Aq CT ?_
 refine Aq (AV.b ((B4 B3 (1:Int)).1))<|Aq CT ?_
 refine Ad<|Sq<|HS<|Hp.run Aa 1 le<|Sc EU (Ft W)<|Ad<|Kp (Mo.fits [] (env1:=[(1,(AV.b ((B4 B3 (1:Int)).1))),(2,CT),(18,ES)]) (h1:=⟨0,[]⟩) ⟨by decide,rfl,A0.nil,(Ee (Ee (Au.cons (B8.st ⟨(EP.kk (x':=(AV.own 14 0 3)) kr kr rfl (A6.own (id:=14) (len:=3) (e:=65) (k:=7) (els:=[JS,JR,JQ]) rfl rfl rfl sd (B7.cons (CP.st (A1.cons (A6.row (fun _=>rfl) (A:=AV.s) (id:=15) (e:=9) (k:=1) (xs:=[(⟨#[108,105,98]⟩:ByteArray)]) rfl rfl sd sd) (A1.cons (A6.row (fun _=>rfl) (A:=AV.s) (id:=16) (e:=9) (k:=1) (xs:=[(⟨#[97,46,111]⟩:ByteArray),(⟨#[98,46,111]⟩:ByteArray)]) rfl rfl sd sd) (A1.cons (A6.c rfl (AL.nil 1)) (A1.cons (A6.c rfl (AL.nil 1)) (A1.cons (A7 (x:=Dk) kr) (A1.cons (A7 (x:=(AV.b false)) kr) (A1.cons (A7 (x:=C1) kr) A1.nil)))))))) (B7.cons (CP.st (A1.cons (A6.row (fun _=>rfl) (A:=AV.s) (id:=17) (e:=9) (k:=1) (xs:=[(⟨#[97,46,111]⟩:ByteArray),(⟨#[97,46,100]⟩:ByteArray)]) rfl rfl sd sd) (A1.cons (A6.row (fun _=>rfl) (A:=AV.s) (id:=18) (e:=9) (k:=1) (xs:=[(⟨#[97,46,99]⟩:ByteArray)]) rfl rfl sd sd) (A1.cons (A6.row (fun _=>rfl) (A:=AV.s) (id:=19) (e:=9) (k:=1) (xs:=[(⟨#[97,46,104]⟩:ByteArray)]) rfl rfl sd sd) (A1.cons (A6.c rfl (AL.nil 1)) (A1.cons (A7 (x:=Bu) kr) (A1.cons (A7 (x:=(AV.b true)) kr) (A1.cons (A7 (x:=BE) kr) A1.nil)))))))) (B7.cons (CP.st (A1.cons (A6.row (fun _=>rfl) (A:=AV.s) (id:=20) (e:=9) (k:=1) (xs:=[(⟨#[98,46,111]⟩:ByteArray)]) rfl rfl sd sd) (A1.cons (A6.row (fun _=>rfl) (A:=AV.s) (id:=21) (e:=9) (k:=1) (xs:=[(⟨#[98,46,99]⟩:ByteArray)]) rfl rfl sd sd) (A1.cons (A6.c rfl (AL.nil 1)) (A1.cons (A6.row (fun _=>rfl) (A:=AV.s) (id:=22) (e:=9) (k:=1) (xs:=[(⟨#[97,46,111]⟩:ByteArray)]) rfl rfl sd sd) (A1.cons (A7 (x:=D0) kr) (A1.cons (A7 (x:=(AV.b false)) kr) (A1.cons (A7 (x:=BE) kr) A1.nil)))))))) B7.nil))))),⟨(EP.kk (x':=(AV.own 23 0 1)) kr kr rfl (A6.row (fun _=>rfl) (A:=Cp.av) (id:=23) (e:=122) (k:=2) (xs:=[(⟨(⟨#[116,119,111]⟩:ByteArray),(2:Int)⟩:Cp)]) rfl rfl sd sd)),⟨(EP.kk (x':=(AV.own 24 0 1)) kr kr rfl (A6.row (fun _=>rfl) (A:=AV.s) (id:=24) (e:=9) (k:=1) (xs:=[(⟨#[108,105,98]⟩:ByteArray)]) rfl rfl sd sd)),⟨(EP.kk (x':=(AV.own 25 0 1)) kr kr rfl (A6.own (id:=25) (len:=1) (e:=67) (k:=3) (els:=[(AV.st [Bu,(AV.own 26 0 1),(AV.b false)])]) rfl rfl rfl sd (B7.cons (CP.st (A1.cons (A7 (x:=Bu) kr) (A1.cons (A6.row (fun _=>rfl) (A:=AV.s) (id:=26) (e:=9) (k:=1) (xs:=[(⟨#[122,46,104]⟩:ByteArray)]) rfl rfl sd sd) (A1.cons (A7 (x:=(AV.b false)) kr) A1.nil)))) B7.nil))),⟨Ec,⟨(EP.kk (x':=(AV.own 27 0 4)) kr kr rfl (A6.row (fun _=>rfl) (A:=A3.av) (id:=27) (e:=85) (k:=3) (xs:=[AQ,AU,AW,AR]) rfl rfl sd sd)),⟨(B8.w rfl (AL.nil 3)),⟨(B8.w rfl (AL.nil 3)),⟨Ec,⟨Ec,⟨(B8.w rfl (AL.nil 1)),trivial⟩⟩⟩⟩⟩⟩⟩⟩⟩⟩⟩ kr) Au.nil)))⟩ AE) ?_
 refine Hp.run Aa 6 le<|A2.sc0 (vs:=[ES]) (r0:=KF) kr kr (Oi W hW B3 sd) kr le ?_
 refine Aq KF ?_
 refine Aq D8<|Aq Dj ?_
 refine Aq D8<|Aq Dj ?_
 refine Ad<|Hp.fin rfl<|Sq<|Rg<|Sc E0 (Ft W)<|Nn (AV.loc 14 0 0) ⟨35,11,[(AV.st [(AV.sl 7 true []),(AV.sl 2 true []),(AV.sl 1 true []),(AV.sl 3 true []),(AV.i .i64 (0:Int)),(AV.sl 3 true []),(AV.sl 3 true []),(AV.sl 3 true []),(AV.i .i64 (0:Int)),(AV.b false),(AV.sl 1 true [])])]⟩<|Sp 14 ⟨35,11,[E0]⟩<|Ad<|Sq<|HS<|Hp.run Aa 3 le<|Aq (AV.loc 14 0 4)<|Aq (AV.loc 14 0 5)<|Aq (AV.own 13 0 4)<|Ad<|Kp (Mo.fits [0,1,2,3,4,5,6,7,8,9,10,11,12,14] (env1:=[(1,(AV.b ((B4 B3 (1:Int)).1))),(2,CT),(3,D8),(4,Dj),(5,(AV.loc 13 0 0)),(25,JP)]) (h1:=⟨14,[(13,some ⟨35,11,[(AV.st [(AV.own 0 0 3),(AV.own 9 0 1),(AV.own 10 0 1),(AV.own 11 0 1),(AV.i .i64 (4:Int)),JP,(AV.sl 3 true []),(AV.sl 3 true []),(AV.i .i64 (2:Int)),(AV.b false),(AV.sl 1 true [])])]⟩),(12,some ⟨9,1,[(⟨#[122,46,104]⟩:ByteArray)].map AV.s⟩),(11,some ⟨67,3,[EV]⟩),(10,some ⟨9,1,[(⟨#[108,105,98]⟩:ByteArray)].map AV.s⟩),(9,some ⟨122,2,[(⟨(⟨#[116,119,111]⟩:ByteArray),(2:Int)⟩:Cp)].map Cp.av⟩),(8,some ⟨9,1,[(⟨#[97,46,111]⟩:ByteArray)].map AV.s⟩),(7,some ⟨9,1,[(⟨#[98,46,99]⟩:ByteArray)].map AV.s⟩),(6,some ⟨9,1,[(⟨#[98,46,111]⟩:ByteArray)].map AV.s⟩),(5,some ⟨9,1,[(⟨#[97,46,104]⟩:ByteArray)].map AV.s⟩),(4,some ⟨9,1,[(⟨#[97,46,99]⟩:ByteArray)].map AV.s⟩),(3,some ⟨9,1,[(⟨#[97,46,111]⟩:ByteArray),(⟨#[97,46,100]⟩:ByteArray)].map AV.s⟩),(2,some ⟨9,1,[(⟨#[97,46,111]⟩:ByteArray),(⟨#[98,46,111]⟩:ByteArray)].map AV.s⟩),(1,some ⟨9,1,[(⟨#[108,105,98]⟩:ByteArray)].map AV.s⟩),(0,some ⟨65,7,[H2,E2,E1]⟩)]⟩) ⟨by decide,rfl,(A0.cons kr (A0.cons (Bp (fun _=>rfl) (e:=9) (k:=1) (A:=AV.s) (xs:=[(⟨#[108,105,98]⟩:ByteArray)]) rfl rfl) (A0.cons (Bp (fun _=>rfl) (e:=9) (k:=1) (A:=AV.s) (xs:=[(⟨#[97,46,111]⟩:ByteArray),(⟨#[98,46,111]⟩:ByteArray)]) rfl rfl) (A0.cons (Bp (fun _=>rfl) (e:=9) (k:=1) (A:=AV.s) (xs:=[(⟨#[97,46,111]⟩:ByteArray),(⟨#[97,46,100]⟩:ByteArray)]) rfl rfl) (A0.cons (Bp (fun _=>rfl) (e:=9) (k:=1) (A:=AV.s) (xs:=[(⟨#[97,46,99]⟩:ByteArray)]) rfl rfl) (A0.cons (Bp (fun _=>rfl) (e:=9) (k:=1) (A:=AV.s) (xs:=[(⟨#[97,46,104]⟩:ByteArray)]) rfl rfl) (A0.cons (Bp (fun _=>rfl) (e:=9) (k:=1) (A:=AV.s) (xs:=[(⟨#[98,46,111]⟩:ByteArray)]) rfl rfl) (A0.cons (Bp (fun _=>rfl) (e:=9) (k:=1) (A:=AV.s) (xs:=[(⟨#[98,46,99]⟩:ByteArray)]) rfl rfl) (A0.cons (Bp (fun _=>rfl) (e:=9) (k:=1) (A:=AV.s) (xs:=[(⟨#[97,46,111]⟩:ByteArray)]) rfl rfl) (A0.cons (Bp (fun _=>rfl) (e:=122) (k:=2) (A:=Cp.av) (xs:=[(⟨(⟨#[116,119,111]⟩:ByteArray),(2:Int)⟩:Cp)]) rfl rfl) (A0.cons (Bp (fun _=>rfl) (e:=9) (k:=1) (A:=AV.s) (xs:=[(⟨#[108,105,98]⟩:ByteArray)]) rfl rfl) (A0.cons kr (A0.cons (Bp (fun _=>rfl) (e:=9) (k:=1) (A:=AV.s) (xs:=[(⟨#[122,46,104]⟩:ByteArray)]) rfl rfl) (A0.cons kr A0.nil)))))))))))))),(Ee (Ee (Ee (Ee (Au.cons (B8.f kr) (Au.cons (EP.kk (x':=(AV.own 13 0 4)) kr kr rfl (A6.row (fun _=>rfl) (A:=A3.av) (id:=13) (e:=85) (k:=3) (xs:=[AQ,AU,AW,AR]) rfl rfl sd sd)) Au.nil))))))⟩ AE) ?_
 refine Hp.run Aa 4 le<|Ap ET (WO (k:=3) (nl:=false) (e:=85) (l:=(some (1:Int))) (g:=none) (A:=A3.av) (xs:=[AQ,AU,AW,AR]) (a:=1) (b:=[AQ,AU,AW,AR].length) kr kr ⟨by kernel_rfl,by decide⟩ kr kr rfl rfl sd sd)<|Aq (AV.loc 13 0 4)<|Aq (AV.loc 13 0 5)<|Sp 13 ⟨35,11,[CZ]⟩ ?_
 refine Ad<|Hp.fin rfl<|Sq<|Rg<|Aq CZ<|A2.sfw (vs:=[CZ,(AV.i .i64 (1:Int))]) (ss:=[(Ak.av (⟨DZ,[Cq],(⟨(4:Int),(([AQ,AU,AW,AR].take [AQ,AU,AW,AR].length).drop 1)⟩:Aj),[],[],(2:Int),false,[]⟩:Ak)),(AV.i .i64 (1:Int))]) (r0:=KD) kr (show Bs _ _ _ from ⟨(A6.w (A6.cast (x':=CZ) kr kr (A6.st (A1.cons (A6.own (id:=0) (len:=3) (e:=65) (k:=7) (els:=[H2,E2,E1]) rfl rfl rfl sd (B7.cons (CP.st (A1.cons (A6.row (fun _=>rfl) (A:=AV.s) (id:=1) (e:=9) (k:=1) (xs:=[(⟨#[108,105,98]⟩:ByteArray)]) rfl rfl sd sd) (A1.cons (A6.row (fun _=>rfl) (A:=AV.s) (id:=2) (e:=9) (k:=1) (xs:=[(⟨#[97,46,111]⟩:ByteArray),(⟨#[98,46,111]⟩:ByteArray)]) rfl rfl sd sd) (A1.cons (A6.c rfl (AL.nil 1)) (A1.cons (A6.c rfl (AL.nil 1)) (A1.cons (A7 (x:=Dk) kr) (A1.cons (A7 (x:=(AV.b false)) kr) (A1.cons (A7 (x:=C1) kr) A1.nil)))))))) (B7.cons (CP.st (A1.cons (A6.row (fun _=>rfl) (A:=AV.s) (id:=3) (e:=9) (k:=1) (xs:=[(⟨#[97,46,111]⟩:ByteArray),(⟨#[97,46,100]⟩:ByteArray)]) rfl rfl sd sd) (A1.cons (A6.row (fun _=>rfl) (A:=AV.s) (id:=4) (e:=9) (k:=1) (xs:=[(⟨#[97,46,99]⟩:ByteArray)]) rfl rfl sd sd) (A1.cons (A6.row (fun _=>rfl) (A:=AV.s) (id:=5) (e:=9) (k:=1) (xs:=[(⟨#[97,46,104]⟩:ByteArray)]) rfl rfl sd sd) (A1.cons (A6.c rfl (AL.nil 1)) (A1.cons (A7 (x:=Bu) kr) (A1.cons (A7 (x:=(AV.b true)) kr) (A1.cons (A7 (x:=BE) kr) A1.nil)))))))) (B7.cons (CP.st (A1.cons (A6.row (fun _=>rfl) (A:=AV.s) (id:=6) (e:=9) (k:=1) (xs:=[(⟨#[98,46,111]⟩:ByteArray)]) rfl rfl sd sd) (A1.cons (A6.row (fun _=>rfl) (A:=AV.s) (id:=7) (e:=9) (k:=1) (xs:=[(⟨#[98,46,99]⟩:ByteArray)]) rfl rfl sd sd) (A1.cons (A6.c rfl (AL.nil 1)) (A1.cons (A6.row (fun _=>rfl) (A:=AV.s) (id:=8) (e:=9) (k:=1) (xs:=[(⟨#[97,46,111]⟩:ByteArray)]) rfl rfl sd sd) (A1.cons (A7 (x:=D0) kr) (A1.cons (A7 (x:=(AV.b false)) kr) (A1.cons (A7 (x:=BE) kr) A1.nil)))))))) B7.nil)))) (A1.cons (A6.row (fun _=>rfl) (A:=Cp.av) (id:=9) (e:=122) (k:=2) (xs:=[(⟨(⟨#[116,119,111]⟩:ByteArray),(2:Int)⟩:Cp)]) rfl rfl sd sd) (A1.cons (A6.row (fun _=>rfl) (A:=AV.s) (id:=10) (e:=9) (k:=1) (xs:=[(⟨#[108,105,98]⟩:ByteArray)]) rfl rfl sd sd) (A1.cons (A6.own (id:=11) (len:=1) (e:=67) (k:=3) (els:=[EV]) rfl rfl rfl sd (B7.cons (CP.st (A1.cons (A7 (x:=Bu) kr) (A1.cons (A6.row (fun _=>rfl) (A:=AV.s) (id:=12) (e:=9) (k:=1) (xs:=[(⟨#[122,46,104]⟩:ByteArray)]) rfl rfl sd sd) (A1.cons (A7 (x:=(AV.b false)) kr) A1.nil)))) B7.nil)) (A1.cons (A7 (x:=(AV.i .i64 (4:Int))) kr) (A1.cons (A7 (x:=ET) kr) (A1.cons (A6.c rfl (AL.nil 3)) (A1.cons (A6.c rfl (AL.nil 3)) (A1.cons (A7 (x:=(AV.i .i64 (2:Int))) kr) (A1.cons (A7 (x:=(AV.b false)) kr) (A1.cons (A6.c rfl (AL.nil 1)) A1.nil)))))))))))))),⟨(Bs.e kr),trivial⟩⟩) (BZ W hW (⟨DZ,[Cq],(⟨(4:Int),(([AQ,AU,AW,AR].take [AQ,AU,AW,AR].length).drop 1)⟩:Aj),[],[],(2:Int),false,[]⟩:Ak) (1:Int) sd) rfl kr le ?_
 refine Aq KD ?_
 refine Aq (AV.b ((B4 (⟨DZ,[Cq],(⟨(4:Int),(([AQ,AU,AW,AR].take [AQ,AU,AW,AR].length).drop 1)⟩:Aj),[],[],(2:Int),false,[]⟩:Ak) (1:Int)).1))<|Aq Eh ?_
 refine Aq (AV.b ((B4 (⟨DZ,[Cq],(⟨(4:Int),(([AQ,AU,AW,AR].take [AQ,AU,AW,AR].length).drop 1)⟩:Aj),[],[],(2:Int),false,[]⟩:Ak) (1:Int)).1))<|Aq Eh ?_
 refine Ad<|Sq<|Rg<|Sc EU (Ft W)<|A2.sfw (vs:=[EU,(AV.i .i64 (3:Int))]) (ss:=[ES,(AV.i .i64 (3:Int))]) (r0:=KE) kr (show Bs _ _ _ from ⟨(A6.w (A6.cast (x':=EU) kr kr (A6.st (A1.cons (A6.own (id:=14) (len:=3) (e:=65) (k:=7) (els:=[JS,JR,JQ]) rfl rfl rfl sd (B7.cons (CP.st (A1.cons (A6.row (fun _=>rfl) (A:=AV.s) (id:=15) (e:=9) (k:=1) (xs:=[(⟨#[108,105,98]⟩:ByteArray)]) rfl rfl sd sd) (A1.cons (A6.row (fun _=>rfl) (A:=AV.s) (id:=16) (e:=9) (k:=1) (xs:=[(⟨#[97,46,111]⟩:ByteArray),(⟨#[98,46,111]⟩:ByteArray)]) rfl rfl sd sd) (A1.cons (A6.c rfl (AL.nil 1)) (A1.cons (A6.c rfl (AL.nil 1)) (A1.cons (A7 (x:=Dk) kr) (A1.cons (A7 (x:=(AV.b false)) kr) (A1.cons (A7 (x:=C1) kr) A1.nil)))))))) (B7.cons (CP.st (A1.cons (A6.row (fun _=>rfl) (A:=AV.s) (id:=17) (e:=9) (k:=1) (xs:=[(⟨#[97,46,111]⟩:ByteArray),(⟨#[97,46,100]⟩:ByteArray)]) rfl rfl sd sd) (A1.cons (A6.row (fun _=>rfl) (A:=AV.s) (id:=18) (e:=9) (k:=1) (xs:=[(⟨#[97,46,99]⟩:ByteArray)]) rfl rfl sd sd) (A1.cons (A6.row (fun _=>rfl) (A:=AV.s) (id:=19) (e:=9) (k:=1) (xs:=[(⟨#[97,46,104]⟩:ByteArray)]) rfl rfl sd sd) (A1.cons (A6.c rfl (AL.nil 1)) (A1.cons (A7 (x:=Bu) kr) (A1.cons (A7 (x:=(AV.b true)) kr) (A1.cons (A7 (x:=BE) kr) A1.nil)))))))) (B7.cons (CP.st (A1.cons (A6.row (fun _=>rfl) (A:=AV.s) (id:=20) (e:=9) (k:=1) (xs:=[(⟨#[98,46,111]⟩:ByteArray)]) rfl rfl sd sd) (A1.cons (A6.row (fun _=>rfl) (A:=AV.s) (id:=21) (e:=9) (k:=1) (xs:=[(⟨#[98,46,99]⟩:ByteArray)]) rfl rfl sd sd) (A1.cons (A6.c rfl (AL.nil 1)) (A1.cons (A6.row (fun _=>rfl) (A:=AV.s) (id:=22) (e:=9) (k:=1) (xs:=[(⟨#[97,46,111]⟩:ByteArray)]) rfl rfl sd sd) (A1.cons (A7 (x:=D0) kr) (A1.cons (A7 (x:=(AV.b false)) kr) (A1.cons (A7 (x:=BE) kr) A1.nil)))))))) B7.nil)))) (A1.cons (A6.row (fun _=>rfl) (A:=Cp.av) (id:=23) (e:=122) (k:=2) (xs:=[(⟨(⟨#[116,119,111]⟩:ByteArray),(2:Int)⟩:Cp)]) rfl rfl sd sd) (A1.cons (A6.row (fun _=>rfl) (A:=AV.s) (id:=24) (e:=9) (k:=1) (xs:=[(⟨#[108,105,98]⟩:ByteArray)]) rfl rfl sd sd) (A1.cons (A6.own (id:=25) (len:=1) (e:=67) (k:=3) (els:=[(AV.st [Bu,(AV.own 26 0 1),(AV.b false)])]) rfl rfl rfl sd (B7.cons (CP.st (A1.cons (A7 (x:=Bu) kr) (A1.cons (A6.row (fun _=>rfl) (A:=AV.s) (id:=26) (e:=9) (k:=1) (xs:=[(⟨#[122,46,104]⟩:ByteArray)]) rfl rfl sd sd) (A1.cons (A7 (x:=(AV.b false)) kr) A1.nil)))) B7.nil)) (A1.cons (A7 (x:=(AV.i .i64 (4:Int))) kr) (A1.cons (A6.row (fun _=>rfl) (A:=A3.av) (id:=27) (e:=85) (k:=3) (xs:=[AQ,AU,AW,AR]) rfl rfl sd sd) (A1.cons (A6.c rfl (AL.nil 3)) (A1.cons (A6.c rfl (AL.nil 3)) (A1.cons (A7 (x:=(AV.i .i64 (2:Int))) kr) (A1.cons (A7 (x:=(AV.b false)) kr) (A1.cons (A6.c rfl (AL.nil 1)) A1.nil)))))))))))))),⟨(Bs.e kr),trivial⟩⟩) (BZ W hW B3 (3:Int) sd) rfl kr le ?_
 refine Aq KE ?_
 refine Aq (AV.b ((B4 B3 (3:Int)).1))<|Aq Ej ?_
 refine Aq (AV.b ((B4 B3 (3:Int)).1))<|Aq Ej ?_
 refine Ad<|Sq<|Rg<|Aq (AV.loc 13 0 0)<|Aq (AV.loc 13 0 0)<|Aq (AV.own 0 0 3)<|Aq (AV.loc 0 0 0)<|Aq (AV.loc 0 0 4)<|Sp 0 ⟨65,7,[JT,E2,E1]⟩<|Ad<|Sq<|Rg<|Aq CZ<|A2.sfw (vs:=[CZ]) (ss:=[(Ak.av (⟨GS,[Cq],(⟨(4:Int),(([AQ,AU,AW,AR].take [AQ,AU,AW,AR].length).drop 1)⟩:Aj),[],[],(2:Int),false,[]⟩:Ak))]) (r0:=KG) kr (show Bs _ _ _ from ⟨(A6.w (A6.cast (x':=CZ) kr kr (A6.st (A1.cons (A6.own (id:=0) (len:=3) (e:=65) (k:=7) (els:=[JT,E2,E1]) rfl rfl rfl sd (B7.cons (CP.st (A1.cons (A6.row (fun _=>rfl) (A:=AV.s) (id:=1) (e:=9) (k:=1) (xs:=[(⟨#[108,105,98]⟩:ByteArray)]) rfl rfl sd sd) (A1.cons (A6.row (fun _=>rfl) (A:=AV.s) (id:=2) (e:=9) (k:=1) (xs:=[(⟨#[97,46,111]⟩:ByteArray),(⟨#[98,46,111]⟩:ByteArray)]) rfl rfl sd sd) (A1.cons (A6.c rfl (AL.nil 1)) (A1.cons (A6.c rfl (AL.nil 1)) (A1.cons (A7 (x:=C1) kr) (A1.cons (A7 (x:=(AV.b false)) kr) (A1.cons (A7 (x:=C1) kr) A1.nil)))))))) (B7.cons (CP.st (A1.cons (A6.row (fun _=>rfl) (A:=AV.s) (id:=3) (e:=9) (k:=1) (xs:=[(⟨#[97,46,111]⟩:ByteArray),(⟨#[97,46,100]⟩:ByteArray)]) rfl rfl sd sd) (A1.cons (A6.row (fun _=>rfl) (A:=AV.s) (id:=4) (e:=9) (k:=1) (xs:=[(⟨#[97,46,99]⟩:ByteArray)]) rfl rfl sd sd) (A1.cons (A6.row (fun _=>rfl) (A:=AV.s) (id:=5) (e:=9) (k:=1) (xs:=[(⟨#[97,46,104]⟩:ByteArray)]) rfl rfl sd sd) (A1.cons (A6.c rfl (AL.nil 1)) (A1.cons (A7 (x:=Bu) kr) (A1.cons (A7 (x:=(AV.b true)) kr) (A1.cons (A7 (x:=BE) kr) A1.nil)))))))) (B7.cons (CP.st (A1.cons (A6.row (fun _=>rfl) (A:=AV.s) (id:=6) (e:=9) (k:=1) (xs:=[(⟨#[98,46,111]⟩:ByteArray)]) rfl rfl sd sd) (A1.cons (A6.row (fun _=>rfl) (A:=AV.s) (id:=7) (e:=9) (k:=1) (xs:=[(⟨#[98,46,99]⟩:ByteArray)]) rfl rfl sd sd) (A1.cons (A6.c rfl (AL.nil 1)) (A1.cons (A6.row (fun _=>rfl) (A:=AV.s) (id:=8) (e:=9) (k:=1) (xs:=[(⟨#[97,46,111]⟩:ByteArray)]) rfl rfl sd sd) (A1.cons (A7 (x:=D0) kr) (A1.cons (A7 (x:=(AV.b false)) kr) (A1.cons (A7 (x:=BE) kr) A1.nil)))))))) B7.nil)))) (A1.cons (A6.row (fun _=>rfl) (A:=Cp.av) (id:=9) (e:=122) (k:=2) (xs:=[(⟨(⟨#[116,119,111]⟩:ByteArray),(2:Int)⟩:Cp)]) rfl rfl sd sd) (A1.cons (A6.row (fun _=>rfl) (A:=AV.s) (id:=10) (e:=9) (k:=1) (xs:=[(⟨#[108,105,98]⟩:ByteArray)]) rfl rfl sd sd) (A1.cons (A6.own (id:=11) (len:=1) (e:=67) (k:=3) (els:=[EV]) rfl rfl rfl sd (B7.cons (CP.st (A1.cons (A7 (x:=Bu) kr) (A1.cons (A6.row (fun _=>rfl) (A:=AV.s) (id:=12) (e:=9) (k:=1) (xs:=[(⟨#[122,46,104]⟩:ByteArray)]) rfl rfl sd sd) (A1.cons (A7 (x:=(AV.b false)) kr) A1.nil)))) B7.nil)) (A1.cons (A7 (x:=(AV.i .i64 (4:Int))) kr) (A1.cons (A7 (x:=ET) kr) (A1.cons (A6.c rfl (AL.nil 3)) (A1.cons (A6.c rfl (AL.nil 3)) (A1.cons (A7 (x:=(AV.i .i64 (2:Int))) kr) (A1.cons (A7 (x:=(AV.b false)) kr) (A1.cons (A6.c rfl (AL.nil 1)) A1.nil)))))))))))))),trivial⟩) ((Oi W hW (⟨GS,[Cq],(⟨(4:Int),(([AQ,AU,AW,AR].take [AQ,AU,AW,AR].length).drop 1)⟩:Aj),[],[],(2:Int),false,[]⟩:Ak) sd).res (Lk.tup ⟨Lk.und _,Lk.refl _,trivial⟩)) rfl kr le ?_
 refine Aq KG<|Aq AV.und<|Aq Ei ?_
 refine Aq AV.und<|Aq Ei<|Ad<|Sq<|Rg<|Aq (AV.b ((B4 B3 (1:Int)).1)) ?_
 refine Aq (AV.b ((B4 B3 (1:Int)).1)) ?_
 cases c_1:(B4 B3 (1:Int)).1
 refine An<|An<|An<|Aq (AV.b false)<|Aq (AV.b false)<|An<|An<|An<|Aq (AV.b false)<|Aq (AV.b false)<|An<|An<|An<|Aq (AV.b false)<|Aq (AV.b false)<|An<|An<|An<|Aq (AV.b false)<|Aq (AV.b false)<|An<|An<|An<|Aq (AV.b false)<|Aq (AV.b false)<|An<|An<|An<|Aq (AV.b false)<|Aq (AV.b false)<|Ad<|Rt ?_
 exact Fb rfl (by simp only [N2,c_1,AZ])
 refine Ay<|Aq CT<|Ay<|A2.sc0 (vs:=[CT]) (r0:=(AV.i .i64 (Do ((B4 B3 (1:Int)).2)))) kr kr (C7 W ((B4 B3 (1:Int)).2)) kr le ?_
 refine Ay<|Aq (AV.b (decide ((Do ((B4 B3 (1:Int)).2))=(0:Int))))<|Aq (AV.b (decide ((Do ((B4 B3 (1:Int)).2))=(0:Int)))) ?_
 refine Aq (AV.b (decide ((Do ((B4 B3 (1:Int)).2))=(0:Int)))) ?_
 cases c_2:decide ((Do ((B4 B3 (1:Int)).2))=(0:Int))
 have k_2:=of_decide_eq_false c_2
 refine An<|An<|An<|Aq (AV.b false)<|Aq (AV.b false)<|An<|An<|An<|Aq (AV.b false)<|Aq (AV.b false)<|An<|An<|An<|Aq (AV.b false)<|Aq (AV.b false)<|An<|An<|An<|Aq (AV.b false)<|Aq (AV.b false)<|An<|An<|An<|Aq (AV.b false)<|Aq (AV.b false)<|Ad<|Rt ?_
 exact Fb rfl (by simp only [N2,c_1,c_2,AZ])
 have k_2:=of_decide_eq_true c_2
 refine Ay<|Aq D8<|Ay<|Nn (AV.own 28 0 3) ⟨4,1,[true,true,true].map AV.b⟩<|Ay<|A2.sfw (vs:=[D8,(AV.own 28 0 3)]) (ss:=[D8,((Az 1 AV.b) [true,true,true])]) (r0:=(AV.b (S5 ((GH B3).1) [true,true,true]))) kr (show Bs _ _ _ from ⟨(Bs.e kr),⟨(A6.w (A6.cast (x':=(AV.own 28 0 3)) kr kr (A6.row (fun _=>rfl) (A:=AV.b) (id:=28) (e:=4) (k:=1) (xs:=[true,true,true]) rfl rfl sd sd))),trivial⟩⟩) (O2 W ((GH B3).1) [true,true,true]) rfl kr le ?_
 refine Aq (AV.b (S5 ((GH B3).1) [true,true,true]))<|Aq (AV.b (S5 ((GH B3).1) [true,true,true])) ?_
 cases c_3:(S5 ((GH B3).1) [true,true,true])
 refine An<|An<|An<|Aq (AV.b false)<|Aq (AV.b false)<|An<|An<|An<|Aq (AV.b false)<|Aq (AV.b false)<|An<|An<|An<|Aq (AV.b false)<|Aq (AV.b false)<|An<|An<|An<|Aq (AV.b false)<|Aq (AV.b false)<|Ad<|Rt ?_
 exact Fb rfl (by simp only [N2,c_1,c_2,c_3,AZ])
 refine Ay<|Aq Dj<|Ay<|A2.sc0 (vs:=[Dj]) (r0:=(AV.i .i64 (Do ((GH B3).2)))) kr kr (C7 W ((GH B3).2)) kr le ?_
 refine Ay<|Aq (AV.b (decide ((Do ((GH B3).2))=(0:Int))))<|Aq (AV.b (decide ((Do ((GH B3).2))=(0:Int)))) ?_
 refine Aq (AV.b (decide ((Do ((GH B3).2))=(0:Int)))) ?_
 cases c_4:decide ((Do ((GH B3).2))=(0:Int))
 have k_4:=of_decide_eq_false c_4
 refine An<|An<|An<|Aq (AV.b false)<|Aq (AV.b false)<|An<|An<|An<|Aq (AV.b false)<|Aq (AV.b false)<|An<|An<|An<|Aq (AV.b false)<|Aq (AV.b false)<|Ad<|Rt ?_
 exact Fb rfl (by simp only [N2,c_1,c_2,c_3,c_4,AZ])
 have k_4:=of_decide_eq_true c_4
 refine Ay<|Aq Eh<|Ay<|A2.sc0 (vs:=[Eh]) (r0:=(AV.i .i64 (Do ((B4 (⟨DZ,[Cq],(⟨(4:Int),(([AQ,AU,AW,AR].take [AQ,AU,AW,AR].length).drop 1)⟩:Aj),[],[],(2:Int),false,[]⟩:Ak) (1:Int)).2)))) kr kr (C7 W ((B4 (⟨DZ,[Cq],(⟨(4:Int),(([AQ,AU,AW,AR].take [AQ,AU,AW,AR].length).drop 1)⟩:Aj),[],[],(2:Int),false,[]⟩:Ak) (1:Int)).2)) kr le ?_
 refine Ay<|Aq (AV.b (decide ((Do ((B4 (⟨DZ,[Cq],(⟨(4:Int),(([AQ,AU,AW,AR].take [AQ,AU,AW,AR].length).drop 1)⟩:Aj),[],[],(2:Int),false,[]⟩:Ak) (1:Int)).2))=(1901:Int)))) ?_
 refine Aq (AV.b (decide ((Do ((B4 (⟨DZ,[Cq],(⟨(4:Int),(([AQ,AU,AW,AR].take [AQ,AU,AW,AR].length).drop 1)⟩:Aj),[],[],(2:Int),false,[]⟩:Ak) (1:Int)).2))=(1901:Int)))) ?_
 refine Aq (AV.b (decide ((Do ((B4 (⟨DZ,[Cq],(⟨(4:Int),(([AQ,AU,AW,AR].take [AQ,AU,AW,AR].length).drop 1)⟩:Aj),[],[],(2:Int),false,[]⟩:Ak) (1:Int)).2))=(1901:Int)))) ?_
 cases c_5:decide ((Do ((B4 (⟨DZ,[Cq],(⟨(4:Int),(([AQ,AU,AW,AR].take [AQ,AU,AW,AR].length).drop 1)⟩:Aj),[],[],(2:Int),false,[]⟩:Ak) (1:Int)).2))=(1901:Int))
 have k_5:=of_decide_eq_false c_5
 refine An<|An<|An<|Aq (AV.b false)<|Aq (AV.b false)<|An<|An<|An<|Aq (AV.b false)<|Aq (AV.b false)<|Ad<|Rt ?_
 exact Fb rfl (by simp only [N2,c_1,c_2,c_3,c_4,c_5,AZ])
 have k_5:=of_decide_eq_true c_5
 refine Ay<|Aq Ej<|Ay<|A2.sc0 (vs:=[Ej]) (r0:=(AV.i .i64 (Do ((B4 B3 (3:Int)).2)))) kr kr (C7 W ((B4 B3 (3:Int)).2)) kr le ?_
 refine Ay<|Aq (AV.b (decide ((Do ((B4 B3 (3:Int)).2))=(1900:Int))))<|Aq (AV.b (decide ((Do ((B4 B3 (3:Int)).2))=(1900:Int)))) ?_
 refine Aq (AV.b (decide ((Do ((B4 B3 (3:Int)).2))=(1900:Int)))) ?_
 cases c_6:decide ((Do ((B4 B3 (3:Int)).2))=(1900:Int))
 have k_6:=of_decide_eq_false c_6
 refine An<|An<|An<|Aq (AV.b false)<|Aq (AV.b false)<|Ad<|Rt ?_
 exact Fb rfl (by simp only [N2,c_1,c_2,c_3,c_4,c_5,c_6,AZ])
 have k_6:=of_decide_eq_true c_6
 refine Ay<|Aq Ei<|Ay<|A2.sc0 (vs:=[Ei]) (r0:=(AV.i .i64 (Do ((GH (⟨GS,[Cq],(⟨(4:Int),(([AQ,AU,AW,AR].take [AQ,AU,AW,AR].length).drop 1)⟩:Aj),[],[],(2:Int),false,[]⟩:Ak)).2)))) kr kr (C7 W ((GH (⟨GS,[Cq],(⟨(4:Int),(([AQ,AU,AW,AR].take [AQ,AU,AW,AR].length).drop 1)⟩:Aj),[],[],(2:Int),false,[]⟩:Ak)).2)) kr le ?_
 refine Ay<|Aq (AV.b (decide ((Do ((GH (⟨GS,[Cq],(⟨(4:Int),(([AQ,AU,AW,AR].take [AQ,AU,AW,AR].length).drop 1)⟩:Aj),[],[],(2:Int),false,[]⟩:Ak)).2))=(1900:Int))))<|Aq (AV.b (decide ((Do ((GH (⟨GS,[Cq],(⟨(4:Int),(([AQ,AU,AW,AR].take [AQ,AU,AW,AR].length).drop 1)⟩:Aj),[],[],(2:Int),false,[]⟩:Ak)).2))=(1900:Int)))) ?_
 refine Aq (AV.b (decide ((Do ((GH (⟨GS,[Cq],(⟨(4:Int),(([AQ,AU,AW,AR].take [AQ,AU,AW,AR].length).drop 1)⟩:Aj),[],[],(2:Int),false,[]⟩:Ak)).2))=(1900:Int))))<|Ad<|Rt ?_
 exact Fb rfl (by simp only [N2,c_1,c_2,c_3,c_4,c_5,c_6,AZ])
def Bw:AV:=((Az 3 A3.av) Q8.files)
def AK:AV:=(AV.i .i64 Cu.jobs)
def AP:AV:=(AV.s (⟨#[97,46,111]⟩:ByteArray))
def AJ:AV:=((Az 3 B0.av) Cu.actions)
def AH:AV:=((Az 1 AV.s) Cu.graph.defaults)
def BQ (x':Int):AV:=(AV.i .i64 (C0 .and .i64 x' (255:Int)))
def AG:AV:=((Az 2 Cp.av) Cu.graph.pools)
def AF:AV:=((Az 7 AB.av) Cu.graph.edges)
def Ch:Obj:=⟨9,1,[(⟨#[122,46,104]⟩:ByteArray)].map AV.s⟩
def Cz:Obj:=⟨30,2,[(AV.st [(AV.i .i64 (0:Int)),(AV.sl 3 true [])])]⟩
def Bq:AV:=(AV.st [(AV.i .i64 (8:Int)),Bw])
def E8 (x':Int):AV:=(AV.i .i64 (IntKind.wrap .i64 ((1:Int)+(C0 .and .i64 x' (3:Int)))))
def BH:AV:=(AV.st [AP,(AV.i .i64 (5:Int)),(AV.own 2 0 1)])
def Cy:Obj:=⟨61,3,[BH]⟩
def FQ:AV:=(AV.i .i64 ((OP Ah (⟨#[97,46,100]⟩:ByteArray)).2))
def FP:AV:=(AV.i .i64 ((OP Ah (⟨#[122,46,104]⟩:ByteArray)).2))
def FO:AV:=(AV.i .i64 (((OP Ah (⟨#[97,46,100]⟩:ByteArray)).1).clock))
def FN:AV:=(AV.i .i64 (((OP Ah (⟨#[122,46,104]⟩:ByteArray)).1).clock))
def FM:AV:=(AV.s (⟨#[97,46,111,32,97,46,100,124,97,46,99,124,97,46,104,124,100,124,99,99]⟩:ByteArray))
def FL:AV:=((Az 3 A3.av) (((OP Ah (⟨#[97,46,100]⟩:ByteArray)).1).files))
def FK:AV:=((Az 3 A3.av) (((OP Ah (⟨#[122,46,104]⟩:ByteArray)).1).files))
def Je (x':Int):AV:=(Aj.av ((Ij Ah (⟨#[97,46,99]⟩:ByteArray) (C0 .and .i64 x' (255:Int))).1))
def Gs (x':Int):AV:=(AV.i .i64 ((Ij Ah (⟨#[97,46,99]⟩:ByteArray) (C0 .and .i64 x' (255:Int))).2))
def Jd (x':Int):AV:=(Aj.av ((Ij Ah (⟨#[97,46,104]⟩:ByteArray) (C0 .and .i64 x' (255:Int))).1))
def Gr (x':Int):AV:=(Aj.av ((Ij Ah (⟨#[97,46,111]⟩:ByteArray) (C0 .and .i64 x' (255:Int))).1))
def Gq (x':Int):AV:=(AV.i .i64 ((Ij Ah (⟨#[97,46,104]⟩:ByteArray) (C0 .and .i64 x' (255:Int))).2))
def Jc (x':Int):AV:=(Aj.av ((Ij Ah (⟨#[122,46,104]⟩:ByteArray) (C0 .and .i64 x' (255:Int))).1))
def DN (x':Int):AV:=(AV.i .i64 ((Ij Ah (⟨#[97,46,111]⟩:ByteArray) (C0 .and .i64 x' (255:Int))).2))
def Gp (x':Int):AV:=(AV.i .i64 ((Ij Ah (⟨#[122,46,104]⟩:ByteArray) (C0 .and .i64 x' (255:Int))).2))
def Gm (x':Int):AV:=(AV.i .i64 (((Ij Ah (⟨#[97,46,99]⟩:ByteArray) (C0 .and .i64 x' (255:Int))).1).clock))
def Gl (x':Int):AV:=(AV.i .i64 (((Ij Ah (⟨#[97,46,104]⟩:ByteArray) (C0 .and .i64 x' (255:Int))).1).clock))
def EF (x':Int):AV:=(AV.i .i64 (((Ij Ah (⟨#[97,46,111]⟩:ByteArray) (C0 .and .i64 x' (255:Int))).1).clock))
def Gk (x':Int):AV:=(AV.i .i64 (((Ij Ah (⟨#[122,46,104]⟩:ByteArray) (C0 .and .i64 x' (255:Int))).1).clock))
def Gj (x':Int):AV:=((Az 3 A3.av) (((Ij Ah (⟨#[97,46,99]⟩:ByteArray) (C0 .and .i64 x' (255:Int))).1).files))
def Gi (x':Int):AV:=((Az 3 A3.av) (((Ij Ah (⟨#[97,46,104]⟩:ByteArray) (C0 .and .i64 x' (255:Int))).1).files))
def EE (x':Int):AV:=((Az 3 A3.av) (((Ij Ah (⟨#[97,46,111]⟩:ByteArray) (C0 .and .i64 x' (255:Int))).1).files))
def Gh (x':Int):AV:=((Az 3 A3.av) (((Ij Ah (⟨#[122,46,104]⟩:ByteArray) (C0 .and .i64 x' (255:Int))).1).files))
def Jb:AV:=(AV.s (A4.out))
def Ja:AV:=(AV.s (A5.out))
def J9:AV:=(AV.s (A5.sign))
def J8:AV:=(AV.s (A4.sign))
def J7:AV:=(AV.i .i64 (A4.time))
def J6:AV:=(AV.tup [(Aj.av ((OP Ah (⟨#[97,46,100]⟩:ByteArray)).1)),FQ])
def J5:AV:=(AV.tup [(Aj.av ((OP Ah (⟨#[122,46,104]⟩:ByteArray)).1)),FP])
def J4:AV:=(AV.st [FO,FL])
def J3:AV:=(AV.st [FN,FK])
def Gg:Obj:=⟨56,3,[CM].map Ae.av⟩
def J2 (x':Int):AV:=(AV.tup [(Je x'),(Gs x')])
def J1 (x':Int):AV:=(AV.tup [(Jd x'),(Gq x')])
def ED (x':Int):AV:=(AV.tup [(Gr x'),(DN x')])
def J0 (x':Int):AV:=(AV.tup [(Jc x'),(Gp x')])
def IZ (x':Int):AV:=(AV.st [(Gm x'),(Gj x')])
def IY (x':Int):AV:=(AV.st [(Gl x'),(Gi x')])
def Gf (x':Int):AV:=(AV.st [(EF x'),(EE x')])
def IX (x':Int):AV:=(AV.st [(Gk x'),(Gh x')])
def IW (x':Int):Obj:=⟨30,2,[(Gf x')]⟩
def IV (x':Int):AV:=(AV.st [Ja,(E8 x'),J9])
def IU:AV:=(AV.st [Jb,J7,FM])
def IR:AV:=((Az 3 Ae.av) [A5,A4,A9,A8])
def DM:AV:=(AV.i .i64 ((B4 Bk (1:Int)).2))
def IQ:Obj:=⟨56,3,[A5,A4,A9,A8,CM].map Ae.av⟩
def DL:AV:=(AV.i .i64 ((B4 Bj (1:Int)).2))
def DK:AV:=(AV.i .i64 ((B4 Bi (1:Int)).2))
def Bt:AV:=(AV.st [AF,AG,AH,AJ,(AV.i .i64 (8:Int)),Bw,(AV.own 0 0 ([A5,A4,A9,A8].length)),(AV.own 1 0 1),AK,(AV.b Cu.going),(AV.sl 1 true [])])
def EC:AV:=(AV.st [AF,AG,AH,AJ,(AV.i .i64 (8:Int)),Bw,(AV.own 0 0 ([A5,A4,A9,A8].length)),(AV.sl 3 true []),AK,(AV.b Cu.going),(AV.sl 1 true [])])
def CL:Obj:=⟨35,11,[Bt]⟩
def DJ (x':Int):AV:=(AV.i .i64 ((B4 (Bh x') (1:Int)).2))
def DI:AV:=(AV.i .i64 ((B4 Bg (1:Int)).2))
def DH:AV:=(AV.i .i64 ((B4 Bf (1:Int)).2))
def DG:AV:=(AV.i .i64 ((B4 Be (1:Int)).2))
def EB:AV:=(AV.st [AF,AG,AH,AJ,FO,FL,(AV.own 0 0 ([A5,A4,A9,A8].length)),(AV.own 1 0 1),AK,(AV.b Cu.going),(AV.sl 1 true [])])
def EA:AV:=(AV.st [AF,AG,AH,AJ,FN,FK,(AV.own 0 0 ([A5,A4,A9,A8].length)),(AV.own 1 0 1),AK,(AV.b Cu.going),(AV.sl 1 true [])])
def IP (x':Int):AV:=(Ak.av (Ax x'))
def DF (x':Int):AV:=(AV.i .i64 ((B4 (Bd x') (1:Int)).2))
def DE (x':Int):AV:=(AV.i .i64 ((B4 (Ax x') (1:Int)).2))
def DD (x':Int):AV:=(AV.i .i64 ((B4 (Bc x') (1:Int)).2))
def DC (x':Int):AV:=(AV.i .i64 ((B4 (Ax x') (2:Int)).2))
def DB (x':Int):AV:=(AV.i .i64 ((B4 (Bb x') (1:Int)).2))
def DA:AV:=(AV.i .i64 ((B4 Ba (1:Int)).2))
def Ez (x':Int):AV:=(AV.st [AF,AG,AH,AJ,(Gm x'),(Gj x'),(AV.own 0 0 ([A5,A4,A9,A8].length)),(AV.own 1 0 1),AK,(AV.b Cu.going),(AV.sl 1 true [])])
def Ey (x':Int):AV:=(AV.st [AF,AG,AH,AJ,(Gl x'),(Gi x'),(AV.own 0 0 ([A5,A4,A9,A8].length)),(AV.own 1 0 1),AK,(AV.b Cu.going),(AV.sl 1 true [])])
def CK (x':Int):AV:=(AV.st [AF,AG,AH,AJ,(EF x'),(EE x'),(AV.own 0 0 ([A5,A4,A9,A8].length)),(AV.own 1 0 1),AK,(AV.b Cu.going),(AV.sl 1 true [])])
def Ex:AV:=(AV.st [AF,AG,AH,AJ,(AV.i .i64 (8:Int)),Bw,(AV.own 5 0 ([A5,A4,A9,A8,CM].length)),(AV.own 1 0 1),AK,(AV.b Cu.going),(AV.sl 1 true [])])
def Ew (x':Int):AV:=(AV.st [AF,AG,AH,AJ,(Gk x'),(Gh x'),(AV.own 0 0 ([A5,A4,A9,A8].length)),(AV.own 1 0 1),AK,(AV.b Cu.going),(AV.sl 1 true [])])
def IO (x':Int):Obj:=⟨35,11,[(CK x')]⟩
def Ge:AV:=((Az 3 Ae.av) (([A5,A4,A9,A8].take [A5,A4,A9,A8].length).drop 1))
def Dz:AV:=(AV.i .i64 ((B4 B9 (1:Int)).2))
def Ev:AV:=(AV.st [AF,AG,AH,AJ,(AV.i .i64 (8:Int)),Bw,Ge,(AV.own 0 0 1),AK,(AV.b Cu.going),(AV.sl 1 true [])])
def IM:AV:=(AV.tup [(AV.b ((B4 Bk (1:Int)).1)),DM])
def IL:AV:=(AV.tup [(AV.b ((B4 Bj (1:Int)).1)),DL])
def IK:AV:=(AV.tup [(AV.b ((B4 Bi (1:Int)).1)),DK])
def IJ (x':Int):AV:=(AV.tup [(AV.b ((B4 (Bh x') (1:Int)).1)),(DJ x')])
def II:AV:=(AV.tup [(AV.b ((B4 Bg (1:Int)).1)),DI])
def JO:AV:=(AV.tup [(AV.b ((B4 Bf (1:Int)).1)),DH])
def JN:AV:=(AV.tup [(AV.b ((B4 Be (1:Int)).1)),DG])
def JM (x':Int):AV:=(AV.tup [(AV.b ((B4 (Bd x') (1:Int)).1)),(DF x')])
def JL (x':Int):AV:=(AV.tup [(AV.b ((B4 (Ax x') (1:Int)).1)),(DE x')])
def JK (x':Int):AV:=(AV.tup [(AV.b ((B4 (Bc x') (1:Int)).1)),(DD x')])
def JJ (x':Int):AV:=(AV.tup [(AV.b ((B4 (Ax x') (2:Int)).1)),(DC x')])
def JI (x':Int):AV:=(AV.tup [(AV.b ((B4 (Bb x') (1:Int)).1)),(DB x')])
def JH:AV:=(AV.tup [(AV.b ((B4 Ba (1:Int)).1)),DA])
def JG:AV:=(AV.tup [(AV.b ((B4 B9 (1:Int)).1)),Dz])
end
end Go.Lift
