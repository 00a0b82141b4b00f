/-
  Lemmas of this claim: a layer over the kit's calls, contracts of the functions that the law reaches, and the law's row. No condition of its own.
-/
import Derived.Test.YtjfhbchfhpgefaaGreatDoorWbDirtyOne
set_option linter.unusedSimpArgs false
set_option linter.unusedVariables false
set_option linter.unusedSectionVars false
set_option maxRecDepth 20000
namespace Go.Lift
noncomputable section
open Go Go.RowKit
theorem O3 (W:World) {m0:Int} (hW:W.cell? ⟨0,0,none⟩=some (.int .i64 m0)) (which:Int) (x':Int):Am Go.Proofs.Tryz.prog W 4 [(AV.i .i64 which),(AV.i .i64 x')] (AV.b (Me which x')) []:=by
 refine Ao (fn:=Go.Proofs.Tryz.f4) Go.Proofs.Tryz.func4 rfl (en4 W) (ts:=[4]) rfl le<|Sq<|Rg<|Aq (AV.b false)<|Ad<|Sq<|Sq<|Rg<|A2.sc0 (vs:=[]) (r0:=(AV.b N2)) kr kr (QE W hW) kr le<|Aq (AV.b (!N2))<|Ad ?_
 cases c_1:(!N2)
 refine Cf<|Ag.skip<|Sq<|Rg<|Sc Bt (QH W)<|Nn (AV.loc 3 0 0) ⟨35,11,[(AV.st [(AV.sl 7 true []),(AV.sl 2 true []),(AV.sl 1 true []),(AV.sl 3 true []),(AV.i .i64 (0:Int)),(AV.sl 3 true []),(AV.sl 3 true []),(AV.sl 3 true []),(AV.i .i64 (0:Int)),(AV.b false),(AV.sl 1 true [])])]⟩<|Sp 3 CL ?_
 refine Ad<|Sq<|Rg<|Aq (AV.i .i64 (1:Int))<|Ad<|Sq<|Rg<|Aq (AV.b true)<|Ad<|Sq<|Sq<|Rg<|Aq (AV.i .i64 which)<|Aq (AV.i .u64 (IntKind.wrap .u64 which))<|Ap (AV.i .u64 ((IntKind.wrap .u64 which).tmod (14:Int))) (g_rem (k:= .u64) (a:=(IntKind.wrap .u64 which)) (b:=(14:Int)) kr kr sd)<|Ad<|Ag.block<|Sq<|Rg<|Aq (AV.b (decide (((IntKind.wrap .u64 which).tmod (14:Int))=(0:Int))))<|Aq (AV.b (decide (((IntKind.wrap .u64 which).tmod (14:Int))=(0:Int))))<|Ad ?_
 cases c_2:decide (((IntKind.wrap .u64 which).tmod (14:Int))=(0:Int))
 have k_2:=of_decide_eq_false c_2
 refine Cf<|Sq<|Rg<|Aq (AV.b (decide (((IntKind.wrap .u64 which).tmod (14:Int))=(1:Int))))<|Aq (AV.b (decide (((IntKind.wrap .u64 which).tmod (14:Int))=(1:Int))))<|Ad ?_
 cases c_3:decide (((IntKind.wrap .u64 which).tmod (14:Int))=(1:Int))
 have k_3:=of_decide_eq_false c_3
 refine Cf<|Sq<|Rg<|Aq (AV.b (decide (((IntKind.wrap .u64 which).tmod (14:Int))=(2:Int))))<|Aq (AV.b (decide (((IntKind.wrap .u64 which).tmod (14:Int))=(2:Int))))<|Ad ?_
 cases c_4:decide (((IntKind.wrap .u64 which).tmod (14:Int))=(2:Int))
 have k_4:=of_decide_eq_false c_4
 refine Cf<|Sq<|Rg<|Aq (AV.b (decide (((IntKind.wrap .u64 which).tmod (14:Int))=(3:Int))))<|Aq (AV.b (decide (((IntKind.wrap .u64 which).tmod (14:Int))=(3:Int))))<|Ad ?_
 cases c_5:decide (((IntKind.wrap .u64 which).tmod (14:Int))=(3:Int))
 have k_5:=of_decide_eq_false c_5
 refine Cf<|Sq<|Rg<|Aq (AV.b (decide (((IntKind.wrap .u64 which).tmod (14:Int))=(4:Int))))<|Aq (AV.b (decide (((IntKind.wrap .u64 which).tmod (14:Int))=(4:Int))))<|Ad ?_
 cases c_6:decide (((IntKind.wrap .u64 which).tmod (14:Int))=(4:Int))
 have k_6:=of_decide_eq_false c_6
 refine Cf<|Sq<|Rg<|Aq (AV.b (decide (((IntKind.wrap .u64 which).tmod (14:Int))=(5:Int))))<|Aq (AV.b (decide (((IntKind.wrap .u64 which).tmod (14:Int))=(5:Int))))<|Ad ?_
 cases c_7:decide (((IntKind.wrap .u64 which).tmod (14:Int))=(5:Int))
 have k_7:=of_decide_eq_false c_7
 refine Cf<|Sq<|Rg<|Aq (AV.b (decide (((IntKind.wrap .u64 which).tmod (14:Int))=(6:Int))))<|Aq (AV.b (decide (((IntKind.wrap .u64 which).tmod (14:Int))=(6:Int))))<|Ad ?_
 cases c_8:decide (((IntKind.wrap .u64 which).tmod (14:Int))=(6:Int))
 have k_8:=of_decide_eq_false c_8
 refine Cf<|Sq<|Rg<|Aq (AV.b (decide (((IntKind.wrap .u64 which).tmod (14:Int))=(7:Int))))<|Aq (AV.b (decide (((IntKind.wrap .u64 which).tmod (14:Int))=(7:Int))))<|Ad ?_
 cases c_9:decide (((IntKind.wrap .u64 which).tmod (14:Int))=(7:Int))
 have k_9:=of_decide_eq_false c_9
 refine Cf<|Sq<|Rg<|Aq (AV.b (decide (((IntKind.wrap .u64 which).tmod (14:Int))=(8:Int))))<|Aq (AV.b (decide (((IntKind.wrap .u64 which).tmod (14:Int))=(8:Int))))<|Ad ?_
 cases c_10:decide (((IntKind.wrap .u64 which).tmod (14:Int))=(8:Int))
 have k_10:=of_decide_eq_false c_10
 refine Cf<|Sq<|Rg<|Aq (AV.b (decide (((IntKind.wrap .u64 which).tmod (14:Int))=(9:Int))))<|Aq (AV.b (decide (((IntKind.wrap .u64 which).tmod (14:Int))=(9:Int))))<|Ad ?_
 cases c_11:decide (((IntKind.wrap .u64 which).tmod (14:Int))=(9:Int))
 have k_11:=of_decide_eq_false c_11
 refine Cf<|Sq<|Rg<|Aq (AV.b (decide (((IntKind.wrap .u64 which).tmod (14:Int))=(10:Int))))<|Aq (AV.b (decide (((IntKind.wrap .u64 which).tmod (14:Int))=(10:Int))))<|Ad ?_
 cases c_12:decide (((IntKind.wrap .u64 which).tmod (14:Int))=(10:Int))
 have k_12:=of_decide_eq_false c_12
 refine Cf<|Sq<|Rg<|Aq (AV.b (decide (((IntKind.wrap .u64 which).tmod (14:Int))=(11:Int))))<|Aq (AV.b (decide (((IntKind.wrap .u64 which).tmod (14:Int))=(11:Int))))<|Ad ?_
 cases c_13:decide (((IntKind.wrap .u64 which).tmod (14:Int))=(11:Int))
 have k_13:=of_decide_eq_false c_13
 refine Cf<|Sq<|Rg<|Aq (AV.b (decide (((IntKind.wrap .u64 which).tmod (14:Int))=(12:Int))))<|Aq (AV.b (decide (((IntKind.wrap .u64 which).tmod (14:Int))=(12:Int))))<|Ad ?_
 cases c_14:decide (((IntKind.wrap .u64 which).tmod (14:Int))=(12:Int))
 have k_14:=of_decide_eq_false c_14
 refine Cf<|Ag.drawn Aa Eb 9 kr le<|Dq (AV.loc 3 0 6)<|Dq (AV.own 0 0 ([A5,A4,A9,A8].length))<|Dq (AV.loc 3 0 6)<|Dq (AV.own 0 0 ([A5,A4,A9,A8].length))<|Dp (AV.loc 0 1 0) (Ea (e:=56) (id:=0) (len:=([A5,A4,A9,A8].length)) (kk:= .i64) (ob:=⟨56,3,[A5,A4,A9,A8].map Ae.av⟩) (i:=1) kr kr kr rfl kr sd) ?_
 refine Dq (AV.loc 0 1 2)<|Dp J8 (WR (e:=56) (k:=3) (i:=GI) (id:=0) (xs:=[A5,A4,A9,A8]) (A:=Ae.av) (j:=1) (o:=2) kr kr rfl rfl kr)<|Nd (AV.st [(AV.s (⟨#[97,46,100]⟩:ByteArray)),(AV.i .i64 (2:Int)),J8])<|Aw.sn (x:=(AV.own 4 0 1)) (h':=⟨5,[(4,some Gg),(3,some CL),(2,some Ch),(1,some Cy),(0,some ⟨56,3,[A5,A4,A9,A8].map Ae.av⟩)]⟩) kr le ?_
 refine Aw.se (by decide) (x:=(AV.own 5 0 ([A5,A4,A9,A8,CM].length))) (h':=⟨6,[(5,some IQ),(4,some Gg),(3,some CL),(2,some Ch),(1,some Cy),(0,none)]⟩) (Kc (len:=([A5,A4,A9,A8].length)) (e:=56) (X:=(AV.own 4 0 1)) (A:=Ae.av) (i:=V4) (p:=0) (xs:=[A5,A4,A9,A8]) (ys:=[CM]) kr kr kr (hx:=kr) kr ⟨by decide,by kernel_rfl⟩ rfl rfl (by show _*40≤140737488355328;first|omega|(simp only [List.length_append,List.length_cons,List.length_nil,List.length_set,List.length_replicate];omega)|(simp;omega)) sd) le ?_
 refine Dq (AV.loc 3 0 6)<|Aw.st (by decide) (x:=AV.und) (h':=⟨6,[(5,some IQ),(4,some Gg),(3,some ⟨35,11,[Ex]⟩),(2,some Ch),(1,some Cy),(0,none)]⟩) kr ?_
 refine Aw.fin<|Sq<|Rg<|Aq Ex<|Aq (AV.i .i64 (1:Int))<|A2.sfw (vs:=[Ex,(AV.i .i64 (1:Int))]) (ss:=[(Ak.av Ba),(AV.i .i64 (1:Int))]) (r0:=JH) kr (show Bs _ _ _ from ⟨(A6.w (A6.cast (x':=Ex) kr kr (A6.st (A1.cons (A7 (x:=AF) kr) (A1.cons (A7 (x:=AG) kr) (A1.cons (A7 (x:=AH) kr) (A1.cons (A7 (x:=AJ) kr) (A1.cons (A7 (x:=(AV.i .i64 (8:Int))) kr) (A1.cons (A7 (x:=Bw) kr) (A1.cons (A6.row (fun _=>rfl) (A:=Ae.av) (id:=5) (e:=56) (k:=3) (xs:=[A5,A4,A9,A8,CM]) rfl rfl rfl sd) (A1.cons (A6.own (id:=1) (len:=1) (e:=61) (k:=3) (els:=[BH]) rfl rfl rfl sd (B7.cons (CP.st (A1.cons (A7 (x:=AP) kr) (A1.cons (A7 (x:=(AV.i .i64 (5:Int))) kr) (A1.cons (A6.row (fun _=>rfl) (A:=AV.s) (id:=2) (e:=9) (k:=1) (xs:=[(⟨#[122,46,104]⟩:ByteArray)]) rfl rfl sd sd) A1.nil)))) B7.nil)) (A1.cons (A7 (x:=AK) kr) (A1.cons (A7 (x:=(AV.b Cu.going)) kr) (A1.cons (A6.c rfl (AL.nil 1)) A1.nil)))))))))))))),⟨(Bs.e kr),trivial⟩⟩) (BZ W hW Ba (1:Int) sd) rfl kr le ?_
 refine Aq JH ?_
 refine Aq (AV.b ((B4 Ba (1:Int)).1))<|Aq DA ?_
 refine Aq (AV.b ((B4 Ba (1:Int)).1))<|Aq DA ?_
 refine Ad<|Sq<|Rg<|Aq DA<|A2.sc0 (vs:=[DA]) (r0:=(AV.i .i64 (Do ((B4 Ba (1:Int)).2)))) kr kr (C7 W ((B4 Ba (1:Int)).2)) kr le ?_
 refine Aq (AV.b (decide ((Do ((B4 Ba (1:Int)).2))=(0:Int))))<|Aq (AV.b (decide ((Do ((B4 Ba (1:Int)).2))=(0:Int)))) ?_
 cases c_15:decide ((Do ((B4 Ba (1:Int)).2))=(0:Int))
 have k_15:=of_decide_eq_false c_15
 refine An<|An<|An<|Aq (AV.b false)<|Aq (AV.b false)<|Ad<|Rt ?_
 exact Fb rfl (by simp only [Me,c_1,c_2,c_3,c_4,c_5,c_6,c_7,c_8,c_9,c_10,c_11,c_12,c_13,c_14,c_15,AZ])
 have k_15:=of_decide_eq_true c_15
 refine Ay<|Aq (AV.b ((B4 Ba (1:Int)).1))<|Ay<|Aq (AV.b true)<|Ay<|Aq (AV.b ((B4 Ba (1:Int)).1==true)) ?_
 refine Aq (AV.b ((B4 Ba (1:Int)).1==true))<|Aq (AV.b ((B4 Ba (1:Int)).1==true)) ?_
 refine Ad<|Rt ?_
 exact Fb rfl (by simp only [Me,c_1,c_2,c_3,c_4,c_5,c_6,c_7,c_8,c_9,c_10,c_11,c_12,c_13,c_14,c_15,AZ])
 have k_14:=of_decide_eq_true c_14
 refine Ct<|Sq<|Rg<|Aq (AV.i .i64 (2:Int))<|Ad<|Sq<|Rg<|Aq (AV.loc 3 0 4)<|Aq Bq<|Aq (AV.i .i64 x')<|Aq (BQ x')<|A2.sc0 (vs:=[Bq,AP,(BQ x')]) (r0:=(ED x')) kr kr (CJ W Ah (⟨#[97,46,111]⟩:ByteArray) (C0 .and .i64 x' (255:Int)) sd) kr le<|Aq (ED x')<|Aq (Gr x')<|Aq (DN x')<|Nn (AV.loc 4 0 0) Cz<|Sp 4 (IW x') ?_
 refine Aq (DN x')<|Ad<|Sq<|Rg<|Aq (Gf x')<|Aq (AV.loc 3 0 4)<|Sp 3 (IO x') ?_
 refine Ad<|Rg<|Aq (AV.b false)<|Ad<|Sq<|Rg<|Aq (CK x')<|Aq (AV.i .i64 (2:Int))<|A2.sfw (vs:=[(CK x'),(AV.i .i64 (2:Int))]) (ss:=[(IP x'),(AV.i .i64 (2:Int))]) (r0:=(JJ x')) kr (show Bs _ _ _ from ⟨(A6.w (A6.cast (x':=(CK x')) kr kr (A6.st (A1.cons (A7 (x:=AF) kr) (A1.cons (A7 (x:=AG) kr) (A1.cons (A7 (x:=AH) kr) (A1.cons (A7 (x:=AJ) kr) (A1.cons (A7 (x:=(EF x')) kr) (A1.cons (A7 (x:=(EE x')) kr) (A1.cons (A6.row (fun _=>rfl) (A:=Ae.av) (id:=0) (e:=56) (k:=3) (xs:=[A5,A4,A9,A8]) rfl rfl rfl sd) (A1.cons (A6.own (id:=1) (len:=1) (e:=61) (k:=3) (els:=[BH]) rfl rfl rfl sd (B7.cons (CP.st (A1.cons (A7 (x:=AP) kr) (A1.cons (A7 (x:=(AV.i .i64 (5:Int))) kr) (A1.cons (A6.row (fun _=>rfl) (A:=AV.s) (id:=2) (e:=9) (k:=1) (xs:=[(⟨#[122,46,104]⟩:ByteArray)]) rfl rfl sd sd) A1.nil)))) B7.nil)) (A1.cons (A7 (x:=AK) kr) (A1.cons (A7 (x:=(AV.b Cu.going)) kr) (A1.cons (A6.c rfl (AL.nil 1)) A1.nil)))))))))))))),⟨(Bs.e kr),trivial⟩⟩) (BZ W hW (Ax x') (2:Int) (Ty (k:=3) le x')) rfl kr le ?_
 refine Aq (JJ x') ?_
 refine Aq (AV.b ((B4 (Ax x') (2:Int)).1))<|Aq (DC x') ?_
 refine Aq (AV.b ((B4 (Ax x') (2:Int)).1))<|Aq (DC x') ?_
 refine Ad<|Sq<|Rg<|Aq (DC x')<|A2.sc0 (vs:=[(DC x')]) (r0:=(AV.i .i64 (Do ((B4 (Ax x') (2:Int)).2)))) kr kr (C7 W ((B4 (Ax x') (2:Int)).2)) kr le ?_
 refine Aq (AV.b (decide ((Do ((B4 (Ax x') (2:Int)).2))=(0:Int))))<|Aq (AV.b (decide ((Do ((B4 (Ax x') (2:Int)).2))=(0:Int)))) ?_
 cases c_16:decide ((Do ((B4 (Ax x') (2:Int)).2))=(0:Int))
 have k_16:=of_decide_eq_false c_16
 refine An<|An<|An<|Aq (AV.b false)<|Aq (AV.b false)<|Ad<|Rt ?_
 exact Fb rfl (by simp only [Me,c_1,c_2,c_3,c_4,c_5,c_6,c_7,c_8,c_9,c_10,c_11,c_12,c_13,c_14,c_16,AZ])
 have k_16:=of_decide_eq_true c_16
 refine Ay<|Aq (AV.b ((B4 (Ax x') (2:Int)).1))<|Ay<|Aq (AV.b false)<|Ay<|Aq (AV.b ((B4 (Ax x') (2:Int)).1==false)) ?_
 refine Aq (AV.b ((B4 (Ax x') (2:Int)).1==false))<|Aq (AV.b ((B4 (Ax x') (2:Int)).1==false)) ?_
 refine Ad<|Rt ?_
 exact Fb rfl (by simp only [Me,c_1,c_2,c_3,c_4,c_5,c_6,c_7,c_8,c_9,c_10,c_11,c_12,c_13,c_14,c_16,AZ])
 have k_13:=of_decide_eq_true c_13
 refine Ct<|Sq<|Rg<|Aq (AV.loc 3 0 4)<|Aq Bq<|A2.sc0 (vs:=[Bq,(AV.s (⟨#[122,46,104]⟩:ByteArray))]) (r0:=J5) kr kr (Jq W Ah (⟨#[122,46,104]⟩:ByteArray) sd) kr le<|Aq J5<|Aq (Aj.av ((OP Ah (⟨#[122,46,104]⟩:ByteArray)).1))<|Aq FP<|Nn (AV.loc 4 0 0) Cz<|Sp 4 ⟨30,2,[J3]⟩<|Aq FP<|Ad<|Rg<|Aq J3 ?_
 refine Aq (AV.loc 3 0 4)<|Sp 3 ⟨35,11,[EA]⟩<|Ad<|Sq<|Rg<|Aq EA ?_
 refine Aq (AV.i .i64 (1:Int))<|A2.sfw (vs:=[EA,(AV.i .i64 (1:Int))]) (ss:=[(Ak.av Be),(AV.i .i64 (1:Int))]) (r0:=JN) kr (show Bs _ _ _ from ⟨(A6.w (A6.cast (x':=EA) kr kr (A6.st (A1.cons (A7 (x:=AF) kr) (A1.cons (A7 (x:=AG) kr) (A1.cons (A7 (x:=AH) kr) (A1.cons (A7 (x:=AJ) kr) (A1.cons (A7 (x:=FN) kr) (A1.cons (A7 (x:=FK) kr) (A1.cons (A6.row (fun _=>rfl) (A:=Ae.av) (id:=0) (e:=56) (k:=3) (xs:=[A5,A4,A9,A8]) rfl rfl rfl sd) (A1.cons (A6.own (id:=1) (len:=1) (e:=61) (k:=3) (els:=[BH]) rfl rfl rfl sd (B7.cons (CP.st (A1.cons (A7 (x:=AP) kr) (A1.cons (A7 (x:=(AV.i .i64 (5:Int))) kr) (A1.cons (A6.row (fun _=>rfl) (A:=AV.s) (id:=2) (e:=9) (k:=1) (xs:=[(⟨#[122,46,104]⟩:ByteArray)]) rfl rfl sd sd) A1.nil)))) B7.nil)) (A1.cons (A7 (x:=AK) kr) (A1.cons (A7 (x:=(AV.b Cu.going)) kr) (A1.cons (A6.c rfl (AL.nil 1)) A1.nil)))))))))))))),⟨(Bs.e kr),trivial⟩⟩) (BZ W hW Be (1:Int) sd) rfl kr le ?_
 refine Aq JN ?_
 refine Aq (AV.b ((B4 Be (1:Int)).1))<|Aq DG ?_
 refine Aq (AV.b ((B4 Be (1:Int)).1))<|Aq DG ?_
 refine Ad<|Sq<|Rg<|Aq DG<|A2.sc0 (vs:=[DG]) (r0:=(AV.i .i64 (Do ((B4 Be (1:Int)).2)))) kr kr (C7 W ((B4 Be (1:Int)).2)) kr le ?_
 refine Aq (AV.b (decide ((Do ((B4 Be (1:Int)).2))=(0:Int))))<|Aq (AV.b (decide ((Do ((B4 Be (1:Int)).2))=(0:Int)))) ?_
 cases c_17:decide ((Do ((B4 Be (1:Int)).2))=(0:Int))
 have k_17:=of_decide_eq_false c_17
 refine An<|An<|An<|Aq (AV.b false)<|Aq (AV.b false)<|Ad<|Rt ?_
 exact Fb rfl (by simp only [Me,c_1,c_2,c_3,c_4,c_5,c_6,c_7,c_8,c_9,c_10,c_11,c_12,c_13,c_17,AZ])
 have k_17:=of_decide_eq_true c_17
 refine Ay<|Aq (AV.b ((B4 Be (1:Int)).1))<|Ay<|Aq (AV.b true)<|Ay<|Aq (AV.b ((B4 Be (1:Int)).1==true)) ?_
 refine Aq (AV.b ((B4 Be (1:Int)).1==true))<|Aq (AV.b ((B4 Be (1:Int)).1==true)) ?_
 refine Ad<|Rt ?_
 exact Fb rfl (by simp only [Me,c_1,c_2,c_3,c_4,c_5,c_6,c_7,c_8,c_9,c_10,c_11,c_12,c_13,c_17,AZ])
 have k_12:=of_decide_eq_true c_12
 refine Ct<|Rg<|Aq (AV.loc 3 0 7)<|Aq (AV.own 1 0 1)<|Aq (AV.loc 1 0 0)<|Aq (AV.loc 1 0 1)<|Sp 1 ⟨61,3,[(AV.st [AP,(AV.i .i64 (6:Int)),(AV.own 2 0 1)])]⟩<|Ad<|Sq<|Rg<|Aq Bt<|Aq (AV.i .i64 (1:Int))<|A2.sfw (vs:=[Bt,(AV.i .i64 (1:Int))]) (ss:=[(Ak.av Bi),(AV.i .i64 (1:Int))]) (r0:=IK) kr (show Bs _ _ _ from ⟨(A6.w (A6.cast (x':=Bt) kr kr (A6.st (A1.cons (A7 (x:=AF) kr) (A1.cons (A7 (x:=AG) kr) (A1.cons (A7 (x:=AH) kr) (A1.cons (A7 (x:=AJ) kr) (A1.cons (A7 (x:=(AV.i .i64 (8:Int))) kr) (A1.cons (A7 (x:=Bw) kr) (A1.cons (A6.row (fun _=>rfl) (A:=Ae.av) (id:=0) (e:=56) (k:=3) (xs:=[A5,A4,A9,A8]) rfl rfl rfl sd) (A1.cons (A6.own (id:=1) (len:=1) (e:=61) (k:=3) (els:=[(AV.st [AP,(AV.i .i64 (6:Int)),(AV.own 2 0 1)])]) rfl rfl rfl sd (B7.cons (CP.st (A1.cons (A7 (x:=AP) kr) (A1.cons (A7 (x:=(AV.i .i64 (6:Int))) kr) (A1.cons (A6.row (fun _=>rfl) (A:=AV.s) (id:=2) (e:=9) (k:=1) (xs:=[(⟨#[122,46,104]⟩:ByteArray)]) rfl rfl sd sd) A1.nil)))) B7.nil)) (A1.cons (A7 (x:=AK) kr) (A1.cons (A7 (x:=(AV.b Cu.going)) kr) (A1.cons (A6.c rfl (AL.nil 1)) A1.nil)))))))))))))),⟨(Bs.e kr),trivial⟩⟩) (BZ W hW Bi (1:Int) sd) rfl kr le ?_
 refine Aq IK ?_
 refine Aq (AV.b ((B4 Bi (1:Int)).1))<|Aq DK ?_
 refine Aq (AV.b ((B4 Bi (1:Int)).1))<|Aq DK ?_
 refine Ad<|Sq<|Rg<|Aq DK<|A2.sc0 (vs:=[DK]) (r0:=(AV.i .i64 (Do ((B4 Bi (1:Int)).2)))) kr kr (C7 W ((B4 Bi (1:Int)).2)) kr le ?_
 refine Aq (AV.b (decide ((Do ((B4 Bi (1:Int)).2))=(0:Int))))<|Aq (AV.b (decide ((Do ((B4 Bi (1:Int)).2))=(0:Int)))) ?_
 cases c_18:decide ((Do ((B4 Bi (1:Int)).2))=(0:Int))
 have k_18:=of_decide_eq_false c_18
 refine An<|An<|An<|Aq (AV.b false)<|Aq (AV.b false)<|Ad<|Rt ?_
 exact Fb rfl (by simp only [Me,c_1,c_2,c_3,c_4,c_5,c_6,c_7,c_8,c_9,c_10,c_11,c_12,c_18,AZ])
 have k_18:=of_decide_eq_true c_18
 refine Ay<|Aq (AV.b ((B4 Bi (1:Int)).1))<|Ay<|Aq (AV.b true)<|Ay<|Aq (AV.b ((B4 Bi (1:Int)).1==true)) ?_
 refine Aq (AV.b ((B4 Bi (1:Int)).1==true))<|Aq (AV.b ((B4 Bi (1:Int)).1==true)) ?_
 refine Ad<|Rt ?_
 exact Fb rfl (by simp only [Me,c_1,c_2,c_3,c_4,c_5,c_6,c_7,c_8,c_9,c_10,c_11,c_12,c_18,AZ])
 have k_11:=of_decide_eq_true c_11
 refine Ct<|Rg<|Aq (AV.loc 3 0 7)<|Sp 3 ⟨35,11,[EC]⟩<|Ad<|Sq<|Rg<|Aq EC ?_
 refine Aq (AV.i .i64 (1:Int))<|A2.sfw (vs:=[EC,(AV.i .i64 (1:Int))]) (ss:=[(Ak.av Bk),(AV.i .i64 (1:Int))]) (r0:=IM) kr (show Bs _ _ _ from ⟨(A6.w (A6.cast (x':=EC) kr kr (A6.st (A1.cons (A7 (x:=AF) kr) (A1.cons (A7 (x:=AG) kr) (A1.cons (A7 (x:=AH) kr) (A1.cons (A7 (x:=AJ) kr) (A1.cons (A7 (x:=(AV.i .i64 (8:Int))) kr) (A1.cons (A7 (x:=Bw) kr) (A1.cons (A6.row (fun _=>rfl) (A:=Ae.av) (id:=0) (e:=56) (k:=3) (xs:=[A5,A4,A9,A8]) rfl rfl rfl sd) (A1.cons (A6.c rfl (AL.nil 3)) (A1.cons (A7 (x:=AK) kr) (A1.cons (A7 (x:=(AV.b Cu.going)) kr) (A1.cons (A6.c rfl (AL.nil 1)) A1.nil)))))))))))))),⟨(Bs.e kr),trivial⟩⟩) (BZ W hW Bk (1:Int) sd) rfl kr le ?_
 refine Aq IM ?_
 refine Aq (AV.b ((B4 Bk (1:Int)).1))<|Aq DM ?_
 refine Aq (AV.b ((B4 Bk (1:Int)).1))<|Aq DM ?_
 refine Ad<|Sq<|Rg<|Aq DM<|A2.sc0 (vs:=[DM]) (r0:=(AV.i .i64 (Do ((B4 Bk (1:Int)).2)))) kr kr (C7 W ((B4 Bk (1:Int)).2)) kr le ?_
 refine Aq (AV.b (decide ((Do ((B4 Bk (1:Int)).2))=(0:Int))))<|Aq (AV.b (decide ((Do ((B4 Bk (1:Int)).2))=(0:Int)))) ?_
 cases c_19:decide ((Do ((B4 Bk (1:Int)).2))=(0:Int))
 have k_19:=of_decide_eq_false c_19
 refine An<|An<|An<|Aq (AV.b false)<|Aq (AV.b false)<|Ad<|Rt ?_
 exact Fb rfl (by simp only [Me,c_1,c_2,c_3,c_4,c_5,c_6,c_7,c_8,c_9,c_10,c_11,c_19,AZ])
 have k_19:=of_decide_eq_true c_19
 refine Ay<|Aq (AV.b ((B4 Bk (1:Int)).1))<|Ay<|Aq (AV.b true)<|Ay<|Aq (AV.b ((B4 Bk (1:Int)).1==true)) ?_
 refine Aq (AV.b ((B4 Bk (1:Int)).1==true))<|Aq (AV.b ((B4 Bk (1:Int)).1==true)) ?_
 refine Ad<|Rt ?_
 exact Fb rfl (by simp only [Me,c_1,c_2,c_3,c_4,c_5,c_6,c_7,c_8,c_9,c_10,c_11,c_19,AZ])
 have k_10:=of_decide_eq_true c_10
 refine Ct<|Sq<|Rg<|Aq (AV.loc 3 0 4)<|Aq Bq<|Aq (AV.i .i64 x')<|Aq (BQ x')<|A2.sc0 (vs:=[Bq,(AV.s (⟨#[122,46,104]⟩:ByteArray)),(BQ x')]) (r0:=(J0 x')) kr kr (CJ W Ah (⟨#[122,46,104]⟩:ByteArray) (C0 .and .i64 x' (255:Int)) sd) kr le<|Aq (J0 x')<|Aq (Jc x')<|Aq (Gp x')<|Nn (AV.loc 4 0 0) Cz<|Sp 4 ⟨30,2,[(IX x')]⟩ ?_
 refine Aq (Gp x')<|Ad<|Rg<|Aq (IX x')<|Aq (AV.loc 3 0 4)<|Sp 3 ⟨35,11,[(Ew x')]⟩ ?_
 refine Ad<|Sq<|Rg<|Aq (Ew x')<|Aq (AV.i .i64 (1:Int))<|A2.sfw (vs:=[(Ew x'),(AV.i .i64 (1:Int))]) (ss:=[(Ak.av (Bb x')),(AV.i .i64 (1:Int))]) (r0:=(JI x')) kr (show Bs _ _ _ from ⟨(A6.w (A6.cast (x':=(Ew x')) kr kr (A6.st (A1.cons (A7 (x:=AF) kr) (A1.cons (A7 (x:=AG) kr) (A1.cons (A7 (x:=AH) kr) (A1.cons (A7 (x:=AJ) kr) (A1.cons (A7 (x:=(Gk x')) kr) (A1.cons (A7 (x:=(Gh x')) kr) (A1.cons (A6.row (fun _=>rfl) (A:=Ae.av) (id:=0) (e:=56) (k:=3) (xs:=[A5,A4,A9,A8]) rfl rfl rfl sd) (A1.cons (A6.own (id:=1) (len:=1) (e:=61) (k:=3) (els:=[BH]) rfl rfl rfl sd (B7.cons (CP.st (A1.cons (A7 (x:=AP) kr) (A1.cons (A7 (x:=(AV.i .i64 (5:Int))) kr) (A1.cons (A6.row (fun _=>rfl) (A:=AV.s) (id:=2) (e:=9) (k:=1) (xs:=[(⟨#[122,46,104]⟩:ByteArray)]) rfl rfl sd sd) A1.nil)))) B7.nil)) (A1.cons (A7 (x:=AK) kr) (A1.cons (A7 (x:=(AV.b Cu.going)) kr) (A1.cons (A6.c rfl (AL.nil 1)) A1.nil)))))))))))))),⟨(Bs.e kr),trivial⟩⟩) (BZ W hW (Bb x') (1:Int) (Ty (k:=1) le x')) rfl kr le ?_
 refine Aq (JI x') ?_
 refine Aq (AV.b ((B4 (Bb x') (1:Int)).1))<|Aq (DB x') ?_
 refine Aq (AV.b ((B4 (Bb x') (1:Int)).1))<|Aq (DB x') ?_
 refine Ad<|Sq<|Rg<|Aq (DB x')<|A2.sc0 (vs:=[(DB x')]) (r0:=(AV.i .i64 (Do ((B4 (Bb x') (1:Int)).2)))) kr kr (C7 W ((B4 (Bb x') (1:Int)).2)) kr le ?_
 refine Aq (AV.b (decide ((Do ((B4 (Bb x') (1:Int)).2))=(0:Int))))<|Aq (AV.b (decide ((Do ((B4 (Bb x') (1:Int)).2))=(0:Int)))) ?_
 cases c_20:decide ((Do ((B4 (Bb x') (1:Int)).2))=(0:Int))
 have k_20:=of_decide_eq_false c_20
 refine An<|An<|An<|Aq (AV.b false)<|Aq (AV.b false)<|Ad<|Rt ?_
 exact Fb rfl (by simp only [Me,c_1,c_2,c_3,c_4,c_5,c_6,c_7,c_8,c_9,c_10,c_20,AZ])
 have k_20:=of_decide_eq_true c_20
 refine Ay<|Aq (AV.b ((B4 (Bb x') (1:Int)).1))<|Ay<|Aq (AV.b true)<|Ay<|Aq (AV.b ((B4 (Bb x') (1:Int)).1==true)) ?_
 refine Aq (AV.b ((B4 (Bb x') (1:Int)).1==true))<|Aq (AV.b ((B4 (Bb x') (1:Int)).1==true)) ?_
 refine Ad<|Rt ?_
 exact Fb rfl (by simp only [Me,c_1,c_2,c_3,c_4,c_5,c_6,c_7,c_8,c_9,c_10,c_20,AZ])
 have k_9:=of_decide_eq_true c_9
 refine Ct<|Sq<|Rg<|Aq (AV.loc 3 0 4)<|Aq Bq<|Aq (AV.i .i64 x')<|Aq (BQ x')<|A2.sc0 (vs:=[Bq,(AV.s (⟨#[97,46,104]⟩:ByteArray)),(BQ x')]) (r0:=(J1 x')) kr kr (CJ W Ah (⟨#[97,46,104]⟩:ByteArray) (C0 .and .i64 x' (255:Int)) sd) kr le<|Aq (J1 x')<|Aq (Jd x')<|Aq (Gq x')<|Nn (AV.loc 4 0 0) Cz<|Sp 4 ⟨30,2,[(IY x')]⟩ ?_
 refine Aq (Gq x')<|Ad<|Rg<|Aq (IY x')<|Aq (AV.loc 3 0 4)<|Sp 3 ⟨35,11,[(Ey x')]⟩ ?_
 refine Ad<|Sq<|Rg<|Aq (Ey x')<|Aq (AV.i .i64 (1:Int))<|A2.sfw (vs:=[(Ey x'),(AV.i .i64 (1:Int))]) (ss:=[(Ak.av (Bc x')),(AV.i .i64 (1:Int))]) (r0:=(JK x')) kr (show Bs _ _ _ from ⟨(A6.w (A6.cast (x':=(Ey x')) kr kr (A6.st (A1.cons (A7 (x:=AF) kr) (A1.cons (A7 (x:=AG) kr) (A1.cons (A7 (x:=AH) kr) (A1.cons (A7 (x:=AJ) kr) (A1.cons (A7 (x:=(Gl x')) kr) (A1.cons (A7 (x:=(Gi x')) kr) (A1.cons (A6.row (fun _=>rfl) (A:=Ae.av) (id:=0) (e:=56) (k:=3) (xs:=[A5,A4,A9,A8]) rfl rfl rfl sd) (A1.cons (A6.own (id:=1) (len:=1) (e:=61) (k:=3) (els:=[BH]) rfl rfl rfl sd (B7.cons (CP.st (A1.cons (A7 (x:=AP) kr) (A1.cons (A7 (x:=(AV.i .i64 (5:Int))) kr) (A1.cons (A6.row (fun _=>rfl) (A:=AV.s) (id:=2) (e:=9) (k:=1) (xs:=[(⟨#[122,46,104]⟩:ByteArray)]) rfl rfl sd sd) A1.nil)))) B7.nil)) (A1.cons (A7 (x:=AK) kr) (A1.cons (A7 (x:=(AV.b Cu.going)) kr) (A1.cons (A6.c rfl (AL.nil 1)) A1.nil)))))))))))))),⟨(Bs.e kr),trivial⟩⟩) (BZ W hW (Bc x') (1:Int) (Ty (k:=2) le x')) rfl kr le ?_
 refine Aq (JK x') ?_
 refine Aq (AV.b ((B4 (Bc x') (1:Int)).1))<|Aq (DD x') ?_
 refine Aq (AV.b ((B4 (Bc x') (1:Int)).1))<|Aq (DD x') ?_
 refine Ad<|Sq<|Rg<|Aq (DD x')<|A2.sc0 (vs:=[(DD x')]) (r0:=(AV.i .i64 (Do ((B4 (Bc x') (1:Int)).2)))) kr kr (C7 W ((B4 (Bc x') (1:Int)).2)) kr le ?_
 refine Aq (AV.b (decide ((Do ((B4 (Bc x') (1:Int)).2))=(0:Int))))<|Aq (AV.b (decide ((Do ((B4 (Bc x') (1:Int)).2))=(0:Int)))) ?_
 cases c_21:decide ((Do ((B4 (Bc x') (1:Int)).2))=(0:Int))
 have k_21:=of_decide_eq_false c_21
 refine An<|An<|An<|Aq (AV.b false)<|Aq (AV.b false)<|Ad<|Rt ?_
 exact Fb rfl (by simp only [Me,c_1,c_2,c_3,c_4,c_5,c_6,c_7,c_8,c_9,c_21,AZ])
 have k_21:=of_decide_eq_true c_21
 refine Ay<|Aq (AV.b ((B4 (Bc x') (1:Int)).1))<|Ay<|Aq (AV.b true)<|Ay<|Aq (AV.b ((B4 (Bc x') (1:Int)).1==true)) ?_
 refine Aq (AV.b ((B4 (Bc x') (1:Int)).1==true))<|Aq (AV.b ((B4 (Bc x') (1:Int)).1==true)) ?_
 refine Ad<|Rt ?_
 exact Fb rfl (by simp only [Me,c_1,c_2,c_3,c_4,c_5,c_6,c_7,c_8,c_9,c_21,AZ])
 have k_8:=of_decide_eq_true c_8
 refine Ct<|Sq<|Rg<|Aq (AV.loc 3 0 4)<|Aq Bq<|Aq (AV.i .i64 x')<|Aq (BQ x')<|A2.sc0 (vs:=[Bq,(AV.s (⟨#[97,46,99]⟩:ByteArray)),(BQ x')]) (r0:=(J2 x')) kr kr (CJ W Ah (⟨#[97,46,99]⟩:ByteArray) (C0 .and .i64 x' (255:Int)) sd) kr le<|Aq (J2 x')<|Aq (Je x')<|Aq (Gs x')<|Nn (AV.loc 4 0 0) Cz<|Sp 4 ⟨30,2,[(IZ x')]⟩ ?_
 refine Aq (Gs x')<|Ad<|Rg<|Aq (IZ x')<|Aq (AV.loc 3 0 4)<|Sp 3 ⟨35,11,[(Ez x')]⟩ ?_
 refine Ad<|Sq<|Rg<|Aq (Ez x')<|Aq (AV.i .i64 (1:Int))<|A2.sfw (vs:=[(Ez x'),(AV.i .i64 (1:Int))]) (ss:=[(Ak.av (Bd x')),(AV.i .i64 (1:Int))]) (r0:=(JM x')) kr (show Bs _ _ _ from ⟨(A6.w (A6.cast (x':=(Ez x')) kr kr (A6.st (A1.cons (A7 (x:=AF) kr) (A1.cons (A7 (x:=AG) kr) (A1.cons (A7 (x:=AH) kr) (A1.cons (A7 (x:=AJ) kr) (A1.cons (A7 (x:=(Gm x')) kr) (A1.cons (A7 (x:=(Gj x')) kr) (A1.cons (A6.row (fun _=>rfl) (A:=Ae.av) (id:=0) (e:=56) (k:=3) (xs:=[A5,A4,A9,A8]) rfl rfl rfl sd) (A1.cons (A6.own (id:=1) (len:=1) (e:=61) (k:=3) (els:=[BH]) rfl rfl rfl sd (B7.cons (CP.st (A1.cons (A7 (x:=AP) kr) (A1.cons (A7 (x:=(AV.i .i64 (5:Int))) kr) (A1.cons (A6.row (fun _=>rfl) (A:=AV.s) (id:=2) (e:=9) (k:=1) (xs:=[(⟨#[122,46,104]⟩:ByteArray)]) rfl rfl sd sd) A1.nil)))) B7.nil)) (A1.cons (A7 (x:=AK) kr) (A1.cons (A7 (x:=(AV.b Cu.going)) kr) (A1.cons (A6.c rfl (AL.nil 1)) A1.nil)))))))))))))),⟨(Bs.e kr),trivial⟩⟩) (BZ W hW (Bd x') (1:Int) (Ty (k:=0) le x')) rfl kr le ?_
 refine Aq (JM x') ?_
 refine Aq (AV.b ((B4 (Bd x') (1:Int)).1))<|Aq (DF x') ?_
 refine Aq (AV.b ((B4 (Bd x') (1:Int)).1))<|Aq (DF x') ?_
 refine Ad<|Sq<|Rg<|Aq (DF x')<|A2.sc0 (vs:=[(DF x')]) (r0:=(AV.i .i64 (Do ((B4 (Bd x') (1:Int)).2)))) kr kr (C7 W ((B4 (Bd x') (1:Int)).2)) kr le ?_
 refine Aq (AV.b (decide ((Do ((B4 (Bd x') (1:Int)).2))=(0:Int))))<|Aq (AV.b (decide ((Do ((B4 (Bd x') (1:Int)).2))=(0:Int)))) ?_
 cases c_22:decide ((Do ((B4 (Bd x') (1:Int)).2))=(0:Int))
 have k_22:=of_decide_eq_false c_22
 refine An<|An<|An<|Aq (AV.b false)<|Aq (AV.b false)<|Ad<|Rt ?_
 exact Fb rfl (by simp only [Me,c_1,c_2,c_3,c_4,c_5,c_6,c_7,c_8,c_22,AZ])
 have k_22:=of_decide_eq_true c_22
 refine Ay<|Aq (AV.b ((B4 (Bd x') (1:Int)).1))<|Ay<|Aq (AV.b true)<|Ay<|Aq (AV.b ((B4 (Bd x') (1:Int)).1==true)) ?_
 refine Aq (AV.b ((B4 (Bd x') (1:Int)).1==true))<|Aq (AV.b ((B4 (Bd x') (1:Int)).1==true)) ?_
 refine Ad<|Rt ?_
 exact Fb rfl (by simp only [Me,c_1,c_2,c_3,c_4,c_5,c_6,c_7,c_8,c_22,AZ])
 have k_7:=of_decide_eq_true c_7
 refine Ct<|Sq<|Rg<|Aq (AV.loc 3 0 4)<|Aq Bq<|Aq (AV.i .i64 x')<|Aq (BQ x')<|A2.sc0 (vs:=[Bq,AP,(BQ x')]) (r0:=(ED x')) kr kr (CJ W Ah (⟨#[97,46,111]⟩:ByteArray) (C0 .and .i64 x' (255:Int)) sd) kr le<|Aq (ED x')<|Aq (Gr x')<|Aq (DN x')<|Nn (AV.loc 4 0 0) Cz<|Sp 4 (IW x') ?_
 refine Aq (DN x')<|Ad<|Rg<|Aq (Gf x')<|Aq (AV.loc 3 0 4)<|Sp 3 (IO x') ?_
 refine Ad<|Sq<|Rg<|Aq (CK x')<|Aq (AV.i .i64 (1:Int))<|A2.sfw (vs:=[(CK x'),(AV.i .i64 (1:Int))]) (ss:=[(IP x'),(AV.i .i64 (1:Int))]) (r0:=(JL x')) kr (show Bs _ _ _ from ⟨(A6.w (A6.cast (x':=(CK x')) kr kr (A6.st (A1.cons (A7 (x:=AF) kr) (A1.cons (A7 (x:=AG) kr) (A1.cons (A7 (x:=AH) kr) (A1.cons (A7 (x:=AJ) kr) (A1.cons (A7 (x:=(EF x')) kr) (A1.cons (A7 (x:=(EE x')) kr) (A1.cons (A6.row (fun _=>rfl) (A:=Ae.av) (id:=0) (e:=56) (k:=3) (xs:=[A5,A4,A9,A8]) rfl rfl rfl sd) (A1.cons (A6.own (id:=1) (len:=1) (e:=61) (k:=3) (els:=[BH]) rfl rfl rfl sd (B7.cons (CP.st (A1.cons (A7 (x:=AP) kr) (A1.cons (A7 (x:=(AV.i .i64 (5:Int))) kr) (A1.cons (A6.row (fun _=>rfl) (A:=AV.s) (id:=2) (e:=9) (k:=1) (xs:=[(⟨#[122,46,104]⟩:ByteArray)]) rfl rfl sd sd) A1.nil)))) B7.nil)) (A1.cons (A7 (x:=AK) kr) (A1.cons (A7 (x:=(AV.b Cu.going)) kr) (A1.cons (A6.c rfl (AL.nil 1)) A1.nil)))))))))))))),⟨(Bs.e kr),trivial⟩⟩) (BZ W hW (Ax x') (1:Int) (Ty (k:=3) le x')) rfl kr le ?_
 refine Aq (JL x') ?_
 refine Aq (AV.b ((B4 (Ax x') (1:Int)).1))<|Aq (DE x') ?_
 refine Aq (AV.b ((B4 (Ax x') (1:Int)).1))<|Aq (DE x') ?_
 refine Ad<|Sq<|Rg<|Aq (DE x')<|A2.sc0 (vs:=[(DE x')]) (r0:=(AV.i .i64 (Do ((B4 (Ax x') (1:Int)).2)))) kr kr (C7 W ((B4 (Ax x') (1:Int)).2)) kr le ?_
 refine Aq (AV.b (decide ((Do ((B4 (Ax x') (1:Int)).2))=(0:Int))))<|Aq (AV.b (decide ((Do ((B4 (Ax x') (1:Int)).2))=(0:Int)))) ?_
 cases c_23:decide ((Do ((B4 (Ax x') (1:Int)).2))=(0:Int))
 have k_23:=of_decide_eq_false c_23
 refine An<|An<|An<|Aq (AV.b false)<|Aq (AV.b false)<|Ad<|Rt ?_
 exact Fb rfl (by simp only [Me,c_1,c_2,c_3,c_4,c_5,c_6,c_7,c_23,AZ])
 have k_23:=of_decide_eq_true c_23
 refine Ay<|Aq (AV.b ((B4 (Ax x') (1:Int)).1))<|Ay<|Aq (AV.b true)<|Ay<|Aq (AV.b ((B4 (Ax x') (1:Int)).1==true)) ?_
 refine Aq (AV.b ((B4 (Ax x') (1:Int)).1==true))<|Aq (AV.b ((B4 (Ax x') (1:Int)).1==true)) ?_
 refine Ad<|Rt ?_
 exact Fb rfl (by simp only [Me,c_1,c_2,c_3,c_4,c_5,c_6,c_7,c_23,AZ])
 have k_6:=of_decide_eq_true c_6
 refine Ct<|Sq<|Rg<|Aq (AV.loc 3 0 4)<|Aq Bq<|A2.sc0 (vs:=[Bq,(AV.s (⟨#[97,46,100]⟩:ByteArray))]) (r0:=J6) kr kr (Jq W Ah (⟨#[97,46,100]⟩:ByteArray) sd) kr le<|Aq J6<|Aq (Aj.av ((OP Ah (⟨#[97,46,100]⟩:ByteArray)).1))<|Aq FQ<|Nn (AV.loc 4 0 0) Cz<|Sp 4 ⟨30,2,[J4]⟩<|Aq FQ<|Ad<|Rg<|Aq J4 ?_
 refine Aq (AV.loc 3 0 4)<|Sp 3 ⟨35,11,[EB]⟩<|Ad<|Sq<|Rg<|Aq EB ?_
 refine Aq (AV.i .i64 (1:Int))<|A2.sfw (vs:=[EB,(AV.i .i64 (1:Int))]) (ss:=[(Ak.av Bf),(AV.i .i64 (1:Int))]) (r0:=JO) kr (show Bs _ _ _ from ⟨(A6.w (A6.cast (x':=EB) kr kr (A6.st (A1.cons (A7 (x:=AF) kr) (A1.cons (A7 (x:=AG) kr) (A1.cons (A7 (x:=AH) kr) (A1.cons (A7 (x:=AJ) kr) (A1.cons (A7 (x:=FO) kr) (A1.cons (A7 (x:=FL) kr) (A1.cons (A6.row (fun _=>rfl) (A:=Ae.av) (id:=0) (e:=56) (k:=3) (xs:=[A5,A4,A9,A8]) rfl rfl rfl sd) (A1.cons (A6.own (id:=1) (len:=1) (e:=61) (k:=3) (els:=[BH]) rfl rfl rfl sd (B7.cons (CP.st (A1.cons (A7 (x:=AP) kr) (A1.cons (A7 (x:=(AV.i .i64 (5:Int))) kr) (A1.cons (A6.row (fun _=>rfl) (A:=AV.s) (id:=2) (e:=9) (k:=1) (xs:=[(⟨#[122,46,104]⟩:ByteArray)]) rfl rfl sd sd) A1.nil)))) B7.nil)) (A1.cons (A7 (x:=AK) kr) (A1.cons (A7 (x:=(AV.b Cu.going)) kr) (A1.cons (A6.c rfl (AL.nil 1)) A1.nil)))))))))))))),⟨(Bs.e kr),trivial⟩⟩) (BZ W hW Bf (1:Int) sd) rfl kr le ?_
 refine Aq JO ?_
 refine Aq (AV.b ((B4 Bf (1:Int)).1))<|Aq DH ?_
 refine Aq (AV.b ((B4 Bf (1:Int)).1))<|Aq DH ?_
 refine Ad<|Sq<|Rg<|Aq DH<|A2.sc0 (vs:=[DH]) (r0:=(AV.i .i64 (Do ((B4 Bf (1:Int)).2)))) kr kr (C7 W ((B4 Bf (1:Int)).2)) kr le ?_
 refine Aq (AV.b (decide ((Do ((B4 Bf (1:Int)).2))=(0:Int))))<|Aq (AV.b (decide ((Do ((B4 Bf (1:Int)).2))=(0:Int)))) ?_
 cases c_24:decide ((Do ((B4 Bf (1:Int)).2))=(0:Int))
 have k_24:=of_decide_eq_false c_24
 refine An<|An<|An<|Aq (AV.b false)<|Aq (AV.b false)<|Ad<|Rt ?_
 exact Fb rfl (by simp only [Me,c_1,c_2,c_3,c_4,c_5,c_6,c_24,AZ])
 have k_24:=of_decide_eq_true c_24
 refine Ay<|Aq (AV.b ((B4 Bf (1:Int)).1))<|Ay<|Aq (AV.b true)<|Ay<|Aq (AV.b ((B4 Bf (1:Int)).1==true)) ?_
 refine Aq (AV.b ((B4 Bf (1:Int)).1==true))<|Aq (AV.b ((B4 Bf (1:Int)).1==true)) ?_
 refine Ad<|Rt ?_
 exact Fb rfl (by simp only [Me,c_1,c_2,c_3,c_4,c_5,c_6,c_24,AZ])
 have k_5:=of_decide_eq_true c_5
 refine Ct<|HS<|Hp.run Aa 8 le<|Aq (AV.loc 3 0 6)<|Aq (AV.own 0 0 ([A5,A4,A9,A8].length))<|Aq (AV.i .i64 x')<|Aq (AV.i .i64 (C0 .and .i64 x' (3:Int)))<|Aq (E8 x')<|Ap (AV.loc 0 0 0) (Ea (e:=56) (id:=0) (len:=([A5,A4,A9,A8].length)) (kk:= .i64) (ob:=⟨56,3,[A5,A4,A9,A8].map Ae.av⟩) (i:=0) kr kr kr rfl kr sd) ?_
 refine Aq (AV.loc 0 0 1)<|A2.st (x:=AV.und) (h':=⟨4,[(3,some CL),(2,some Ch),(1,some Cy),(0,some ⟨56,3,(([A5,A4,A9,A8].map Ae.av).set 0 (IV x'))⟩)]⟩) (WS (e:=56) (k:=3) (i:=tI_3) (id:=0) (o:=1) (A:=Ae.av) (xs:=[A5,A4,A9,A8]) (x:=A5) (y:=(E8 x')) (j:=0) kr kr kr rfl rfl rfl kr le kr kr) ?_
 refine Ad<|Kp (Mo.cast (h2:=⟨4,[(3,some CL),(2,some Ch),(1,some Cy),(0,some ⟨56,3,(Qx [A5,A4,A9,A8] 0 (fun d=>({d with time:=(IntKind.wrap .i64 ((1:Int)+(C0 .and .i64 x' (3:Int))))}:Ae))).map Ae.av⟩)]⟩) kr (MM (id:=0) (o:=⟨56,3,(([A5,A4,A9,A8].map Ae.av).set 0 (IV x'))⟩) (o':=⟨56,3,(Qx [A5,A4,A9,A8] 0 (fun d=>({d with time:=(IntKind.wrap .i64 ((1:Int)+(C0 .and .i64 x' (3:Int))))}:Ae))).map Ae.av⟩) rfl rfl rfl (LQ (fun _=>rfl) rfl (show Dt [Ja,(E8 x'),J9] (Ae.av ({A5 with time:=(IntKind.wrap .i64 ((1:Int)+(C0 .and .i64 x' (3:Int))))}:Ae)).cells from ⟨AL.refl _,⟨AL.refl _,⟨AL.refl _,trivial⟩⟩⟩) _ _))) ?_
 refine Hp.fin rfl<|Sq<|Rg<|Aq Bt<|Aq (AV.i .i64 (1:Int))<|A2.sfw (vs:=[Bt,(AV.i .i64 (1:Int))]) (ss:=[(Ak.av (Bh x')),(AV.i .i64 (1:Int))]) (r0:=(IJ x')) kr (show Bs _ _ _ from ⟨(A6.w (A6.cast (x':=Bt) kr kr (A6.st (A1.cons (A7 (x:=AF) kr) (A1.cons (A7 (x:=AG) kr) (A1.cons (A7 (x:=AH) kr) (A1.cons (A7 (x:=AJ) kr) (A1.cons (A7 (x:=(AV.i .i64 (8:Int))) kr) (A1.cons (A7 (x:=Bw) kr) (A1.cons (A6.row (fun _=>rfl) (A:=Ae.av) (id:=0) (e:=56) (k:=3) (xs:=(Qx [A5,A4,A9,A8] 0 (fun d=>({d with time:=(IntKind.wrap .i64 ((1:Int)+(C0 .and .i64 x' (3:Int))))}:Ae)))) rfl rfl sd sd) (A1.cons (A6.own (id:=1) (len:=1) (e:=61) (k:=3) (els:=[BH]) rfl rfl rfl sd (B7.cons (CP.st (A1.cons (A7 (x:=AP) kr) (A1.cons (A7 (x:=(AV.i .i64 (5:Int))) kr) (A1.cons (A6.row (fun _=>rfl) (A:=AV.s) (id:=2) (e:=9) (k:=1) (xs:=[(⟨#[122,46,104]⟩:ByteArray)]) rfl rfl sd sd) A1.nil)))) B7.nil)) (A1.cons (A7 (x:=AK) kr) (A1.cons (A7 (x:=(AV.b Cu.going)) kr) (A1.cons (A6.c rfl (AL.nil 1)) A1.nil)))))))))))))),⟨(Bs.e kr),trivial⟩⟩) (BZ W hW (Bh x') (1:Int) (ot_sz x')) rfl kr le ?_
 refine Aq (IJ x') ?_
 refine Aq (AV.b ((B4 (Bh x') (1:Int)).1))<|Aq (DJ x') ?_
 refine Aq (AV.b ((B4 (Bh x') (1:Int)).1))<|Aq (DJ x') ?_
 refine Ad<|Sq<|Rg<|Aq (DJ x')<|A2.sc0 (vs:=[(DJ x')]) (r0:=(AV.i .i64 (Do ((B4 (Bh x') (1:Int)).2)))) kr kr (C7 W ((B4 (Bh x') (1:Int)).2)) kr le ?_
 refine Aq (AV.b (decide ((Do ((B4 (Bh x') (1:Int)).2))=(0:Int))))<|Aq (AV.b (decide ((Do ((B4 (Bh x') (1:Int)).2))=(0:Int)))) ?_
 cases c_25:decide ((Do ((B4 (Bh x') (1:Int)).2))=(0:Int))
 have k_25:=of_decide_eq_false c_25
 refine An<|An<|An<|Aq (AV.b false)<|Aq (AV.b false)<|Ad<|Rt ?_
 exact Fb rfl (by simp only [Me,c_1,c_2,c_3,c_4,c_5,c_25,AZ])
 have k_25:=of_decide_eq_true c_25
 refine Ay<|Aq (AV.b ((B4 (Bh x') (1:Int)).1))<|Ay<|Aq (AV.b true)<|Ay<|Aq (AV.b ((B4 (Bh x') (1:Int)).1==true)) ?_
 refine Aq (AV.b ((B4 (Bh x') (1:Int)).1==true))<|Aq (AV.b ((B4 (Bh x') (1:Int)).1==true)) ?_
 refine Ad<|Rt ?_
 exact Fb rfl (by simp only [Me,c_1,c_2,c_3,c_4,c_5,c_25,AZ])
 have k_4:=of_decide_eq_true c_4
 refine Ct<|HS<|Hp.run Aa 5 le<|Aq (AV.loc 3 0 6)<|Aq (AV.own 0 0 ([A5,A4,A9,A8].length))<|Ap (AV.loc 0 1 0) (Ea (e:=56) (id:=0) (len:=([A5,A4,A9,A8].length)) (kk:= .i64) (ob:=⟨56,3,[A5,A4,A9,A8].map Ae.av⟩) (i:=1) kr kr kr rfl kr sd) ?_
 refine Aq (AV.loc 0 1 2)<|A2.st (x:=AV.und) (h':=⟨4,[(3,some CL),(2,some Ch),(1,some Cy),(0,some ⟨56,3,(([A5,A4,A9,A8].map Ae.av).set 1 IU)⟩)]⟩) (WS (e:=56) (k:=3) (i:=GI) (id:=0) (o:=2) (A:=Ae.av) (xs:=[A5,A4,A9,A8]) (x:=A4) (y:=FM) (j:=1) kr kr kr rfl rfl rfl kr le kr kr) ?_
 refine Ad<|Kp (Mo.cast (h2:=⟨4,[(3,some CL),(2,some Ch),(1,some Cy),(0,some ⟨56,3,(Qx [A5,A4,A9,A8] 1 (fun d=>({d with sign:=(⟨#[97,46,111,32,97,46,100,124,97,46,99,124,97,46,104,124,100,124,99,99]⟩:ByteArray)}:Ae))).map Ae.av⟩)]⟩) kr (MM (id:=0) (o:=⟨56,3,(([A5,A4,A9,A8].map Ae.av).set 1 IU)⟩) (o':=⟨56,3,(Qx [A5,A4,A9,A8] 1 (fun d=>({d with sign:=(⟨#[97,46,111,32,97,46,100,124,97,46,99,124,97,46,104,124,100,124,99,99]⟩:ByteArray)}:Ae))).map Ae.av⟩) rfl rfl rfl (LQ (fun _=>rfl) rfl (show Dt [Jb,J7,FM] (Ae.av ({A4 with sign:=(⟨#[97,46,111,32,97,46,100,124,97,46,99,124,97,46,104,124,100,124,99,99]⟩:ByteArray)}:Ae)).cells from ⟨AL.refl _,⟨AL.refl _,⟨AL.refl _,trivial⟩⟩⟩) _ _))) ?_
 refine Hp.fin rfl<|Sq<|Rg<|Aq Bt<|Aq (AV.i .i64 (1:Int))<|A2.sfw (vs:=[Bt,(AV.i .i64 (1:Int))]) (ss:=[(Ak.av Bg),(AV.i .i64 (1:Int))]) (r0:=II) kr (show Bs _ _ _ from ⟨(A6.w (A6.cast (x':=Bt) kr kr (A6.st (A1.cons (A7 (x:=AF) kr) (A1.cons (A7 (x:=AG) kr) (A1.cons (A7 (x:=AH) kr) (A1.cons (A7 (x:=AJ) kr) (A1.cons (A7 (x:=(AV.i .i64 (8:Int))) kr) (A1.cons (A7 (x:=Bw) kr) (A1.cons (A6.row (fun _=>rfl) (A:=Ae.av) (id:=0) (e:=56) (k:=3) (xs:=(Qx [A5,A4,A9,A8] 1 (fun d=>({d with sign:=(⟨#[97,46,111,32,97,46,100,124,97,46,99,124,97,46,104,124,100,124,99,99]⟩:ByteArray)}:Ae)))) rfl rfl sd sd) (A1.cons (A6.own (id:=1) (len:=1) (e:=61) (k:=3) (els:=[BH]) rfl rfl rfl sd (B7.cons (CP.st (A1.cons (A7 (x:=AP) kr) (A1.cons (A7 (x:=(AV.i .i64 (5:Int))) kr) (A1.cons (A6.row (fun _=>rfl) (A:=AV.s) (id:=2) (e:=9) (k:=1) (xs:=[(⟨#[122,46,104]⟩:ByteArray)]) rfl rfl sd sd) A1.nil)))) B7.nil)) (A1.cons (A7 (x:=AK) kr) (A1.cons (A7 (x:=(AV.b Cu.going)) kr) (A1.cons (A6.c rfl (AL.nil 1)) A1.nil)))))))))))))),⟨(Bs.e kr),trivial⟩⟩) (BZ W hW Bg (1:Int) sd) rfl kr le ?_
 refine Aq II ?_
 refine Aq (AV.b ((B4 Bg (1:Int)).1))<|Aq DI ?_
 refine Aq (AV.b ((B4 Bg (1:Int)).1))<|Aq DI ?_
 refine Ad<|Sq<|Rg<|Aq DI<|A2.sc0 (vs:=[DI]) (r0:=(AV.i .i64 (Do ((B4 Bg (1:Int)).2)))) kr kr (C7 W ((B4 Bg (1:Int)).2)) kr le ?_
 refine Aq (AV.b (decide ((Do ((B4 Bg (1:Int)).2))=(0:Int))))<|Aq (AV.b (decide ((Do ((B4 Bg (1:Int)).2))=(0:Int)))) ?_
 cases c_26:decide ((Do ((B4 Bg (1:Int)).2))=(0:Int))
 have k_26:=of_decide_eq_false c_26
 refine An<|An<|An<|Aq (AV.b false)<|Aq (AV.b false)<|Ad<|Rt ?_
 exact Fb rfl (by simp only [Me,c_1,c_2,c_3,c_4,c_26,AZ])
 have k_26:=of_decide_eq_true c_26
 refine Ay<|Aq (AV.b ((B4 Bg (1:Int)).1))<|Ay<|Aq (AV.b true)<|Ay<|Aq (AV.b ((B4 Bg (1:Int)).1==true)) ?_
 refine Aq (AV.b ((B4 Bg (1:Int)).1==true))<|Aq (AV.b ((B4 Bg (1:Int)).1==true)) ?_
 refine Ad<|Rt ?_
 exact Fb rfl (by simp only [Me,c_1,c_2,c_3,c_4,c_26,AZ])
 have k_3:=of_decide_eq_true c_3
 refine Ct<|HS<|Hp.run Aa 2 le<|Aq (AV.loc 3 0 6)<|Aq (AV.own 0 0 ([A5,A4,A9,A8].length))<|Ad<|Kp (Mo.fits [1,2,3] (env1:=[(5,(AV.loc 2 0 0)),(6,(AV.i .i64 (1:Int))),(7,(AV.b true)),(46,IR)]) (h1:=⟨3,[(2,some ⟨35,11,[(AV.st [AF,AG,AH,AJ,(AV.i .i64 (8:Int)),Bw,IR,(AV.own 0 0 1),AK,(AV.b Cu.going),(AV.sl 1 true [])])]⟩),(1,some Ch),(0,some ⟨61,3,[(AV.st [AP,(AV.i .i64 (5:Int)),(AV.own 1 0 1)])]⟩)]⟩) ⟨by decide,rfl,(A0.cons kr (A0.cons (Bp (fun _=>rfl) (e:=9) (k:=1) (A:=AV.s) (xs:=[(⟨#[122,46,104]⟩:ByteArray)]) rfl rfl) (A0.cons kr A0.nil))),(Au.cons (B8.f kr) (Ee (Ee (Au.cons (EP.kk (x':=(AV.own 0 0 ([A5,A4,A9,A8].length))) kr kr rfl (A6.row (fun _=>rfl) (A:=Ae.av) (id:=0) (e:=56) (k:=3) (xs:=[A5,A4,A9,A8]) rfl rfl rfl sd)) Au.nil))))⟩ AE) ?_
 refine Hp.run Aa 3 le<|Ap Ge (WO (k:=3) (nl:=false) (e:=56) (l:=(some (1:Int))) (g:=none) (A:=Ae.av) (xs:=[A5,A4,A9,A8]) (a:=1) (b:=[A5,A4,A9,A8].length) kr kr ⟨by kernel_rfl,by decide⟩ kr kr rfl rfl sd sd) ?_
 refine Aq (AV.loc 2 0 6)<|Sp 2 ⟨35,11,[Ev]⟩ ?_
 refine Ad<|Hp.fin rfl<|Sq<|Rg<|Aq Ev ?_
 refine Aq (AV.i .i64 (1:Int))<|A2.sfw (vs:=[Ev,(AV.i .i64 (1:Int))]) (ss:=[(Ak.av B9),(AV.i .i64 (1:Int))]) (r0:=JG) kr (show Bs _ _ _ from ⟨(A6.w (A6.cast (x':=Ev) kr kr (A6.st (A1.cons (A7 (x:=AF) kr) (A1.cons (A7 (x:=AG) kr) (A1.cons (A7 (x:=AH) kr) (A1.cons (A7 (x:=AJ) kr) (A1.cons (A7 (x:=(AV.i .i64 (8:Int))) kr) (A1.cons (A7 (x:=Bw) kr) (A1.cons (A7 (x:=Ge) kr) (A1.cons (A6.own (id:=0) (len:=1) (e:=61) (k:=3) (els:=[(AV.st [AP,(AV.i .i64 (5:Int)),(AV.own 1 0 1)])]) rfl rfl rfl sd (B7.cons (CP.st (A1.cons (A7 (x:=AP) kr) (A1.cons (A7 (x:=(AV.i .i64 (5:Int))) kr) (A1.cons (A6.row (fun _=>rfl) (A:=AV.s) (id:=1) (e:=9) (k:=1) (xs:=[(⟨#[122,46,104]⟩:ByteArray)]) rfl rfl sd sd) A1.nil)))) B7.nil)) (A1.cons (A7 (x:=AK) kr) (A1.cons (A7 (x:=(AV.b Cu.going)) kr) (A1.cons (A6.c rfl (AL.nil 1)) A1.nil)))))))))))))),⟨(Bs.e kr),trivial⟩⟩) (BZ W hW B9 (1:Int) sd) rfl kr le ?_
 refine Aq JG ?_
 refine Aq (AV.b ((B4 B9 (1:Int)).1)) ?_
 refine Aq Dz ?_
 refine Aq (AV.b ((B4 B9 (1:Int)).1)) ?_
 refine Aq Dz ?_
 refine Ad<|Sq<|Rg<|Aq Dz ?_
 refine A2.sc0 (vs:=[Dz]) (r0:=(AV.i .i64 (Do ((B4 B9 (1:Int)).2)))) kr kr (C7 W ((B4 B9 (1:Int)).2)) kr le ?_
 refine Aq (AV.b (decide ((Do ((B4 B9 (1:Int)).2))=(0:Int)))) ?_
 refine Aq (AV.b (decide ((Do ((B4 B9 (1:Int)).2))=(0:Int)))) ?_
 cases c_27:decide ((Do ((B4 B9 (1:Int)).2))=(0:Int))
 have k_27:=of_decide_eq_false c_27
 refine An<|An<|An<|Aq (AV.b false)<|Aq (AV.b false)<|Ad<|Rt ?_
 exact Fb rfl (by simp only [Me,c_1,c_2,c_3,c_27,AZ])
 have k_27:=of_decide_eq_true c_27
 refine Ay<|Aq (AV.b ((B4 B9 (1:Int)).1)) ?_
 refine Ay<|Aq (AV.b true)<|Ay<|Aq (AV.b ((B4 B9 (1:Int)).1==true)) ?_
 refine Aq (AV.b ((B4 B9 (1:Int)).1==true)) ?_
 refine Aq (AV.b ((B4 B9 (1:Int)).1==true)) ?_
 refine Ad<|Rt ?_
 exact Fb rfl (by simp only [Me,c_1,c_2,c_3,c_27,AZ])
 have k_2:=of_decide_eq_true c_2
 refine Ct<|Rg<|Aq (AV.b false)<|Ad<|Sq<|Rg<|Aq Bt<|Aq (AV.i .i64 (1:Int))<|A2.sfw (vs:=[Bt,(AV.i .i64 (1:Int))]) (ss:=[(Ak.av Bj),(AV.i .i64 (1:Int))]) (r0:=IL) kr (show Bs _ _ _ from ⟨(A6.w (A6.cast (x':=Bt) kr kr (A6.st (A1.cons (A7 (x:=AF) kr) (A1.cons (A7 (x:=AG) kr) (A1.cons (A7 (x:=AH) kr) (A1.cons (A7 (x:=AJ) kr) (A1.cons (A7 (x:=(AV.i .i64 (8:Int))) kr) (A1.cons (A7 (x:=Bw) kr) (A1.cons (A6.row (fun _=>rfl) (A:=Ae.av) (id:=0) (e:=56) (k:=3) (xs:=[A5,A4,A9,A8]) rfl rfl rfl sd) (A1.cons (A6.own (id:=1) (len:=1) (e:=61) (k:=3) (els:=[BH]) rfl rfl rfl sd (B7.cons (CP.st (A1.cons (A7 (x:=AP) kr) (A1.cons (A7 (x:=(AV.i .i64 (5:Int))) kr) (A1.cons (A6.row (fun _=>rfl) (A:=AV.s) (id:=2) (e:=9) (k:=1) (xs:=[(⟨#[122,46,104]⟩:ByteArray)]) rfl rfl sd sd) A1.nil)))) B7.nil)) (A1.cons (A7 (x:=AK) kr) (A1.cons (A7 (x:=(AV.b Cu.going)) kr) (A1.cons (A6.c rfl (AL.nil 1)) A1.nil)))))))))))))),⟨(Bs.e kr),trivial⟩⟩) (BZ W hW Bj (1:Int) sd) rfl kr le ?_
 refine Aq IL ?_
 refine Aq (AV.b ((B4 Bj (1:Int)).1))<|Aq DL ?_
 refine Aq (AV.b ((B4 Bj (1:Int)).1))<|Aq DL ?_
 refine Ad<|Sq<|Rg<|Aq DL<|A2.sc0 (vs:=[DL]) (r0:=(AV.i .i64 (Do ((B4 Bj (1:Int)).2)))) kr kr (C7 W ((B4 Bj (1:Int)).2)) kr le ?_
 refine Aq (AV.b (decide ((Do ((B4 Bj (1:Int)).2))=(0:Int))))<|Aq (AV.b (decide ((Do ((B4 Bj (1:Int)).2))=(0:Int)))) ?_
 cases c_28:decide ((Do ((B4 Bj (1:Int)).2))=(0:Int))
 have k_28:=of_decide_eq_false c_28
 refine An<|An<|An<|Aq (AV.b false)<|Aq (AV.b false)<|Ad<|Rt ?_
 exact Fb rfl (by simp only [Me,c_1,c_2,c_28,AZ])
 have k_28:=of_decide_eq_true c_28
 refine Ay<|Aq (AV.b ((B4 Bj (1:Int)).1))<|Ay<|Aq (AV.b false)<|Ay<|Aq (AV.b ((B4 Bj (1:Int)).1==false)) ?_
 refine Aq (AV.b ((B4 Bj (1:Int)).1==false))<|Aq (AV.b ((B4 Bj (1:Int)).1==false)) ?_
 refine Ad<|Rt ?_
 exact Fb rfl (by simp only [Me,c_1,c_2,c_28,AZ])
 refine Ct<|Sq<|Rg<|Aq (AV.b false)<|Ad<|Rt ?_
 exact Fb rfl (by simp only [Me,c_1,AZ])
end
end Go.Lift
