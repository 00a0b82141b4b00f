/-
  Lemmas of this claim: a layer over the kit's calls, contracts of the functions that the law reaches, and the law's row. No condition of its own.
-/
import Derived.Test.YtjfhbchfhpgefaaGreatDoorWbDirts
set_option linter.unusedSimpArgs false
set_option linter.unusedVariables false
set_option linter.unusedSectionVars false
set_option maxRecDepth 20000
namespace Go.Lift
noncomputable section
open Go Go.RowKit
theorem Kv (W:World) {m0:Int} (hW:W.cell? ⟨0,0,none⟩=some (.int .i64 m0)) (s':A7) (hz:s'.sz≤1048576):Ah Go.Proofs.Tryz.prog W 19 [(A7.av s')] (AV.tup [((Ag 1 AV.b) ((D0 s').1)),(AV.i .i64 ((D0 s').2))]) []:=by
 have hzg:=s'.sz_graph
 have hgl:=Nat.le_trans s'.graph.sz_len (Nat.le_trans s'.sz_graph hz)
 refine A9 (fn:=Go.Proofs.Tryz.f19) Go.Proofs.Tryz.func19 rfl (en19 W) (ts:=[2,3]) rfl le<|Sq<|Rg<|Nn (AV.loc 0 0 0) (BU s')<|Aq (AV.sl 1 true [])<|Aq (AV.i .i64 (0:Int))<|Ad<|Sq<|Sq<|Rg<|A1.sfw (vs:=[(AV.loc 0 0 0)]) (ss:=[(AV.pt (A7.av s').cells)]) (r0:=(AV.b (De s'))) kr (show Bc _ _ _ from ⟨(Al.w (Al.cast (x':=(AV.loc 0 0 0)) kr kr (Ce A7.av s' (id:=0) rfl rfl kr))),trivial⟩) (Kw W hW s' sd) rfl kr le<|Aq (AV.b (!(De s')))<|Ad ?_
 cases c_1:(!(De s'))
 refine Cf<|A4.skip<|Sq<|Rg<|Aq (AV.loc 0 0 0)<|Aq (AV.loc 0 0 0)<|Aq ((Ag 7 A8.av) s'.graph.edges)<|Ap (Ai s'.graph.edges.length) (AN (k:=7) (nl:=false) (e:=65) (A:=A8.av) (xs:=s'.graph.edges) kr kr)<|A1.sn (x:=(AV.own 1 0 s'.graph.edges.length)) (h':=⟨2,[(1,some ⟨4,1,(List.replicate s'.graph.edges.length false).map AV.b⟩),(0,some (BU s'))]⟩) (Pj (e:=4) (i:=Iy) (A:=AV.b) (z:=false) (n:=s'.graph.edges.length) kr kr kr kr ⟨by decide,by kernel_rfl⟩ kr (by show _*1≤140737488355328;first|omega|(simp only [List.length_append,List.length_cons,List.length_nil,List.length_set,List.length_replicate];omega)|(simp;omega)) sd) le<|Aq (AV.own 1 0 s'.graph.edges.length)<|Ad<|Sq<|Sq<|Rg<|Aq (AV.own 1 0 s'.graph.edges.length)<|Aq (Ai s'.graph.edges.length)<|Aq (AV.i .i64 (0:Int))<|Ad<|A4.block ?_
 have hB1:s'.graph.edges.length≤281474976710656:=by first|omega|(simp;done)|(simp;omega)
 obtain ⟨R1,hR1⟩: ∃R,KW s' (List.replicate s'.graph.edges.length false) 0 (List.replicate s'.graph.edges.length false)=R:=⟨_,rfl⟩
 refine Av (fun ((v25,row):Nat×(List Bool))=>[(1,(AV.loc 0 0 0)),(4,(AV.own 1 0 s'.graph.edges.length)),(24,(Ai s'.graph.edges.length)),(25,(Ai v25))]) (fun ((v25,row):Nat×(List Bool))=>⟨2,[(0,some (BU s')),(1,some ⟨4,1,row.map AV.b⟩)]⟩) (fun ((v25,row):Nat×(List Bool))=>v25≤s'.graph.edges.length∧row.length=s'.graph.edges.length∧KW s' ((List.replicate s'.graph.edges.length false).drop v25) v25 row=R1) (fun ((v25,row):Nat×(List Bool))=>s'.graph.edges.length-v25) (0,(List.replicate s'.graph.edges.length false)) ?_ ?_ ?_
 exact ⟨[0,1],⟨by decide,rfl,(A0.cons kr (A0.cons (Az (fun _=>rfl) (e:=4) (k:=1) (A:=AV.b) (xs:=(List.replicate s'.graph.edges.length false)) rfl rfl) A0.nil)),(Af.cons (AE.f kr) (Af.cons (AE.f kr) (Ee (Ee Af.nil))))⟩,Ar⟩
 exact ⟨od,by (try dsimp only)<;>(simp),hR1⟩
 rintro ⟨v25,row⟩ ⟨hi1,hq,hE1⟩
 try dsimp only
 refine Sq<|Rg<|Aq (AV.b (decide (((v25:Nat):Int)<((s'.graph.edges.length:Nat):Int))))<|Ad<|Sq ?_
 rcases Nat.lt_or_ge v25 s'.graph.edges.length with hl1|hl1
 have hc1:decide (((v25:Nat):Int)<((s'.graph.edges.length:Nat):Int))=true:=decide_eq_true (by omega)
 refine A4.cond (t:=true) (by rw [←hc1]<;>kernel_rfl) (A4.skip ?_)
 obtain ⟨x1,hx1⟩: ∃x,(List.replicate s'.graph.edges.length false)[v25]? =some x:=⟨_,List.getElem?_eq_getElem (by first|(simpa using hl1)|omega)⟩
 rw [AB hx1,KW.eq_2] at hE1
 refine Sq<|A4.block<|Sq<|Rg<|Aq (Ai v25)<|Aq (Ai v25)<|Ad<|Sq<|Rg<|Aq (A7.av s')<|Aq (Ai v25)<|A1.sc0 (vs:=[(A7.av s'),(Ai v25)]) (r0:=(AV.tup [(AV.b ((C0 s' ((v25:Nat):Int)).1)),(AV.i .i64 ((C0 s' ((v25:Nat):Int)).2))])) kr kr (Ft W hW s' ((v25:Nat):Int) hz) kr le<|Aq (AV.tup [(AV.b ((C0 s' ((v25:Nat):Int)).1)),(AV.i .i64 ((C0 s' ((v25:Nat):Int)).2))])<|Aq (AV.b ((C0 s' ((v25:Nat):Int)).1))<|Aq (AV.i .i64 ((C0 s' ((v25:Nat):Int)).2))<|Aq (AV.b ((C0 s' ((v25:Nat):Int)).1))<|Aq (AV.i .i64 ((C0 s' ((v25:Nat):Int)).2))<|Ad<|Sq<|Sq<|Rg<|Aq (AV.i .i64 ((C0 s' ((v25:Nat):Int)).2))<|Aq (AV.b (!decide ((C0 s' ((v25:Nat):Int)).2=(0:Int))))<|Ad ?_
 cases c_2:(!decide ((C0 s' ((v25:Nat):Int)).2=(0:Int)))
 have k_2:=LI c_2
 refine Cf<|A4.skip<|Rg<|Aq (AV.own 1 0 s'.graph.edges.length)<|Aq (Ai v25)<|Aq (AV.b ((C0 s' ((v25:Nat):Int)).1))<|Ap (AV.loc 1 v25 0) (Ge (e:=4) (id:=1) (len:=s'.graph.edges.length) (kk:= .i64) (ob:=⟨4,1,row.map AV.b⟩) (i:=v25) kr kr kr rfl kr sd)<|A1.st (x:=AV.und) (h':=⟨2,[(0,some (BU s')),(1,some ⟨4,1,(row.set v25 ((C0 s' ((v25:Nat):Int)).1)).map AV.b⟩)]⟩) (L9 (e:=4) (k:=1) (i:=Iy) (id:=1) (A:=AV.b) (xs:=row) (y:=((C0 s' ((v25:Nat):Int)).1)) (j:=v25) kr kr kr rfl sd (fun _=>rfl) kr (fun _=>rfl) (fun _=>rfl))<|Ad<|Rg<|Ap (Ai (v25+1)) (AA (i:=v25) (m:=1) kr kr sd)<|Aq (Ai (v25+1))<|Ad ?_
 try simp only [c_2,Aw] at hE1
 refine ⟨(v25+1,(row.set v25 ((C0 s' ((v25:Nat):Int)).1))),od,⟨od,by (try dsimp only)<;>(simp only [List.length_set];exact hq),hE1⟩,?_⟩
 exact ⟨[0,1],⟨by decide,rfl,(A0.cons kr (A0.cons (Az (fun _=>rfl) (e:=4) (k:=1) (A:=AV.b) (xs:=(row.set v25 ((C0 s' ((v25:Nat):Int)).1))) rfl rfl) A0.nil)),(Af.cons (AE.f kr) (Af.cons (AE.f kr) (Ee (Ee Af.nil))))⟩,Ar⟩
 have k_2:=LJ c_2
 refine Ct<|Sq<|Rg<|Aq (AV.i .i64 ((C0 s' ((v25:Nat):Int)).2))<|Aq (AV.sl 1 true [])<|Aq (AV.i .i64 ((C0 s' ((v25:Nat):Int)).2))<|Ad<|Rt ?_
 try simp only [c_2,Aw] at hE1
 subst hE1
 have hM:D0 s'=(([]:List Bool),(C0 s' ((v25:Nat):Int)).2):=by simp only [D0,c_1,hR1,Aw]
 refine ⟨Or.inr rfl,?_⟩
 rw [hM]
 exact AE.cast (x':=(AV.tup [(AV.sl 1 true []),(AV.i .i64 ((C0 s' ((v25:Nat):Int)).2))])) (y':=(AV.tup [((Ag 1 AV.b) ((([]:List Bool),(C0 s' ((v25:Nat):Int)).2).1)),(AV.i .i64 ((([]:List Bool),(C0 s' ((v25:Nat):Int)).2).2))])) kr kr (AE.tup ⟨(AE.w rfl (AP.nil 1)),⟨Ec,trivial⟩⟩ kr)
 have hc1:decide (((v25:Nat):Int)<((s'.graph.edges.length:Nat):Int))=false:=decide_eq_false (by omega)
 refine A4.cond (t:=false) (by rw [←hc1]<;>kernel_rfl) (A4.exit ?_)
 rw [List.drop_eq_nil_of_le (by first|(simpa using hl1)|omega),KW.eq_1] at hE1
 subst hE1
 refine Sq<|Rg<|Aq (AV.loc 0 0 0)<|Aq (Kd s')<|A1.sc0 (vs:=[(Kd s')]) (r0:=(Kc s')) kr kr (LT W hW (⟨s'.graph.edges,s'.graph.pools,s'.graph.defaults⟩:A3) (Nat.le_trans s'.sz_graph hz)) kr le<|Aq (Kc s')<|Aq (Cv s')<|Aq (Ht s')<|Aq (Cv s')<|Aq (Ht s')<|Ad<|Sq<|Sq<|Rg<|Aq (Cv s')<|Ap (FI s') (AN (k:=1) (nl:=false) (e:=3) (A:=(AV.i .i64)) (xs:=((DQ (⟨s'.graph.edges,s'.graph.pools,s'.graph.defaults⟩:A3)).1)) kr kr) ?_
 refine Aq (AV.i .i64 (0:Int))<|Ad<|A4.block<|A4.lim 46 (x:=(Cv s')) kr fun hlm2=> ?_
 have hB2:((DQ (⟨s'.graph.edges,s'.graph.pools,s'.graph.defaults⟩:A3)).1).length≤281474976710656:=AX hlm2
 obtain ⟨R2,hR2⟩: ∃R,JJ s' ((DQ (⟨s'.graph.edges,s'.graph.pools,s'.graph.defaults⟩:A3)).1) 0 row=R:=⟨_,rfl⟩
 refine Av (fun ((v50,row2):Nat×(List Bool))=>[(1,(AV.loc 0 0 0)),(4,(AV.own 1 0 s'.graph.edges.length)),(48,(Cv s')),(49,(FI s')),(50,(Ai v50))]) (fun ((v50,row2):Nat×(List Bool))=>⟨2,[(0,some (BU s')),(1,some ⟨4,1,row2.map AV.b⟩)]⟩) (fun ((v50,row2):Nat×(List Bool))=>v50≤((DQ (⟨s'.graph.edges,s'.graph.pools,s'.graph.defaults⟩:A3)).1).length∧row2.length=s'.graph.edges.length∧JJ s' (((DQ (⟨s'.graph.edges,s'.graph.pools,s'.graph.defaults⟩:A3)).1).drop v50) v50 row2=R2) (fun ((v50,row2):Nat×(List Bool))=>((DQ (⟨s'.graph.edges,s'.graph.pools,s'.graph.defaults⟩:A3)).1).length-v50) (0,row) ?_ ?_ ?_
 exact ⟨[0,1],⟨by decide,rfl,(A0.cons kr (A0.cons (Az (fun _=>rfl) (e:=4) (k:=1) (A:=AV.b) (xs:=row) rfl rfl) A0.nil)),(Af.cons (AE.f kr) (Af.cons (AE.f kr) (Ee (Ee (Ee Af.nil)))))⟩,Ar⟩
 exact ⟨od,by (try dsimp only)<;>(exact hq),hR2⟩
 rintro ⟨v50,row2⟩ ⟨hi2,hq2,hE2⟩
 try dsimp only
 refine Sq<|Rg<|Aq (AV.b (decide (((v50:Nat):Int)<((((DQ (⟨s'.graph.edges,s'.graph.pools,s'.graph.defaults⟩:A3)).1).length:Nat):Int))))<|Ad<|Sq ?_
 rcases Nat.lt_or_ge v50 ((DQ (⟨s'.graph.edges,s'.graph.pools,s'.graph.defaults⟩:A3)).1).length with hl2|hl2
 have hc2:decide (((v50:Nat):Int)<((((DQ (⟨s'.graph.edges,s'.graph.pools,s'.graph.defaults⟩:A3)).1).length:Nat):Int))=true:=decide_eq_true (by omega)
 refine A4.cond (t:=true) (by rw [←hc2]<;>kernel_rfl) (A4.skip ?_)
 obtain ⟨x2,hx2⟩: ∃x,((DQ (⟨s'.graph.edges,s'.graph.pools,s'.graph.defaults⟩:A3)).1)[v50]? =some x:=⟨_,List.getElem?_eq_getElem hl2⟩
 rw [AB hx2,JJ.eq_2] at hE2
 have ha:=P8 hz (by assumption) (List.mem_of_getElem? hx2)
 have hcl:(Ci [(s'.graph.edges.getD x2.toNat default).ins,(s'.graph.edges.getD x2.toNat default).implicit]).length≤1048576:=by rw [Gd];simp only [List.flatten_cons,List.flatten_nil,List.append_nil,List.length_append];omega
 refine Sq<|A4.block<|Sq<|Rg<|Ap (AV.pt ((AV.i .i64) x2).cells) (AQ (k:=1) (nl:=false) (e:=3) (kk:= .i64) (A:=(AV.i .i64)) (xs:=((DQ (⟨s'.graph.edges,s'.graph.pools,s'.graph.defaults⟩:A3)).1)) (i:=v50) kr kr kr ⟨by kernel_rfl,by decide⟩ hx2)<|Aq (AV.i .i64 x2)<|Aq (AV.i .i64 x2)<|Ad<|Sq<|Rg<|Aq (AV.loc 0 0 0)<|Aq (AV.loc 0 0 0)<|Aq ((Ag 7 A8.av) s'.graph.edges)<|Aq (AV.i .i64 x2)<|Ap (AV.pt (A8.av (s'.graph.edges.getD x2.toNat default)).cells) (Ei (k:=7) (nl:=false) (e:=65) (kk:= .i64) (A:=A8.av) (xs:=s'.graph.edges) (n:=x2) kr kr kr ⟨by kernel_rfl,by decide⟩ sd (getD_some sd))<|Aq (AV.pt (A8.av (s'.graph.edges.getD x2.toNat default)).cells)<|Ad<|Sq<|A4.drawn A5 C9 12 kr le<|Dq (AV.pt (A8.av (s'.graph.edges.getD x2.toNat default)).cells)<|Dq (AV.pt (A8.av (s'.graph.edges.getD x2.toNat default)).cells)<|Dq (AV.pt ((A8.av (s'.graph.edges.getD x2.toNat default)).cells.drop 1))<|Dq ((Ag 1 AV.s) ((s'.graph.edges.getD x2.toNat default).ins))<|Dq (AV.pt (A8.av (s'.graph.edges.getD x2.toNat default)).cells)<|Dq (AV.pt (A8.av (s'.graph.edges.getD x2.toNat default)).cells)<|Dq (AV.pt ((A8.av (s'.graph.edges.getD x2.toNat default)).cells.drop 2))<|Dq ((Ag 1 AV.s) ((s'.graph.edges.getD x2.toNat default).implicit))<|As.sn (x:=(AV.own 2 0 2)) (h':=⟨3,[(2,some ⟨24,1,[(s'.graph.edges.getD x2.toNat default).ins,(s'.graph.edges.getD x2.toNat default).implicit].map (Ag 1 AV.s)⟩),(0,some (BU s')),(1,some ⟨4,1,row2.map AV.b⟩)]⟩) kr le ?_
 by_cases z_3:(Ci [(s'.graph.edges.getD x2.toNat default).ins,(s'.graph.edges.getD x2.toNat default).implicit])=[]
 refine As.sfw (vs:=[(AV.own 2 0 2)]) (ss:=[((Ag 1 (Ag 1 AV.s)) [(s'.graph.edges.getD x2.toNat default).ins,(s'.graph.edges.getD x2.toNat default).implicit])]) (r0:=((Ag 1 AV.s) ([]:List ByteArray))) kr (show Bc _ _ _ from ⟨(Al.w (Al.cast (x':=(AV.own 2 0 2)) kr kr (Al.row (fun _=>rfl) (A:=(Ag 1 AV.s)) (id:=2) (e:=24) (k:=1) (xs:=[(s'.graph.edges.getD x2.toNat default).ins,(s'.graph.edges.getD x2.toNat default).implicit]) rfl rfl sd sd))),trivial⟩) (by rw [←show (Ci [(s'.graph.edges.getD x2.toNat default).ins,(s'.graph.edges.getD x2.toNat default).implicit])=[] from z_3];exact (BQ W [(s'.graph.edges.getD x2.toNat default).ins,(s'.graph.edges.getD x2.toNat default).implicit] (by simp only [List.flatten_cons,List.flatten_nil,List.append_nil,List.length_append];omega))) rfl kr le<|Dp (AV.i .i64 ((([]:List ByteArray).length:Nat):Int)) (AN (k:=1) (nl:=false) (e:=9) (A:=AV.s) (xs:=([]:List ByteArray)) kr kr)<|Dq (AV.i .i64 (0:Int))<|As.fin<|A4.block<|A4.lim 68 (x:=((Ag 1 AV.s) ([]:List ByteArray))) kr fun hlm3=> ?_
 have hB3:([]:List ByteArray).length≤281474976710656:=AX hlm3
 obtain ⟨R3,hR3⟩: ∃R,GF s' x2 ([]:List ByteArray) 0 row2=R:=⟨_,rfl⟩
 refine Av (fun ((v70,row3):Nat×(List Bool))=>[(1,(AV.loc 0 0 0)),(4,(AV.own 1 0 s'.graph.edges.length)),(11,(AV.i .i64 x2)),(48,(Cv s')),(49,(FI s')),(50,(Ai v50)),(68,((Ag 1 AV.s) ([]:List ByteArray))),(69,(AV.i .i64 ((([]:List ByteArray).length:Nat):Int))),(70,(Ai v70))]) (fun ((v70,row3):Nat×(List Bool))=>⟨2,[(0,some (BU s')),(1,some ⟨4,1,row3.map AV.b⟩)]⟩) (fun ((v70,row3):Nat×(List Bool))=>v70≤([]:List ByteArray).length∧row3.length=s'.graph.edges.length∧GF s' x2 (([]:List ByteArray).drop v70) v70 row3=R3) (fun ((v70,row3):Nat×(List Bool))=>([]:List ByteArray).length-v70) (0,row2) ?_ ?_ ?_
 exact ⟨[0,1],⟨by decide,rfl,(A0.cons kr (A0.cons (Az (fun _=>rfl) (e:=4) (k:=1) (A:=AV.b) (xs:=row2) rfl rfl) A0.nil)),(Af.cons (AE.f kr) (Af.cons (AE.f kr) (Ee (Ee (Ee (Ee (Ee (Ee (Ee Af.nil)))))))))⟩,Ar⟩
 exact ⟨od,by (try dsimp only)<;>(exact hq2),hR3⟩
 rintro ⟨v70,row3⟩ ⟨hi3,hq3,hE3⟩
 try dsimp only
 refine Sq<|Rg<|Aq (AV.b (decide (((v70:Nat):Int)<((([]:List ByteArray).length:Nat):Int))))<|Ad<|Sq ?_
 rcases Nat.lt_or_ge v70 ([]:List ByteArray).length with hl3|hl3
 have hc3:decide (((v70:Nat):Int)<((([]:List ByteArray).length:Nat):Int))=true:=decide_eq_true (by omega)
 refine A4.cond (t:=true) (by rw [←hc3]<;>kernel_rfl) (A4.skip ?_)
 obtain ⟨x3,hx3⟩: ∃x,([]:List ByteArray)[v70]? =some x:=⟨_,List.getElem?_eq_getElem hl3⟩
 rw [AB hx3,GF.eq_2] at hE3
 have hmk:=Mr s'.graph x3
 refine Sq<|A4.block<|Sq<|Rg<|Ap (AV.pt (AV.s x3).cells) (AQ (k:=1) (nl:=false) (e:=9) (kk:= .i64) (A:=AV.s) (xs:=([]:List ByteArray)) (i:=v70) kr kr kr ⟨by kernel_rfl,by decide⟩ hx3)<|Aq (AV.s x3)<|Aq (AV.s x3)<|Ad<|Sq<|Rg<|Aq (AV.loc 0 0 0)<|Aq (AV.s x3)<|A1.sfw (vs:=[(AV.loc 0 0 0),(AV.s x3)]) (ss:=[(AV.pt (A3.av s'.graph).cells),(AV.s x3)]) (r0:=(AV.i .i64 (CO s'.graph x3))) kr (show Bc _ _ _ from ⟨(Al.w (Al.cast (x':=(AV.loc 0 0 0)) kr kr (Al.wk (y':=(AV.pt (A3.av s'.graph).cells)) (Ce A7.av s' (id:=0) rfl rfl kr) (IC 3 kr)))),⟨(Bc.e kr),trivial⟩⟩) (DZ W s'.graph x3) rfl kr le<|Aq (AV.i .i64 (CO s'.graph x3))<|Ad<|Sq<|Rg<|Aq (AV.i .i64 (CO s'.graph x3))<|Aq (AV.b (decide ((0:Int)≤(CO s'.graph x3))))<|Aq (AV.b (decide ((0:Int)≤(CO s'.graph x3)))) ?_
 cases c_4:decide ((0:Int)≤(CO s'.graph x3))
 have k_4:=of_decide_eq_false c_4
 refine An<|An<|An<|An<|Aq (AV.b false)<|Ad<|Cf<|A4.skip<|Rg<|Ap (Ai (v70+1)) (AA (i:=v70) (m:=1) kr kr sd)<|Aq (Ai (v70+1))<|Ad ?_
 try simp only [c_4,Aw] at hE3
 refine ⟨(v70+1,row3),od,⟨od,by (try dsimp only)<;>(first|exact hq3|(simp only [List.length_set];exact hq3)),hE3⟩,?_⟩
 exact ⟨[0,1],⟨by decide,rfl,(A0.cons kr (A0.cons (Az (fun _=>rfl) (e:=4) (k:=1) (A:=AV.b) (xs:=row3) rfl rfl) A0.nil)),(Af.cons (AE.f kr) (Af.cons (AE.f kr) (Ee (Ee (Ee (Ee (Ee (Ee (Ee Af.nil)))))))))⟩,Ar⟩
 have k_4:=of_decide_eq_true c_4
 refine Ay<|Aq (AV.own 1 0 s'.graph.edges.length)<|Ay<|Aq (AV.i .i64 (CO s'.graph x3))<|Ay<|Ap (AV.loc 1 ((CO s'.graph x3).toNat) 0) (Ex (e:=4) (id:=1) (len:=s'.graph.edges.length) (kk:= .i64) (ob:=⟨4,1,row3.map AV.b⟩) (n:=(CO s'.graph x3)) kr kr kr rfl kr sd sd)<|Ay<|Ap (AV.b (row3.getD ((CO s'.graph x3).toNat) default)) (Dg (e:=4) (k:=1) (i:=Iy) (id:=1) (xs:=row3) (A:=AV.b) (j:=(CO s'.graph x3).toNat) kr kr rfl (getD_some sd) kr)<|Aq (AV.b (row3.getD ((CO s'.graph x3).toNat) default))<|Ad ?_
 cases c_5:(row3.getD ((CO s'.graph x3).toNat) default)
 refine Cf<|A4.skip<|Rg<|Ap (Ai (v70+1)) (AA (i:=v70) (m:=1) kr kr sd)<|Aq (Ai (v70+1))<|Ad ?_
 try simp only [c_4,c_5,Aw] at hE3
 refine ⟨(v70+1,row3),od,⟨od,by (try dsimp only)<;>(first|exact hq3|(simp only [List.length_set];exact hq3)),hE3⟩,?_⟩
 exact ⟨[0,1],⟨by decide,rfl,(A0.cons kr (A0.cons (Az (fun _=>rfl) (e:=4) (k:=1) (A:=AV.b) (xs:=row3) rfl rfl) A0.nil)),(Af.cons (AE.f kr) (Af.cons (AE.f kr) (Ee (Ee (Ee (Ee (Ee (Ee (Ee Af.nil)))))))))⟩,Ar⟩
 refine Ct<|Rg<|Aq (AV.own 1 0 s'.graph.edges.length)<|Aq (AV.i .i64 x2)<|Ap (AV.loc 1 x2.toNat 0) (Ex (e:=4) (id:=1) (len:=s'.graph.edges.length) (kk:= .i64) (ob:=⟨4,1,row3.map AV.b⟩) (n:=x2) kr kr kr rfl kr sd sd)<|A1.st (x:=AV.und) (h':=⟨2,[(0,some (BU s')),(1,some ⟨4,1,(row3.set x2.toNat true).map AV.b⟩)]⟩) (L9 (e:=4) (k:=1) (i:=Iy) (id:=1) (A:=AV.b) (xs:=row3) (y:=true) (j:=x2.toNat) kr kr kr rfl sd (fun _=>rfl) kr (fun _=>rfl) (fun _=>rfl))<|Ad<|Rg<|Ap (Ai (v70+1)) (AA (i:=v70) (m:=1) kr kr sd)<|Aq (Ai (v70+1))<|Ad ?_
 try simp only [c_4,c_5,Aw] at hE3
 refine ⟨(v70+1,(row3.set x2.toNat true)),od,⟨od,by (try dsimp only)<;>(first|exact hq3|(simp only [List.length_set];exact hq3)),hE3⟩,?_⟩
 exact ⟨[0,1],⟨by decide,rfl,(A0.cons kr (A0.cons (Az (fun _=>rfl) (e:=4) (k:=1) (A:=AV.b) (xs:=(row3.set x2.toNat true)) rfl rfl) A0.nil)),(Af.cons (AE.f kr) (Af.cons (AE.f kr) (Ee (Ee (Ee (Ee (Ee (Ee (Ee Af.nil)))))))))⟩,Ar⟩
 have hc3:decide (((v70:Nat):Int)<((([]:List ByteArray).length:Nat):Int))=false:=decide_eq_false (by omega)
 refine A4.cond (t:=false) (by rw [←hc3]<;>kernel_rfl) (A4.exit ?_)
 rw [List.drop_eq_nil_of_le (hl3),GF.eq_1] at hE3
 subst hE3
 refine Rg<|Ap (Ai (v50+1)) (AA (i:=v50) (m:=1) kr kr sd)<|Aq (Ai (v50+1))<|Ad ?_
 try simp only [z_3,hR3,Aw] at hE2
 refine ⟨(v50+1,row3),od,⟨od,by (try dsimp only)<;>(exact hq3),hE2⟩,?_⟩
 exact ⟨[0,1],⟨by decide,rfl,(A0.cons kr (A0.cons (Az (fun _=>rfl) (e:=4) (k:=1) (A:=AV.b) (xs:=row3) rfl rfl) A0.nil)),(Af.cons (AE.f kr) (Af.cons (AE.f kr) (Ee (Ee (Ee Af.nil)))))⟩,Ar⟩
 refine KC (A:=AV.s) (xs:=(Ci [(s'.graph.edges.getD x2.toNat default).ins,(s'.graph.edges.getD x2.toNat default).implicit])) (vs:=[(AV.own 2 0 2)]) (ss:=[((Ag 1 (Ag 1 AV.s)) [(s'.graph.edges.getD x2.toNat default).ins,(s'.graph.edges.getD x2.toNat default).implicit])]) kr (show Bc _ _ _ from ⟨(Al.w (Al.cast (x':=(AV.own 2 0 2)) kr kr (Al.row (fun _=>rfl) (A:=(Ag 1 AV.s)) (id:=2) (e:=24) (k:=1) (xs:=[(s'.graph.edges.getD x2.toNat default).ins,(s'.graph.edges.getD x2.toNat default).implicit]) rfl rfl sd sd))),trivial⟩) (BI W [(s'.graph.edges.getD x2.toNat default).ins,(s'.graph.edges.getD x2.toNat default).implicit] (by simp only [List.flatten_cons,List.flatten_nil,List.append_nil,List.length_append];omega) z_3) (fun _=>rfl) (fun _=>rfl) le<|Dq (AV.i .i64 (((Ci [(s'.graph.edges.getD x2.toNat default).ins,(s'.graph.edges.getD x2.toNat default).implicit]).length:Nat):Int))<|Dq (AV.i .i64 (0:Int))<|As.fin<|A4.block ?_
 have hB3:((Ci [(s'.graph.edges.getD x2.toNat default).ins,(s'.graph.edges.getD x2.toNat default).implicit]).length)≤281474976710656:=by first|omega|(simp;done)|(simp;omega)
 obtain ⟨R3,hR3⟩: ∃R,GF s' x2 (Ci [(s'.graph.edges.getD x2.toNat default).ins,(s'.graph.edges.getD x2.toNat default).implicit]) 0 row2=R:=⟨_,rfl⟩
 refine Av (fun ((v702,row4):Nat×(List Bool))=>[(1,(AV.loc 0 0 0)),(4,(AV.own 1 0 s'.graph.edges.length)),(11,(AV.i .i64 x2)),(48,(Cv s')),(49,(FI s')),(50,(Ai v50)),(68,(AV.own 2 0 ((Ci [(s'.graph.edges.getD x2.toNat default).ins,(s'.graph.edges.getD x2.toNat default).implicit]).length))),(69,(AV.i .i64 (((Ci [(s'.graph.edges.getD x2.toNat default).ins,(s'.graph.edges.getD x2.toNat default).implicit]).length:Nat):Int))),(70,(Ai v702))]) (fun ((v702,row4):Nat×(List Bool))=>⟨3,[(0,some (BU s')),(1,some ⟨4,1,row4.map AV.b⟩),(2,some ⟨9,1,(Ci [(s'.graph.edges.getD x2.toNat default).ins,(s'.graph.edges.getD x2.toNat default).implicit]).map AV.s⟩)]⟩) (fun ((v702,row4):Nat×(List Bool))=>v702≤((Ci [(s'.graph.edges.getD x2.toNat default).ins,(s'.graph.edges.getD x2.toNat default).implicit]).length)∧row4.length=s'.graph.edges.length∧GF s' x2 ((Ci [(s'.graph.edges.getD x2.toNat default).ins,(s'.graph.edges.getD x2.toNat default).implicit]).drop v702) v702 row4=R3) (fun ((v702,row4):Nat×(List Bool))=>((Ci [(s'.graph.edges.getD x2.toNat default).ins,(s'.graph.edges.getD x2.toNat default).implicit]).length)-v702) (0,row2) ?_ ?_ ?_
 exact ⟨[0,1,3],⟨by decide,rfl,(A0.cons kr (A0.cons (Az (fun _=>rfl) (e:=4) (k:=1) (A:=AV.b) (xs:=row2) rfl rfl) (A0.cons (Az (fun _=>rfl) (e:=9) (k:=1) (A:=AV.s) (xs:=(Ci [(s'.graph.edges.getD x2.toNat default).ins,(s'.graph.edges.getD x2.toNat default).implicit])) rfl rfl) A0.nil))),(Af.cons (AE.f kr) (Af.cons (AE.f kr) (Ee (Ee (Ee (Ee (Af.cons (AE.f kr) (Ee (Ee Af.nil)))))))))⟩,Ar⟩
 exact ⟨od,by (try dsimp only)<;>(exact hq2),hR3⟩
 rintro ⟨v702,row4⟩ ⟨hi3,hq3,hE3⟩
 try dsimp only
 refine Sq<|Rg<|Aq (AV.b (decide (((v702:Nat):Int)<(((Ci [(s'.graph.edges.getD x2.toNat default).ins,(s'.graph.edges.getD x2.toNat default).implicit]).length:Nat):Int))))<|Ad<|Sq ?_
 rcases Nat.lt_or_ge v702 ((Ci [(s'.graph.edges.getD x2.toNat default).ins,(s'.graph.edges.getD x2.toNat default).implicit]).length) with hl3|hl3
 have hc3:decide (((v702:Nat):Int)<((((Ci [(s'.graph.edges.getD x2.toNat default).ins,(s'.graph.edges.getD x2.toNat default).implicit]).length):Nat):Int))=true:=decide_eq_true (by omega)
 refine A4.cond (t:=true) (by rw [←hc3]<;>kernel_rfl) (A4.skip ?_)
 obtain ⟨x32,hx3⟩: ∃x,(Ci [(s'.graph.edges.getD x2.toNat default).ins,(s'.graph.edges.getD x2.toNat default).implicit])[v702]? =some x:=⟨_,List.getElem?_eq_getElem (by first|(simpa using hl3)|omega)⟩
 rw [AB hx3,GF.eq_2] at hE3
 have hmk:=Mr s'.graph x32
 refine Sq<|A4.block<|Sq<|Rg<|Ap (AV.loc 2 v702 0) (Ge (e:=9) (id:=2) (len:=((Ci [(s'.graph.edges.getD x2.toNat default).ins,(s'.graph.edges.getD x2.toNat default).implicit]).length)) (kk:= .i64) (ob:=⟨9,1,(Ci [(s'.graph.edges.getD x2.toNat default).ins,(s'.graph.edges.getD x2.toNat default).implicit]).map AV.s⟩) (i:=v702) kr kr kr rfl kr sd)<|Ap (AV.s x32) (Dg (e:=9) (k:=1) (i:=DU) (id:=2) (xs:=(Ci [(s'.graph.edges.getD x2.toNat default).ins,(s'.graph.edges.getD x2.toNat default).implicit])) (A:=AV.s) (j:=v702) kr kr rfl hx3 kr)<|Aq (AV.s x32)<|Ad<|Sq<|Rg<|Aq (AV.loc 0 0 0)<|Aq (AV.s x32)<|A1.sfw (vs:=[(AV.loc 0 0 0),(AV.s x32)]) (ss:=[(AV.pt (A3.av s'.graph).cells),(AV.s x32)]) (r0:=(AV.i .i64 (CO s'.graph x32))) kr (show Bc _ _ _ from ⟨(Al.w (Al.cast (x':=(AV.loc 0 0 0)) kr kr (Al.wk (y':=(AV.pt (A3.av s'.graph).cells)) (Ce A7.av s' (id:=0) rfl rfl kr) (IC 3 kr)))),⟨(Bc.e kr),trivial⟩⟩) (DZ W s'.graph x32) rfl kr le<|Aq (AV.i .i64 (CO s'.graph x32))<|Ad<|Sq<|Rg<|Aq (AV.i .i64 (CO s'.graph x32))<|Aq (AV.b (decide ((0:Int)≤(CO s'.graph x32))))<|Aq (AV.b (decide ((0:Int)≤(CO s'.graph x32)))) ?_
 cases c_6:decide ((0:Int)≤(CO s'.graph x32))
 have k_6:=of_decide_eq_false c_6
 refine An<|An<|An<|An<|Aq (AV.b false)<|Ad<|Cf<|A4.skip<|Rg<|Ap (Ai (v702+1)) (AA (i:=v702) (m:=1) kr kr sd)<|Aq (Ai (v702+1))<|Ad ?_
 try simp only [c_6,Aw] at hE3
 refine ⟨(v702+1,row4),od,⟨od,by (try dsimp only)<;>(first|exact hq3|(simp only [List.length_set];exact hq3)),hE3⟩,?_⟩
 exact ⟨[0,1,2],⟨by decide,rfl,(A0.cons kr (A0.cons (Az (fun _=>rfl) (e:=4) (k:=1) (A:=AV.b) (xs:=row4) rfl rfl) (A0.cons (Az (fun _=>rfl) (e:=9) (k:=1) (A:=AV.s) (xs:=(Ci [(s'.graph.edges.getD x2.toNat default).ins,(s'.graph.edges.getD x2.toNat default).implicit])) rfl rfl) A0.nil))),(Af.cons (AE.f kr) (Af.cons (AE.f kr) (Ee (Ee (Ee (Ee (Af.cons (AE.f kr) (Ee (Ee Af.nil)))))))))⟩,Ar⟩
 have k_6:=of_decide_eq_true c_6
 refine Ay<|Aq (AV.own 1 0 s'.graph.edges.length)<|Ay<|Aq (AV.i .i64 (CO s'.graph x32))<|Ay<|Ap (AV.loc 1 ((CO s'.graph x32).toNat) 0) (Ex (e:=4) (id:=1) (len:=s'.graph.edges.length) (kk:= .i64) (ob:=⟨4,1,row4.map AV.b⟩) (n:=(CO s'.graph x32)) kr kr kr rfl kr sd sd)<|Ay<|Ap (AV.b (row4.getD ((CO s'.graph x32).toNat) default)) (Dg (e:=4) (k:=1) (i:=Iy) (id:=1) (xs:=row4) (A:=AV.b) (j:=(CO s'.graph x32).toNat) kr kr rfl (getD_some sd) kr)<|Aq (AV.b (row4.getD ((CO s'.graph x32).toNat) default))<|Ad ?_
 cases c_7:(row4.getD ((CO s'.graph x32).toNat) default)
 refine Cf<|A4.skip<|Rg<|Ap (Ai (v702+1)) (AA (i:=v702) (m:=1) kr kr sd)<|Aq (Ai (v702+1))<|Ad ?_
 try simp only [c_6,c_7,Aw] at hE3
 refine ⟨(v702+1,row4),od,⟨od,by (try dsimp only)<;>(first|exact hq3|(simp only [List.length_set];exact hq3)),hE3⟩,?_⟩
 exact ⟨[0,1,2],⟨by decide,rfl,(A0.cons kr (A0.cons (Az (fun _=>rfl) (e:=4) (k:=1) (A:=AV.b) (xs:=row4) rfl rfl) (A0.cons (Az (fun _=>rfl) (e:=9) (k:=1) (A:=AV.s) (xs:=(Ci [(s'.graph.edges.getD x2.toNat default).ins,(s'.graph.edges.getD x2.toNat default).implicit])) rfl rfl) A0.nil))),(Af.cons (AE.f kr) (Af.cons (AE.f kr) (Ee (Ee (Ee (Ee (Af.cons (AE.f kr) (Ee (Ee Af.nil)))))))))⟩,Ar⟩
 refine Ct<|Rg<|Aq (AV.own 1 0 s'.graph.edges.length)<|Aq (AV.i .i64 x2)<|Ap (AV.loc 1 x2.toNat 0) (Ex (e:=4) (id:=1) (len:=s'.graph.edges.length) (kk:= .i64) (ob:=⟨4,1,row4.map AV.b⟩) (n:=x2) kr kr kr rfl kr sd sd)<|A1.st (x:=AV.und) (h':=⟨3,[(0,some (BU s')),(1,some ⟨4,1,(row4.set x2.toNat true).map AV.b⟩),(2,some ⟨9,1,(Ci [(s'.graph.edges.getD x2.toNat default).ins,(s'.graph.edges.getD x2.toNat default).implicit]).map AV.s⟩)]⟩) (L9 (e:=4) (k:=1) (i:=Iy) (id:=1) (A:=AV.b) (xs:=row4) (y:=true) (j:=x2.toNat) kr kr kr rfl sd (fun _=>rfl) kr (fun _=>rfl) (fun _=>rfl))<|Ad<|Rg<|Ap (Ai (v702+1)) (AA (i:=v702) (m:=1) kr kr sd)<|Aq (Ai (v702+1))<|Ad ?_
 try simp only [c_6,c_7,Aw] at hE3
 refine ⟨(v702+1,(row4.set x2.toNat true)),od,⟨od,by (try dsimp only)<;>(first|exact hq3|(simp only [List.length_set];exact hq3)),hE3⟩,?_⟩
 exact ⟨[0,1,2],⟨by decide,rfl,(A0.cons kr (A0.cons (Az (fun _=>rfl) (e:=4) (k:=1) (A:=AV.b) (xs:=(row4.set x2.toNat true)) rfl rfl) (A0.cons (Az (fun _=>rfl) (e:=9) (k:=1) (A:=AV.s) (xs:=(Ci [(s'.graph.edges.getD x2.toNat default).ins,(s'.graph.edges.getD x2.toNat default).implicit])) rfl rfl) A0.nil))),(Af.cons (AE.f kr) (Af.cons (AE.f kr) (Ee (Ee (Ee (Ee (Af.cons (AE.f kr) (Ee (Ee Af.nil)))))))))⟩,Ar⟩
 have hc3:decide (((v702:Nat):Int)<((((Ci [(s'.graph.edges.getD x2.toNat default).ins,(s'.graph.edges.getD x2.toNat default).implicit]).length):Nat):Int))=false:=decide_eq_false (by omega)
 refine A4.cond (t:=false) (by rw [←hc3]<;>kernel_rfl) (A4.exit ?_)
 rw [List.drop_eq_nil_of_le (by first|(simpa using hl3)|omega),GF.eq_1] at hE3
 subst hE3
 refine Rg<|Ap (Ai (v50+1)) (AA (i:=v50) (m:=1) kr kr sd)<|Aq (Ai (v50+1))<|Ad ?_
 try simp only [hR3,Aw] at hE2
 refine ⟨(v50+1,row4),od,⟨od,by (try dsimp only)<;>(exact hq3),hE2⟩,?_⟩
 exact ⟨[0,1],⟨by decide,rfl,(A0.cons kr (A0.cons (Az (fun _=>rfl) (e:=4) (k:=1) (A:=AV.b) (xs:=row4) rfl rfl) A0.nil)),(Af.cons (AE.f kr) (Af.cons (AE.f kr) (Ee (Ee (Ee Af.nil)))))⟩,Ar⟩
 have hc2:decide (((v50:Nat):Int)<((((DQ (⟨s'.graph.edges,s'.graph.pools,s'.graph.defaults⟩:A3)).1).length:Nat):Int))=false:=decide_eq_false (by omega)
 refine A4.cond (t:=false) (by rw [←hc2]<;>kernel_rfl) (A4.exit ?_)
 rw [List.drop_eq_nil_of_le (hl2),JJ.eq_1] at hE2
 subst hE2
 refine Sq<|Rg<|Aq (AV.own 1 0 s'.graph.edges.length)<|Aq (AV.own 1 0 s'.graph.edges.length)<|Aq (AV.i .i64 (0:Int))<|Ad<|Rt ?_
 have hM:D0 s'=(row2,(0:Int)):=by simp only [D0,c_1,hR1,hR2,Aw]
 refine ⟨Or.inr rfl,?_⟩
 rw [hM]
 exact AE.cast (x':=(AV.tup [(AV.own 1 0 s'.graph.edges.length),(AV.i .i64 (0:Int))])) (y':=(AV.tup [((Ag 1 AV.b) ((row2,(0:Int)).1)),(AV.i .i64 ((row2,(0:Int)).2))])) kr kr (AE.tup ⟨(Dk.kk (x':=(AV.own 1 0 s'.graph.edges.length)) kr kr rfl (Al.row (fun _=>rfl) (A:=AV.b) (id:=1) (e:=4) (k:=1) (xs:=row2) rfl rfl sd sd)),⟨Ec,trivial⟩⟩ kr)
 refine Ct<|Sq<|Rg<|Aq (AV.sl 1 true [])<|Aq (AV.i .i64 (1900:Int))<|Ad<|Rt ?_
 have hM:D0 s'=(([]:List Bool),(1900:Int)):=by simp only [D0,c_1,Aw]
 refine ⟨Or.inr rfl,?_⟩
 rw [hM]
 exact AE.cast (x':=(AV.tup [(AV.sl 1 true []),(AV.i .i64 (1900:Int))])) (y':=(AV.tup [((Ag 1 AV.b) ((([]:List Bool),(1900:Int)).1)),(AV.i .i64 ((([]:List Bool),(1900:Int)).2))])) kr kr (AE.tup ⟨(AE.w rfl (AP.nil 1)),⟨Ec,trivial⟩⟩ kr)
def BH (s':A7):Obj:=⟨35,11,[(A7.av s')]⟩
def GY (s':A7):AV:=(AV.i .i64 ((DQ (⟨s'.graph.edges,s'.graph.pools,s'.graph.defaults⟩:A3)).2))
def Ch (s':A7):AV:=((Ag 1 (AV.i .i64)) ((DQ (⟨s'.graph.edges,s'.graph.pools,s'.graph.defaults⟩:A3)).1))
def JC (s':A7):AV:=(AV.st [((Ag 7 A8.av) s'.graph.edges),((Ag 2 AD.av) s'.graph.pools),((Ag 1 AV.s) s'.graph.defaults)])
def Fa (s':A7):AV:=(AV.i .i64 ((((DQ (⟨s'.graph.edges,s'.graph.pools,s'.graph.defaults⟩:A3)).1).length:Nat):Int))
def JB (s':A7):AV:=(AV.tup [(Ch s'),(GY s')])
theorem SW (W:World) {m0:Int} (hW:W.cell? ⟨0,0,none⟩=some (.int .i64 m0)) (s':A7) (hz:s'.sz≤1048576) (hne0:(D0 s').1≠ []):Ah Go.Proofs.Tryz.prog W 19 [(A7.av s')] (AV.tup [(AV.own 0 0 (((D0 s').1).length)),(AV.i .i64 ((D0 s').2))]) [⟨4,1,((D0 s').1).map AV.b⟩]:=by
 have hzg:=s'.sz_graph
 have hgl:=Nat.le_trans s'.graph.sz_len (Nat.le_trans s'.sz_graph hz)
 refine QJ (fn:=Go.Proofs.Tryz.f19) Go.Proofs.Tryz.func19 rfl (en19 W) (ts:=[2,3]) rfl le<|Sq<|Rg<|Nn (AV.loc 0 0 0) (BH s')<|Aq (AV.sl 1 true [])<|Aq (AV.i .i64 (0:Int))<|Ad<|Sq<|Sq<|Rg<|A1.sfw (vs:=[(AV.loc 0 0 0)]) (ss:=[(AV.pt (A7.av s').cells)]) (r0:=(AV.b (De s'))) kr (show Bc _ _ _ from ⟨(Al.w (Al.cast (x':=(AV.loc 0 0 0)) kr kr (Ce A7.av s' (id:=0) rfl rfl kr))),trivial⟩) (Kw W hW s' sd) rfl kr le<|Aq (AV.b (!(De s')))<|Ad ?_
 cases c_1:(!(De s'))
 refine Cf<|A4.skip<|Sq<|Rg<|Aq (AV.loc 0 0 0)<|Aq (AV.loc 0 0 0)<|Aq ((Ag 7 A8.av) s'.graph.edges)<|Ap (Ai s'.graph.edges.length) (AN (k:=7) (nl:=false) (e:=65) (A:=A8.av) (xs:=s'.graph.edges) kr kr)<|A1.sn (x:=(AV.own 1 0 s'.graph.edges.length)) (h':=⟨2,[(1,some ⟨4,1,(List.replicate s'.graph.edges.length false).map AV.b⟩),(0,some (BH s'))]⟩) (Pj (e:=4) (i:=Iy) (A:=AV.b) (z:=false) (n:=s'.graph.edges.length) kr kr kr kr ⟨by decide,by kernel_rfl⟩ kr (by show _*1≤140737488355328;first|omega|(simp only [List.length_append,List.length_cons,List.length_nil,List.length_set,List.length_replicate];omega)|(simp;omega)) sd) le<|Aq (AV.own 1 0 s'.graph.edges.length)<|Ad<|Sq<|Sq<|Rg<|Aq (AV.own 1 0 s'.graph.edges.length)<|Aq (Ai s'.graph.edges.length)<|Aq (AV.i .i64 (0:Int))<|Ad<|A4.block ?_
 have hB1:s'.graph.edges.length≤281474976710656:=by first|omega|(simp;done)|(simp;omega)
 obtain ⟨R1,hR1⟩: ∃R,KW s' (List.replicate s'.graph.edges.length false) 0 (List.replicate s'.graph.edges.length false)=R:=⟨_,rfl⟩
 refine Av (fun ((v25,row):Nat×(List Bool))=>[(1,(AV.loc 0 0 0)),(4,(AV.own 1 0 s'.graph.edges.length)),(24,(Ai s'.graph.edges.length)),(25,(Ai v25))]) (fun ((v25,row):Nat×(List Bool))=>⟨2,[(0,some (BH s')),(1,some ⟨4,1,row.map AV.b⟩)]⟩) (fun ((v25,row):Nat×(List Bool))=>v25≤s'.graph.edges.length∧row.length=s'.graph.edges.length∧KW s' ((List.replicate s'.graph.edges.length false).drop v25) v25 row=R1) (fun ((v25,row):Nat×(List Bool))=>s'.graph.edges.length-v25) (0,(List.replicate s'.graph.edges.length false)) ?_ ?_ ?_
 exact ⟨[0,1],⟨by decide,rfl,(A0.cons kr (A0.cons (Az (fun _=>rfl) (e:=4) (k:=1) (A:=AV.b) (xs:=(List.replicate s'.graph.edges.length false)) rfl rfl) A0.nil)),(Af.cons (AE.f kr) (Af.cons (AE.f kr) (Ee (Ee Af.nil))))⟩,Ar⟩
 exact ⟨od,by (try dsimp only)<;>(simp),hR1⟩
 rintro ⟨v25,row⟩ ⟨hi1,hq,hE1⟩
 try dsimp only
 refine Sq<|Rg<|Aq (AV.b (decide (((v25:Nat):Int)<((s'.graph.edges.length:Nat):Int))))<|Ad<|Sq ?_
 rcases Nat.lt_or_ge v25 s'.graph.edges.length with hl1|hl1
 have hc1:decide (((v25:Nat):Int)<((s'.graph.edges.length:Nat):Int))=true:=decide_eq_true (by omega)
 refine A4.cond (t:=true) (by rw [←hc1]<;>kernel_rfl) (A4.skip ?_)
 obtain ⟨x1,hx1⟩: ∃x,(List.replicate s'.graph.edges.length false)[v25]? =some x:=⟨_,List.getElem?_eq_getElem (by first|(simpa using hl1)|omega)⟩
 rw [AB hx1,KW.eq_2] at hE1
 refine Sq<|A4.block<|Sq<|Rg<|Aq (Ai v25)<|Aq (Ai v25)<|Ad<|Sq<|Rg<|Aq (A7.av s')<|Aq (Ai v25)<|A1.sc0 (vs:=[(A7.av s'),(Ai v25)]) (r0:=(AV.tup [(AV.b ((C0 s' ((v25:Nat):Int)).1)),(AV.i .i64 ((C0 s' ((v25:Nat):Int)).2))])) kr kr (Ft W hW s' ((v25:Nat):Int) hz) kr le<|Aq (AV.tup [(AV.b ((C0 s' ((v25:Nat):Int)).1)),(AV.i .i64 ((C0 s' ((v25:Nat):Int)).2))])<|Aq (AV.b ((C0 s' ((v25:Nat):Int)).1))<|Aq (AV.i .i64 ((C0 s' ((v25:Nat):Int)).2))<|Aq (AV.b ((C0 s' ((v25:Nat):Int)).1))<|Aq (AV.i .i64 ((C0 s' ((v25:Nat):Int)).2))<|Ad<|Sq<|Sq<|Rg<|Aq (AV.i .i64 ((C0 s' ((v25:Nat):Int)).2))<|Aq (AV.b (!decide ((C0 s' ((v25:Nat):Int)).2=(0:Int))))<|Ad ?_
 cases c_2:(!decide ((C0 s' ((v25:Nat):Int)).2=(0:Int)))
 have k_2:=LI c_2
 refine Cf<|A4.skip<|Rg<|Aq (AV.own 1 0 s'.graph.edges.length)<|Aq (Ai v25)<|Aq (AV.b ((C0 s' ((v25:Nat):Int)).1))<|Ap (AV.loc 1 v25 0) (Ge (e:=4) (id:=1) (len:=s'.graph.edges.length) (kk:= .i64) (ob:=⟨4,1,row.map AV.b⟩) (i:=v25) kr kr kr rfl kr sd)<|A1.st (x:=AV.und) (h':=⟨2,[(0,some (BH s')),(1,some ⟨4,1,(row.set v25 ((C0 s' ((v25:Nat):Int)).1)).map AV.b⟩)]⟩) (L9 (e:=4) (k:=1) (i:=Iy) (id:=1) (A:=AV.b) (xs:=row) (y:=((C0 s' ((v25:Nat):Int)).1)) (j:=v25) kr kr kr rfl sd (fun _=>rfl) kr (fun _=>rfl) (fun _=>rfl))<|Ad<|Rg<|Ap (Ai (v25+1)) (AA (i:=v25) (m:=1) kr kr sd)<|Aq (Ai (v25+1))<|Ad ?_
 try simp only [c_2,Aw] at hE1
 refine ⟨(v25+1,(row.set v25 ((C0 s' ((v25:Nat):Int)).1))),od,⟨od,by (try dsimp only)<;>(simp only [List.length_set];exact hq),hE1⟩,?_⟩
 exact ⟨[0,1],⟨by decide,rfl,(A0.cons kr (A0.cons (Az (fun _=>rfl) (e:=4) (k:=1) (A:=AV.b) (xs:=(row.set v25 ((C0 s' ((v25:Nat):Int)).1))) rfl rfl) A0.nil)),(Af.cons (AE.f kr) (Af.cons (AE.f kr) (Ee (Ee Af.nil))))⟩,Ar⟩
 have k_2:=LJ c_2
 refine Ct<|Sq<|Rg<|Aq (AV.i .i64 ((C0 s' ((v25:Nat):Int)).2))<|Aq (AV.sl 1 true [])<|Aq (AV.i .i64 ((C0 s' ((v25:Nat):Int)).2))<|Ad<|Rt ?_
 try simp only [c_2,Aw] at hE1
 subst hE1
 have hM:D0 s'=(([]:List Bool),(C0 s' ((v25:Nat):Int)).2):=by simp only [D0,c_1,hR1,Aw]
 exact absurd (by rw [hM]) hne0
 have hc1:decide (((v25:Nat):Int)<((s'.graph.edges.length:Nat):Int))=false:=decide_eq_false (by omega)
 refine A4.cond (t:=false) (by rw [←hc1]<;>kernel_rfl) (A4.exit ?_)
 rw [List.drop_eq_nil_of_le (by first|(simpa using hl1)|omega),KW.eq_1] at hE1
 subst hE1
 refine Sq<|Rg<|Aq (AV.loc 0 0 0)<|Aq (JC s')<|A1.sc0 (vs:=[(JC s')]) (r0:=(JB s')) kr kr (LT W hW (⟨s'.graph.edges,s'.graph.pools,s'.graph.defaults⟩:A3) (Nat.le_trans s'.sz_graph hz)) kr le<|Aq (JB s')<|Aq (Ch s')<|Aq (GY s')<|Aq (Ch s')<|Aq (GY s')<|Ad<|Sq<|Sq<|Rg<|Aq (Ch s')<|Ap (Fa s') (AN (k:=1) (nl:=false) (e:=3) (A:=(AV.i .i64)) (xs:=((DQ (⟨s'.graph.edges,s'.graph.pools,s'.graph.defaults⟩:A3)).1)) kr kr) ?_
 refine Aq (AV.i .i64 (0:Int))<|Ad<|A4.block<|A4.lim 46 (x:=(Ch s')) kr fun hlm2=> ?_
 have hB2:((DQ (⟨s'.graph.edges,s'.graph.pools,s'.graph.defaults⟩:A3)).1).length≤281474976710656:=AX hlm2
 obtain ⟨R2,hR2⟩: ∃R,JJ s' ((DQ (⟨s'.graph.edges,s'.graph.pools,s'.graph.defaults⟩:A3)).1) 0 row=R:=⟨_,rfl⟩
 refine Av (fun ((v50,row2):Nat×(List Bool))=>[(1,(AV.loc 0 0 0)),(4,(AV.own 1 0 s'.graph.edges.length)),(48,(Ch s')),(49,(Fa s')),(50,(Ai v50))]) (fun ((v50,row2):Nat×(List Bool))=>⟨2,[(0,some (BH s')),(1,some ⟨4,1,row2.map AV.b⟩)]⟩) (fun ((v50,row2):Nat×(List Bool))=>v50≤((DQ (⟨s'.graph.edges,s'.graph.pools,s'.graph.defaults⟩:A3)).1).length∧row2.length=s'.graph.edges.length∧JJ s' (((DQ (⟨s'.graph.edges,s'.graph.pools,s'.graph.defaults⟩:A3)).1).drop v50) v50 row2=R2) (fun ((v50,row2):Nat×(List Bool))=>((DQ (⟨s'.graph.edges,s'.graph.pools,s'.graph.defaults⟩:A3)).1).length-v50) (0,row) ?_ ?_ ?_
 exact ⟨[0,1],⟨by decide,rfl,(A0.cons kr (A0.cons (Az (fun _=>rfl) (e:=4) (k:=1) (A:=AV.b) (xs:=row) rfl rfl) A0.nil)),(Af.cons (AE.f kr) (Af.cons (AE.f kr) (Ee (Ee (Ee Af.nil)))))⟩,Ar⟩
 exact ⟨od,by (try dsimp only)<;>(exact hq),hR2⟩
 rintro ⟨v50,row2⟩ ⟨hi2,hq2,hE2⟩
 try dsimp only
 refine Sq<|Rg<|Aq (AV.b (decide (((v50:Nat):Int)<((((DQ (⟨s'.graph.edges,s'.graph.pools,s'.graph.defaults⟩:A3)).1).length:Nat):Int))))<|Ad<|Sq ?_
 rcases Nat.lt_or_ge v50 ((DQ (⟨s'.graph.edges,s'.graph.pools,s'.graph.defaults⟩:A3)).1).length with hl2|hl2
 have hc2:decide (((v50:Nat):Int)<((((DQ (⟨s'.graph.edges,s'.graph.pools,s'.graph.defaults⟩:A3)).1).length:Nat):Int))=true:=decide_eq_true (by omega)
 refine A4.cond (t:=true) (by rw [←hc2]<;>kernel_rfl) (A4.skip ?_)
 obtain ⟨x2,hx2⟩: ∃x,((DQ (⟨s'.graph.edges,s'.graph.pools,s'.graph.defaults⟩:A3)).1)[v50]? =some x:=⟨_,List.getElem?_eq_getElem hl2⟩
 rw [AB hx2,JJ.eq_2] at hE2
 have ha:=P8 hz (by assumption) (List.mem_of_getElem? hx2)
 have hcl:(Ci [(s'.graph.edges.getD x2.toNat default).ins,(s'.graph.edges.getD x2.toNat default).implicit]).length≤1048576:=by rw [Gd];simp only [List.flatten_cons,List.flatten_nil,List.append_nil,List.length_append];omega
 refine Sq<|A4.block<|Sq<|Rg<|Ap (AV.pt ((AV.i .i64) x2).cells) (AQ (k:=1) (nl:=false) (e:=3) (kk:= .i64) (A:=(AV.i .i64)) (xs:=((DQ (⟨s'.graph.edges,s'.graph.pools,s'.graph.defaults⟩:A3)).1)) (i:=v50) kr kr kr ⟨by kernel_rfl,by decide⟩ hx2)<|Aq (AV.i .i64 x2)<|Aq (AV.i .i64 x2)<|Ad<|Sq<|Rg<|Aq (AV.loc 0 0 0)<|Aq (AV.loc 0 0 0)<|Aq ((Ag 7 A8.av) s'.graph.edges)<|Aq (AV.i .i64 x2)<|Ap (AV.pt (A8.av (s'.graph.edges.getD x2.toNat default)).cells) (Ei (k:=7) (nl:=false) (e:=65) (kk:= .i64) (A:=A8.av) (xs:=s'.graph.edges) (n:=x2) kr kr kr ⟨by kernel_rfl,by decide⟩ sd (getD_some sd))<|Aq (AV.pt (A8.av (s'.graph.edges.getD x2.toNat default)).cells)<|Ad<|Sq<|A4.drawn A5 C9 12 kr le<|Dq (AV.pt (A8.av (s'.graph.edges.getD x2.toNat default)).cells)<|Dq (AV.pt (A8.av (s'.graph.edges.getD x2.toNat default)).cells)<|Dq (AV.pt ((A8.av (s'.graph.edges.getD x2.toNat default)).cells.drop 1))<|Dq ((Ag 1 AV.s) ((s'.graph.edges.getD x2.toNat default).ins))<|Dq (AV.pt (A8.av (s'.graph.edges.getD x2.toNat default)).cells)<|Dq (AV.pt (A8.av (s'.graph.edges.getD x2.toNat default)).cells)<|Dq (AV.pt ((A8.av (s'.graph.edges.getD x2.toNat default)).cells.drop 2))<|Dq ((Ag 1 AV.s) ((s'.graph.edges.getD x2.toNat default).implicit))<|As.sn (x:=(AV.own 2 0 2)) (h':=⟨3,[(2,some ⟨24,1,[(s'.graph.edges.getD x2.toNat default).ins,(s'.graph.edges.getD x2.toNat default).implicit].map (Ag 1 AV.s)⟩),(0,some (BH s')),(1,some ⟨4,1,row2.map AV.b⟩)]⟩) kr le ?_
 by_cases z_3:(Ci [(s'.graph.edges.getD x2.toNat default).ins,(s'.graph.edges.getD x2.toNat default).implicit])=[]
 refine As.sfw (vs:=[(AV.own 2 0 2)]) (ss:=[((Ag 1 (Ag 1 AV.s)) [(s'.graph.edges.getD x2.toNat default).ins,(s'.graph.edges.getD x2.toNat default).implicit])]) (r0:=((Ag 1 AV.s) ([]:List ByteArray))) kr (show Bc _ _ _ from ⟨(Al.w (Al.cast (x':=(AV.own 2 0 2)) kr kr (Al.row (fun _=>rfl) (A:=(Ag 1 AV.s)) (id:=2) (e:=24) (k:=1) (xs:=[(s'.graph.edges.getD x2.toNat default).ins,(s'.graph.edges.getD x2.toNat default).implicit]) rfl rfl sd sd))),trivial⟩) (by rw [←show (Ci [(s'.graph.edges.getD x2.toNat default).ins,(s'.graph.edges.getD x2.toNat default).implicit])=[] from z_3];exact (BQ W [(s'.graph.edges.getD x2.toNat default).ins,(s'.graph.edges.getD x2.toNat default).implicit] (by simp only [List.flatten_cons,List.flatten_nil,List.append_nil,List.length_append];omega))) rfl kr le<|Dp (AV.i .i64 ((([]:List ByteArray).length:Nat):Int)) (AN (k:=1) (nl:=false) (e:=9) (A:=AV.s) (xs:=([]:List ByteArray)) kr kr)<|Dq (AV.i .i64 (0:Int))<|As.fin<|A4.block<|A4.lim 68 (x:=((Ag 1 AV.s) ([]:List ByteArray))) kr fun hlm3=> ?_
 have hB3:([]:List ByteArray).length≤281474976710656:=AX hlm3
 obtain ⟨R3,hR3⟩: ∃R,GF s' x2 ([]:List ByteArray) 0 row2=R:=⟨_,rfl⟩
 refine Av (fun ((v70,row3):Nat×(List Bool))=>[(1,(AV.loc 0 0 0)),(4,(AV.own 1 0 s'.graph.edges.length)),(11,(AV.i .i64 x2)),(48,(Ch s')),(49,(Fa s')),(50,(Ai v50)),(68,((Ag 1 AV.s) ([]:List ByteArray))),(69,(AV.i .i64 ((([]:List ByteArray).length:Nat):Int))),(70,(Ai v70))]) (fun ((v70,row3):Nat×(List Bool))=>⟨2,[(0,some (BH s')),(1,some ⟨4,1,row3.map AV.b⟩)]⟩) (fun ((v70,row3):Nat×(List Bool))=>v70≤([]:List ByteArray).length∧row3.length=s'.graph.edges.length∧GF s' x2 (([]:List ByteArray).drop v70) v70 row3=R3) (fun ((v70,row3):Nat×(List Bool))=>([]:List ByteArray).length-v70) (0,row2) ?_ ?_ ?_
 exact ⟨[0,1],⟨by decide,rfl,(A0.cons kr (A0.cons (Az (fun _=>rfl) (e:=4) (k:=1) (A:=AV.b) (xs:=row2) rfl rfl) A0.nil)),(Af.cons (AE.f kr) (Af.cons (AE.f kr) (Ee (Ee (Ee (Ee (Ee (Ee (Ee Af.nil)))))))))⟩,Ar⟩
 exact ⟨od,by (try dsimp only)<;>(exact hq2),hR3⟩
 rintro ⟨v70,row3⟩ ⟨hi3,hq3,hE3⟩
 try dsimp only
 refine Sq<|Rg<|Aq (AV.b (decide (((v70:Nat):Int)<((([]:List ByteArray).length:Nat):Int))))<|Ad<|Sq ?_
 rcases Nat.lt_or_ge v70 ([]:List ByteArray).length with hl3|hl3
 have hc3:decide (((v70:Nat):Int)<((([]:List ByteArray).length:Nat):Int))=true:=decide_eq_true (by omega)
 refine A4.cond (t:=true) (by rw [←hc3]<;>kernel_rfl) (A4.skip ?_)
 obtain ⟨x3,hx3⟩: ∃x,([]:List ByteArray)[v70]? =some x:=⟨_,List.getElem?_eq_getElem hl3⟩
 rw [AB hx3,GF.eq_2] at hE3
 have hmk:=Mr s'.graph x3
 refine Sq<|A4.block<|Sq<|Rg<|Ap (AV.pt (AV.s x3).cells) (AQ (k:=1) (nl:=false) (e:=9) (kk:= .i64) (A:=AV.s) (xs:=([]:List ByteArray)) (i:=v70) kr kr kr ⟨by kernel_rfl,by decide⟩ hx3)<|Aq (AV.s x3)<|Aq (AV.s x3)<|Ad<|Sq<|Rg<|Aq (AV.loc 0 0 0)<|Aq (AV.s x3)<|A1.sfw (vs:=[(AV.loc 0 0 0),(AV.s x3)]) (ss:=[(AV.pt (A3.av s'.graph).cells),(AV.s x3)]) (r0:=(AV.i .i64 (CO s'.graph x3))) kr (show Bc _ _ _ from ⟨(Al.w (Al.cast (x':=(AV.loc 0 0 0)) kr kr (Al.wk (y':=(AV.pt (A3.av s'.graph).cells)) (Ce A7.av s' (id:=0) rfl rfl kr) (IC 3 kr)))),⟨(Bc.e kr),trivial⟩⟩) (DZ W s'.graph x3) rfl kr le<|Aq (AV.i .i64 (CO s'.graph x3))<|Ad<|Sq<|Rg<|Aq (AV.i .i64 (CO s'.graph x3))<|Aq (AV.b (decide ((0:Int)≤(CO s'.graph x3))))<|Aq (AV.b (decide ((0:Int)≤(CO s'.graph x3)))) ?_
 cases c_4:decide ((0:Int)≤(CO s'.graph x3))
 have k_4:=of_decide_eq_false c_4
 refine An<|An<|An<|An<|Aq (AV.b false)<|Ad<|Cf<|A4.skip<|Rg<|Ap (Ai (v70+1)) (AA (i:=v70) (m:=1) kr kr sd)<|Aq (Ai (v70+1))<|Ad ?_
 try simp only [c_4,Aw] at hE3
 refine ⟨(v70+1,row3),od,⟨od,by (try dsimp only)<;>(first|exact hq3|(simp only [List.length_set];exact hq3)),hE3⟩,?_⟩
 exact ⟨[0,1],⟨by decide,rfl,(A0.cons kr (A0.cons (Az (fun _=>rfl) (e:=4) (k:=1) (A:=AV.b) (xs:=row3) rfl rfl) A0.nil)),(Af.cons (AE.f kr) (Af.cons (AE.f kr) (Ee (Ee (Ee (Ee (Ee (Ee (Ee Af.nil)))))))))⟩,Ar⟩
 have k_4:=of_decide_eq_true c_4
 refine Ay<|Aq (AV.own 1 0 s'.graph.edges.length)<|Ay<|Aq (AV.i .i64 (CO s'.graph x3))<|Ay<|Ap (AV.loc 1 ((CO s'.graph x3).toNat) 0) (Ex (e:=4) (id:=1) (len:=s'.graph.edges.length) (kk:= .i64) (ob:=⟨4,1,row3.map AV.b⟩) (n:=(CO s'.graph x3)) kr kr kr rfl kr sd sd)<|Ay<|Ap (AV.b (row3.getD ((CO s'.graph x3).toNat) default)) (Dg (e:=4) (k:=1) (i:=Iy) (id:=1) (xs:=row3) (A:=AV.b) (j:=(CO s'.graph x3).toNat) kr kr rfl (getD_some sd) kr)<|Aq (AV.b (row3.getD ((CO s'.graph x3).toNat) default))<|Ad ?_
 cases c_5:(row3.getD ((CO s'.graph x3).toNat) default)
 refine Cf<|A4.skip<|Rg<|Ap (Ai (v70+1)) (AA (i:=v70) (m:=1) kr kr sd)<|Aq (Ai (v70+1))<|Ad ?_
 try simp only [c_4,c_5,Aw] at hE3
 refine ⟨(v70+1,row3),od,⟨od,by (try dsimp only)<;>(first|exact hq3|(simp only [List.length_set];exact hq3)),hE3⟩,?_⟩
 exact ⟨[0,1],⟨by decide,rfl,(A0.cons kr (A0.cons (Az (fun _=>rfl) (e:=4) (k:=1) (A:=AV.b) (xs:=row3) rfl rfl) A0.nil)),(Af.cons (AE.f kr) (Af.cons (AE.f kr) (Ee (Ee (Ee (Ee (Ee (Ee (Ee Af.nil)))))))))⟩,Ar⟩
 refine Ct<|Rg<|Aq (AV.own 1 0 s'.graph.edges.length)<|Aq (AV.i .i64 x2)<|Ap (AV.loc 1 x2.toNat 0) (Ex (e:=4) (id:=1) (len:=s'.graph.edges.length) (kk:= .i64) (ob:=⟨4,1,row3.map AV.b⟩) (n:=x2) kr kr kr rfl kr sd sd)<|A1.st (x:=AV.und) (h':=⟨2,[(0,some (BH s')),(1,some ⟨4,1,(row3.set x2.toNat true).map AV.b⟩)]⟩) (L9 (e:=4) (k:=1) (i:=Iy) (id:=1) (A:=AV.b) (xs:=row3) (y:=true) (j:=x2.toNat) kr kr kr rfl sd (fun _=>rfl) kr (fun _=>rfl) (fun _=>rfl))<|Ad<|Rg<|Ap (Ai (v70+1)) (AA (i:=v70) (m:=1) kr kr sd)<|Aq (Ai (v70+1))<|Ad ?_
 try simp only [c_4,c_5,Aw] at hE3
 refine ⟨(v70+1,(row3.set x2.toNat true)),od,⟨od,by (try dsimp only)<;>(first|exact hq3|(simp only [List.length_set];exact hq3)),hE3⟩,?_⟩
 exact ⟨[0,1],⟨by decide,rfl,(A0.cons kr (A0.cons (Az (fun _=>rfl) (e:=4) (k:=1) (A:=AV.b) (xs:=(row3.set x2.toNat true)) rfl rfl) A0.nil)),(Af.cons (AE.f kr) (Af.cons (AE.f kr) (Ee (Ee (Ee (Ee (Ee (Ee (Ee Af.nil)))))))))⟩,Ar⟩
 have hc3:decide (((v70:Nat):Int)<((([]:List ByteArray).length:Nat):Int))=false:=decide_eq_false (by omega)
 refine A4.cond (t:=false) (by rw [←hc3]<;>kernel_rfl) (A4.exit ?_)
 rw [List.drop_eq_nil_of_le (hl3),GF.eq_1] at hE3
 subst hE3
 refine Rg<|Ap (Ai (v50+1)) (AA (i:=v50) (m:=1) kr kr sd)<|Aq (Ai (v50+1))<|Ad ?_
 try simp only [z_3,hR3,Aw] at hE2
 refine ⟨(v50+1,row3),od,⟨od,by (try dsimp only)<;>(exact hq3),hE2⟩,?_⟩
 exact ⟨[0,1],⟨by decide,rfl,(A0.cons kr (A0.cons (Az (fun _=>rfl) (e:=4) (k:=1) (A:=AV.b) (xs:=row3) rfl rfl) A0.nil)),(Af.cons (AE.f kr) (Af.cons (AE.f kr) (Ee (Ee (Ee Af.nil)))))⟩,Ar⟩
 refine KC (A:=AV.s) (xs:=(Ci [(s'.graph.edges.getD x2.toNat default).ins,(s'.graph.edges.getD x2.toNat default).implicit])) (vs:=[(AV.own 2 0 2)]) (ss:=[((Ag 1 (Ag 1 AV.s)) [(s'.graph.edges.getD x2.toNat default).ins,(s'.graph.edges.getD x2.toNat default).implicit])]) kr (show Bc _ _ _ from ⟨(Al.w (Al.cast (x':=(AV.own 2 0 2)) kr kr (Al.row (fun _=>rfl) (A:=(Ag 1 AV.s)) (id:=2) (e:=24) (k:=1) (xs:=[(s'.graph.edges.getD x2.toNat default).ins,(s'.graph.edges.getD x2.toNat default).implicit]) rfl rfl sd sd))),trivial⟩) (BI W [(s'.graph.edges.getD x2.toNat default).ins,(s'.graph.edges.getD x2.toNat default).implicit] (by simp only [List.flatten_cons,List.flatten_nil,List.append_nil,List.length_append];omega) z_3) (fun _=>rfl) (fun _=>rfl) le<|Dq (AV.i .i64 (((Ci [(s'.graph.edges.getD x2.toNat default).ins,(s'.graph.edges.getD x2.toNat default).implicit]).length:Nat):Int))<|Dq (AV.i .i64 (0:Int))<|As.fin<|A4.block ?_
 have hB3:((Ci [(s'.graph.edges.getD x2.toNat default).ins,(s'.graph.edges.getD x2.toNat default).implicit]).length)≤281474976710656:=by first|omega|(simp;done)|(simp;omega)
 obtain ⟨R3,hR3⟩: ∃R,GF s' x2 (Ci [(s'.graph.edges.getD x2.toNat default).ins,(s'.graph.edges.getD x2.toNat default).implicit]) 0 row2=R:=⟨_,rfl⟩
 refine Av (fun ((v702,row4):Nat×(List Bool))=>[(1,(AV.loc 0 0 0)),(4,(AV.own 1 0 s'.graph.edges.length)),(11,(AV.i .i64 x2)),(48,(Ch s')),(49,(Fa s')),(50,(Ai v50)),(68,(AV.own 2 0 ((Ci [(s'.graph.edges.getD x2.toNat default).ins,(s'.graph.edges.getD x2.toNat default).implicit]).length))),(69,(AV.i .i64 (((Ci [(s'.graph.edges.getD x2.toNat default).ins,(s'.graph.edges.getD x2.toNat default).implicit]).length:Nat):Int))),(70,(Ai v702))]) (fun ((v702,row4):Nat×(List Bool))=>⟨3,[(0,some (BH s')),(1,some ⟨4,1,row4.map AV.b⟩),(2,some ⟨9,1,(Ci [(s'.graph.edges.getD x2.toNat default).ins,(s'.graph.edges.getD x2.toNat default).implicit]).map AV.s⟩)]⟩) (fun ((v702,row4):Nat×(List Bool))=>v702≤((Ci [(s'.graph.edges.getD x2.toNat default).ins,(s'.graph.edges.getD x2.toNat default).implicit]).length)∧row4.length=s'.graph.edges.length∧GF s' x2 ((Ci [(s'.graph.edges.getD x2.toNat default).ins,(s'.graph.edges.getD x2.toNat default).implicit]).drop v702) v702 row4=R3) (fun ((v702,row4):Nat×(List Bool))=>((Ci [(s'.graph.edges.getD x2.toNat default).ins,(s'.graph.edges.getD x2.toNat default).implicit]).length)-v702) (0,row2) ?_ ?_ ?_
 exact ⟨[0,1,3],⟨by decide,rfl,(A0.cons kr (A0.cons (Az (fun _=>rfl) (e:=4) (k:=1) (A:=AV.b) (xs:=row2) rfl rfl) (A0.cons (Az (fun _=>rfl) (e:=9) (k:=1) (A:=AV.s) (xs:=(Ci [(s'.graph.edges.getD x2.toNat default).ins,(s'.graph.edges.getD x2.toNat default).implicit])) rfl rfl) A0.nil))),(Af.cons (AE.f kr) (Af.cons (AE.f kr) (Ee (Ee (Ee (Ee (Af.cons (AE.f kr) (Ee (Ee Af.nil)))))))))⟩,Ar⟩
 exact ⟨od,by (try dsimp only)<;>(exact hq2),hR3⟩
 rintro ⟨v702,row4⟩ ⟨hi3,hq3,hE3⟩
 try dsimp only
 refine Sq<|Rg<|Aq (AV.b (decide (((v702:Nat):Int)<(((Ci [(s'.graph.edges.getD x2.toNat default).ins,(s'.graph.edges.getD x2.toNat default).implicit]).length:Nat):Int))))<|Ad<|Sq ?_
 rcases Nat.lt_or_ge v702 ((Ci [(s'.graph.edges.getD x2.toNat default).ins,(s'.graph.edges.getD x2.toNat default).implicit]).length) with hl3|hl3
 have hc3:decide (((v702:Nat):Int)<((((Ci [(s'.graph.edges.getD x2.toNat default).ins,(s'.graph.edges.getD x2.toNat default).implicit]).length):Nat):Int))=true:=decide_eq_true (by omega)
 refine A4.cond (t:=true) (by rw [←hc3]<;>kernel_rfl) (A4.skip ?_)
 obtain ⟨x32,hx3⟩: ∃x,(Ci [(s'.graph.edges.getD x2.toNat default).ins,(s'.graph.edges.getD x2.toNat default).implicit])[v702]? =some x:=⟨_,List.getElem?_eq_getElem (by first|(simpa using hl3)|omega)⟩
 rw [AB hx3,GF.eq_2] at hE3
 have hmk:=Mr s'.graph x32
 refine Sq<|A4.block<|Sq<|Rg<|Ap (AV.loc 2 v702 0) (Ge (e:=9) (id:=2) (len:=((Ci [(s'.graph.edges.getD x2.toNat default).ins,(s'.graph.edges.getD x2.toNat default).implicit]).length)) (kk:= .i64) (ob:=⟨9,1,(Ci [(s'.graph.edges.getD x2.toNat default).ins,(s'.graph.edges.getD x2.toNat default).implicit]).map AV.s⟩) (i:=v702) kr kr kr rfl kr sd)<|Ap (AV.s x32) (Dg (e:=9) (k:=1) (i:=DU) (id:=2) (xs:=(Ci [(s'.graph.edges.getD x2.toNat default).ins,(s'.graph.edges.getD x2.toNat default).implicit])) (A:=AV.s) (j:=v702) kr kr rfl hx3 kr)<|Aq (AV.s x32)<|Ad<|Sq<|Rg<|Aq (AV.loc 0 0 0)<|Aq (AV.s x32)<|A1.sfw (vs:=[(AV.loc 0 0 0),(AV.s x32)]) (ss:=[(AV.pt (A3.av s'.graph).cells),(AV.s x32)]) (r0:=(AV.i .i64 (CO s'.graph x32))) kr (show Bc _ _ _ from ⟨(Al.w (Al.cast (x':=(AV.loc 0 0 0)) kr kr (Al.wk (y':=(AV.pt (A3.av s'.graph).cells)) (Ce A7.av s' (id:=0) rfl rfl kr) (IC 3 kr)))),⟨(Bc.e kr),trivial⟩⟩) (DZ W s'.graph x32) rfl kr le<|Aq (AV.i .i64 (CO s'.graph x32))<|Ad<|Sq<|Rg<|Aq (AV.i .i64 (CO s'.graph x32))<|Aq (AV.b (decide ((0:Int)≤(CO s'.graph x32))))<|Aq (AV.b (decide ((0:Int)≤(CO s'.graph x32)))) ?_
 cases c_6:decide ((0:Int)≤(CO s'.graph x32))
 have k_6:=of_decide_eq_false c_6
 refine An<|An<|An<|An<|Aq (AV.b false)<|Ad<|Cf<|A4.skip<|Rg<|Ap (Ai (v702+1)) (AA (i:=v702) (m:=1) kr kr sd)<|Aq (Ai (v702+1))<|Ad ?_
 try simp only [c_6,Aw] at hE3
 refine ⟨(v702+1,row4),od,⟨od,by (try dsimp only)<;>(first|exact hq3|(simp only [List.length_set];exact hq3)),hE3⟩,?_⟩
 exact ⟨[0,1,2],⟨by decide,rfl,(A0.cons kr (A0.cons (Az (fun _=>rfl) (e:=4) (k:=1) (A:=AV.b) (xs:=row4) rfl rfl) (A0.cons (Az (fun _=>rfl) (e:=9) (k:=1) (A:=AV.s) (xs:=(Ci [(s'.graph.edges.getD x2.toNat default).ins,(s'.graph.edges.getD x2.toNat default).implicit])) rfl rfl) A0.nil))),(Af.cons (AE.f kr) (Af.cons (AE.f kr) (Ee (Ee (Ee (Ee (Af.cons (AE.f kr) (Ee (Ee Af.nil)))))))))⟩,Ar⟩
 have k_6:=of_decide_eq_true c_6
 refine Ay<|Aq (AV.own 1 0 s'.graph.edges.length)<|Ay<|Aq (AV.i .i64 (CO s'.graph x32))<|Ay<|Ap (AV.loc 1 ((CO s'.graph x32).toNat) 0) (Ex (e:=4) (id:=1) (len:=s'.graph.edges.length) (kk:= .i64) (ob:=⟨4,1,row4.map AV.b⟩) (n:=(CO s'.graph x32)) kr kr kr rfl kr sd sd)<|Ay<|Ap (AV.b (row4.getD ((CO s'.graph x32).toNat) default)) (Dg (e:=4) (k:=1) (i:=Iy) (id:=1) (xs:=row4) (A:=AV.b) (j:=(CO s'.graph x32).toNat) kr kr rfl (getD_some sd) kr)<|Aq (AV.b (row4.getD ((CO s'.graph x32).toNat) default))<|Ad ?_
 cases c_7:(row4.getD ((CO s'.graph x32).toNat) default)
 refine Cf<|A4.skip<|Rg<|Ap (Ai (v702+1)) (AA (i:=v702) (m:=1) kr kr sd)<|Aq (Ai (v702+1))<|Ad ?_
 try simp only [c_6,c_7,Aw] at hE3
 refine ⟨(v702+1,row4),od,⟨od,by (try dsimp only)<;>(first|exact hq3|(simp only [List.length_set];exact hq3)),hE3⟩,?_⟩
 exact ⟨[0,1,2],⟨by decide,rfl,(A0.cons kr (A0.cons (Az (fun _=>rfl) (e:=4) (k:=1) (A:=AV.b) (xs:=row4) rfl rfl) (A0.cons (Az (fun _=>rfl) (e:=9) (k:=1) (A:=AV.s) (xs:=(Ci [(s'.graph.edges.getD x2.toNat default).ins,(s'.graph.edges.getD x2.toNat default).implicit])) rfl rfl) A0.nil))),(Af.cons (AE.f kr) (Af.cons (AE.f kr) (Ee (Ee (Ee (Ee (Af.cons (AE.f kr) (Ee (Ee Af.nil)))))))))⟩,Ar⟩
 refine Ct<|Rg<|Aq (AV.own 1 0 s'.graph.edges.length)<|Aq (AV.i .i64 x2)<|Ap (AV.loc 1 x2.toNat 0) (Ex (e:=4) (id:=1) (len:=s'.graph.edges.length) (kk:= .i64) (ob:=⟨4,1,row4.map AV.b⟩) (n:=x2) kr kr kr rfl kr sd sd)<|A1.st (x:=AV.und) (h':=⟨3,[(0,some (BH s')),(1,some ⟨4,1,(row4.set x2.toNat true).map AV.b⟩),(2,some ⟨9,1,(Ci [(s'.graph.edges.getD x2.toNat default).ins,(s'.graph.edges.getD x2.toNat default).implicit]).map AV.s⟩)]⟩) (L9 (e:=4) (k:=1) (i:=Iy) (id:=1) (A:=AV.b) (xs:=row4) (y:=true) (j:=x2.toNat) kr kr kr rfl sd (fun _=>rfl) kr (fun _=>rfl) (fun _=>rfl))<|Ad<|Rg<|Ap (Ai (v702+1)) (AA (i:=v702) (m:=1) kr kr sd)<|Aq (Ai (v702+1))<|Ad ?_
 try simp only [c_6,c_7,Aw] at hE3
 refine ⟨(v702+1,(row4.set x2.toNat true)),od,⟨od,by (try dsimp only)<;>(first|exact hq3|(simp only [List.length_set];exact hq3)),hE3⟩,?_⟩
 exact ⟨[0,1,2],⟨by decide,rfl,(A0.cons kr (A0.cons (Az (fun _=>rfl) (e:=4) (k:=1) (A:=AV.b) (xs:=(row4.set x2.toNat true)) rfl rfl) (A0.cons (Az (fun _=>rfl) (e:=9) (k:=1) (A:=AV.s) (xs:=(Ci [(s'.graph.edges.getD x2.toNat default).ins,(s'.graph.edges.getD x2.toNat default).implicit])) rfl rfl) A0.nil))),(Af.cons (AE.f kr) (Af.cons (AE.f kr) (Ee (Ee (Ee (Ee (Af.cons (AE.f kr) (Ee (Ee Af.nil)))))))))⟩,Ar⟩
 have hc3:decide (((v702:Nat):Int)<((((Ci [(s'.graph.edges.getD x2.toNat default).ins,(s'.graph.edges.getD x2.toNat default).implicit]).length):Nat):Int))=false:=decide_eq_false (by omega)
 refine A4.cond (t:=false) (by rw [←hc3]<;>kernel_rfl) (A4.exit ?_)
 rw [List.drop_eq_nil_of_le (by first|(simpa using hl3)|omega),GF.eq_1] at hE3
 subst hE3
 refine Rg<|Ap (Ai (v50+1)) (AA (i:=v50) (m:=1) kr kr sd)<|Aq (Ai (v50+1))<|Ad ?_
 try simp only [hR3,Aw] at hE2
 refine ⟨(v50+1,row4),od,⟨od,by (try dsimp only)<;>(exact hq3),hE2⟩,?_⟩
 exact ⟨[0,1],⟨by decide,rfl,(A0.cons kr (A0.cons (Az (fun _=>rfl) (e:=4) (k:=1) (A:=AV.b) (xs:=row4) rfl rfl) A0.nil)),(Af.cons (AE.f kr) (Af.cons (AE.f kr) (Ee (Ee (Ee Af.nil)))))⟩,Ar⟩
 have hc2:decide (((v50:Nat):Int)<((((DQ (⟨s'.graph.edges,s'.graph.pools,s'.graph.defaults⟩:A3)).1).length:Nat):Int))=false:=decide_eq_false (by omega)
 refine A4.cond (t:=false) (by rw [←hc2]<;>kernel_rfl) (A4.exit ?_)
 rw [List.drop_eq_nil_of_le (hl2),JJ.eq_1] at hE2
 subst hE2
 refine Sq<|Rg<|Aq (AV.own 1 0 s'.graph.edges.length)<|Aq (AV.own 1 0 s'.graph.edges.length)<|Aq (AV.i .i64 (0:Int))<|Ad<|Rt ?_
 have hM:D0 s'=(row2,(0:Int)):=by simp only [D0,c_1,hR1,hR2,Aw]
 rw [hM] at hne0
 rw [hM]
 refine ⟨Or.inr rfl,[1],by decide,rfl,(own_row (fun _=>rfl) (e:=4) (k:=1) (A:=AV.b) (xs:=row2) rfl),?_⟩
 exact AE.cast (x':=(AV.tup [(AV.own 1 0 s'.graph.edges.length),(AV.i .i64 (0:Int))])) (y':=(AV.tup [(AV.own 0 0 (((row2,(0:Int)).1).length)),(AV.i .i64 ((row2,(0:Int)).2))])) kr kr (AE.f (fin_tup (D3.cons (fin_o (by decide) sd) (D3.cons (Tq kr) D3.nil))))
 refine Ct<|Sq<|Rg<|Aq (AV.sl 1 true [])<|Aq (AV.i .i64 (1900:Int))<|Ad<|Rt ?_
 have hM:D0 s'=(([]:List Bool),(1900:Int)):=by simp only [D0,c_1,Aw]
 exact absurd (by rw [hM]) hne0
theorem UG (W:World) (e:A8) (hz:e.sz≤1048576):Ah Go.Proofs.Tryz.prog W 101 [(A8.av e)] (AV.tup [(AV.s ((L1 e).1)),(AV.i .i64 ((L1 e).2))]) []:=by
 have hs:=PZ hz
 rw [←KJ,←KJ,←KJ] at hs
 have hbd:(bif e.deps then (⟨#[100]⟩:ByteArray) else (⟨#[110]⟩:ByteArray)).size≤1:=by cases e.deps<;>decide
 refine A9 (fn:=Go.Proofs.Tryz.f101) Go.Proofs.Tryz.func101 rfl (en101 W) (ts:=[2,3]) rfl le<|Sq<|Rg<|Nn (AV.loc 0 0 0) ⟨65,7,[(A8.av e)]⟩<|Aq (AV.s (⟨#[]⟩:ByteArray))<|Aq (AV.i .i64 (0:Int))<|Ad<|Sq<|Sq<|Rg<|Aq (A8.av e)<|A1.sc0 (vs:=[(A8.av e)]) (r0:=(AV.b (HN e))) kr kr (KA W e) kr le<|Aq (AV.b (!(HN e)))<|Ad ?_
 cases c_1:(!(HN e))
 refine Cf<|A4.skip<|Sq<|Rg<|Aq (AV.s (⟨#[110]⟩:ByteArray))<|Ad ?_
 refine OE [(1,(AV.loc 0 0 0)),(4,(AV.s (bif e.deps then (⟨#[100]⟩:ByteArray) else (⟨#[110]⟩:ByteArray))))] ⟨1,[(0,some ⟨65,7,[(A8.av e)]⟩)]⟩ ?_ ?_
 refine Sq<|Rg<|Aq (AV.loc 0 0 5)<|Aq (AV.b e.deps)<|Ad ?_
 cases c_2:e.deps
 refine Cf<|A4.skip ?_
 exact ⟨[0],⟨by decide,rfl,(A0.cons kr A0.nil),(Af.cons (AE.f kr) (Ee Af.nil))⟩,Ar⟩
 refine Ct<|Rg<|Aq (AV.s (⟨#[100]⟩:ByteArray))<|Ad ?_
 exact ⟨[0],⟨by decide,rfl,(A0.cons kr A0.nil),(Af.cons (AE.f kr) (Ee Af.nil))⟩,Ar⟩
 refine Sq<|A4.drawn A5 C9 19 kr le<|Dq (AV.loc 0 0 0)<|Dq ((Ag 1 AV.s) e.outs)<|As.sc0 (vs:=[((Ag 1 AV.s) e.outs),(AV.s (⟨#[32]⟩:ByteArray))]) (r0:=(AV.s (FY e.outs (⟨#[32]⟩:ByteArray)))) kr kr (Ie W e.outs (⟨#[32]⟩:ByteArray) (by first|exact (ED hz).1|exact (ED hz).2.1|exact (ED hz).2.2)) kr le<|Dp (AV.s ((FY e.outs (⟨#[32]⟩:ByteArray))++(⟨#[124]⟩:ByteArray))) (Hk (a:=(FY e.outs (⟨#[32]⟩:ByteArray))) (b:=(⟨#[124]⟩:ByteArray)) kr kr sd)<|Dq (AV.loc 0 0 1)<|Dq ((Ag 1 AV.s) e.ins)<|As.sc0 (vs:=[((Ag 1 AV.s) e.ins),(AV.s (⟨#[32]⟩:ByteArray))]) (r0:=(AV.s (FY e.ins (⟨#[32]⟩:ByteArray)))) kr kr (Ie W e.ins (⟨#[32]⟩:ByteArray) (by first|exact (ED hz).1|exact (ED hz).2.1|exact (ED hz).2.2)) kr le<|Dp (AV.s (((FY e.outs (⟨#[32]⟩:ByteArray))++(⟨#[124]⟩:ByteArray))++(FY e.ins (⟨#[32]⟩:ByteArray)))) (Hk (a:=((FY e.outs (⟨#[32]⟩:ByteArray))++(⟨#[124]⟩:ByteArray))) (b:=(FY e.ins (⟨#[32]⟩:ByteArray))) kr kr sd)<|Dp (AV.s ((((FY e.outs (⟨#[32]⟩:ByteArray))++(⟨#[124]⟩:ByteArray))++(FY e.ins (⟨#[32]⟩:ByteArray)))++(⟨#[124]⟩:ByteArray))) (Hk (a:=(((FY e.outs (⟨#[32]⟩:ByteArray))++(⟨#[124]⟩:ByteArray))++(FY e.ins (⟨#[32]⟩:ByteArray)))) (b:=(⟨#[124]⟩:ByteArray)) kr kr sd)<|Dq (AV.loc 0 0 2) ?_
 refine Dq ((Ag 1 AV.s) e.implicit)<|As.sc0 (vs:=[((Ag 1 AV.s) e.implicit),(AV.s (⟨#[32]⟩:ByteArray))]) (r0:=(AV.s (FY e.implicit (⟨#[32]⟩:ByteArray)))) kr kr (Ie W e.implicit (⟨#[32]⟩:ByteArray) (by first|exact (ED hz).1|exact (ED hz).2.1|exact (ED hz).2.2)) kr le<|Dp (AV.s (((((FY e.outs (⟨#[32]⟩:ByteArray))++(⟨#[124]⟩:ByteArray))++(FY e.ins (⟨#[32]⟩:ByteArray)))++(⟨#[124]⟩:ByteArray))++(FY e.implicit (⟨#[32]⟩:ByteArray)))) (Hk (a:=((((FY e.outs (⟨#[32]⟩:ByteArray))++(⟨#[124]⟩:ByteArray))++(FY e.ins (⟨#[32]⟩:ByteArray)))++(⟨#[124]⟩:ByteArray))) (b:=(FY e.implicit (⟨#[32]⟩:ByteArray))) kr kr sd)<|Dp (AV.s ((((((FY e.outs (⟨#[32]⟩:ByteArray))++(⟨#[124]⟩:ByteArray))++(FY e.ins (⟨#[32]⟩:ByteArray)))++(⟨#[124]⟩:ByteArray))++(FY e.implicit (⟨#[32]⟩:ByteArray)))++(⟨#[124]⟩:ByteArray))) (Hk (a:=(((((FY e.outs (⟨#[32]⟩:ByteArray))++(⟨#[124]⟩:ByteArray))++(FY e.ins (⟨#[32]⟩:ByteArray)))++(⟨#[124]⟩:ByteArray))++(FY e.implicit (⟨#[32]⟩:ByteArray)))) (b:=(⟨#[124]⟩:ByteArray)) kr kr sd)<|Dq (AV.s (bif e.deps then (⟨#[100]⟩:ByteArray) else (⟨#[110]⟩:ByteArray)))<|Dp (AV.s (((((((FY e.outs (⟨#[32]⟩:ByteArray))++(⟨#[124]⟩:ByteArray))++(FY e.ins (⟨#[32]⟩:ByteArray)))++(⟨#[124]⟩:ByteArray))++(FY e.implicit (⟨#[32]⟩:ByteArray)))++(⟨#[124]⟩:ByteArray))++(bif e.deps then (⟨#[100]⟩:ByteArray) else (⟨#[110]⟩:ByteArray)))) (Hk (a:=((((((FY e.outs (⟨#[32]⟩:ByteArray))++(⟨#[124]⟩:ByteArray))++(FY e.ins (⟨#[32]⟩:ByteArray)))++(⟨#[124]⟩:ByteArray))++(FY e.implicit (⟨#[32]⟩:ByteArray)))++(⟨#[124]⟩:ByteArray))) (b:=(bif e.deps then (⟨#[100]⟩:ByteArray) else (⟨#[110]⟩:ByteArray))) kr kr sd) ?_
 refine Dp (AV.s ((((((((FY e.outs (⟨#[32]⟩:ByteArray))++(⟨#[124]⟩:ByteArray))++(FY e.ins (⟨#[32]⟩:ByteArray)))++(⟨#[124]⟩:ByteArray))++(FY e.implicit (⟨#[32]⟩:ByteArray)))++(⟨#[124]⟩:ByteArray))++(bif e.deps then (⟨#[100]⟩:ByteArray) else (⟨#[110]⟩:ByteArray)))++(⟨#[124]⟩:ByteArray))) (Hk (a:=(((((((FY e.outs (⟨#[32]⟩:ByteArray))++(⟨#[124]⟩:ByteArray))++(FY e.ins (⟨#[32]⟩:ByteArray)))++(⟨#[124]⟩:ByteArray))++(FY e.implicit (⟨#[32]⟩:ByteArray)))++(⟨#[124]⟩:ByteArray))++(bif e.deps then (⟨#[100]⟩:ByteArray) else (⟨#[110]⟩:ByteArray)))) (b:=(⟨#[124]⟩:ByteArray)) kr kr sd)<|Dq (AV.loc 0 0 4)<|Dq (AV.s e.command)<|Dp (AV.s (((((((((FY e.outs (⟨#[32]⟩:ByteArray))++(⟨#[124]⟩:ByteArray))++(FY e.ins (⟨#[32]⟩:ByteArray)))++(⟨#[124]⟩:ByteArray))++(FY e.implicit (⟨#[32]⟩:ByteArray)))++(⟨#[124]⟩:ByteArray))++(bif e.deps then (⟨#[100]⟩:ByteArray) else (⟨#[110]⟩:ByteArray)))++(⟨#[124]⟩:ByteArray))++e.command)) (Hk (a:=((((((((FY e.outs (⟨#[32]⟩:ByteArray))++(⟨#[124]⟩:ByteArray))++(FY e.ins (⟨#[32]⟩:ByteArray)))++(⟨#[124]⟩:ByteArray))++(FY e.implicit (⟨#[32]⟩:ByteArray)))++(⟨#[124]⟩:ByteArray))++(bif e.deps then (⟨#[100]⟩:ByteArray) else (⟨#[110]⟩:ByteArray)))++(⟨#[124]⟩:ByteArray))) (b:=e.command) kr kr sd)<|Dq (AV.s (((((((((FY e.outs (⟨#[32]⟩:ByteArray))++(⟨#[124]⟩:ByteArray))++(FY e.ins (⟨#[32]⟩:ByteArray)))++(⟨#[124]⟩:ByteArray))++(FY e.implicit (⟨#[32]⟩:ByteArray)))++(⟨#[124]⟩:ByteArray))++(bif e.deps then (⟨#[100]⟩:ByteArray) else (⟨#[110]⟩:ByteArray)))++(⟨#[124]⟩:ByteArray))++e.command)) ?_
 refine Dq (AV.i .i64 (0:Int))<|As.fin<|Rt ?_
 exact WZ rfl (by simp only [L1,c_1,Aw])
 refine Ct<|Sq<|Rg<|Aq (AV.s (⟨#[]⟩:ByteArray))<|Aq (AV.i .i64 (1100:Int))<|Ad<|Rt ?_
 exact WZ rfl (by simp only [L1,c_1,Aw])
def EX:AV:=(AV.st [(AV.s (⟨#[]⟩:ByteArray)),(AV.i .i64 (0:Int)),(AV.i .i64 (0:Int))])
def GX:Obj:=⟨85,3,[EX]⟩
def EW:AV:=(AV.tup [EX,(AV.b false)])
def JA:AV:=(AV.tup [(Ak.av (((⟨(⟨#[]⟩:ByteArray),(0:Int),(0:Int)⟩:Ak),false).1)),(AV.b (((⟨(⟨#[]⟩:ByteArray),(0:Int),(0:Int)⟩:Ak),false).2))])
theorem He (W:World) (d:Aj) (name:ByteArray) (hz:d.sz≤1048576):Ah Go.Proofs.Tryz.prog W 43 [(Aj.av d),(AV.s name)] (AV.tup [(Ak.av ((CM d name).1)),(AV.b ((CM d name).2))]) []:=by
 have hl:=Dj Ak.sz_one d.files
 have hl2:=d.sz_files
 refine BG A5 (fn:=Go.Proofs.Tryz.f43) Go.Proofs.Tryz.func43 rfl (en43 W) le<|Sq<|Rg<|Nn (AV.loc 0 0 0) ⟨30,2,[(Aj.av d)]⟩<|Nn (AV.loc 1 0 0) GX<|Aq (AV.b false)<|Ad<|Sq<|Sq<|Rg<|Aq (AV.i .i64 (0:Int))<|Ad<|A4.block ?_
 obtain ⟨R1,hR1⟩: ∃R,U9 d name (d.files.length-0+1) 0 (⟨#[]⟩:ByteArray) (0:Int) (0:Int)=R:=⟨_,rfl⟩
 refine Av (fun ((kf1,(i,cell,cell2,cell3)):Nat×(Nat×ByteArray×Int×Int))=>[(1,(AV.s name)),(2,(AV.loc 0 0 0)),(4,(AV.loc 1 0 0)),(6,(Ai i))]) (fun ((kf1,(i,cell,cell2,cell3)):Nat×(Nat×ByteArray×Int×Int))=>⟨2,[(0,some ⟨30,2,[(Aj.av d)]⟩),(1,some ⟨85,3,[(AV.st [(AV.s cell),(AV.i .i64 cell2),(AV.i .i64 cell3)])]⟩)]⟩) (fun ((kf1,(i,cell,cell2,cell3)):Nat×(Nat×ByteArray×Int×Int))=>d.files.length-i<kf1∧i≤d.files.length∧U9 d name kf1 i cell cell2 cell3=R1) (fun ((kf1,(i,cell,cell2,cell3)):Nat×(Nat×ByteArray×Int×Int))=>kf1) (d.files.length-0+1,(0,(⟨#[]⟩:ByteArray),(0:Int),(0:Int))) ?_ ?_ ?_
 exact ⟨[0,1],⟨by decide,rfl,(A0.cons kr (A0.cons kr A0.nil)),(Ee (Af.cons (AE.f kr) (Af.cons (AE.f kr) (Ee Af.nil))))⟩,Ar⟩
 exact ⟨od,DO,hR1⟩
 rintro ⟨kf1,i,cell,cell2,cell3⟩ ⟨hi1,hi,hE1⟩
 try dsimp only
 rcases kf1 with _|kf1
 exact absurd hi1 (Nat.not_lt_zero _)
 rw [U9.eq_2] at hE1
 refine Sq<|Sq<|Rg<|Aq (Ai i)<|Aq (AV.loc 0 0 1)<|Aq ((Ag 3 Ak.av) d.files)<|Ap (Ai d.files.length) (AN (k:=3) (nl:=false) (e:=85) (A:=Ak.av) (xs:=d.files) kr kr)<|Aq (AV.b (decide (((i:Nat):Int)<((d.files.length:Nat):Int))))<|Aq (AV.b (decide (((i:Nat):Int)<((d.files.length:Nat):Int)))) ?_
 cases c_1:decide (((i:Nat):Int)<((d.files.length:Nat):Int))
 have k_1:=of_decide_eq_false c_1
 refine An<|An<|Aq (AV.b false)<|Ad<|Cf<|A4.exit ?_
 try simp only [c_1,Aw] at hE1
 subst hE1
 refine Sq<|Rg<|Nb EX<|Sp 1 GX<|Aq (AV.b false)<|Ad<|Rt ?_
 have hM:CM d name=((⟨(⟨#[]⟩:ByteArray),(0:Int),(0:Int)⟩:Ak),false):=by simp only [CM,hR1,Aw]
 refine ⟨Or.inr rfl,EW,kr,?_⟩
 rw [hM]
 exact AE.cast (x':=EW) (y':=JA) kr kr (AE.tup ⟨Ec,⟨Ec,trivial⟩⟩ kr)
 have k_1:=of_decide_eq_true c_1
 refine Ay<|Aq (Aj.av d)<|Ay<|A1.sc0 (vs:=[(Aj.av d)]) (r0:=(AV.b (Hm d))) kr kr (JH W d) kr le<|Aq (AV.b (Hm d))<|Ad ?_
 cases c_2:(Hm d)
 refine Cf<|A4.exit ?_
 try simp only [c_1,c_2,Aw] at hE1
 subst hE1
 refine Sq<|Rg<|Nb EX<|Sp 1 GX<|Aq (AV.b false)<|Ad<|Rt ?_
 have hM:CM d name=((⟨(⟨#[]⟩:ByteArray),(0:Int),(0:Int)⟩:Ak),false):=by simp only [CM,hR1,Aw]
 refine ⟨Or.inr rfl,EW,kr,?_⟩
 rw [hM]
 exact AE.cast (x':=EW) (y':=JA) kr kr (AE.tup ⟨Ec,⟨Ec,trivial⟩⟩ kr)
 refine Ct<|A4.skip<|Sq<|A4.block<|Sq<|Rg<|Aq (AV.loc 0 0 1)<|Aq ((Ag 3 Ak.av) d.files)<|Aq (Ai i)<|Ap (AV.pt (Ak.av (d.files.getD i default)).cells) (AQ (k:=3) (nl:=false) (e:=85) (kk:= .i64) (A:=Ak.av) (xs:=d.files) (i:=i) kr kr kr ⟨by kernel_rfl,by decide⟩ (getD_some sd))<|Aq (AV.pt ((Ak.av (d.files.getD i default)).cells.drop 0))<|Aq (AV.s ((d.files.getD i default).name))<|Aq (AV.s name)<|Aq (AV.b (decide ((d.files.getD i default).name=name)))<|Ad ?_
 cases c_3:decide ((d.files.getD i default).name=name)
 refine Cf<|A4.skip<|Rg<|Aq (Ai i)<|Ap (Ai (i+1)) (AA (i:=i) (m:=1) kr kr sd)<|Aq (Ai (i+1))<|Ad ?_
 try simp only [c_1,c_2,c_3,Aw] at hE1
 refine ⟨(kf1,(i+1,cell,cell2,cell3)),od,⟨DO,DO,hE1⟩,?_⟩
 exact ⟨[0,1],⟨by decide,rfl,(A0.cons kr (A0.cons kr A0.nil)),(Ee (Af.cons (AE.f kr) (Af.cons (AE.f kr) (Ee Af.nil))))⟩,Ar⟩
 refine Ct<|Sq<|Rg<|Aq (AV.loc 0 0 1)<|Aq ((Ag 3 Ak.av) d.files)<|Aq (Ai i)<|Ap (AV.pt (Ak.av (d.files.getD i default)).cells) (AQ (k:=3) (nl:=false) (e:=85) (kk:= .i64) (A:=Ak.av) (xs:=d.files) (i:=i) kr kr kr ⟨by kernel_rfl,by decide⟩ (getD_some sd))<|Aq (Ak.av (d.files.getD i default))<|Sp 1 ⟨85,3,[(AV.st [(AV.s ((d.files.getD i default).name)),(AV.i .i64 ((d.files.getD i default).content)),(AV.i .i64 ((d.files.getD i default).time))])]⟩<|Aq (AV.b true)<|Ad<|Rt ?_
 try simp only [c_1,c_2,c_3,Aw] at hE1
 subst hE1
 have hM:CM d name=((⟨(d.files.getD i default).name,(d.files.getD i default).content,(d.files.getD i default).time⟩:Ak),true):=by simp only [CM,hR1,Aw]
 refine ⟨Or.inr rfl,(AV.tup [(AV.st [(AV.s ((d.files.getD i default).name)),(AV.i .i64 ((d.files.getD i default).content)),(AV.i .i64 ((d.files.getD i default).time))]),(AV.b true)]),kr,?_⟩
 rw [hM]
 exact AE.cast (x':=(AV.tup [(AV.st [(AV.s ((d.files.getD i default).name)),(AV.i .i64 ((d.files.getD i default).content)),(AV.i .i64 ((d.files.getD i default).time))]),(AV.b true)])) (y':=(AV.tup [(Ak.av (((⟨(d.files.getD i default).name,(d.files.getD i default).content,(d.files.getD i default).time⟩:Ak),true).1)),(AV.b (((⟨(d.files.getD i default).name,(d.files.getD i default).content,(d.files.getD i default).time⟩:Ak),true).2))])) kr kr (AE.tup ⟨Ec,⟨Ec,trivial⟩⟩ kr)
def CY:AV:=(AV.st [(AV.s (⟨#[]⟩:ByteArray)),(AV.i .i64 (0:Int)),(AV.s (⟨#[]⟩:ByteArray))])
def E1:Obj:=⟨56,3,[CY]⟩
def CX:AV:=(AV.tup [CY,(AV.b false)])
def G6:AV:=(AV.tup [(A6.av ((El,false).1)),(AV.b ((El,false).2))])
theorem LW (W:World) (rs:List A6) (out:ByteArray) (hz:Eb A6.sz rs≤1048576):Ah Go.Proofs.Tryz.prog W 47 [((Ag 3 A6.av) rs),(AV.s out)] (AV.tup [(A6.av ((JM rs out).1)),(AV.b ((JM rs out).2))]) []:=by
 have hl:=Dj A6.sz_one rs
 refine BG A5 (fn:=Go.Proofs.Tryz.f47) Go.Proofs.Tryz.func47 rfl (en47 W) le<|Sq<|Rg<|Nn (AV.loc 0 0 0) E1<|Aq (AV.b false)<|Ad<|Sq<|Sq<|Rg<|Aq ((Ag 3 A6.av) rs)<|Ap (Ai rs.length) (AN (k:=3) (nl:=false) (e:=56) (A:=A6.av) (xs:=rs) kr kr)<|Ap (AV.i .i64 (((rs.length:Nat):Int)-(1:Int))) (Hl (a:=((rs.length:Nat):Int)) (b:=(1:Int)) kr kr sd sd)<|Aq (AV.i .i64 (((rs.length:Nat):Int)-(1:Int)))<|Ad<|A4.block ?_
 obtain ⟨R1,hR1⟩: ∃R,Sn rs out (((((rs.length:Nat):Int)-(1:Int))+1).toNat+1) (((rs.length:Nat):Int)-(1:Int)) (⟨#[]⟩:ByteArray) (0:Int) (⟨#[]⟩:ByteArray)=R:=⟨_,rfl⟩
 refine Av (fun ((kf1,(i,cell,cell2,cell3)):Nat×(Int×ByteArray×Int×ByteArray))=>[(0,((Ag 3 A6.av) rs)),(1,(AV.s out)),(4,(AV.loc 0 0 0)),(6,(AV.i .i64 i))]) (fun ((kf1,(i,cell,cell2,cell3)):Nat×(Int×ByteArray×Int×ByteArray))=>⟨1,[(0,some ⟨56,3,[(AV.st [(AV.s cell),(AV.i .i64 cell2),(AV.s cell3)])]⟩)]⟩) (fun ((kf1,(i,cell,cell2,cell3)):Nat×(Int×ByteArray×Int×ByteArray))=>(i+1).toNat<kf1∧ -1≤i∧i<((rs.length:Nat):Int)∧Sn rs out kf1 i cell cell2 cell3=R1) (fun ((kf1,(i,cell,cell2,cell3)):Nat×(Int×ByteArray×Int×ByteArray))=>kf1) (((((rs.length:Nat):Int)-(1:Int))+1).toNat+1,((((rs.length:Nat):Int)-(1:Int)),(⟨#[]⟩:ByteArray),(0:Int),(⟨#[]⟩:ByteArray))) ?_ ?_ ?_
 exact ⟨[0],⟨by decide,rfl,(A0.cons kr A0.nil),(Ee (Ee (Af.cons (AE.f kr) (Ee Af.nil))))⟩,Ar⟩
 exact ⟨od,DO,DO,hR1⟩
 rintro ⟨kf1,i,cell,cell2,cell3⟩ ⟨hi1,h1,h2,hE1⟩
 try dsimp only
 rcases kf1 with _|kf1
 exact absurd hi1 (Nat.not_lt_zero _)
 rw [Sn.eq_2] at hE1
 refine Sq<|Sq<|Rg<|Aq (AV.i .i64 i)<|Aq (AV.b (decide ((0:Int)≤i)))<|Aq (AV.b (decide ((0:Int)≤i))) ?_
 cases c_1:decide ((0:Int)≤i)
 have k_1:=of_decide_eq_false c_1
 refine An<|An<|Aq (AV.b false)<|Ad<|Cf<|A4.exit ?_
 try simp only [c_1,Aw] at hE1
 subst hE1
 refine Sq<|Rg<|Nb CY<|Sp 0 E1<|Aq (AV.b false)<|Ad<|Rt ?_
 have hM:JM rs out=(El,false):=by simp only [JM,hR1,Aw]
 refine ⟨Or.inr rfl,CX,kr,?_⟩
 rw [hM]
 exact AE.cast (x':=CX) (y':=G6) kr kr (AE.tup ⟨Ec,⟨Ec,trivial⟩⟩ kr)
 have k_1:=of_decide_eq_true c_1
 refine Ay<|Aq ((Ag 3 A6.av) rs)<|Ay<|A1.sc0 (vs:=[((Ag 3 A6.av) rs)]) (r0:=(AV.b (KX rs))) kr kr (Ky W rs) kr le<|Aq (AV.b (KX rs))<|Ad ?_
 cases c_2:(KX rs)
 refine Cf<|A4.exit ?_
 try simp only [c_1,c_2,Aw] at hE1
 subst hE1
 refine Sq<|Rg<|Nb CY<|Sp 0 E1<|Aq (AV.b false)<|Ad<|Rt ?_
 have hM:JM rs out=(El,false):=by simp only [JM,hR1,Aw]
 refine ⟨Or.inr rfl,CX,kr,?_⟩
 rw [hM]
 exact AE.cast (x':=CX) (y':=G6) kr kr (AE.tup ⟨Ec,⟨Ec,trivial⟩⟩ kr)
 refine Ct<|A4.skip<|Sq<|A4.block<|Sq<|Rg<|Aq ((Ag 3 A6.av) rs)<|Aq (AV.i .i64 i)<|Ap (AV.pt (A6.av (rs.getD i.toNat default)).cells) (Ei (k:=3) (nl:=false) (e:=56) (kk:= .i64) (A:=A6.av) (xs:=rs) (n:=i) kr kr kr ⟨by kernel_rfl,by decide⟩ sd (getD_some sd))<|Aq (AV.pt ((A6.av (rs.getD i.toNat default)).cells.drop 0))<|Aq (AV.s ((rs.getD i.toNat default).out))<|Aq (AV.s out)<|Aq (AV.b (decide ((rs.getD i.toNat default).out=out)))<|Ad ?_
 cases c_3:decide ((rs.getD i.toNat default).out=out)
 have k_3:=of_decide_eq_false c_3
 refine Cf<|A4.skip<|Rg<|Aq (AV.i .i64 i)<|Ap (AV.i .i64 (i-(1:Int))) (Hl (a:=i) (b:=(1:Int)) kr kr sd sd)<|Aq (AV.i .i64 (i-(1:Int)))<|Ad ?_
 try simp only [c_1,c_2,c_3,Aw] at hE1
 refine ⟨(kf1,((i-(1:Int)),cell,cell2,cell3)),od,⟨DO,DO,DO,hE1⟩,?_⟩
 exact ⟨[0],⟨by decide,rfl,(A0.cons kr A0.nil),(Ee (Ee (Af.cons (AE.f kr) (Ee Af.nil))))⟩,Ar⟩
 have k_3:=of_decide_eq_true c_3
 refine Ct<|Sq<|Rg<|Aq ((Ag 3 A6.av) rs)<|Aq (AV.i .i64 i)<|Ap (AV.pt (A6.av (rs.getD i.toNat default)).cells) (Ei (k:=3) (nl:=false) (e:=56) (kk:= .i64) (A:=A6.av) (xs:=rs) (n:=i) kr kr kr ⟨by kernel_rfl,by decide⟩ sd (getD_some sd))<|Aq (A6.av (rs.getD i.toNat default))<|Sp 0 ⟨56,3,[(AV.st [(AV.s ((rs.getD i.toNat default).out)),(AV.i .i64 ((rs.getD i.toNat default).time)),(AV.s ((rs.getD i.toNat default).sign))])]⟩<|Aq (AV.b true)<|Ad<|Rt ?_
 try simp only [c_1,c_2,c_3,Aw] at hE1
 subst hE1
 have hM:JM rs out=((⟨(rs.getD i.toNat default).out,(rs.getD i.toNat default).time,(rs.getD i.toNat default).sign⟩:A6),true):=by simp only [JM,hR1,Aw]
 refine ⟨Or.inr rfl,(AV.tup [(AV.st [(AV.s ((rs.getD i.toNat default).out)),(AV.i .i64 ((rs.getD i.toNat default).time)),(AV.s ((rs.getD i.toNat default).sign))]),(AV.b true)]),kr,?_⟩
 rw [hM]
 exact AE.cast (x':=(AV.tup [(AV.st [(AV.s ((rs.getD i.toNat default).out)),(AV.i .i64 ((rs.getD i.toNat default).time)),(AV.s ((rs.getD i.toNat default).sign))]),(AV.b true)])) (y':=(AV.tup [(A6.av (((⟨(rs.getD i.toNat default).out,(rs.getD i.toNat default).time,(rs.getD i.toNat default).sign⟩:A6),true).1)),(AV.b (((⟨(rs.getD i.toNat default).out,(rs.getD i.toNat default).time,(rs.getD i.toNat default).sign⟩:A6),true).2))])) kr kr (AE.tup ⟨Ec,⟨Ec,trivial⟩⟩ kr)
theorem MX (W:World) (f:A2) (hz:f.sz≤1048576):Ah Go.Proofs.Tryz.prog W 151 [(A2.av f)] (A2.av (Of f)) []:=by
 have hr1:=Bp f.ins
 have hr2:=f.sz_ins
 refine BG A5 (fn:=Go.Proofs.Tryz.f151) Go.Proofs.Tryz.func151 rfl (en151 W) le<|Sq<|Rg<|Nn (AV.loc 0 0 0) ⟨61,3,[(A2.av f)]⟩<|Nn (AV.loc 1 0 0) ⟨61,3,[(AV.st [(AV.s (⟨#[]⟩:ByteArray)),(AV.i .i64 (0:Int)),(AV.sl 1 true [])])]⟩<|Ad<|Sq<|Rg<|Nn (AV.own 2 0 0) ⟨9,1,[].map AV.s⟩<|Aq (AV.loc 0 0 2)<|Aq ((Ag 1 AV.s) f.ins)<|AY (x:=(AV.own 3 0 f.ins.length)) (h':=⟨4,[(3,some ⟨9,1,f.ins.map AV.s⟩),(2,none),(1,some ⟨61,3,[(AV.st [(AV.s (⟨#[]⟩:ByteArray)),(AV.i .i64 (0:Int)),(AV.sl 1 true [])])]⟩),(0,some ⟨61,3,[(A2.av f)]⟩)]⟩) (CE (len:=0) (e:=9) (X:=((Ag 1 AV.s) f.ins)) (A:=AV.s) (i:=DU) (p:=2) (xs:=[]) (ys:=f.ins) kr kr kr (hx:=kr) kr ⟨by decide,by kernel_rfl⟩ rfl sd (by show _*16≤140737488355328;first|omega|(simp only [List.length_append,List.length_cons,List.length_nil,List.length_set,List.length_replicate];omega)|(simp;omega)) sd) le<|Aq (AV.loc 0 0 2)<|Sp 0 ⟨61,3,[(AV.st [(AV.s f.out),(AV.i .i64 f.time),(AV.own 3 0 f.ins.length)])]⟩<|Ad<|Sq<|Rg<|Aq (AV.st [(AV.s f.out),(AV.i .i64 f.time),(AV.own 3 0 f.ins.length)])<|Sp 1 ⟨61,3,[(AV.st [(AV.s f.out),(AV.i .i64 f.time),(AV.own 3 0 f.ins.length)])]⟩<|Ad<|Rt ?_
 have hM:Of f=(⟨f.out,f.time,f.ins⟩:A2):=by simp only [Of,Aw]
 refine ⟨Or.inr rfl,(AV.st [(AV.s f.out),(AV.i .i64 f.time),(AV.own 3 0 f.ins.length)]),kr,?_⟩
 rw [hM]
 exact AE.cast (x':=(AV.st [(AV.s f.out),(AV.i .i64 f.time),(AV.own 3 0 f.ins.length)])) (y':=(A2.av (⟨f.out,f.time,f.ins⟩:A2))) kr kr (AE.st ⟨Ec,⟨Ec,⟨(Dk.kk (x':=(AV.own 3 0 f.ins.length)) kr kr rfl (Al.row (fun _=>rfl) (A:=AV.s) (id:=3) (e:=9) (k:=1) (xs:=f.ins) rfl rfl rfl sd)),trivial⟩⟩⟩ kr)
def Cx:AV:=(AV.st [(AV.s (⟨#[]⟩:ByteArray)),(AV.i .i64 (0:Int)),(AV.sl 1 true [])])
def Ep:Obj:=⟨61,3,[Cx]⟩
def Db:AV:=(AV.tup [Cx,(AV.b false)])
def GI:AV:=(AV.tup [(A2.av (((⟨(⟨#[]⟩:ByteArray),(0:Int),[]⟩:A2),false).1)),(AV.b (((⟨(⟨#[]⟩:ByteArray),(0:Int),[]⟩:A2),false).2))])
theorem MV (W:World) (fs:List A2) (out:ByteArray) (hz:Eb A2.sz fs≤1048576):Ah Go.Proofs.Tryz.prog W 103 [((Ag 3 A2.av) fs),(AV.s out)] (AV.tup [(A2.av ((KL fs out).1)),(AV.b ((KL fs out).2))]) []:=by
 have hl:=Dj A2.sz_one fs
 refine BG A5 (fn:=Go.Proofs.Tryz.f103) Go.Proofs.Tryz.func103 rfl (en103 W) le<|Sq<|Rg<|Nn (AV.loc 0 0 0) Ep<|Aq (AV.b false)<|Ad<|Sq<|Sq<|Rg<|Aq ((Ag 3 A2.av) fs)<|Ap (Ai fs.length) (AN (k:=3) (nl:=false) (e:=61) (A:=A2.av) (xs:=fs) kr kr)<|Ap (AV.i .i64 (((fs.length:Nat):Int)-(1:Int))) (Hl (a:=((fs.length:Nat):Int)) (b:=(1:Int)) kr kr sd sd)<|Aq (AV.i .i64 (((fs.length:Nat):Int)-(1:Int)))<|Ad<|A4.block ?_
 obtain ⟨R1,hR1⟩: ∃R,Sl fs out (((((fs.length:Nat):Int)-(1:Int))+1).toNat+1) (((fs.length:Nat):Int)-(1:Int)) (⟨#[]⟩:ByteArray) (0:Int) []=R:=⟨_,rfl⟩
 refine Av (fun ((kf1,(i,cell,cell2,cell3)):Nat×(Int×ByteArray×Int×(List ByteArray)))=>[(0,((Ag 3 A2.av) fs)),(1,(AV.s out)),(4,(AV.loc 0 0 0)),(6,(AV.i .i64 i))]) (fun ((kf1,(i,cell,cell2,cell3)):Nat×(Int×ByteArray×Int×(List ByteArray)))=>⟨2,[(1,Fv 9 1 AV.s cell3),(0,some ⟨61,3,[(AV.st [(AV.s cell),(AV.i .i64 cell2),(B7 1 1 AV.s cell3)])]⟩)]⟩) (fun ((kf1,(i,cell,cell2,cell3)):Nat×(Int×ByteArray×Int×(List ByteArray)))=>(i+1).toNat<kf1∧ -1≤i∧i<((fs.length:Nat):Int)∧Sl fs out kf1 i cell cell2 cell3=R1) (fun ((kf1,(i,cell,cell2,cell3)):Nat×(Int×ByteArray×Int×(List ByteArray)))=>kf1) (((((fs.length:Nat):Int)-(1:Int))+1).toNat+1,((((fs.length:Nat):Int)-(1:Int)),(⟨#[]⟩:ByteArray),(0:Int),[])) ?_ ?_ ?_
 exact ⟨[0,1000001],⟨by decide,rfl,(A0.cons (boxG (e:=61) (k:=3) (xs:=[Cx]) (ys:=[(AV.st [(AV.s (⟨#[]⟩:ByteArray)),(AV.i .i64 (0:Int)),(B7 1 1 AV.s [])])]) rfl (D3.cons (Xx (D3.cons (Tq kr) (D3.cons (Tq kr) (D3.cons rfl D3.nil)))) D3.nil) rfl) (A0.cons rfl A0.nil)),(Ee (Ee (Af.cons (AE.f kr) (Ee Af.nil))))⟩,Ar⟩
 exact ⟨od,DO,DO,hR1⟩
 rintro ⟨kf1,i,cell,cell2,cell3⟩ ⟨hi1,h1,h2,hE1⟩
 try dsimp only
 rcases kf1 with _|kf1
 exact absurd hi1 (Nat.not_lt_zero _)
 rw [Sl.eq_2] at hE1
 refine Sq<|Sq<|Rg<|Aq (AV.i .i64 i)<|Aq (AV.b (decide ((0:Int)≤i)))<|Aq (AV.b (decide ((0:Int)≤i))) ?_
 cases c_1:decide ((0:Int)≤i)
 have k_1:=of_decide_eq_false c_1
 refine An<|An<|Aq (AV.b false)<|Ad<|Cf<|A4.exit ?_
 try simp only [c_1,Aw] at hE1
 subst hE1
 refine Sq<|Rg<|Nb Cx<|Sp 0 Ep<|Aq (AV.b false)<|Ad<|Rt ?_
 have hM:KL fs out=((⟨(⟨#[]⟩:ByteArray),(0:Int),[]⟩:A2),false):=by simp only [KL,hR1,Aw]
 refine ⟨Or.inr rfl,Db,kr,?_⟩
 rw [hM]
 exact AE.cast (x':=Db) (y':=GI) kr kr (AE.tup ⟨(AE.st ⟨Ec,⟨Ec,⟨(AE.w rfl (AP.nil 1)),trivial⟩⟩⟩ kr),⟨Ec,trivial⟩⟩ kr)
 have k_1:=of_decide_eq_true c_1
 refine Ay<|Aq ((Ag 3 A2.av) fs)<|Ay<|A1.sc0 (vs:=[((Ag 3 A2.av) fs)]) (r0:=(AV.b (LE fs))) kr kr (JG W fs) kr le<|Aq (AV.b (LE fs))<|Ad ?_
 cases c_2:(LE fs)
 refine Cf<|A4.exit ?_
 try simp only [c_1,c_2,Aw] at hE1
 subst hE1
 refine Sq<|Rg<|Nb Cx<|Sp 0 Ep<|Aq (AV.b false)<|Ad<|Rt ?_
 have hM:KL fs out=((⟨(⟨#[]⟩:ByteArray),(0:Int),[]⟩:A2),false):=by simp only [KL,hR1,Aw]
 refine ⟨Or.inr rfl,Db,kr,?_⟩
 rw [hM]
 exact AE.cast (x':=Db) (y':=GI) kr kr (AE.tup ⟨(AE.st ⟨Ec,⟨Ec,⟨(AE.w rfl (AP.nil 1)),trivial⟩⟩⟩ kr),⟨Ec,trivial⟩⟩ kr)
 refine Ct<|A4.skip<|Sq<|A4.block<|Sq<|Rg<|Aq ((Ag 3 A2.av) fs)<|Aq (AV.i .i64 i)<|Ap (AV.pt (A2.av (fs.getD i.toNat default)).cells) (Ei (k:=3) (nl:=false) (e:=61) (kk:= .i64) (A:=A2.av) (xs:=fs) (n:=i) kr kr kr ⟨by kernel_rfl,by decide⟩ sd (getD_some sd))<|Aq (AV.pt ((A2.av (fs.getD i.toNat default)).cells.drop 0))<|Aq (AV.s ((fs.getD i.toNat default).out))<|Aq (AV.s out)<|Aq (AV.b (decide ((fs.getD i.toNat default).out=out)))<|Ad ?_
 cases c_3:decide ((fs.getD i.toNat default).out=out)
 have k_3:=of_decide_eq_false c_3
 refine Cf<|A4.skip<|Rg<|Aq (AV.i .i64 i)<|Ap (AV.i .i64 (i-(1:Int))) (Hl (a:=i) (b:=(1:Int)) kr kr sd sd)<|Aq (AV.i .i64 (i-(1:Int)))<|Ad ?_
 try simp only [c_1,c_2,c_3,Aw] at hE1
 refine ⟨(kf1,((i-(1:Int)),cell,cell2,cell3)),od,⟨DO,DO,DO,hE1⟩,?_⟩
 exact ⟨[0,1],⟨by decide,rfl,(A0.cons (boxG (e:=61) (k:=3) (xs:=[(AV.st [(AV.s cell),(AV.i .i64 cell2),(B7 1 1 AV.s cell3)])]) (ys:=[(AV.st [(AV.s cell),(AV.i .i64 cell2),(B7 1 1 AV.s cell3)])]) rfl (D3.cons (Xx (D3.cons (Tq kr) (D3.cons (Tq kr) (D3.cons (fin_acc rfl) D3.nil)))) D3.nil) rfl) (A0.cons (Cz (fun _=>rfl) (e:=9) (k:=1) (A:=AV.s) (xs:=cell3) rfl rfl) A0.nil)),(Ee (Ee (Af.cons (AE.f kr) (Ee Af.nil))))⟩,Ar⟩
 have k_3:=of_decide_eq_true c_3
 refine Ct<|Sq<|Rg<|Aq ((Ag 3 A2.av) fs)<|Aq (AV.i .i64 i)<|Ap (AV.pt (A2.av (fs.getD i.toNat default)).cells) (Ei (k:=3) (nl:=false) (e:=61) (kk:= .i64) (A:=A2.av) (xs:=fs) (n:=i) kr kr kr ⟨by kernel_rfl,by decide⟩ sd (getD_some sd))<|Aq (A2.av (fs.getD i.toNat default))<|A1.sc0 (vs:=[(A2.av (fs.getD i.toNat default))]) (r0:=(A2.av (Of (fs.getD i.toNat default)))) kr kr (MX W (fs.getD i.toNat default) (fnd_sz hz (by omega))) kr le<|Sp 0 ⟨61,3,[(AV.st [(AV.s ((Of (fs.getD i.toNat default)).out)),(AV.i .i64 ((Of (fs.getD i.toNat default)).time)),((Ag 1 AV.s) ((Of (fs.getD i.toNat default)).ins))])]⟩<|Aq (AV.b true)<|Ad<|Rt ?_
 try simp only [c_1,c_2,c_3,Aw] at hE1
 subst hE1
 have hM:KL fs out=((⟨(Of (fs.getD i.toNat default)).out,(Of (fs.getD i.toNat default)).time,(Of (fs.getD i.toNat default)).ins⟩:A2),true):=by simp only [KL,hR1,Aw]
 refine ⟨Or.inr rfl,(AV.tup [(AV.st [(AV.s ((Of (fs.getD i.toNat default)).out)),(AV.i .i64 ((Of (fs.getD i.toNat default)).time)),((Ag 1 AV.s) ((Of (fs.getD i.toNat default)).ins))]),(AV.b true)]),kr,?_⟩
 rw [hM]
 exact AE.cast (x':=(AV.tup [(AV.st [(AV.s ((Of (fs.getD i.toNat default)).out)),(AV.i .i64 ((Of (fs.getD i.toNat default)).time)),((Ag 1 AV.s) ((Of (fs.getD i.toNat default)).ins))]),(AV.b true)])) (y':=(AV.tup [(A2.av (((⟨(Of (fs.getD i.toNat default)).out,(Of (fs.getD i.toNat default)).time,(Of (fs.getD i.toNat default)).ins⟩:A2),true).1)),(AV.b (((⟨(Of (fs.getD i.toNat default)).out,(Of (fs.getD i.toNat default)).time,(Of (fs.getD i.toNat default)).ins⟩:A2),true).2))])) kr kr (AE.tup ⟨Ec,⟨Ec,trivial⟩⟩ kr)
def Cq (s':A7):Obj:=⟨35,11,[(A7.av s')]⟩
def CN (x':A8):Obj:=⟨9,1,((x'.ins++x'.implicit)++x'.order).map AV.s⟩
def IZ (s':A7):AV:=(AV.st [((Ag 7 A8.av) s'.graph.edges),((Ag 2 AD.av) s'.graph.pools),((Ag 1 AV.s) s'.graph.defaults)])
theorem Lm (W:World) (s':A7) (x':A8) (hz:s'.sz≤1048576) (hx:x'.sz≤1048576):Ah Go.Proofs.Tryz.prog W 60 [(A7.av s'),(A8.av x')] (AV.b (IL s' x')) []:=by
 have hg3:(⟨s'.disk.clock,s'.disk.files⟩:Aj).sz≤s'.sz:=s'.sz_disk
 have hg4:=s'.sz_log
 have hg5:=s'.sz_deps
 have hr1:=Bp x'.ins
 have hr2:=Bp x'.implicit
 have hr3:=Bp x'.order
 have hr4:=x'.sz_ins
 have hr5:=x'.sz_implicit
 have hr6:=x'.sz_order
 have hr7:Eb (fun s:ByteArray=>s.size+1) x'.ins+Eb (fun s:ByteArray=>s.size+1) x'.implicit+Eb (fun s:ByteArray=>s.size+1) x'.order≤1048576:=by unfold A8.sz at hx;simp only at hx;omega
 refine A9 (fn:=Go.Proofs.Tryz.f60) Go.Proofs.Tryz.func60 rfl (en60 W) (ts:=[4]) rfl le<|Sq<|Rg<|Nn (AV.loc 0 0 0) (Cq s')<|Nn (AV.loc 1 0 0) ⟨65,7,[(A8.av x')]⟩<|Aq (AV.b false)<|Ad<|Sq<|Rg<|Nn (AV.own 2 0 0) ⟨9,1,[].map AV.s⟩<|Aq (AV.loc 1 0 1)<|Aq ((Ag 1 AV.s) x'.ins)<|AY (x:=(AV.own 3 0 x'.ins.length)) (h':=⟨4,[(3,some ⟨9,1,x'.ins.map AV.s⟩),(2,none),(1,some ⟨65,7,[(A8.av x')]⟩),(0,some (Cq s'))]⟩) (CE (len:=0) (e:=9) (X:=((Ag 1 AV.s) x'.ins)) (A:=AV.s) (i:=DU) (p:=2) (xs:=[]) (ys:=x'.ins) kr kr kr (hx:=kr) kr ⟨by decide,by kernel_rfl⟩ rfl sd (by show _*16≤140737488355328;first|omega|(simp only [List.length_append,List.length_cons,List.length_nil,List.length_set,List.length_replicate];omega)|(simp;omega)) sd) le<|Aq (AV.own 3 0 x'.ins.length)<|Ad<|Sq<|Rg<|Aq (AV.own 3 0 x'.ins.length)<|Aq (AV.loc 1 0 2)<|Aq ((Ag 1 AV.s) x'.implicit)<|AY (x:=(AV.own 4 0 ((x'.ins++x'.implicit).length))) (h':=⟨5,[(4,some ⟨9,1,(x'.ins++x'.implicit).map AV.s⟩),(3,none),(2,none),(1,some ⟨65,7,[(A8.av x')]⟩),(0,some (Cq s'))]⟩) (CE (len:=x'.ins.length) (e:=9) (X:=((Ag 1 AV.s) x'.implicit)) (A:=AV.s) (i:=DU) (p:=3) (xs:=x'.ins) (ys:=x'.implicit) kr kr kr (hx:=kr) kr ⟨by decide,by kernel_rfl⟩ rfl rfl (by show _*16≤140737488355328;first|omega|(simp only [List.length_append,List.length_cons,List.length_nil,List.length_set,List.length_replicate];omega)|(simp;omega)) sd) le ?_
 refine Aq (AV.own 4 0 ((x'.ins++x'.implicit).length))<|Ad<|Sq<|Rg<|Aq (AV.own 4 0 ((x'.ins++x'.implicit).length))<|Aq (AV.loc 1 0 3)<|Aq ((Ag 1 AV.s) x'.order)<|AY (x:=(AV.own 5 0 (((x'.ins++x'.implicit)++x'.order).length))) (h':=⟨6,[(5,some (CN x')),(4,none),(3,none),(2,none),(1,some ⟨65,7,[(A8.av x')]⟩),(0,some (Cq s'))]⟩) (CE (len:=((x'.ins++x'.implicit).length)) (e:=9) (X:=((Ag 1 AV.s) x'.order)) (A:=AV.s) (i:=DU) (p:=4) (xs:=(x'.ins++x'.implicit)) (ys:=x'.order) kr kr kr (hx:=kr) kr ⟨by decide,by kernel_rfl⟩ rfl rfl (by show _*16≤140737488355328;first|omega|(simp only [List.length_append,List.length_cons,List.length_nil,List.length_set,List.length_replicate];omega)|(simp;omega)) sd) le<|Aq (AV.own 5 0 (((x'.ins++x'.implicit)++x'.order).length))<|Ad<|Sq<|Sq<|Rg<|Aq (AV.i .i64 (0:Int))<|Ad<|A4.block ?_
 have hB1:(((x'.ins++x'.implicit)++x'.order).length)≤281474976710656:=by first|omega|(simp;done)|(simp;omega)
 obtain ⟨R1,hR1⟩: ∃R,So s' ((x'.ins++x'.implicit)++x'.order) 0=R:=⟨_,rfl⟩
 refine Av (fun (i:Nat)=>[(2,(AV.loc 0 0 0)),(5,(AV.own 1 0 (((x'.ins++x'.implicit)++x'.order).length))),(6,(Ai i))]) (fun (i:Nat)=>⟨2,[(0,some (Cq s')),(1,some (CN x'))]⟩) (fun (i:Nat)=>i≤(((x'.ins++x'.implicit)++x'.order).length)∧So s' (((x'.ins++x'.implicit)++x'.order).drop i) i=R1) (fun (i:Nat)=>(((x'.ins++x'.implicit)++x'.order).length)-i) 0 ?_ ?_ ?_
 exact ⟨[0,5],⟨by decide,rfl,(A0.cons kr (A0.cons (Az (fun _=>rfl) (e:=9) (k:=1) (A:=AV.s) (xs:=((x'.ins++x'.implicit)++x'.order)) rfl rfl) A0.nil)),(Af.cons (AE.f kr) (Af.cons (AE.f kr) (Ee Af.nil)))⟩,Ar⟩
 exact ⟨od,hR1⟩
 rintro i ⟨hi1,hE1⟩
 try dsimp only
 refine Sq<|Sq<|Rg<|Aq (Ai i)<|Aq (AV.own 1 0 (((x'.ins++x'.implicit)++x'.order).length))<|Aq (AV.i .i64 ((((x'.ins++x'.implicit)++x'.order).length:Nat):Int))<|Aq (AV.b (decide (((i:Nat):Int)<((((x'.ins++x'.implicit)++x'.order).length:Nat):Int))))<|Ad ?_
 rcases Nat.lt_or_ge i (((x'.ins++x'.implicit)++x'.order).length) with hl1|hl1
 have hc1:decide (((i:Nat):Int)<(((((x'.ins++x'.implicit)++x'.order).length):Nat):Int))=true:=decide_eq_true (by omega)
 refine A4.cond (t:=true) (by rw [←hc1]<;>kernel_rfl) (A4.skip ?_)
 obtain ⟨x1,hx1⟩: ∃x,((x'.ins++x'.implicit)++x'.order)[i]? =some x:=⟨_,List.getElem?_eq_getElem (by first|(simpa using hl1)|omega)⟩
 rw [AB hx1,So.eq_2] at hE1
 refine Sq<|A4.block<|Sq<|Ed A5 C9 11 [9] kr kr kr le<|Dq (AV.loc 0 0 4)<|Dq (AV.st [(AV.i .i64 s'.disk.clock),((Ag 3 Ak.av) s'.disk.files)])<|Dq (AV.own 1 0 (((x'.ins++x'.implicit)++x'.order).length))<|Dq (Ai i)<|Dp (AV.loc 1 i 0) (Ge (e:=9) (id:=1) (len:=(((x'.ins++x'.implicit)++x'.order).length)) (kk:= .i64) (ob:=(CN x')) (i:=i) kr kr kr rfl kr sd)<|Dp (AV.s x1) (Dg (e:=9) (k:=1) (i:=DU) (id:=1) (xs:=((x'.ins++x'.implicit)++x'.order)) (A:=AV.s) (j:=i) kr kr rfl hx1 kr)<|As.sc0 (vs:=[(AV.st [(AV.i .i64 s'.disk.clock),((Ag 3 Ak.av) s'.disk.files)]),(AV.s x1)]) (r0:=(AV.tup [(Ak.av ((CM (⟨s'.disk.clock,s'.disk.files⟩:Aj) x1).1)),(AV.b ((CM (⟨s'.disk.clock,s'.disk.files⟩:Aj) x1).2))])) kr kr (He W (⟨s'.disk.clock,s'.disk.files⟩:Aj) x1 sd) kr le<|Dq (AV.tup [(Ak.av ((CM (⟨s'.disk.clock,s'.disk.files⟩:Aj) x1).1)),(AV.b ((CM (⟨s'.disk.clock,s'.disk.files⟩:Aj) x1).2))])<|Dq (Ak.av ((CM (⟨s'.disk.clock,s'.disk.files⟩:Aj) x1).1))<|Dq (AV.b ((CM (⟨s'.disk.clock,s'.disk.files⟩:Aj) x1).2))<|As.sn (x:=(AV.loc 2 0 0)) (h':=⟨3,[(2,some ⟨85,3,[(AV.st [(AV.s (⟨#[]⟩:ByteArray)),(AV.i .i64 (0:Int)),(AV.i .i64 (0:Int))])]⟩),(0,some (Cq s')),(1,some (CN x'))]⟩) kr le ?_
 refine As.st (by decide) (x:=AV.und) (h':=⟨3,[(2,some ⟨85,3,[(AV.st [(AV.s (((CM (⟨s'.disk.clock,s'.disk.files⟩:Aj) x1).1).name)),(AV.i .i64 (((CM (⟨s'.disk.clock,s'.disk.files⟩:Aj) x1).1).content)),(AV.i .i64 (((CM (⟨s'.disk.clock,s'.disk.files⟩:Aj) x1).1).time))])]⟩),(0,some (Cq s')),(1,some (CN x'))]⟩) kr<|Dq (AV.b ((CM (⟨s'.disk.clock,s'.disk.files⟩:Aj) x1).2))<|As.fin<|Sq<|A4.drawn A5 C9 9 kr le<|Dq (AV.b ((CM (⟨s'.disk.clock,s'.disk.files⟩:Aj) x1).2))<|Dq (AV.b (!(CM (⟨s'.disk.clock,s'.disk.files⟩:Aj) x1).2))<|Dq (AV.b (!(CM (⟨s'.disk.clock,s'.disk.files⟩:Aj) x1).2)) ?_
 cases c_1:(!(CM (⟨s'.disk.clock,s'.disk.files⟩:Aj) x1).2)
 refine Dn<|Dn<|Dn<|Dn<|Dn<|Dn<|Dn<|Dn<|Dq (AV.b false)<|As.fin<|Cf<|A4.skip<|Rg<|Aq (Ai i)<|Ap (Ai (i+1)) (AA (i:=i) (m:=1) kr kr sd)<|Aq (Ai (i+1))<|Ad ?_
 try simp only [c_1,Aw] at hE1
 refine ⟨i+1,od,⟨od,hE1⟩,?_⟩
 exact ⟨[0,1],⟨by decide,rfl,(A0.cons kr (A0.cons (Az (fun _=>rfl) (e:=9) (k:=1) (A:=AV.s) (xs:=((x'.ins++x'.implicit)++x'.order)) rfl rfl) A0.nil)),(Af.cons (AE.f kr) (Af.cons (AE.f kr) (Ee Af.nil)))⟩,Ar⟩
 refine Dy<|Dq (AV.loc 0 0 0)<|Dy<|Dq (IZ s')<|Dy<|Dq (AV.own 1 0 (((x'.ins++x'.implicit)++x'.order).length))<|Dy<|Dq (Ai i)<|Dy<|Dp (AV.loc 1 i 0) (Ge (e:=9) (id:=1) (len:=(((x'.ins++x'.implicit)++x'.order).length)) (kk:= .i64) (ob:=(CN x')) (i:=i) kr kr kr rfl kr sd)<|Dy<|Dp (AV.s x1) (Dg (e:=9) (k:=1) (i:=DU) (id:=1) (xs:=((x'.ins++x'.implicit)++x'.order)) (A:=AV.s) (j:=i) kr kr rfl hx1 kr)<|Dy<|As.sc0 (vs:=[(IZ s'),(AV.s x1)]) (r0:=(AV.i .i64 (Hq (⟨s'.graph.edges,s'.graph.pools,s'.graph.defaults⟩:A3) x1))) kr kr (HI W (⟨s'.graph.edges,s'.graph.pools,s'.graph.defaults⟩:A3) x1) kr le<|Dy<|Dq (AV.b (decide ((Hq (⟨s'.graph.edges,s'.graph.pools,s'.graph.defaults⟩:A3) x1)<(0:Int))))<|Dq (AV.b (decide ((Hq (⟨s'.graph.edges,s'.graph.pools,s'.graph.defaults⟩:A3) x1)<(0:Int))))<|As.fin ?_
 cases c_2:decide ((Hq (⟨s'.graph.edges,s'.graph.pools,s'.graph.defaults⟩:A3) x1)<(0:Int))
 have k_2:=of_decide_eq_false c_2
 refine Cf<|A4.skip<|Rg<|Aq (Ai i)<|Ap (Ai (i+1)) (AA (i:=i) (m:=1) kr kr sd)<|Aq (Ai (i+1))<|Ad ?_
 try simp only [c_1,c_2,Aw] at hE1
 refine ⟨i+1,od,⟨od,hE1⟩,?_⟩
 exact ⟨[0,1],⟨by decide,rfl,(A0.cons kr (A0.cons (Az (fun _=>rfl) (e:=9) (k:=1) (A:=AV.s) (xs:=((x'.ins++x'.implicit)++x'.order)) rfl rfl) A0.nil)),(Af.cons (AE.f kr) (Af.cons (AE.f kr) (Ee Af.nil)))⟩,Ar⟩
 have k_2:=of_decide_eq_true c_2
 refine Ct<|Sq<|Rg<|Aq (AV.b true)<|Ad<|Rt ?_
 try simp only [c_1,c_2,Aw] at hE1
 subst hE1
 exact Fb rfl (by simp only [IL,hR1,Aw])
 have hc1:decide (((i:Nat):Int)<(((((x'.ins++x'.implicit)++x'.order).length):Nat):Int))=false:=decide_eq_false (by omega)
 refine A4.cond (t:=false) (by rw [←hc1]<;>kernel_rfl) (A4.exit ?_)
 rw [List.drop_eq_nil_of_le (by first|(simpa using hl1)|omega),So.eq_1] at hE1
 subst hE1
 refine Sq<|Rg<|Aq (AV.b false)<|Ad<|Rt ?_
 exact Fb rfl (by simp only [IL,hR1,Aw])
theorem Kz (W:World) (d:Aj) (names:List ByteArray) (time:Int) (hz:d.sz≤1048576):Ah Go.Proofs.Tryz.prog W 102 [(Aj.av d),((Ag 1 AV.s) names),(AV.i .i64 time)] (AV.b (JK d names time)) []:=by
 refine A9 (fn:=Go.Proofs.Tryz.f102) Go.Proofs.Tryz.func102 rfl (en102 W) (ts:=[6]) rfl le<|Sq<|Rg<|Nn (AV.loc 0 0 0) ⟨30,2,[(Aj.av d)]⟩<|Aq (AV.b false)<|Ad<|Sq<|Sq<|Rg<|Aq (AV.i .i64 (0:Int))<|Ad<|A4.block<|A4.lim 1 (x:=((Ag 1 AV.s) names)) kr fun hlm1=> ?_
 have hB1:names.length≤281474976710656:=AX hlm1
 obtain ⟨R1,hR1⟩: ∃R,Uc d time names 0=R:=⟨_,rfl⟩
 refine Av (fun (i:Nat)=>[(1,((Ag 1 AV.s) names)),(2,(AV.i .i64 time)),(3,(AV.loc 0 0 0)),(7,(Ai i))]) (fun (i:Nat)=>⟨1,[(0,some ⟨30,2,[(Aj.av d)]⟩)]⟩) (fun (i:Nat)=>i≤names.length∧Uc d time (names.drop i) i=R1) (fun (i:Nat)=>names.length-i) 0 ?_ ?_ ?_
 exact ⟨[0],⟨by decide,rfl,(A0.cons kr A0.nil),(Ee (Ee (Af.cons (AE.f kr) (Ee Af.nil))))⟩,Ar⟩
 exact ⟨od,hR1⟩
 rintro i ⟨hi1,hE1⟩
 try dsimp only
 refine Sq<|Sq<|Rg<|Aq (Ai i)<|Aq ((Ag 1 AV.s) names)<|Ap (Ai names.length) (AN (k:=1) (nl:=false) (e:=9) (A:=AV.s) (xs:=names) kr kr)<|Aq (AV.b (decide (((i:Nat):Int)<((names.length:Nat):Int))))<|Ad ?_
 rcases Nat.lt_or_ge i names.length with hl1|hl1
 have hc1:decide (((i:Nat):Int)<((names.length:Nat):Int))=true:=decide_eq_true (by omega)
 refine A4.cond (t:=true) (by rw [←hc1]<;>kernel_rfl) (A4.skip ?_)
 obtain ⟨x1,hx1⟩: ∃x,names[i]? =some x:=⟨_,List.getElem?_eq_getElem hl1⟩
 rw [AB hx1,Uc.eq_2] at hE1
 refine Sq<|A4.block<|Sq<|Ed A5 C9 10 [8] kr kr kr le<|Dq (Aj.av d)<|Dq ((Ag 1 AV.s) names)<|Dq (Ai i)<|Dp (AV.pt (AV.s x1).cells) (AQ (k:=1) (nl:=false) (e:=9) (kk:= .i64) (A:=AV.s) (xs:=names) (i:=i) kr kr kr ⟨by kernel_rfl,by decide⟩ hx1)<|Dq (AV.s x1)<|As.sc0 (vs:=[(Aj.av d),(AV.s x1)]) (r0:=(AV.tup [(Ak.av ((CM d x1).1)),(AV.b ((CM d x1).2))])) kr kr (He W d x1 sd) kr le<|Dq (AV.tup [(Ak.av ((CM d x1).1)),(AV.b ((CM d x1).2))])<|Dq (Ak.av ((CM d x1).1))<|Dq (AV.b ((CM d x1).2))<|As.sn (x:=(AV.loc 1 0 0)) (h':=⟨2,[(1,some ⟨85,3,[(AV.st [(AV.s (⟨#[]⟩:ByteArray)),(AV.i .i64 (0:Int)),(AV.i .i64 (0:Int))])]⟩),(0,some ⟨30,2,[(Aj.av d)]⟩)]⟩) kr le<|As.st (by decide) (x:=AV.und) (h':=⟨2,[(1,some ⟨85,3,[(AV.st [(AV.s (((CM d x1).1).name)),(AV.i .i64 (((CM d x1).1).content)),(AV.i .i64 (((CM d x1).1).time))])]⟩),(0,some ⟨30,2,[(Aj.av d)]⟩)]⟩) kr<|Dq (AV.b ((CM d x1).2))<|As.fin<|Sq<|Rg<|Aq (AV.b ((CM d x1).2))<|Aq (AV.b (!(CM d x1).2))<|Aq (AV.b (!(CM d x1).2)) ?_
 cases c_1:(!(CM d x1).2)
 refine Ay<|Aq (AV.loc 1 0 2)<|Ay<|Aq (AV.i .i64 (((CM d x1).1).time))<|Ay<|Aq (AV.i .i64 time)<|Ay<|Aq (AV.b (decide (time<((CM d x1).1).time)))<|Aq (AV.b (decide (time<((CM d x1).1).time)))<|Ad ?_
 cases c_2:decide (time<((CM d x1).1).time)
 have k_2:=of_decide_eq_false c_2
 refine Cf<|A4.skip<|Rg<|Aq (Ai i)<|Ap (Ai (i+1)) (AA (i:=i) (m:=1) kr kr sd)<|Aq (Ai (i+1))<|Ad ?_
 try simp only [c_1,c_2,Aw] at hE1
 refine ⟨i+1,od,⟨od,hE1⟩,?_⟩
 exact ⟨[0],⟨by decide,rfl,(A0.cons kr A0.nil),(Ee (Ee (Af.cons (AE.f kr) (Ee Af.nil))))⟩,Ar⟩
 have k_2:=of_decide_eq_true c_2
 refine Ct<|Sq<|Rg<|Aq (AV.b true)<|Ad<|Rt ?_
 try simp only [c_1,c_2,Aw] at hE1
 subst hE1
 exact Fb rfl (by simp only [JK,hR1,Aw])
 refine An<|An<|An<|An<|Aq (AV.b true)<|Ad<|Ct<|Sq<|Rg<|Aq (AV.b true)<|Ad<|Rt ?_
 try simp only [c_1,Aw] at hE1
 subst hE1
 exact Fb rfl (by simp only [JK,hR1,Aw])
 have hc1:decide (((i:Nat):Int)<((names.length:Nat):Int))=false:=decide_eq_false (by omega)
 refine A4.cond (t:=false) (by rw [←hc1]<;>kernel_rfl) (A4.exit ?_)
 rw [List.drop_eq_nil_of_le (hl1),Uc.eq_1] at hE1
 subst hE1
 refine Sq<|Rg<|Aq (AV.b false)<|Ad<|Rt ?_
 exact Fb rfl (by simp only [JK,hR1,Aw])
def BZ (x':A8):Obj:=⟨65,7,[(A8.av x')]⟩
def Cd (s':A7):Obj:=⟨35,11,[(A7.av s')]⟩
def Dz (x':A8):AV:=(AV.s ((L1 x').1))
def Dx (x':A8):AV:=(AV.s (x'.outs.getD 0 default))
def BV (s':A7):AV:=(AV.st [(AV.i .i64 s'.disk.clock),((Ag 3 Ak.av) s'.disk.files)])
def HA (s':A7) (x':A8):AV:=((Ag 1 AV.s) (((KL s'.deps (x'.outs.getD 0 default)).1).ins))
def Kk (s':A7) (x':A8):AV:=(AV.tup [(A2.av ((KL s'.deps (x'.outs.getD 0 default)).1)),(AV.b ((KL s'.deps (x'.outs.getD 0 default)).2))])
def Kj (s':A7) (x':A8):Aa:=⟨3,[(2,some ⟨85,3,[(AV.st [(AV.s (⟨#[]⟩:ByteArray)),(AV.i .i64 (0:Int)),(AV.i .i64 (0:Int))])]⟩),(0,some (Cd s')),(1,some (BZ x'))]⟩
def Ki (s':A7) (x':A8):AV:=(AV.tup [(Ak.av ((CM (⟨s'.disk.clock,s'.disk.files⟩:Aj) (x'.outs.getD 0 default)).1)),(AV.b ((CM (⟨s'.disk.clock,s'.disk.files⟩:Aj) (x'.outs.getD 0 default)).2))])
def Hz (s':A7) (x':A8):Obj:=⟨85,3,[(AV.st [(AV.s (((CM (⟨s'.disk.clock,s'.disk.files⟩:Aj) (x'.outs.getD 0 default)).1).name)),(AV.i .i64 (((CM (⟨s'.disk.clock,s'.disk.files⟩:Aj) (x'.outs.getD 0 default)).1).content)),(AV.i .i64 (((CM (⟨s'.disk.clock,s'.disk.files⟩:Aj) (x'.outs.getD 0 default)).1).time))])]⟩
theorem O9 (W:World) (s':A7) (x':A8) (hz:s'.sz≤1048576) (hx:x'.sz≤1048576) (ho:0<x'.outs.length):Ah Go.Proofs.Tryz.prog W 61 [(A7.av s'),(A8.av x')] (AV.b (G1 s' x')) []:=by
 have hg3:(⟨s'.disk.clock,s'.disk.files⟩:Aj).sz≤s'.sz:=s'.sz_disk
 have hg4:=s'.sz_log
 have hg5:=s'.sz_deps
 have hr1:=Bp x'.ins
 have hr2:=Bp x'.implicit
 have hr3:=Bp x'.order
 have hr4:=x'.sz_ins
 have hr5:=x'.sz_implicit
 have hr6:=x'.sz_order
 have hr7:Eb (fun s:ByteArray=>s.size+1) x'.ins+Eb (fun s:ByteArray=>s.size+1) x'.implicit+Eb (fun s:ByteArray=>s.size+1) x'.order≤1048576:=by unfold A8.sz at hx;simp only at hx;omega
 refine A9 (fn:=Go.Proofs.Tryz.f61) Go.Proofs.Tryz.func61 rfl (en61 W) (ts:=[4]) rfl le<|Sq<|Rg<|Nn (AV.loc 0 0 0) (Cd s')<|Nn (AV.loc 1 0 0) (BZ x')<|Aq (AV.b false)<|Ad<|Sq<|Rg<|Aq (A8.av x')<|A1.sc0 (vs:=[(A8.av x')]) (r0:=(AV.tup [(Dz x'),(AV.i .i64 ((L1 x').2))])) kr kr (UG W x' sd) kr le<|Aq (AV.tup [(Dz x'),(AV.i .i64 ((L1 x').2))])<|Aq (Dz x')<|Aq (AV.i .i64 ((L1 x').2))<|Aq (Dz x')<|Aq (AV.i .i64 ((L1 x').2))<|Ad<|Sq<|Rg<|Aq (AV.i .i64 (1048576:Int))<|Ad<|Sq<|Sq<|Rg<|Aq (AV.i .i64 (0:Int))<|Ad<|A4.block<|A4.lim 1 (x:=(A8.av x')) kr fun hlm1=> ?_
 have hB1:x'.outs.length≤281474976710656:=AX (JS hlm1)
 obtain ⟨R1,hR1⟩: ∃R,KY s' x' x'.outs 0 (1048576:Int)=R:=⟨_,rfl⟩
 refine Av (fun ((time,i):Int×Nat)=>[(2,(AV.loc 0 0 0)),(3,(AV.loc 1 0 0)),(5,(Dz x')),(7,(AV.i .i64 time)),(8,(Ai i))]) (fun ((time,i):Int×Nat)=>⟨2,[(0,some (Cd s')),(1,some (BZ x'))]⟩) (fun ((time,i):Int×Nat)=>i≤x'.outs.length∧KY s' x' (x'.outs.drop i) i time=R1) (fun ((time,i):Int×Nat)=>x'.outs.length-i) ((1048576:Int),0) ?_ ?_ ?_
 exact ⟨[0,1],⟨by decide,rfl,(A0.cons kr (A0.cons kr A0.nil)),(Af.cons (AE.f kr) (Af.cons (AE.f kr) (Ee (Ee (Ee Af.nil)))))⟩,Ar⟩
 exact ⟨od,hR1⟩
 rintro ⟨time,i⟩ ⟨hi1,hE1⟩
 try dsimp only
 refine Sq<|Sq<|Rg<|Aq (Ai i)<|Aq (AV.loc 1 0 0)<|Aq ((Ag 1 AV.s) x'.outs)<|Ap (Ai x'.outs.length) (AN (k:=1) (nl:=false) (e:=9) (A:=AV.s) (xs:=x'.outs) kr kr)<|Aq (AV.b (decide (((i:Nat):Int)<((x'.outs.length:Nat):Int))))<|Ad ?_
 rcases Nat.lt_or_ge i x'.outs.length with hl1|hl1
 have hc1:decide (((i:Nat):Int)<((x'.outs.length:Nat):Int))=true:=decide_eq_true (by omega)
 refine A4.cond (t:=true) (by rw [←hc1]<;>kernel_rfl) (A4.skip ?_)
 obtain ⟨x1,hx1⟩: ∃x,x'.outs[i]? =some x:=⟨_,List.getElem?_eq_getElem hl1⟩
 rw [AB hx1,KY.eq_2] at hE1
 refine Sq<|A4.block<|Sq<|Ed A5 C9 12 [10] kr kr kr le<|Dq (AV.loc 0 0 4)<|Dq (BV s')<|Dq (AV.loc 1 0 0)<|Dq ((Ag 1 AV.s) x'.outs)<|Dq (Ai i)<|Dp (AV.pt (AV.s x1).cells) (AQ (k:=1) (nl:=false) (e:=9) (kk:= .i64) (A:=AV.s) (xs:=x'.outs) (i:=i) kr kr kr ⟨by kernel_rfl,by decide⟩ hx1)<|Dq (AV.s x1)<|As.sc0 (vs:=[(BV s'),(AV.s x1)]) (r0:=(AV.tup [(Ak.av ((CM (⟨s'.disk.clock,s'.disk.files⟩:Aj) x1).1)),(AV.b ((CM (⟨s'.disk.clock,s'.disk.files⟩:Aj) x1).2))])) kr kr (He W (⟨s'.disk.clock,s'.disk.files⟩:Aj) x1 sd) kr le<|Dq (AV.tup [(Ak.av ((CM (⟨s'.disk.clock,s'.disk.files⟩:Aj) x1).1)),(AV.b ((CM (⟨s'.disk.clock,s'.disk.files⟩:Aj) x1).2))])<|Dq (Ak.av ((CM (⟨s'.disk.clock,s'.disk.files⟩:Aj) x1).1))<|Dq (AV.b ((CM (⟨s'.disk.clock,s'.disk.files⟩:Aj) x1).2))<|As.sn (x:=(AV.loc 2 0 0)) (h':=(Kj s' x')) kr le<|As.st (by decide) (x:=AV.und) (h':=⟨3,[(2,some ⟨85,3,[(AV.st [(AV.s (((CM (⟨s'.disk.clock,s'.disk.files⟩:Aj) x1).1).name)),(AV.i .i64 (((CM (⟨s'.disk.clock,s'.disk.files⟩:Aj) x1).1).content)),(AV.i .i64 (((CM (⟨s'.disk.clock,s'.disk.files⟩:Aj) x1).1).time))])]⟩),(0,some (Cd s')),(1,some (BZ x'))]⟩) kr ?_
 refine Dq (AV.b ((CM (⟨s'.disk.clock,s'.disk.files⟩:Aj) x1).2))<|As.fin<|Sq<|Ed A5 C9 12 [10] kr kr kr le<|Dq (AV.loc 0 0 6)<|Dq ((Ag 3 A6.av) s'.log)<|Dq (AV.loc 1 0 0)<|Dq ((Ag 1 AV.s) x'.outs)<|Dq (Ai i)<|Dp (AV.pt (AV.s x1).cells) (AQ (k:=1) (nl:=false) (e:=9) (kk:= .i64) (A:=AV.s) (xs:=x'.outs) (i:=i) kr kr kr ⟨by kernel_rfl,by decide⟩ hx1)<|Dq (AV.s x1)<|As.sc0 (vs:=[((Ag 3 A6.av) s'.log),(AV.s x1)]) (r0:=(AV.tup [(A6.av ((JM s'.log x1).1)),(AV.b ((JM s'.log x1).2))])) kr kr (LW W s'.log x1 sd) kr le<|Dq (AV.tup [(A6.av ((JM s'.log x1).1)),(AV.b ((JM s'.log x1).2))])<|Dq (A6.av ((JM s'.log x1).1))<|Dq (AV.b ((JM s'.log x1).2))<|As.sn (x:=(AV.loc 3 0 0)) (h':=⟨4,[(3,some ⟨56,3,[(AV.st [(AV.s (⟨#[]⟩:ByteArray)),(AV.i .i64 (0:Int)),(AV.s (⟨#[]⟩:ByteArray))])]⟩),(2,some ⟨85,3,[(AV.st [(AV.s (((CM (⟨s'.disk.clock,s'.disk.files⟩:Aj) x1).1).name)),(AV.i .i64 (((CM (⟨s'.disk.clock,s'.disk.files⟩:Aj) x1).1).content)),(AV.i .i64 (((CM (⟨s'.disk.clock,s'.disk.files⟩:Aj) x1).1).time))])]⟩),(0,some (Cd s')),(1,some (BZ x'))]⟩) kr le<|As.st (by decide) (x:=AV.und) (h':=⟨4,[(3,some ⟨56,3,[(AV.st [(AV.s (((JM s'.log x1).1).out)),(AV.i .i64 (((JM s'.log x1).1).time)),(AV.s (((JM s'.log x1).1).sign))])]⟩),(2,some ⟨85,3,[(AV.st [(AV.s (((CM (⟨s'.disk.clock,s'.disk.files⟩:Aj) x1).1).name)),(AV.i .i64 (((CM (⟨s'.disk.clock,s'.disk.files⟩:Aj) x1).1).content)),(AV.i .i64 (((CM (⟨s'.disk.clock,s'.disk.files⟩:Aj) x1).1).time))])]⟩),(0,some (Cd s')),(1,some (BZ x'))]⟩) kr ?_
 refine Dq (AV.b ((JM s'.log x1).2))<|As.fin<|Sq<|Sq<|Rg<|Aq (AV.b ((CM (⟨s'.disk.clock,s'.disk.files⟩:Aj) x1).2))<|Aq (AV.b (!(CM (⟨s'.disk.clock,s'.disk.files⟩:Aj) x1).2))<|Aq (AV.b (!(CM (⟨s'.disk.clock,s'.disk.files⟩:Aj) x1).2)) ?_
 cases c_1:(!(CM (⟨s'.disk.clock,s'.disk.files⟩:Aj) x1).2)
 refine Ay<|Aq (AV.b ((JM s'.log x1).2))<|Ay<|Aq (AV.b (!(JM s'.log x1).2))<|Aq (AV.b (!(JM s'.log x1).2))<|Aq (AV.b (!(JM s'.log x1).2)) ?_
 cases c_2:(!(JM s'.log x1).2)
 refine Ay<|Aq (AV.loc 3 0 2)<|Ay<|Aq (AV.s (((JM s'.log x1).1).sign))<|Ay<|Aq (Dz x')<|Ay<|Aq (AV.b (!decide (((JM s'.log x1).1).sign=(L1 x').1)))<|Aq (AV.b (!decide (((JM s'.log x1).1).sign=(L1 x').1)))<|Aq (AV.b (!decide (((JM s'.log x1).1).sign=(L1 x').1))) ?_
 cases c_3:(!decide (((JM s'.log x1).1).sign=(L1 x').1))
 have k_3:=LI c_3
 refine Ay<|Aq (AV.loc 3 0 1)<|Ay<|Aq (AV.i .i64 (((JM s'.log x1).1).time))<|Ay<|Aq (AV.loc 2 0 2)<|Ay<|Aq (AV.i .i64 (((CM (⟨s'.disk.clock,s'.disk.files⟩:Aj) x1).1).time))<|Ay<|Aq (AV.b (!decide (((JM s'.log x1).1).time=((CM (⟨s'.disk.clock,s'.disk.files⟩:Aj) x1).1).time)))<|Aq (AV.b (!decide (((JM s'.log x1).1).time=((CM (⟨s'.disk.clock,s'.disk.files⟩:Aj) x1).1).time)))<|Ad ?_
 cases c_4:(!decide (((JM s'.log x1).1).time=((CM (⟨s'.disk.clock,s'.disk.files⟩:Aj) x1).1).time))
 have k_4:=LI c_4
 refine Cf<|A4.skip<|Rg<|Aq (AV.i .i64 time)<|Aq (AV.loc 2 0 2)<|Aq (AV.i .i64 (((CM (⟨s'.disk.clock,s'.disk.files⟩:Aj) x1).1).time))<|Aq (AV.i .i64 (if ((CM (⟨s'.disk.clock,s'.disk.files⟩:Aj) x1).1).time<time then ((CM (⟨s'.disk.clock,s'.disk.files⟩:Aj) x1).1).time else time))<|Aq (AV.i .i64 (if ((CM (⟨s'.disk.clock,s'.disk.files⟩:Aj) x1).1).time<time then ((CM (⟨s'.disk.clock,s'.disk.files⟩:Aj) x1).1).time else time))<|Ad<|Rg<|Aq (Ai i)<|Ap (Ai (i+1)) (AA (i:=i) (m:=1) kr kr sd)<|Aq (Ai (i+1))<|Ad ?_
 try simp only [c_1,c_2,c_3,c_4,Aw] at hE1
 refine ⟨((if ((CM (⟨s'.disk.clock,s'.disk.files⟩:Aj) x1).1).time<time then ((CM (⟨s'.disk.clock,s'.disk.files⟩:Aj) x1).1).time else time),i+1),od,⟨od,hE1⟩,?_⟩
 exact ⟨[0,1],⟨by decide,rfl,(A0.cons kr (A0.cons kr A0.nil)),(Af.cons (AE.f kr) (Af.cons (AE.f kr) (Ee (Ee (Ee Af.nil)))))⟩,Ar⟩
 have k_4:=LJ c_4
 refine Ct<|Sq<|Rg<|Aq (AV.b true)<|Ad<|Rt ?_
 try simp only [c_1,c_2,c_3,c_4,Aw] at hE1
 subst hE1
 exact Fb rfl (by simp only [G1,hR1,Aw])
 have k_3:=LJ c_3
 refine An<|An<|An<|An<|An<|Aq (AV.b true)<|Ad<|Ct<|Sq<|Rg<|Aq (AV.b true)<|Ad<|Rt ?_
 try simp only [c_1,c_2,c_3,Aw] at hE1
 subst hE1
 exact Fb rfl (by simp only [G1,hR1,Aw])
 refine An<|An<|An<|An<|Aq (AV.b true)<|Aq (AV.b true)<|An<|An<|An<|An<|An<|Aq (AV.b true)<|Ad<|Ct<|Sq<|Rg<|Aq (AV.b true)<|Ad<|Rt ?_
 try simp only [c_1,c_2,Aw] at hE1
 subst hE1
 exact Fb rfl (by simp only [G1,hR1,Aw])
 refine An<|An<|Aq (AV.b true)<|Aq (AV.b true)<|An<|An<|An<|An<|Aq (AV.b true)<|Aq (AV.b true)<|An<|An<|An<|An<|An<|Aq (AV.b true)<|Ad<|Ct<|Sq<|Rg<|Aq (AV.b true)<|Ad<|Rt ?_
 try simp only [c_1,Aw] at hE1
 subst hE1
 exact Fb rfl (by simp only [G1,hR1,Aw])
 have hc1:decide (((i:Nat):Int)<((x'.outs.length:Nat):Int))=false:=decide_eq_false (by omega)
 refine A4.cond (t:=false) (by rw [←hc1]<;>kernel_rfl) (A4.exit ?_)
 rw [List.drop_eq_nil_of_le (hl1),KY.eq_1] at hE1
 subst hE1
 refine Sq<|Sq<|Rg<|Aq (AV.loc 0 0 4)<|Aq (BV s')<|Aq (AV.loc 1 0 1)<|Aq ((Ag 1 AV.s) x'.ins)<|Aq (AV.i .i64 time)<|A1.sc0 (vs:=[(BV s'),((Ag 1 AV.s) x'.ins),(AV.i .i64 time)]) (r0:=(AV.b (JK (⟨s'.disk.clock,s'.disk.files⟩:Aj) x'.ins time))) kr kr (Kz W (⟨s'.disk.clock,s'.disk.files⟩:Aj) x'.ins time sd) kr le<|Aq (AV.b (JK (⟨s'.disk.clock,s'.disk.files⟩:Aj) x'.ins time)) ?_
 cases c_5:(JK (⟨s'.disk.clock,s'.disk.files⟩:Aj) x'.ins time)
 refine Ay<|Aq (AV.loc 0 0 4)<|Ay<|Aq (BV s')<|Ay<|Aq (AV.loc 1 0 2)<|Ay<|Aq ((Ag 1 AV.s) x'.implicit)<|Ay<|Aq (AV.i .i64 time)<|Ay<|A1.sc0 (vs:=[(BV s'),((Ag 1 AV.s) x'.implicit),(AV.i .i64 time)]) (r0:=(AV.b (JK (⟨s'.disk.clock,s'.disk.files⟩:Aj) x'.implicit time))) kr kr (Kz W (⟨s'.disk.clock,s'.disk.files⟩:Aj) x'.implicit time sd) kr le<|Aq (AV.b (JK (⟨s'.disk.clock,s'.disk.files⟩:Aj) x'.implicit time))<|Ad ?_
 cases c_6:(JK (⟨s'.disk.clock,s'.disk.files⟩:Aj) x'.implicit time)
 refine Cf<|A4.skip<|Sq<|Sq<|Rg<|Aq (AV.loc 1 0 5)<|Aq (AV.b x'.deps)<|Aq (AV.b (!x'.deps))<|Ad ?_
 cases c_7:(!x'.deps)
 refine Cf<|A4.skip<|Sq<|Ed A5 C9 11 [9] kr kr kr le<|Dq (AV.loc 0 0 4)<|Dq (BV s')<|Dq (AV.loc 1 0 0)<|Dq ((Ag 1 AV.s) x'.outs)<|Dp (AV.pt (Dx x').cells) (AQ (k:=1) (nl:=false) (e:=9) (kk:= .i64) (A:=AV.s) (xs:=x'.outs) (i:=0) kr kr kr ⟨by kernel_rfl,by decide⟩ (getD_some sd))<|Dq (Dx x')<|As.sc0 (vs:=[(BV s'),(Dx x')]) (r0:=(Ki s' x')) kr kr (He W (⟨s'.disk.clock,s'.disk.files⟩:Aj) (x'.outs.getD 0 default) sd) kr le<|Dq (Ki s' x')<|Dq (Ak.av ((CM (⟨s'.disk.clock,s'.disk.files⟩:Aj) (x'.outs.getD 0 default)).1))<|Dq (AV.b ((CM (⟨s'.disk.clock,s'.disk.files⟩:Aj) (x'.outs.getD 0 default)).2))<|As.sn (x:=(AV.loc 2 0 0)) (h':=(Kj s' x')) kr le ?_
 refine As.st (by decide) (x:=AV.und) (h':=⟨3,[(2,some (Hz s' x')),(0,some (Cd s')),(1,some (BZ x'))]⟩) kr<|Dq (AV.b ((CM (⟨s'.disk.clock,s'.disk.files⟩:Aj) (x'.outs.getD 0 default)).2))<|As.fin<|Sq<|Ed A5 C9 11 [9] kr kr kr le<|Dq (AV.loc 0 0 7)<|Dq ((Ag 3 A2.av) s'.deps)<|Dq (AV.loc 1 0 0)<|Dq ((Ag 1 AV.s) x'.outs)<|Dp (AV.pt (Dx x').cells) (AQ (k:=1) (nl:=false) (e:=9) (kk:= .i64) (A:=AV.s) (xs:=x'.outs) (i:=0) kr kr kr ⟨by kernel_rfl,by decide⟩ (getD_some sd))<|Dq (Dx x')<|As.sc0 (vs:=[((Ag 3 A2.av) s'.deps),(Dx x')]) (r0:=(Kk s' x')) kr kr (MV W s'.deps (x'.outs.getD 0 default) sd) kr le<|Dq (Kk s' x')<|Dq (A2.av ((KL s'.deps (x'.outs.getD 0 default)).1)) ?_
 refine Dq (AV.b ((KL s'.deps (x'.outs.getD 0 default)).2))<|As.sn (x:=(AV.loc 3 0 0)) (h':=⟨4,[(3,some ⟨61,3,[(AV.st [(AV.s (⟨#[]⟩:ByteArray)),(AV.i .i64 (0:Int)),(AV.sl 1 true [])])]⟩),(2,some (Hz s' x')),(0,some (Cd s')),(1,some (BZ x'))]⟩) kr le<|As.st (by decide) (x:=AV.und) (h':=⟨4,[(3,some ⟨61,3,[(AV.st [(AV.s (((KL s'.deps (x'.outs.getD 0 default)).1).out)),(AV.i .i64 (((KL s'.deps (x'.outs.getD 0 default)).1).time)),(HA s' x')])]⟩),(2,some (Hz s' x')),(0,some (Cd s')),(1,some (BZ x'))]⟩) kr<|Dq (AV.b ((KL s'.deps (x'.outs.getD 0 default)).2))<|As.fin<|Sq<|Rg<|Aq (AV.b ((KL s'.deps (x'.outs.getD 0 default)).2)) ?_
 refine Aq (AV.b (!(KL s'.deps (x'.outs.getD 0 default)).2))<|Aq (AV.b (!(KL s'.deps (x'.outs.getD 0 default)).2)) ?_
 cases c_8:(!(KL s'.deps (x'.outs.getD 0 default)).2)
 refine Ay<|Aq (AV.loc 3 0 1)<|Ay<|Aq (AV.i .i64 (((KL s'.deps (x'.outs.getD 0 default)).1).time))<|Ay<|Aq (AV.loc 2 0 2)<|Ay<|Aq (AV.i .i64 (((CM (⟨s'.disk.clock,s'.disk.files⟩:Aj) (x'.outs.getD 0 default)).1).time))<|Ay<|Aq (AV.b (!decide (((KL s'.deps (x'.outs.getD 0 default)).1).time=((CM (⟨s'.disk.clock,s'.disk.files⟩:Aj) (x'.outs.getD 0 default)).1).time)))<|Aq (AV.b (!decide (((KL s'.deps (x'.outs.getD 0 default)).1).time=((CM (⟨s'.disk.clock,s'.disk.files⟩:Aj) (x'.outs.getD 0 default)).1).time)))<|Aq (AV.b (!decide (((KL s'.deps (x'.outs.getD 0 default)).1).time=((CM (⟨s'.disk.clock,s'.disk.files⟩:Aj) (x'.outs.getD 0 default)).1).time))) ?_
 cases c_9:(!decide (((KL s'.deps (x'.outs.getD 0 default)).1).time=((CM (⟨s'.disk.clock,s'.disk.files⟩:Aj) (x'.outs.getD 0 default)).1).time))
 have k_9:=LI c_9
 refine Ay<|Aq (AV.loc 0 0 4)<|Ay<|Aq (BV s')<|Ay<|Aq (AV.loc 3 0 2)<|Ay<|Aq (HA s' x')<|Ay<|Aq (AV.i .i64 time)<|Ay<|A1.sc0 (vs:=[(BV s'),(HA s' x'),(AV.i .i64 time)]) (r0:=(AV.b (JK (⟨s'.disk.clock,s'.disk.files⟩:Aj) (((KL s'.deps (x'.outs.getD 0 default)).1).ins) time))) kr kr (Kz W (⟨s'.disk.clock,s'.disk.files⟩:Aj) (((KL s'.deps (x'.outs.getD 0 default)).1).ins) time sd) kr le<|Aq (AV.b (JK (⟨s'.disk.clock,s'.disk.files⟩:Aj) (((KL s'.deps (x'.outs.getD 0 default)).1).ins) time))<|Aq (AV.b (JK (⟨s'.disk.clock,s'.disk.files⟩:Aj) (((KL s'.deps (x'.outs.getD 0 default)).1).ins) time))<|Ad<|Rt ?_
 exact Fb rfl (by simp only [G1,hR1,c_5,c_6,c_7,c_8,c_9,Aw])
 have k_9:=LJ c_9
 refine An<|An<|An<|An<|An<|An<|Aq (AV.b true)<|Aq (AV.b true)<|Ad<|Rt ?_
 exact Fb rfl (by simp only [G1,hR1,c_5,c_6,c_7,c_8,c_9,Aw])
 refine An<|An<|An<|An<|An<|Aq (AV.b true)<|Aq (AV.b true)<|An<|An<|An<|An<|An<|An<|Aq (AV.b true)<|Aq (AV.b true)<|Ad<|Rt ?_
 exact Fb rfl (by simp only [G1,hR1,c_5,c_6,c_7,c_8,Aw])
 refine Ct<|Sq<|Rg<|Aq (AV.b false)<|Ad<|Rt ?_
 exact Fb rfl (by simp only [G1,hR1,c_5,c_6,c_7,Aw])
 refine Ct<|Sq<|Rg<|Aq (AV.b true)<|Ad<|Rt ?_
 exact Fb rfl (by simp only [G1,hR1,c_5,c_6,Aw])
 refine An<|An<|An<|An<|An<|An<|Aq (AV.b true)<|Ad<|Ct<|Sq<|Rg<|Aq (AV.b true)<|Ad<|Rt ?_
 exact Fb rfl (by simp only [G1,hR1,c_5,Aw])
theorem UF (W:World) (s':A7) (edge:Int) (hz:s'.sz≤1048576):Ah Go.Proofs.Tryz.prog W 18 [(A7.av s'),(AV.i .i64 edge)] (AV.tup [(AV.b ((EQ s' edge).1)),(AV.i .i64 ((EQ s' edge).2))]) []:=by
 have hzg:=s'.sz_graph
 refine A9 (fn:=Go.Proofs.Tryz.f18) Go.Proofs.Tryz.func18 rfl (en18 W) (ts:=[4,5]) rfl le<|Sq<|Rg<|Nn (AV.loc 0 0 0) ⟨35,11,[(A7.av s')]⟩<|Aq (AV.b false)<|Aq (AV.i .i64 (0:Int))<|Ad<|Sq<|Sq<|Rg<|Aq (A7.av s')<|A1.sc0 (vs:=[(A7.av s')]) (r0:=(AV.b (Jn s'))) kr kr (J7 W s' sd) kr le<|Aq (AV.b (!(Jn s')))<|Aq (AV.b (!(Jn s'))) ?_
 cases c_1:(!(Jn s'))
 refine Ay<|Aq (AV.i .i64 edge)<|Ay<|Aq (AV.loc 0 0 0)<|Ay<|Aq (AV.loc 0 0 0)<|Ay<|Aq ((Ag 7 A8.av) s'.graph.edges)<|Ay<|Ap (Ai s'.graph.edges.length) (AN (k:=7) (nl:=false) (e:=65) (A:=A8.av) (xs:=s'.graph.edges) kr kr)<|Ay<|Aq (AV.i .i64 (IntKind.wrap .i64 (((s'.graph.edges.length:Nat):Int)-(1:Int))))<|Ay<|A1.sc0 (vs:=[(AV.i .i64 edge),(AV.i .i64 (0:Int)),(AV.i .i64 (IntKind.wrap .i64 (((s'.graph.edges.length:Nat):Int)-(1:Int))))]) (r0:=(AV.b (DL edge (0:Int) (IntKind.wrap .i64 (((s'.graph.edges.length:Nat):Int)-(1:Int)))))) kr kr (EF W edge (0:Int) (IntKind.wrap .i64 (((s'.graph.edges.length:Nat):Int)-(1:Int)))) kr le<|Ay<|Aq (AV.b (!(DL edge (0:Int) (IntKind.wrap .i64 (((s'.graph.edges.length:Nat):Int)-(1:Int))))))<|Aq (AV.b (!(DL edge (0:Int) (IntKind.wrap .i64 (((s'.graph.edges.length:Nat):Int)-(1:Int))))))<|Ad ?_
 cases c_2:(!(DL edge (0:Int) (IntKind.wrap .i64 (((s'.graph.edges.length:Nat):Int)-(1:Int)))))
 have q_2:=NA hz (by assumption) c_2
 refine Cf<|A4.skip<|Sq<|Sq<|A4.drawn A5 C9 7 kr le<|Dq (A7.av s')<|Dq (AV.loc 0 0 0)<|Dq (AV.loc 0 0 0)<|Dq ((Ag 7 A8.av) s'.graph.edges)<|Dq (AV.i .i64 edge)<|Dp (AV.pt (A8.av (s'.graph.edges.getD edge.toNat default)).cells) (Ei (k:=7) (nl:=false) (e:=65) (kk:= .i64) (A:=A8.av) (xs:=s'.graph.edges) (n:=edge) kr kr kr ⟨by kernel_rfl,by decide⟩ sd (getD_some sd))<|Dq (A8.av (s'.graph.edges.getD edge.toNat default))<|As.sc0 (vs:=[(A7.av s'),(A8.av (s'.graph.edges.getD edge.toNat default))]) (r0:=(AV.b (IL s' (s'.graph.edges.getD edge.toNat default)))) kr kr (Lm W s' (s'.graph.edges.getD edge.toNat default) hz (by omega)) kr le<|As.fin ?_
 cases c_3:(IL s' (s'.graph.edges.getD edge.toNat default))
 refine Cf<|A4.skip<|Sq<|A4.drawn A5 C9 7 kr le<|Dq (A7.av s')<|Dq (AV.loc 0 0 0)<|Dq (AV.loc 0 0 0)<|Dq ((Ag 7 A8.av) s'.graph.edges)<|Dq (AV.i .i64 edge)<|Dp (AV.pt (A8.av (s'.graph.edges.getD edge.toNat default)).cells) (Ei (k:=7) (nl:=false) (e:=65) (kk:= .i64) (A:=A8.av) (xs:=s'.graph.edges) (n:=edge) kr kr kr ⟨by kernel_rfl,by decide⟩ sd (getD_some sd))<|Dq (A8.av (s'.graph.edges.getD edge.toNat default))<|As.sc0 (vs:=[(A7.av s'),(A8.av (s'.graph.edges.getD edge.toNat default))]) (r0:=(AV.b (G1 s' (s'.graph.edges.getD edge.toNat default)))) kr kr (O9 W s' (s'.graph.edges.getD edge.toNat default) hz (by omega) (by omega)) kr le<|Dq (AV.b (G1 s' (s'.graph.edges.getD edge.toNat default)))<|Dq (AV.i .i64 (0:Int))<|As.fin<|Rt ?_
 exact WX rfl (by simp only [EQ,c_1,c_2,c_3,Aw])
 refine Ct<|Sq<|Rg<|Aq (AV.b false)<|Aq (AV.i .i64 (1901:Int))<|Ad<|Rt ?_
 exact WX rfl (by simp only [EQ,c_1,c_2,c_3,Aw])
 refine Ct<|Sq<|Rg<|Aq (AV.b false)<|Aq (AV.i .i64 (1900:Int))<|Ad<|Rt ?_
 exact WX rfl (by simp only [EQ,c_1,c_2,Aw])
 refine An<|An<|An<|An<|An<|An<|An<|An<|Aq (AV.b true)<|Ad<|Ct<|Sq<|Rg<|Aq (AV.b false)<|Aq (AV.i .i64 (1900:Int))<|Ad<|Rt ?_
 exact WX rfl (by simp only [EQ,c_1,Aw])
def Bm (s':A7):Obj:=⟨35,11,[(A7.av s')]⟩
def Bd (s':A7):AV:=((Ag 1 (AV.i .i64)) ((Hb s'.graph).1))
def Di (s':A7):AV:=(AV.st [((Ag 7 A8.av) s'.graph.edges),((Ag 2 AD.av) s'.graph.pools),((Ag 1 AV.s) s'.graph.defaults)])
theorem J6 (W:World) (s':A7) (hz:s'.sz≤1048576):Ah Go.Proofs.Tryz.prog W 20 [(A7.av s')] (AV.tup [((Ag 1 AV.b) ((Lb s').1)),(AV.i .i64 ((Lb s').2))]) []:=by
 have hzg:=s'.sz_graph
 have hgl:=Nat.le_trans s'.graph.sz_len (Nat.le_trans hzg hz)
 have hol:=Vj s'.graph
 refine A9 (fn:=Go.Proofs.Tryz.f20) Go.Proofs.Tryz.func20 rfl (en20 W) (ts:=[2,3]) rfl le<|Sq<|Rg<|Nn (AV.loc 0 0 0) (Bm s')<|Aq (AV.sl 1 true [])<|Aq (AV.i .i64 (0:Int))<|Ad<|Sq<|Sq<|Rg<|Aq (A7.av s')<|A1.sc0 (vs:=[(A7.av s')]) (r0:=(AV.b (Jn s'))) kr kr (J7 W s' sd) kr le<|Aq (AV.b (!(Jn s')))<|Ad ?_
 cases c_1:(!(Jn s'))
 refine Cf<|A4.skip<|Sq<|Rg<|Aq (AV.loc 0 0 0)<|Aq (AV.loc 0 0 0)<|Aq ((Ag 7 A8.av) s'.graph.edges)<|Ap (Ai s'.graph.edges.length) (AN (k:=7) (nl:=false) (e:=65) (A:=A8.av) (xs:=s'.graph.edges) kr kr)<|A1.sn (x:=(AV.own 1 0 s'.graph.edges.length)) (h':=⟨2,[(1,some ⟨4,1,(List.replicate s'.graph.edges.length false).map AV.b⟩),(0,some (Bm s'))]⟩) (Pj (e:=4) (i:=Iy) (A:=AV.b) (z:=false) (n:=s'.graph.edges.length) kr kr kr kr ⟨by decide,by kernel_rfl⟩ kr (by show _*1≤140737488355328;first|omega|(simp only [List.length_append,List.length_cons,List.length_nil,List.length_set,List.length_replicate];omega)|(simp;omega)) sd) le<|Aq (AV.own 1 0 s'.graph.edges.length)<|Ad<|Sq<|Rg<|Aq (AV.loc 0 0 0)<|Aq (Di s')<|A1.sc0 (vs:=[(Di s')]) (r0:=(AV.tup [(Bd s'),(AV.i .i64 ((Hb s'.graph).2))])) kr kr (MY W s'.graph (Nat.le_trans s'.sz_graph hz)) kr le<|Aq (AV.tup [(Bd s'),(AV.i .i64 ((Hb s'.graph).2))]) ?_
 refine Aq (Bd s')<|Aq (AV.i .i64 ((Hb s'.graph).2))<|Aq (Bd s')<|Aq (AV.i .i64 ((Hb s'.graph).2))<|Ad<|Sq<|Sq<|Rg<|Aq (AV.i .i64 (0:Int))<|Ad<|A4.block<|A4.lim 25 (x:=(Bd s')) kr fun hlm1=> ?_
 have hB1:((Hb s'.graph).1).length≤281474976710656:=AX hlm1
 obtain ⟨R1,hR1⟩: ∃R,Oi s' ((Hb s'.graph).1) 0 (List.replicate s'.graph.edges.length false)=R:=⟨_,rfl⟩
 refine Av (fun ((i,row):Nat×(List Bool))=>[(1,(AV.loc 0 0 0)),(4,(AV.own 1 0 s'.graph.edges.length)),(5,(Bd s')),(7,(Ai i))]) (fun ((i,row):Nat×(List Bool))=>⟨2,[(0,some (Bm s')),(1,some ⟨4,1,row.map AV.b⟩)]⟩) (fun ((i,row):Nat×(List Bool))=>i≤((Hb s'.graph).1).length∧row.length=s'.graph.edges.length∧Oi s' (((Hb s'.graph).1).drop i) i row=R1) (fun ((i,row):Nat×(List Bool))=>((Hb s'.graph).1).length-i) (0,(List.replicate s'.graph.edges.length false)) ?_ ?_ ?_
 exact ⟨[0,1],⟨by decide,rfl,(A0.cons kr (A0.cons (Az (fun _=>rfl) (e:=4) (k:=1) (A:=AV.b) (xs:=(List.replicate s'.graph.edges.length false)) rfl rfl) A0.nil)),(Af.cons (AE.f kr) (Af.cons (AE.f kr) (Ee (Ee Af.nil))))⟩,Ar⟩
 exact ⟨od,by (try dsimp only)<;>(simp),hR1⟩
 rintro ⟨i,row⟩ ⟨hi1,hq,hE1⟩
 try dsimp only
 refine Sq<|Sq<|Rg<|Aq (Ai i)<|Aq (Bd s')<|Ap (AV.i .i64 ((((Hb s'.graph).1).length:Nat):Int)) (AN (k:=1) (nl:=false) (e:=3) (A:=(AV.i .i64)) (xs:=((Hb s'.graph).1)) kr kr)<|Aq (AV.b (decide (((i:Nat):Int)<((((Hb s'.graph).1).length:Nat):Int))))<|Ad ?_
 rcases Nat.lt_or_ge i ((Hb s'.graph).1).length with hl1|hl1
 have hc1:decide (((i:Nat):Int)<((((Hb s'.graph).1).length:Nat):Int))=true:=decide_eq_true (by omega)
 refine A4.cond (t:=true) (by rw [←hc1]<;>kernel_rfl) (A4.skip ?_)
 obtain ⟨x1,hx1⟩: ∃x,((Hb s'.graph).1)[i]? =some x:=⟨_,List.getElem?_eq_getElem hl1⟩
 rw [AB hx1,Oi.eq_2] at hE1
 have ha:=Wa hz (by assumption) (List.mem_of_getElem? hx1)
 have hsj:((s'.graph.edges.getD x1.toNat default).ins++(s'.graph.edges.getD x1.toNat default).implicit).length≤1048576:=by rw [List.length_append];omega
 refine Sq<|A4.block<|Sq<|A4.drawn A5 C9 10 kr le<|Dq (AV.loc 0 0 0)<|Dq (AV.loc 0 0 0)<|Dq ((Ag 7 A8.av) s'.graph.edges)<|Dq (Bd s')<|Dq (Ai i)<|Dp (AV.pt ((AV.i .i64) x1).cells) (AQ (k:=1) (nl:=false) (e:=3) (kk:= .i64) (A:=(AV.i .i64)) (xs:=((Hb s'.graph).1)) (i:=i) kr kr kr ⟨by kernel_rfl,by decide⟩ hx1)<|Dq (AV.i .i64 x1)<|Dp (AV.pt (A8.av (s'.graph.edges.getD x1.toNat default)).cells) (Ei (k:=7) (nl:=false) (e:=65) (kk:= .i64) (A:=A8.av) (xs:=s'.graph.edges) (n:=x1) kr kr kr ⟨by kernel_rfl,by decide⟩ sd (getD_some sd))<|Dq (A8.av (s'.graph.edges.getD x1.toNat default))<|As.sn (x:=(AV.loc 2 0 0)) (h':=⟨3,[(2,some ⟨65,7,[(AV.st [(AV.sl 1 true []),(AV.sl 1 true []),(AV.sl 1 true []),(AV.sl 1 true []),(AV.s (⟨#[]⟩:ByteArray)),(AV.b false),(AV.s (⟨#[]⟩:ByteArray))])]⟩),(0,some (Bm s')),(1,some ⟨4,1,row.map AV.b⟩)]⟩) kr le<|As.st (by decide) (x:=AV.und) (h':=⟨3,[(2,some ⟨65,7,[(A8.av (s'.graph.edges.getD x1.toNat default))]⟩),(0,some (Bm s')),(1,some ⟨4,1,row.map AV.b⟩)]⟩) kr ?_
 refine As.fin<|Sq<|Sq<|Rg<|Aq (A7.av s')<|Aq (A8.av (s'.graph.edges.getD x1.toNat default))<|A1.sc0 (vs:=[(A7.av s'),(A8.av (s'.graph.edges.getD x1.toNat default))]) (r0:=(AV.b (IL s' (s'.graph.edges.getD x1.toNat default)))) kr kr (Lm W s' (s'.graph.edges.getD x1.toNat default) hz ha.2.2.1) kr le ?_
 refine Ad ?_
 cases c_2:(IL s' (s'.graph.edges.getD x1.toNat default))
 refine Cf<|A4.skip<|Sq<|Rg<|Aq (A7.av s')<|Aq (A8.av (s'.graph.edges.getD x1.toNat default))<|A1.sc0 (vs:=[(A7.av s'),(A8.av (s'.graph.edges.getD x1.toNat default))]) (r0:=(AV.b (G1 s' (s'.graph.edges.getD x1.toNat default)))) kr kr (O9 W s' (s'.graph.edges.getD x1.toNat default) hz ha.2.2.1 ha.2.2.2.1) kr le ?_
 refine Aq (AV.b (G1 s' (s'.graph.edges.getD x1.toNat default)))<|Ad<|Sq<|Rg<|Nn (AV.own 3 0 0) ⟨9,1,[].map AV.s⟩<|Aq (AV.loc 2 0 1)<|Aq ((Ag 1 AV.s) ((s'.graph.edges.getD x1.toNat default).ins))<|AY (x:=(AV.own 4 0 ((s'.graph.edges.getD x1.toNat default).ins.length))) (h':=⟨5,[(4,some ⟨9,1,((s'.graph.edges.getD x1.toNat default).ins).map AV.s⟩),(3,none),(2,some ⟨65,7,[(A8.av (s'.graph.edges.getD x1.toNat default))]⟩),(0,some (Bm s')),(1,some ⟨4,1,row.map AV.b⟩)]⟩) (CE (len:=0) (e:=9) (X:=((Ag 1 AV.s) ((s'.graph.edges.getD x1.toNat default).ins))) (A:=AV.s) (i:=DU) (p:=3) (xs:=[]) (ys:=(s'.graph.edges.getD x1.toNat default).ins) kr kr kr (hx:=kr) kr ⟨by decide,by kernel_rfl⟩ rfl sd (by show _*16≤140737488355328;first|omega|(simp only [List.length_append,List.length_cons,List.length_nil,List.length_set,List.length_replicate];omega)|(simp;omega)) sd) le ?_
 refine Aq (AV.own 4 0 ((s'.graph.edges.getD x1.toNat default).ins.length))<|Ad<|Sq<|Rg<|Aq (AV.own 4 0 ((s'.graph.edges.getD x1.toNat default).ins.length))<|Aq (AV.loc 2 0 2)<|Aq ((Ag 1 AV.s) ((s'.graph.edges.getD x1.toNat default).implicit))<|AY (x:=(AV.own 5 0 (((s'.graph.edges.getD x1.toNat default).ins++(s'.graph.edges.getD x1.toNat default).implicit).length))) (h':=⟨6,[(5,some ⟨9,1,((s'.graph.edges.getD x1.toNat default).ins++(s'.graph.edges.getD x1.toNat default).implicit).map AV.s⟩),(4,none),(3,none),(2,some ⟨65,7,[(A8.av (s'.graph.edges.getD x1.toNat default))]⟩),(0,some (Bm s')),(1,some ⟨4,1,row.map AV.b⟩)]⟩) (CE (len:=((s'.graph.edges.getD x1.toNat default).ins.length)) (e:=9) (X:=((Ag 1 AV.s) ((s'.graph.edges.getD x1.toNat default).implicit))) (A:=AV.s) (i:=DU) (p:=4) (xs:=((s'.graph.edges.getD x1.toNat default).ins)) (ys:=(s'.graph.edges.getD x1.toNat default).implicit) kr kr kr (hx:=kr) kr ⟨by decide,by kernel_rfl⟩ rfl sd (by show _*16≤140737488355328;first|omega|(simp only [List.length_append,List.length_cons,List.length_nil,List.length_set,List.length_replicate];omega)|(simp;omega)) sd) le ?_
 refine Aq (AV.own 5 0 (((s'.graph.edges.getD x1.toNat default).ins++(s'.graph.edges.getD x1.toNat default).implicit).length))<|Ad<|Sq<|Sq<|Rg<|Aq (AV.i .i64 (0:Int))<|Ad<|A4.block ?_
 have hB2:(((s'.graph.edges.getD x1.toNat default).ins++(s'.graph.edges.getD x1.toNat default).implicit).length)≤281474976710656:=by first|omega|(simp;done)|(simp;omega)
 obtain ⟨R2,hR2⟩: ∃R,Ml s' row ((s'.graph.edges.getD x1.toNat default).ins++(s'.graph.edges.getD x1.toNat default).implicit) 0 (G1 s' (s'.graph.edges.getD x1.toNat default))=R:=⟨_,rfl⟩
 refine Av (fun ((is,k):Bool×Nat)=>[(1,(AV.loc 0 0 0)),(4,(AV.own 1 0 s'.graph.edges.length)),(5,(Bd s')),(7,(Ai i)),(10,(AV.own 2 0 (((s'.graph.edges.getD x1.toNat default).ins++(s'.graph.edges.getD x1.toNat default).implicit).length))),(9,(AV.b is)),(11,(Ai k))]) (fun ((is,k):Bool×Nat)=>⟨3,[(0,some (Bm s')),(1,some ⟨4,1,row.map AV.b⟩),(2,some ⟨9,1,((s'.graph.edges.getD x1.toNat default).ins++(s'.graph.edges.getD x1.toNat default).implicit).map AV.s⟩)]⟩) (fun ((is,k):Bool×Nat)=>k≤(((s'.graph.edges.getD x1.toNat default).ins++(s'.graph.edges.getD x1.toNat default).implicit).length)∧Ml s' row (((s'.graph.edges.getD x1.toNat default).ins++(s'.graph.edges.getD x1.toNat default).implicit).drop k) k is=R2) (fun ((is,k):Bool×Nat)=>(((s'.graph.edges.getD x1.toNat default).ins++(s'.graph.edges.getD x1.toNat default).implicit).length)-k) ((G1 s' (s'.graph.edges.getD x1.toNat default)),0) ?_ ?_ ?_
 exact ⟨[0,1,5],⟨by decide,rfl,(A0.cons kr (A0.cons (Az (fun _=>rfl) (e:=4) (k:=1) (A:=AV.b) (xs:=row) rfl rfl) (A0.cons (Az (fun _=>rfl) (e:=9) (k:=1) (A:=AV.s) (xs:=((s'.graph.edges.getD x1.toNat default).ins++(s'.graph.edges.getD x1.toNat default).implicit)) rfl rfl) A0.nil))),(Af.cons (AE.f kr) (Af.cons (AE.f kr) (Ee (Ee (Af.cons (AE.f kr) (Ee (Ee Af.nil)))))))⟩,Ar⟩
 exact ⟨od,hR2⟩
 rintro ⟨is,k⟩ ⟨hi2,hE2⟩
 try dsimp only
 refine Sq<|Sq<|Rg<|Aq (Ai k)<|Aq (AV.own 2 0 (((s'.graph.edges.getD x1.toNat default).ins++(s'.graph.edges.getD x1.toNat default).implicit).length))<|Aq (AV.i .i64 ((((s'.graph.edges.getD x1.toNat default).ins++(s'.graph.edges.getD x1.toNat default).implicit).length:Nat):Int))<|Aq (AV.b (decide (((k:Nat):Int)<((((s'.graph.edges.getD x1.toNat default).ins++(s'.graph.edges.getD x1.toNat default).implicit).length:Nat):Int))))<|Ad ?_
 rcases Nat.lt_or_ge k (((s'.graph.edges.getD x1.toNat default).ins++(s'.graph.edges.getD x1.toNat default).implicit).length) with hl2|hl2
 have hc2:decide (((k:Nat):Int)<(((((s'.graph.edges.getD x1.toNat default).ins++(s'.graph.edges.getD x1.toNat default).implicit).length):Nat):Int))=true:=decide_eq_true (by omega)
 refine A4.cond (t:=true) (by rw [←hc2]<;>kernel_rfl) (A4.skip ?_)
 obtain ⟨x2,hx2⟩: ∃x,((s'.graph.edges.getD x1.toNat default).ins++(s'.graph.edges.getD x1.toNat default).implicit)[k]? =some x:=⟨_,List.getElem?_eq_getElem (by first|(simpa using hl2)|omega)⟩
 rw [AB hx2,Ml.eq_2] at hE2
 have hmk:=Vd s'.graph x2
 refine Sq<|A4.block<|Sq<|A4.drawn A5 C9 6 kr le<|Dq (AV.loc 0 0 0)<|Dq (Di s')<|Dq (AV.own 2 0 (((s'.graph.edges.getD x1.toNat default).ins++(s'.graph.edges.getD x1.toNat default).implicit).length))<|Dq (Ai k)<|Dp (AV.loc 2 k 0) (Ge (e:=9) (id:=2) (len:=(((s'.graph.edges.getD x1.toNat default).ins++(s'.graph.edges.getD x1.toNat default).implicit).length)) (kk:= .i64) (ob:=⟨9,1,((s'.graph.edges.getD x1.toNat default).ins++(s'.graph.edges.getD x1.toNat default).implicit).map AV.s⟩) (i:=k) kr kr kr rfl kr sd)<|Dp (AV.s x2) (Dg (e:=9) (k:=1) (i:=DU) (id:=2) (xs:=((s'.graph.edges.getD x1.toNat default).ins++(s'.graph.edges.getD x1.toNat default).implicit)) (A:=AV.s) (j:=k) kr kr rfl hx2 kr)<|As.sc0 (vs:=[(Di s'),(AV.s x2)]) (r0:=(AV.i .i64 (Hq s'.graph x2))) kr kr (HI W s'.graph x2) kr le<|Dq (AV.i .i64 (Hq s'.graph x2))<|As.fin<|Rg<|Aq (AV.b is)<|Aq (AV.b is) ?_
 cases c_3:is
 refine Ay<|Aq (AV.i .i64 (Hq s'.graph x2))<|Ay<|Aq (AV.b (decide ((0:Int)≤(Hq s'.graph x2))))<|Ay<|Aq (AV.b (decide ((0:Int)≤(Hq s'.graph x2)))) ?_
 cases c_4:decide ((0:Int)≤(Hq s'.graph x2))
 have k_4:=of_decide_eq_false c_4
 refine An<|An<|An<|An<|Ay<|Aq (AV.b false)<|Aq (AV.b false)<|Aq (AV.b false)<|Ad<|Rg<|Aq (Ai k)<|Ap (Ai (k+1)) (AA (i:=k) (m:=1) kr kr sd)<|Aq (Ai (k+1))<|Ad ?_
 try simp only [c_3,c_4,Aw] at hE2
 refine ⟨(false,k+1),od,⟨od,hE2⟩,?_⟩
 exact ⟨[0,1,2],⟨by decide,rfl,(A0.cons kr (A0.cons (Az (fun _=>rfl) (e:=4) (k:=1) (A:=AV.b) (xs:=row) rfl rfl) (A0.cons (Az (fun _=>rfl) (e:=9) (k:=1) (A:=AV.s) (xs:=((s'.graph.edges.getD x1.toNat default).ins++(s'.graph.edges.getD x1.toNat default).implicit)) rfl rfl) A0.nil))),(Af.cons (AE.f kr) (Af.cons (AE.f kr) (Ee (Ee (Af.cons (AE.f kr) (Ee (Ee Af.nil)))))))⟩,Ar⟩
 have k_4:=of_decide_eq_true c_4
 refine Ay<|Aq (AV.own 1 0 s'.graph.edges.length)<|Ay<|Aq (AV.i .i64 (Hq s'.graph x2))<|Ay<|Ap (AV.loc 1 ((Hq s'.graph x2).toNat) 0) (Ex (e:=4) (id:=1) (len:=s'.graph.edges.length) (kk:= .i64) (ob:=⟨4,1,row.map AV.b⟩) (n:=(Hq s'.graph x2)) kr kr kr rfl kr sd sd)<|Ay<|Ap (AV.b (row.getD ((Hq s'.graph x2).toNat) default)) (Dg (e:=4) (k:=1) (i:=Iy) (id:=1) (xs:=row) (A:=AV.b) (j:=(Hq s'.graph x2).toNat) kr kr rfl (getD_some sd) kr)<|Ay<|Aq (AV.b (row.getD ((Hq s'.graph x2).toNat) default))<|Aq (AV.b (row.getD ((Hq s'.graph x2).toNat) default))<|Aq (AV.b (row.getD ((Hq s'.graph x2).toNat) default))<|Ad<|Rg<|Aq (Ai k)<|Ap (Ai (k+1)) (AA (i:=k) (m:=1) kr kr sd)<|Aq (Ai (k+1))<|Ad ?_
 try simp only [c_3,c_4,Aw] at hE2
 refine ⟨((row.getD ((Hq s'.graph x2).toNat) default),k+1),od,⟨od,hE2⟩,?_⟩
 exact ⟨[0,1,2],⟨by decide,rfl,(A0.cons kr (A0.cons (Az (fun _=>rfl) (e:=4) (k:=1) (A:=AV.b) (xs:=row) rfl rfl) (A0.cons (Az (fun _=>rfl) (e:=9) (k:=1) (A:=AV.s) (xs:=((s'.graph.edges.getD x1.toNat default).ins++(s'.graph.edges.getD x1.toNat default).implicit)) rfl rfl) A0.nil))),(Af.cons (AE.f kr) (Af.cons (AE.f kr) (Ee (Ee (Af.cons (AE.f kr) (Ee (Ee Af.nil)))))))⟩,Ar⟩
 refine An<|An<|An<|An<|An<|An<|An<|An<|Aq (AV.b true)<|Aq (AV.b true)<|Ad<|Rg<|Aq (Ai k)<|Ap (Ai (k+1)) (AA (i:=k) (m:=1) kr kr sd)<|Aq (Ai (k+1))<|Ad ?_
 try simp only [c_3,Aw] at hE2
 refine ⟨(true,k+1),od,⟨od,hE2⟩,?_⟩
 exact ⟨[0,1,2],⟨by decide,rfl,(A0.cons kr (A0.cons (Az (fun _=>rfl) (e:=4) (k:=1) (A:=AV.b) (xs:=row) rfl rfl) (A0.cons (Az (fun _=>rfl) (e:=9) (k:=1) (A:=AV.s) (xs:=((s'.graph.edges.getD x1.toNat default).ins++(s'.graph.edges.getD x1.toNat default).implicit)) rfl rfl) A0.nil))),(Af.cons (AE.f kr) (Af.cons (AE.f kr) (Ee (Ee (Af.cons (AE.f kr) (Ee (Ee Af.nil)))))))⟩,Ar⟩
 have hc2:decide (((k:Nat):Int)<(((((s'.graph.edges.getD x1.toNat default).ins++(s'.graph.edges.getD x1.toNat default).implicit).length):Nat):Int))=false:=decide_eq_false (by omega)
 refine A4.cond (t:=false) (by rw [←hc2]<;>kernel_rfl) (A4.exit ?_)
 rw [List.drop_eq_nil_of_le (by first|(simpa using hl2)|omega),Ml.eq_1] at hE2
 subst hE2
 refine Rg<|Aq (AV.own 1 0 s'.graph.edges.length)<|Aq (Bd s')<|Aq (Ai i)<|Ap (AV.pt ((AV.i .i64) x1).cells) (AQ (k:=1) (nl:=false) (e:=3) (kk:= .i64) (A:=(AV.i .i64)) (xs:=((Hb s'.graph).1)) (i:=i) kr kr kr ⟨by kernel_rfl,by decide⟩ hx1)<|Aq (AV.i .i64 x1)<|Aq (AV.b is)<|Ap (AV.loc 1 x1.toNat 0) (Ex (e:=4) (id:=1) (len:=s'.graph.edges.length) (kk:= .i64) (ob:=⟨4,1,row.map AV.b⟩) (n:=x1) kr kr kr rfl kr sd sd)<|A1.st (x:=AV.und) (h':=⟨3,[(0,some (Bm s')),(1,some ⟨4,1,(row.set x1.toNat is).map AV.b⟩),(2,some ⟨9,1,((s'.graph.edges.getD x1.toNat default).ins++(s'.graph.edges.getD x1.toNat default).implicit).map AV.s⟩)]⟩) (L9 (e:=4) (k:=1) (i:=Iy) (id:=1) (A:=AV.b) (xs:=row) (y:=is) (j:=x1.toNat) kr kr kr rfl sd (fun _=>rfl) kr (fun _=>rfl) (fun _=>rfl))<|Ad<|Rg<|Aq (Ai i)<|Ap (Ai (i+1)) (AA (i:=i) (m:=1) kr kr sd)<|Aq (Ai (i+1))<|Ad ?_
 try simp only [c_2,hR2,Aw] at hE1
 refine ⟨(i+1,(row.set x1.toNat is)),od,⟨od,by (try dsimp only)<;>(simp only [List.length_set];exact hq),hE1⟩,?_⟩
 exact ⟨[0,1],⟨by decide,rfl,(A0.cons kr (A0.cons (Az (fun _=>rfl) (e:=4) (k:=1) (A:=AV.b) (xs:=(row.set x1.toNat is)) rfl rfl) A0.nil)),(Af.cons (AE.f kr) (Af.cons (AE.f kr) (Ee (Ee Af.nil))))⟩,Ar⟩
 refine Ct<|Sq<|Rg<|Aq (AV.sl 1 true [])<|Aq (AV.i .i64 (1901:Int))<|Ad<|Rt ?_
 try simp only [c_2,Aw] at hE1
 subst hE1
 have hM:Lb s'=(([]:List Bool),(1901:Int)):=by simp only [Lb,c_1,hR1,Aw]
 refine ⟨Or.inr rfl,?_⟩
 rw [hM]
 exact AE.cast (x':=(AV.tup [(AV.sl 1 true []),(AV.i .i64 (1901:Int))])) (y':=(AV.tup [((Ag 1 AV.b) ((([]:List Bool),(1901:Int)).1)),(AV.i .i64 ((([]:List Bool),(1901:Int)).2))])) kr kr (AE.tup ⟨(AE.w rfl (AP.nil 1)),⟨Ec,trivial⟩⟩ kr)
 have hc1:decide (((i:Nat):Int)<((((Hb s'.graph).1).length:Nat):Int))=false:=decide_eq_false (by omega)
 refine A4.cond (t:=false) (by rw [←hc1]<;>kernel_rfl) (A4.exit ?_)
 rw [List.drop_eq_nil_of_le (hl1),Oi.eq_1] at hE1
 subst hE1
 refine Sq<|Rg<|Aq (AV.own 1 0 s'.graph.edges.length)<|Aq (AV.own 1 0 s'.graph.edges.length)<|Aq (AV.i .i64 (0:Int))<|Ad<|Rt ?_
 have hM:Lb s'=(row,(0:Int)):=by simp only [Lb,c_1,hR1,Aw]
 refine ⟨Or.inr rfl,?_⟩
 rw [hM]
 exact AE.cast (x':=(AV.tup [(AV.own 1 0 s'.graph.edges.length),(AV.i .i64 (0:Int))])) (y':=(AV.tup [((Ag 1 AV.b) ((row,(0:Int)).1)),(AV.i .i64 ((row,(0:Int)).2))])) kr kr (AE.tup ⟨(Dk.kk (x':=(AV.own 1 0 s'.graph.edges.length)) kr kr rfl (Al.row (fun _=>rfl) (A:=AV.b) (id:=1) (e:=4) (k:=1) (xs:=row) rfl rfl sd sd)),⟨Ec,trivial⟩⟩ kr)
 refine Ct<|Sq<|Rg<|Aq (AV.sl 1 true [])<|Aq (AV.i .i64 (1900:Int))<|Ad<|Rt ?_
 have hM:Lb s'=(([]:List Bool),(1900:Int)):=by simp only [Lb,c_1,Aw]
 refine ⟨Or.inr rfl,?_⟩
 rw [hM]
 exact AE.cast (x':=(AV.tup [(AV.sl 1 true []),(AV.i .i64 (1900:Int))])) (y':=(AV.tup [((Ag 1 AV.b) ((([]:List Bool),(1900:Int)).1)),(AV.i .i64 ((([]:List Bool),(1900:Int)).2))])) kr kr (AE.tup ⟨(AE.w rfl (AP.nil 1)),⟨Ec,trivial⟩⟩ kr)
def FO:AV:=(AV.st [(AV.own 9 0 3),(AV.own 10 0 1),(AV.own 11 0 1)])
def I6:AV:=(AV.st [(AV.own 1 0 1),(AV.own 2 0 2),(AV.sl 1 true []),(AV.sl 1 true []),(AV.s (⟨#[97,114]⟩:ByteArray)),(AV.b false),(AV.s (⟨#[]⟩:ByteArray))])
def I5:AV:=(AV.st [(AV.own 3 0 2),(AV.own 4 0 1),(AV.own 5 0 1),(AV.sl 1 true []),(AV.s (⟨#[99,99,32,97]⟩:ByteArray)),(AV.b true),(AV.s (⟨#[116,119,111]⟩:ByteArray))])
def I4:AV:=(AV.st [(AV.own 6 0 1),(AV.own 7 0 1),(AV.sl 1 true []),(AV.own 8 0 1),(AV.s (⟨#[99,99,32,98]⟩:ByteArray)),(AV.b false),(AV.s (⟨#[116,119,111]⟩:ByteArray))])
def FN:AV:=(AV.st [(AV.own 9 0 3),(AV.own 10 0 1),(AV.own 11 0 1),(AV.own 16 0 1),(AV.i .i64 (4:Int)),(AV.own 13 0 4),(AV.sl 3 true []),(AV.sl 3 true []),(AV.i .i64 (2:Int)),(AV.b false),(AV.sl 1 true [])])
theorem FW (W:World):Ah Go.Proofs.Tryz.prog W 29 [] (AV.st [(AV.own 0 0 3),(AV.own 9 0 1),(AV.own 10 0 1),(AV.own 11 0 1),(AV.i .i64 (4:Int)),(AV.own 13 0 4),(AV.sl 3 true []),(AV.sl 3 true []),(AV.i .i64 (2:Int)),(AV.b false),(AV.sl 1 true [])]) [⟨65,7,[(AV.st [(AV.own 1 0 1),(AV.own 2 0 2),(AV.sl 1 true []),(AV.sl 1 true []),(AV.s (⟨#[97,114]⟩:ByteArray)),(AV.b false),(AV.s (⟨#[]⟩:ByteArray))]),(AV.st [(AV.own 3 0 2),(AV.own 4 0 1),(AV.own 5 0 1),(AV.sl 1 true []),(AV.s (⟨#[99,99,32,97]⟩:ByteArray)),(AV.b true),(AV.s (⟨#[116,119,111]⟩:ByteArray))]),(AV.st [(AV.own 6 0 1),(AV.own 7 0 1),(AV.sl 1 true []),(AV.own 8 0 1),(AV.s (⟨#[99,99,32,98]⟩:ByteArray)),(AV.b false),(AV.s (⟨#[116,119,111]⟩:ByteArray))])]⟩,⟨9,1,[(⟨#[108,105,98]⟩:ByteArray)].map AV.s⟩,⟨9,1,[(⟨#[97,46,111]⟩:ByteArray),(⟨#[98,46,111]⟩:ByteArray)].map AV.s⟩,⟨9,1,[(⟨#[97,46,111]⟩:ByteArray),(⟨#[97,46,100]⟩:ByteArray)].map AV.s⟩,⟨9,1,[(⟨#[97,46,99]⟩:ByteArray)].map AV.s⟩,⟨9,1,[(⟨#[97,46,104]⟩:ByteArray)].map AV.s⟩,⟨9,1,[(⟨#[98,46,111]⟩:ByteArray)].map AV.s⟩,⟨9,1,[(⟨#[98,46,99]⟩:ByteArray)].map AV.s⟩,⟨9,1,[(⟨#[97,46,111]⟩:ByteArray)].map AV.s⟩,⟨122,2,[(⟨(⟨#[116,119,111]⟩:ByteArray),(2:Int)⟩:AD)].map AD.av⟩,⟨9,1,[(⟨#[108,105,98]⟩:ByteArray)].map AV.s⟩,⟨67,3,[(AV.st [(AV.s (⟨#[99,99,32,97]⟩:ByteArray)),(AV.own 12 0 1),(AV.b false)])]⟩,⟨9,1,[(⟨#[122,46,104]⟩:ByteArray)].map AV.s⟩,⟨85,3,[AF,AH,AJ,AG].map Ak.av⟩]:=by
 refine Uq A5 (fn:=Go.Proofs.Tryz.f29) Go.Proofs.Tryz.func29 rfl (en29 W) le<|Sq<|Rg<|Nn (AV.loc 0 0 0) ⟨35,11,[(AV.st [(AV.sl 7 true []),(AV.sl 2 true []),(AV.sl 1 true []),(AV.sl 3 true []),(AV.i .i64 (0:Int)),(AV.sl 3 true []),(AV.sl 3 true []),(AV.sl 3 true []),(AV.i .i64 (0:Int)),(AV.b false),(AV.sl 1 true [])])]⟩<|Ad<|Sq<|Rg<|Nn (AV.own 1 0 1) ⟨9,1,[(⟨#[108,105,98]⟩:ByteArray)].map AV.s⟩<|Nn (AV.own 2 0 2) ⟨9,1,[(⟨#[97,46,111]⟩:ByteArray),(⟨#[98,46,111]⟩:ByteArray)].map AV.s⟩<|Nb I6<|Nn (AV.own 3 0 2) ⟨9,1,[(⟨#[97,46,111]⟩:ByteArray),(⟨#[97,46,100]⟩:ByteArray)].map AV.s⟩<|Nn (AV.own 4 0 1) ⟨9,1,[(⟨#[97,46,99]⟩:ByteArray)].map AV.s⟩<|Nn (AV.own 5 0 1) ⟨9,1,[(⟨#[97,46,104]⟩:ByteArray)].map AV.s⟩<|Nb I5<|Nn (AV.own 6 0 1) ⟨9,1,[(⟨#[98,46,111]⟩:ByteArray)].map AV.s⟩<|Nn (AV.own 7 0 1) ⟨9,1,[(⟨#[98,46,99]⟩:ByteArray)].map AV.s⟩<|Nn (AV.own 8 0 1) ⟨9,1,[(⟨#[97,46,111]⟩:ByteArray)].map AV.s⟩<|Nb I4 ?_
 refine Nn (AV.own 9 0 3) ⟨65,7,[I6,I5,I4]⟩<|Nb (AV.st [(AV.s (⟨#[116,119,111]⟩:ByteArray)),(AV.i .i64 (2:Int))])<|Nn (AV.own 10 0 1) ⟨122,2,[(⟨(⟨#[116,119,111]⟩:ByteArray),(2:Int)⟩:AD)].map AD.av⟩<|Nn (AV.own 11 0 1) ⟨9,1,[(⟨#[108,105,98]⟩:ByteArray)].map AV.s⟩<|Nb FO<|Nn (AV.loc 12 0 0) ⟨26,3,[(AV.st [(AV.sl 7 true []),(AV.sl 2 true []),(AV.sl 1 true [])])]⟩<|Sp 12 ⟨26,3,[FO]⟩<|Ad<|Sq<|Rg<|Nb (AV.st [(AV.s (⟨#[97,46,99]⟩:ByteArray)),(AV.i .i64 (1:Int)),(AV.i .i64 (1:Int))])<|Nb (AV.st [(AV.s (⟨#[97,46,104]⟩:ByteArray)),(AV.i .i64 (2:Int)),(AV.i .i64 (2:Int))])<|Nb (AV.st [(AV.s (⟨#[98,46,99]⟩:ByteArray)),(AV.i .i64 (3:Int)),(AV.i .i64 (3:Int))])<|Nb (AV.st [(AV.s (⟨#[122,46,104]⟩:ByteArray)),(AV.i .i64 (4:Int)),(AV.i .i64 (4:Int))])<|Nn (AV.own 13 0 4) ⟨85,3,[AF,AH,AJ,AG].map Ak.av⟩ ?_
 refine Nb (AV.st [(AV.i .i64 (4:Int)),(AV.own 13 0 4)])<|Nn (AV.loc 14 0 0) ⟨30,2,[(AV.st [(AV.i .i64 (0:Int)),(AV.sl 3 true [])])]⟩<|Sp 14 ⟨30,2,[(AV.st [(AV.i .i64 (4:Int)),(AV.own 13 0 4)])]⟩<|Ad<|Sq<|Rg<|Aq FO<|Nn (AV.own 15 0 1) ⟨9,1,[(⟨#[122,46,104]⟩:ByteArray)].map AV.s⟩<|Nb (AV.st [(AV.s (⟨#[99,99,32,97]⟩:ByteArray)),(AV.own 15 0 1),(AV.b false)])<|Nn (AV.own 16 0 1) ⟨67,3,[(AV.st [(AV.s (⟨#[99,99,32,97]⟩:ByteArray)),(AV.own 15 0 1),(AV.b false)])]⟩<|Aq (AV.st [(AV.i .i64 (4:Int)),(AV.own 13 0 4)])<|Nb FN<|Sp 0 ⟨35,11,[FN]⟩<|Ad<|Rt ?_
 have hM:La=AO:=by simp only [La,Aw]
 exact ⟨[9,1,2,3,4,5,6,7,8,10,11,16,15,13],Or.inr rfl,by decide,rfl,⟨kr,⟨kr,⟨kr,⟨kr,⟨kr,⟨kr,⟨kr,⟨kr,⟨kr,⟨kr,⟨kr,⟨kr,⟨kr,⟨kr,trivial⟩⟩⟩⟩⟩⟩⟩⟩⟩⟩⟩⟩⟩⟩,FN,kr,kr⟩
def Bo:AV:=(AV.s (⟨#[]⟩:ByteArray))
def CC:AV:=(AV.s (⟨#[97,114]⟩:ByteArray))
def B4:AV:=(AV.s (⟨#[116,119,111]⟩:ByteArray))
def Cc:AV:=(AV.s (⟨#[99,99,32,98]⟩:ByteArray))
def AZ:AV:=(AV.s (⟨#[99,99,32,97]⟩:ByteArray))
def E7:AV:=(AV.st [AZ,(AV.own 12 0 1),(AV.b false)])
def I3:AV:=(AV.st [(AV.own 1 0 1),(AV.own 2 0 2),(AV.sl 1 true []),(AV.sl 1 true []),Bo,(AV.b false),Bo])
def FM:AV:=(AV.st [(AV.own 1 0 1),(AV.own 2 0 2),(AV.sl 1 true []),(AV.sl 1 true []),CC,(AV.b false),Bo])
def I1:AV:=(AV.st [(AV.own 15 0 1),(AV.own 16 0 2),(AV.sl 1 true []),(AV.sl 1 true []),CC,(AV.b false),Bo])
def Da:AV:=(AV.st [(AV.own 3 0 2),(AV.own 4 0 1),(AV.own 5 0 1),(AV.sl 1 true []),AZ,(AV.b true),B4])
def D9:AV:=(AV.st [(AV.own 6 0 1),(AV.own 7 0 1),(AV.sl 1 true []),(AV.own 8 0 1),Cc,(AV.b false),B4])
def I0:AV:=(AV.st [(AV.own 17 0 2),(AV.own 18 0 1),(AV.own 19 0 1),(AV.sl 1 true []),AZ,(AV.b true),B4])
def HZ:AV:=(AV.st [(AV.own 20 0 1),(AV.own 21 0 1),(AV.sl 1 true []),(AV.own 22 0 1),Cc,(AV.b false),B4])
def D8:AV:=(AV.st [(AV.own 0 0 3),(AV.own 9 0 1),(AV.own 10 0 1),(AV.own 11 0 1),(AV.i .i64 (4:Int)),(AV.own 13 0 4),(AV.sl 3 true []),(AV.sl 3 true []),(AV.i .i64 (2:Int)),(AV.b false),(AV.sl 1 true [])])
def E6:AV:=(AV.st [(AV.own 14 0 3),(AV.own 23 0 1),(AV.own 24 0 1),(AV.own 25 0 1),(AV.i .i64 (4:Int)),(AV.own 27 0 4),(AV.sl 3 true []),(AV.sl 3 true []),(AV.i .i64 (2:Int)),(AV.b false),(AV.sl 1 true [])])
def HY:AV:=((Ag 3 Ak.av) [AF,AH,AJ,AG])
def E5:AV:=((Ag 3 Ak.av) (([AF,AH,AJ,AG].take [AF,AH,AJ,AG].length).drop 1))
def Cb:AV:=(AV.st [(AV.own 0 0 3),(AV.own 9 0 1),(AV.own 10 0 1),(AV.own 11 0 1),(AV.i .i64 (4:Int)),E5,(AV.sl 3 true []),(AV.sl 3 true []),(AV.i .i64 (2:Int)),(AV.b false),(AV.sl 1 true [])])
def E4:AV:=(A7.av AO)
def CB:AV:=(AV.i .i64 ((D0 AO).2))
def Cp:AV:=((Ag 1 AV.b) ((D0 AO).1))
def Dw:AV:=(AV.i .i64 ((C0 AO (3:Int)).2))
def C5:AV:=(AV.i .i64 ((C0 AO (1:Int)).2))
def Dv:AV:=(AV.i .i64 ((D0 (⟨FE,[BF],(⟨(4:Int),(([AF,AH,AJ,AG].take [AF,AH,AJ,AG].length).drop 1)⟩:Aj),[],[],(2:Int),false,[]⟩:A7)).2))
def Du:AV:=(AV.i .i64 ((C0 (⟨D7,[BF],(⟨(4:Int),(([AF,AH,AJ,AG].take [AF,AH,AJ,AG].length).drop 1)⟩:Aj),[],[],(2:Int),false,[]⟩:A7) (1:Int)).2))
def IY:AV:=(AV.tup [AV.und,Dv])
def IX:AV:=(AV.tup [Cp,CB])
def IW:AV:=(AV.tup [(AV.b ((C0 AO (3:Int)).1)),Dw])
def IV:AV:=(AV.tup [(AV.b ((C0 (⟨D7,[BF],(⟨(4:Int),(([AF,AH,AJ,AG].take [AF,AH,AJ,AG].length).drop 1)⟩:Aj),[],[],(2:Int),false,[]⟩:A7) (1:Int)).1)),Du])
theorem Ll (W:World) {m0:Int} (hW:W.cell? ⟨0,0,none⟩=some (.int .i64 m0)):Ah Go.Proofs.Tryz.prog W 25 [] (AV.b K9) []:=by
 refine A9 (fn:=Go.Proofs.Tryz.f25) Go.Proofs.Tryz.func25 rfl (en25 W) (ts:=[0]) rfl le<|Sq<|Rg<|Aq (AV.b false)<|Ad<|Sq<|Rg<|Sc D8 (FW W)<|A1.sfw (vs:=[D8,(AV.i .i64 (1:Int))]) (ss:=[E4,(AV.i .i64 (1:Int))]) (r0:=(AV.tup [(AV.b ((C0 AO (1:Int)).1)),C5])) kr (show Bc _ _ _ from ⟨(Al.w (Al.cast (x':=D8) kr kr (Al.st (Ao.cons (Al.own (id:=0) (len:=3) (e:=65) (k:=7) (els:=[FM,Da,D9]) rfl rfl rfl sd (Bg.cons (DF.st (Ao.cons (Al.row (fun _=>rfl) (A:=AV.s) (id:=1) (e:=9) (k:=1) (xs:=[(⟨#[108,105,98]⟩:ByteArray)]) rfl rfl sd sd) (Ao.cons (Al.row (fun _=>rfl) (A:=AV.s) (id:=2) (e:=9) (k:=1) (xs:=[(⟨#[97,46,111]⟩:ByteArray),(⟨#[98,46,111]⟩:ByteArray)]) rfl rfl sd sd) (Ao.cons (Al.c rfl (AP.nil 1)) (Ao.cons (Al.c rfl (AP.nil 1)) (Ao.cons (AC (x:=CC) kr) (Ao.cons (AC (x:=(AV.b false)) kr) (Ao.cons (AC (x:=Bo) kr) Ao.nil)))))))) (Bg.cons (DF.st (Ao.cons (Al.row (fun _=>rfl) (A:=AV.s) (id:=3) (e:=9) (k:=1) (xs:=[(⟨#[97,46,111]⟩:ByteArray),(⟨#[97,46,100]⟩:ByteArray)]) rfl rfl sd sd) (Ao.cons (Al.row (fun _=>rfl) (A:=AV.s) (id:=4) (e:=9) (k:=1) (xs:=[(⟨#[97,46,99]⟩:ByteArray)]) rfl rfl sd sd) (Ao.cons (Al.row (fun _=>rfl) (A:=AV.s) (id:=5) (e:=9) (k:=1) (xs:=[(⟨#[97,46,104]⟩:ByteArray)]) rfl rfl sd sd) (Ao.cons (Al.c rfl (AP.nil 1)) (Ao.cons (AC (x:=AZ) kr) (Ao.cons (AC (x:=(AV.b true)) kr) (Ao.cons (AC (x:=B4) kr) Ao.nil)))))))) (Bg.cons (DF.st (Ao.cons (Al.row (fun _=>rfl) (A:=AV.s) (id:=6) (e:=9) (k:=1) (xs:=[(⟨#[98,46,111]⟩:ByteArray)]) rfl rfl sd sd) (Ao.cons (Al.row (fun _=>rfl) (A:=AV.s) (id:=7) (e:=9) (k:=1) (xs:=[(⟨#[98,46,99]⟩:ByteArray)]) rfl rfl sd sd) (Ao.cons (Al.c rfl (AP.nil 1)) (Ao.cons (Al.row (fun _=>rfl) (A:=AV.s) (id:=8) (e:=9) (k:=1) (xs:=[(⟨#[97,46,111]⟩:ByteArray)]) rfl rfl sd sd) (Ao.cons (AC (x:=Cc) kr) (Ao.cons (AC (x:=(AV.b false)) kr) (Ao.cons (AC (x:=B4) kr) Ao.nil)))))))) Bg.nil)))) (Ao.cons (Al.row (fun _=>rfl) (A:=AD.av) (id:=9) (e:=122) (k:=2) (xs:=[(⟨(⟨#[116,119,111]⟩:ByteArray),(2:Int)⟩:AD)]) rfl rfl sd sd) (Ao.cons (Al.row (fun _=>rfl) (A:=AV.s) (id:=10) (e:=9) (k:=1) (xs:=[(⟨#[108,105,98]⟩:ByteArray)]) rfl rfl sd sd) (Ao.cons (Al.own (id:=11) (len:=1) (e:=67) (k:=3) (els:=[E7]) rfl rfl rfl sd (Bg.cons (DF.st (Ao.cons (AC (x:=AZ) kr) (Ao.cons (Al.row (fun _=>rfl) (A:=AV.s) (id:=12) (e:=9) (k:=1) (xs:=[(⟨#[122,46,104]⟩:ByteArray)]) rfl rfl sd sd) (Ao.cons (AC (x:=(AV.b false)) kr) Ao.nil)))) Bg.nil)) (Ao.cons (AC (x:=(AV.i .i64 (4:Int))) kr) (Ao.cons (Al.row (fun _=>rfl) (A:=Ak.av) (id:=13) (e:=85) (k:=3) (xs:=[AF,AH,AJ,AG]) rfl rfl sd sd) (Ao.cons (Al.c rfl (AP.nil 3)) (Ao.cons (Al.c rfl (AP.nil 3)) (Ao.cons (AC (x:=(AV.i .i64 (2:Int))) kr) (Ao.cons (AC (x:=(AV.b false)) kr) (Ao.cons (Al.c rfl (AP.nil 1)) Ao.nil)))))))))))))),⟨(Bc.e kr),trivial⟩⟩) (Ft W hW AO (1:Int) sd) rfl kr le ?_
 refine Aq (AV.tup [(AV.b ((C0 AO (1:Int)).1)),C5]) ?_
 refine Aq (AV.b ((C0 AO (1:Int)).1))<|Aq C5 ?_
 refine Aq (AV.b ((C0 AO (1:Int)).1))<|Aq C5 ?_
 refine Ad<|Sq<|GA<|Fz.run A5 1 le<|Sc E6 (FW W)<|Ad<|IA (Ta.fits [] (env1:=[(1,(AV.b ((C0 AO (1:Int)).1))),(2,C5),(18,E4)]) (h1:=⟨0,[]⟩) ⟨by decide,rfl,A0.nil,(Ee (Ee (Af.cons (AE.st ⟨(Dk.kk (x':=(AV.own 14 0 3)) kr kr rfl (Al.own (id:=14) (len:=3) (e:=65) (k:=7) (els:=[I1,I0,HZ]) rfl rfl rfl sd (Bg.cons (DF.st (Ao.cons (Al.row (fun _=>rfl) (A:=AV.s) (id:=15) (e:=9) (k:=1) (xs:=[(⟨#[108,105,98]⟩:ByteArray)]) rfl rfl sd sd) (Ao.cons (Al.row (fun _=>rfl) (A:=AV.s) (id:=16) (e:=9) (k:=1) (xs:=[(⟨#[97,46,111]⟩:ByteArray),(⟨#[98,46,111]⟩:ByteArray)]) rfl rfl sd sd) (Ao.cons (Al.c rfl (AP.nil 1)) (Ao.cons (Al.c rfl (AP.nil 1)) (Ao.cons (AC (x:=CC) kr) (Ao.cons (AC (x:=(AV.b false)) kr) (Ao.cons (AC (x:=Bo) kr) Ao.nil)))))))) (Bg.cons (DF.st (Ao.cons (Al.row (fun _=>rfl) (A:=AV.s) (id:=17) (e:=9) (k:=1) (xs:=[(⟨#[97,46,111]⟩:ByteArray),(⟨#[97,46,100]⟩:ByteArray)]) rfl rfl sd sd) (Ao.cons (Al.row (fun _=>rfl) (A:=AV.s) (id:=18) (e:=9) (k:=1) (xs:=[(⟨#[97,46,99]⟩:ByteArray)]) rfl rfl sd sd) (Ao.cons (Al.row (fun _=>rfl) (A:=AV.s) (id:=19) (e:=9) (k:=1) (xs:=[(⟨#[97,46,104]⟩:ByteArray)]) rfl rfl sd sd) (Ao.cons (Al.c rfl (AP.nil 1)) (Ao.cons (AC (x:=AZ) kr) (Ao.cons (AC (x:=(AV.b true)) kr) (Ao.cons (AC (x:=B4) kr) Ao.nil)))))))) (Bg.cons (DF.st (Ao.cons (Al.row (fun _=>rfl) (A:=AV.s) (id:=20) (e:=9) (k:=1) (xs:=[(⟨#[98,46,111]⟩:ByteArray)]) rfl rfl sd sd) (Ao.cons (Al.row (fun _=>rfl) (A:=AV.s) (id:=21) (e:=9) (k:=1) (xs:=[(⟨#[98,46,99]⟩:ByteArray)]) rfl rfl sd sd) (Ao.cons (Al.c rfl (AP.nil 1)) (Ao.cons (Al.row (fun _=>rfl) (A:=AV.s) (id:=22) (e:=9) (k:=1) (xs:=[(⟨#[97,46,111]⟩:ByteArray)]) rfl rfl sd sd) (Ao.cons (AC (x:=Cc) kr) (Ao.cons (AC (x:=(AV.b false)) kr) (Ao.cons (AC (x:=B4) kr) Ao.nil)))))))) Bg.nil))))),⟨(Dk.kk (x':=(AV.own 23 0 1)) kr kr rfl (Al.row (fun _=>rfl) (A:=AD.av) (id:=23) (e:=122) (k:=2) (xs:=[(⟨(⟨#[116,119,111]⟩:ByteArray),(2:Int)⟩:AD)]) rfl rfl sd sd)),⟨(Dk.kk (x':=(AV.own 24 0 1)) kr kr rfl (Al.row (fun _=>rfl) (A:=AV.s) (id:=24) (e:=9) (k:=1) (xs:=[(⟨#[108,105,98]⟩:ByteArray)]) rfl rfl sd sd)),⟨(Dk.kk (x':=(AV.own 25 0 1)) kr kr rfl (Al.own (id:=25) (len:=1) (e:=67) (k:=3) (els:=[(AV.st [AZ,(AV.own 26 0 1),(AV.b false)])]) rfl rfl rfl sd (Bg.cons (DF.st (Ao.cons (AC (x:=AZ) kr) (Ao.cons (Al.row (fun _=>rfl) (A:=AV.s) (id:=26) (e:=9) (k:=1) (xs:=[(⟨#[122,46,104]⟩:ByteArray)]) rfl rfl sd sd) (Ao.cons (AC (x:=(AV.b false)) kr) Ao.nil)))) Bg.nil))),⟨Ec,⟨(Dk.kk (x':=(AV.own 27 0 4)) kr kr rfl (Al.row (fun _=>rfl) (A:=Ak.av) (id:=27) (e:=85) (k:=3) (xs:=[AF,AH,AJ,AG]) rfl rfl sd sd)),⟨(AE.w rfl (AP.nil 3)),⟨(AE.w rfl (AP.nil 3)),⟨Ec,⟨Ec,⟨(AE.w rfl (AP.nil 1)),trivial⟩⟩⟩⟩⟩⟩⟩⟩⟩⟩⟩ kr) Af.nil)))⟩ Ar) ?_
 refine Fz.run A5 6 le<|A1.sc0 (vs:=[E4]) (r0:=IX) kr kr (Kv W hW AO sd) kr le ?_
 refine Aq IX ?_
 refine Aq Cp<|Aq CB ?_
 refine Aq Cp<|Aq CB ?_
 refine Ad<|Fz.fin rfl<|Sq<|Rg<|Sc D8 (FW W)<|Nn (AV.loc 14 0 0) ⟨35,11,[(AV.st [(AV.sl 7 true []),(AV.sl 2 true []),(AV.sl 1 true []),(AV.sl 3 true []),(AV.i .i64 (0:Int)),(AV.sl 3 true []),(AV.sl 3 true []),(AV.sl 3 true []),(AV.i .i64 (0:Int)),(AV.b false),(AV.sl 1 true [])])]⟩<|Sp 14 ⟨35,11,[D8]⟩<|Ad<|Sq<|GA<|Fz.run A5 3 le<|Aq (AV.loc 14 0 4)<|Aq (AV.loc 14 0 5)<|Aq (AV.own 13 0 4)<|Ad<|IA (Ta.fits [0,1,2,3,4,5,6,7,8,9,10,11,12,14] (env1:=[(1,(AV.b ((C0 AO (1:Int)).1))),(2,C5),(3,Cp),(4,CB),(5,(AV.loc 13 0 0)),(25,HY)]) (h1:=⟨14,[(13,some ⟨35,11,[(AV.st [(AV.own 0 0 3),(AV.own 9 0 1),(AV.own 10 0 1),(AV.own 11 0 1),(AV.i .i64 (4:Int)),HY,(AV.sl 3 true []),(AV.sl 3 true []),(AV.i .i64 (2:Int)),(AV.b false),(AV.sl 1 true [])])]⟩),(12,some ⟨9,1,[(⟨#[122,46,104]⟩:ByteArray)].map AV.s⟩),(11,some ⟨67,3,[E7]⟩),(10,some ⟨9,1,[(⟨#[108,105,98]⟩:ByteArray)].map AV.s⟩),(9,some ⟨122,2,[(⟨(⟨#[116,119,111]⟩:ByteArray),(2:Int)⟩:AD)].map AD.av⟩),(8,some ⟨9,1,[(⟨#[97,46,111]⟩:ByteArray)].map AV.s⟩),(7,some ⟨9,1,[(⟨#[98,46,99]⟩:ByteArray)].map AV.s⟩),(6,some ⟨9,1,[(⟨#[98,46,111]⟩:ByteArray)].map AV.s⟩),(5,some ⟨9,1,[(⟨#[97,46,104]⟩:ByteArray)].map AV.s⟩),(4,some ⟨9,1,[(⟨#[97,46,99]⟩:ByteArray)].map AV.s⟩),(3,some ⟨9,1,[(⟨#[97,46,111]⟩:ByteArray),(⟨#[97,46,100]⟩:ByteArray)].map AV.s⟩),(2,some ⟨9,1,[(⟨#[97,46,111]⟩:ByteArray),(⟨#[98,46,111]⟩:ByteArray)].map AV.s⟩),(1,some ⟨9,1,[(⟨#[108,105,98]⟩:ByteArray)].map AV.s⟩),(0,some ⟨65,7,[FM,Da,D9]⟩)]⟩) ⟨by decide,rfl,(A0.cons kr (A0.cons (Az (fun _=>rfl) (e:=9) (k:=1) (A:=AV.s) (xs:=[(⟨#[108,105,98]⟩:ByteArray)]) rfl rfl) (A0.cons (Az (fun _=>rfl) (e:=9) (k:=1) (A:=AV.s) (xs:=[(⟨#[97,46,111]⟩:ByteArray),(⟨#[98,46,111]⟩:ByteArray)]) rfl rfl) (A0.cons (Az (fun _=>rfl) (e:=9) (k:=1) (A:=AV.s) (xs:=[(⟨#[97,46,111]⟩:ByteArray),(⟨#[97,46,100]⟩:ByteArray)]) rfl rfl) (A0.cons (Az (fun _=>rfl) (e:=9) (k:=1) (A:=AV.s) (xs:=[(⟨#[97,46,99]⟩:ByteArray)]) rfl rfl) (A0.cons (Az (fun _=>rfl) (e:=9) (k:=1) (A:=AV.s) (xs:=[(⟨#[97,46,104]⟩:ByteArray)]) rfl rfl) (A0.cons (Az (fun _=>rfl) (e:=9) (k:=1) (A:=AV.s) (xs:=[(⟨#[98,46,111]⟩:ByteArray)]) rfl rfl) (A0.cons (Az (fun _=>rfl) (e:=9) (k:=1) (A:=AV.s) (xs:=[(⟨#[98,46,99]⟩:ByteArray)]) rfl rfl) (A0.cons (Az (fun _=>rfl) (e:=9) (k:=1) (A:=AV.s) (xs:=[(⟨#[97,46,111]⟩:ByteArray)]) rfl rfl) (A0.cons (Az (fun _=>rfl) (e:=122) (k:=2) (A:=AD.av) (xs:=[(⟨(⟨#[116,119,111]⟩:ByteArray),(2:Int)⟩:AD)]) rfl rfl) (A0.cons (Az (fun _=>rfl) (e:=9) (k:=1) (A:=AV.s) (xs:=[(⟨#[108,105,98]⟩:ByteArray)]) rfl rfl) (A0.cons kr (A0.cons (Az (fun _=>rfl) (e:=9) (k:=1) (A:=AV.s) (xs:=[(⟨#[122,46,104]⟩:ByteArray)]) rfl rfl) (A0.cons kr A0.nil)))))))))))))),(Ee (Ee (Ee (Ee (Af.cons (AE.f kr) (Af.cons (Dk.kk (x':=(AV.own 13 0 4)) kr kr rfl (Al.row (fun _=>rfl) (A:=Ak.av) (id:=13) (e:=85) (k:=3) (xs:=[AF,AH,AJ,AG]) rfl rfl sd sd)) Af.nil))))))⟩ Ar) ?_
 refine Fz.run A5 4 le<|Ap E5 (g_cutL (k:=3) (nl:=false) (e:=85) (l:=(some (1:Int))) (g:=none) (A:=Ak.av) (xs:=[AF,AH,AJ,AG]) (a:=1) (b:=[AF,AH,AJ,AG].length) kr kr ⟨by kernel_rfl,by decide⟩ kr kr rfl rfl sd sd)<|Aq (AV.loc 13 0 4)<|Aq (AV.loc 13 0 5)<|Sp 13 ⟨35,11,[Cb]⟩ ?_
 refine Ad<|Fz.fin rfl<|Sq<|Rg<|Aq Cb<|A1.sfw (vs:=[Cb,(AV.i .i64 (1:Int))]) (ss:=[(A7.av (⟨D7,[BF],(⟨(4:Int),(([AF,AH,AJ,AG].take [AF,AH,AJ,AG].length).drop 1)⟩:Aj),[],[],(2:Int),false,[]⟩:A7)),(AV.i .i64 (1:Int))]) (r0:=IV) kr (show Bc _ _ _ from ⟨(Al.w (Al.cast (x':=Cb) kr kr (Al.st (Ao.cons (Al.own (id:=0) (len:=3) (e:=65) (k:=7) (els:=[FM,Da,D9]) rfl rfl rfl sd (Bg.cons (DF.st (Ao.cons (Al.row (fun _=>rfl) (A:=AV.s) (id:=1) (e:=9) (k:=1) (xs:=[(⟨#[108,105,98]⟩:ByteArray)]) rfl rfl sd sd) (Ao.cons (Al.row (fun _=>rfl) (A:=AV.s) (id:=2) (e:=9) (k:=1) (xs:=[(⟨#[97,46,111]⟩:ByteArray),(⟨#[98,46,111]⟩:ByteArray)]) rfl rfl sd sd) (Ao.cons (Al.c rfl (AP.nil 1)) (Ao.cons (Al.c rfl (AP.nil 1)) (Ao.cons (AC (x:=CC) kr) (Ao.cons (AC (x:=(AV.b false)) kr) (Ao.cons (AC (x:=Bo) kr) Ao.nil)))))))) (Bg.cons (DF.st (Ao.cons (Al.row (fun _=>rfl) (A:=AV.s) (id:=3) (e:=9) (k:=1) (xs:=[(⟨#[97,46,111]⟩:ByteArray),(⟨#[97,46,100]⟩:ByteArray)]) rfl rfl sd sd) (Ao.cons (Al.row (fun _=>rfl) (A:=AV.s) (id:=4) (e:=9) (k:=1) (xs:=[(⟨#[97,46,99]⟩:ByteArray)]) rfl rfl sd sd) (Ao.cons (Al.row (fun _=>rfl) (A:=AV.s) (id:=5) (e:=9) (k:=1) (xs:=[(⟨#[97,46,104]⟩:ByteArray)]) rfl rfl sd sd) (Ao.cons (Al.c rfl (AP.nil 1)) (Ao.cons (AC (x:=AZ) kr) (Ao.cons (AC (x:=(AV.b true)) kr) (Ao.cons (AC (x:=B4) kr) Ao.nil)))))))) (Bg.cons (DF.st (Ao.cons (Al.row (fun _=>rfl) (A:=AV.s) (id:=6) (e:=9) (k:=1) (xs:=[(⟨#[98,46,111]⟩:ByteArray)]) rfl rfl sd sd) (Ao.cons (Al.row (fun _=>rfl) (A:=AV.s) (id:=7) (e:=9) (k:=1) (xs:=[(⟨#[98,46,99]⟩:ByteArray)]) rfl rfl sd sd) (Ao.cons (Al.c rfl (AP.nil 1)) (Ao.cons (Al.row (fun _=>rfl) (A:=AV.s) (id:=8) (e:=9) (k:=1) (xs:=[(⟨#[97,46,111]⟩:ByteArray)]) rfl rfl sd sd) (Ao.cons (AC (x:=Cc) kr) (Ao.cons (AC (x:=(AV.b false)) kr) (Ao.cons (AC (x:=B4) kr) Ao.nil)))))))) Bg.nil)))) (Ao.cons (Al.row (fun _=>rfl) (A:=AD.av) (id:=9) (e:=122) (k:=2) (xs:=[(⟨(⟨#[116,119,111]⟩:ByteArray),(2:Int)⟩:AD)]) rfl rfl sd sd) (Ao.cons (Al.row (fun _=>rfl) (A:=AV.s) (id:=10) (e:=9) (k:=1) (xs:=[(⟨#[108,105,98]⟩:ByteArray)]) rfl rfl sd sd) (Ao.cons (Al.own (id:=11) (len:=1) (e:=67) (k:=3) (els:=[E7]) rfl rfl rfl sd (Bg.cons (DF.st (Ao.cons (AC (x:=AZ) kr) (Ao.cons (Al.row (fun _=>rfl) (A:=AV.s) (id:=12) (e:=9) (k:=1) (xs:=[(⟨#[122,46,104]⟩:ByteArray)]) rfl rfl sd sd) (Ao.cons (AC (x:=(AV.b false)) kr) Ao.nil)))) Bg.nil)) (Ao.cons (AC (x:=(AV.i .i64 (4:Int))) kr) (Ao.cons (AC (x:=E5) kr) (Ao.cons (Al.c rfl (AP.nil 3)) (Ao.cons (Al.c rfl (AP.nil 3)) (Ao.cons (AC (x:=(AV.i .i64 (2:Int))) kr) (Ao.cons (AC (x:=(AV.b false)) kr) (Ao.cons (Al.c rfl (AP.nil 1)) Ao.nil)))))))))))))),⟨(Bc.e kr),trivial⟩⟩) (Ft W hW (⟨D7,[BF],(⟨(4:Int),(([AF,AH,AJ,AG].take [AF,AH,AJ,AG].length).drop 1)⟩:Aj),[],[],(2:Int),false,[]⟩:A7) (1:Int) sd) rfl kr le ?_
 refine Aq IV ?_
 refine Aq (AV.b ((C0 (⟨D7,[BF],(⟨(4:Int),(([AF,AH,AJ,AG].take [AF,AH,AJ,AG].length).drop 1)⟩:Aj),[],[],(2:Int),false,[]⟩:A7) (1:Int)).1))<|Aq Du ?_
 refine Aq (AV.b ((C0 (⟨D7,[BF],(⟨(4:Int),(([AF,AH,AJ,AG].take [AF,AH,AJ,AG].length).drop 1)⟩:Aj),[],[],(2:Int),false,[]⟩:A7) (1:Int)).1))<|Aq Du ?_
 refine Ad<|Sq<|Rg<|Sc E6 (FW W)<|A1.sfw (vs:=[E6,(AV.i .i64 (3:Int))]) (ss:=[E4,(AV.i .i64 (3:Int))]) (r0:=IW) kr (show Bc _ _ _ from ⟨(Al.w (Al.cast (x':=E6) kr kr (Al.st (Ao.cons (Al.own (id:=14) (len:=3) (e:=65) (k:=7) (els:=[I1,I0,HZ]) rfl rfl rfl sd (Bg.cons (DF.st (Ao.cons (Al.row (fun _=>rfl) (A:=AV.s) (id:=15) (e:=9) (k:=1) (xs:=[(⟨#[108,105,98]⟩:ByteArray)]) rfl rfl sd sd) (Ao.cons (Al.row (fun _=>rfl) (A:=AV.s) (id:=16) (e:=9) (k:=1) (xs:=[(⟨#[97,46,111]⟩:ByteArray),(⟨#[98,46,111]⟩:ByteArray)]) rfl rfl sd sd) (Ao.cons (Al.c rfl (AP.nil 1)) (Ao.cons (Al.c rfl (AP.nil 1)) (Ao.cons (AC (x:=CC) kr) (Ao.cons (AC (x:=(AV.b false)) kr) (Ao.cons (AC (x:=Bo) kr) Ao.nil)))))))) (Bg.cons (DF.st (Ao.cons (Al.row (fun _=>rfl) (A:=AV.s) (id:=17) (e:=9) (k:=1) (xs:=[(⟨#[97,46,111]⟩:ByteArray),(⟨#[97,46,100]⟩:ByteArray)]) rfl rfl sd sd) (Ao.cons (Al.row (fun _=>rfl) (A:=AV.s) (id:=18) (e:=9) (k:=1) (xs:=[(⟨#[97,46,99]⟩:ByteArray)]) rfl rfl sd sd) (Ao.cons (Al.row (fun _=>rfl) (A:=AV.s) (id:=19) (e:=9) (k:=1) (xs:=[(⟨#[97,46,104]⟩:ByteArray)]) rfl rfl sd sd) (Ao.cons (Al.c rfl (AP.nil 1)) (Ao.cons (AC (x:=AZ) kr) (Ao.cons (AC (x:=(AV.b true)) kr) (Ao.cons (AC (x:=B4) kr) Ao.nil)))))))) (Bg.cons (DF.st (Ao.cons (Al.row (fun _=>rfl) (A:=AV.s) (id:=20) (e:=9) (k:=1) (xs:=[(⟨#[98,46,111]⟩:ByteArray)]) rfl rfl sd sd) (Ao.cons (Al.row (fun _=>rfl) (A:=AV.s) (id:=21) (e:=9) (k:=1) (xs:=[(⟨#[98,46,99]⟩:ByteArray)]) rfl rfl sd sd) (Ao.cons (Al.c rfl (AP.nil 1)) (Ao.cons (Al.row (fun _=>rfl) (A:=AV.s) (id:=22) (e:=9) (k:=1) (xs:=[(⟨#[97,46,111]⟩:ByteArray)]) rfl rfl sd sd) (Ao.cons (AC (x:=Cc) kr) (Ao.cons (AC (x:=(AV.b false)) kr) (Ao.cons (AC (x:=B4) kr) Ao.nil)))))))) Bg.nil)))) (Ao.cons (Al.row (fun _=>rfl) (A:=AD.av) (id:=23) (e:=122) (k:=2) (xs:=[(⟨(⟨#[116,119,111]⟩:ByteArray),(2:Int)⟩:AD)]) rfl rfl sd sd) (Ao.cons (Al.row (fun _=>rfl) (A:=AV.s) (id:=24) (e:=9) (k:=1) (xs:=[(⟨#[108,105,98]⟩:ByteArray)]) rfl rfl sd sd) (Ao.cons (Al.own (id:=25) (len:=1) (e:=67) (k:=3) (els:=[(AV.st [AZ,(AV.own 26 0 1),(AV.b false)])]) rfl rfl rfl sd (Bg.cons (DF.st (Ao.cons (AC (x:=AZ) kr) (Ao.cons (Al.row (fun _=>rfl) (A:=AV.s) (id:=26) (e:=9) (k:=1) (xs:=[(⟨#[122,46,104]⟩:ByteArray)]) rfl rfl sd sd) (Ao.cons (AC (x:=(AV.b false)) kr) Ao.nil)))) Bg.nil)) (Ao.cons (AC (x:=(AV.i .i64 (4:Int))) kr) (Ao.cons (Al.row (fun _=>rfl) (A:=Ak.av) (id:=27) (e:=85) (k:=3) (xs:=[AF,AH,AJ,AG]) rfl rfl sd sd) (Ao.cons (Al.c rfl (AP.nil 3)) (Ao.cons (Al.c rfl (AP.nil 3)) (Ao.cons (AC (x:=(AV.i .i64 (2:Int))) kr) (Ao.cons (AC (x:=(AV.b false)) kr) (Ao.cons (Al.c rfl (AP.nil 1)) Ao.nil)))))))))))))),⟨(Bc.e kr),trivial⟩⟩) (Ft W hW AO (3:Int) sd) rfl kr le ?_
 refine Aq IW ?_
 refine Aq (AV.b ((C0 AO (3:Int)).1))<|Aq Dw ?_
 refine Aq (AV.b ((C0 AO (3:Int)).1))<|Aq Dw ?_
 refine Ad<|Sq<|Rg<|Aq (AV.loc 13 0 0)<|Aq (AV.loc 13 0 0)<|Aq (AV.own 0 0 3)<|Aq (AV.loc 0 0 0)<|Aq (AV.loc 0 0 4)<|Sp 0 ⟨65,7,[I3,Da,D9]⟩<|Ad<|Sq<|Rg<|Aq Cb<|A1.sfw (vs:=[Cb]) (ss:=[(A7.av (⟨FE,[BF],(⟨(4:Int),(([AF,AH,AJ,AG].take [AF,AH,AJ,AG].length).drop 1)⟩:Aj),[],[],(2:Int),false,[]⟩:A7))]) (r0:=IY) kr (show Bc _ _ _ from ⟨(Al.w (Al.cast (x':=Cb) kr kr (Al.st (Ao.cons (Al.own (id:=0) (len:=3) (e:=65) (k:=7) (els:=[I3,Da,D9]) rfl rfl rfl sd (Bg.cons (DF.st (Ao.cons (Al.row (fun _=>rfl) (A:=AV.s) (id:=1) (e:=9) (k:=1) (xs:=[(⟨#[108,105,98]⟩:ByteArray)]) rfl rfl sd sd) (Ao.cons (Al.row (fun _=>rfl) (A:=AV.s) (id:=2) (e:=9) (k:=1) (xs:=[(⟨#[97,46,111]⟩:ByteArray),(⟨#[98,46,111]⟩:ByteArray)]) rfl rfl sd sd) (Ao.cons (Al.c rfl (AP.nil 1)) (Ao.cons (Al.c rfl (AP.nil 1)) (Ao.cons (AC (x:=Bo) kr) (Ao.cons (AC (x:=(AV.b false)) kr) (Ao.cons (AC (x:=Bo) kr) Ao.nil)))))))) (Bg.cons (DF.st (Ao.cons (Al.row (fun _=>rfl) (A:=AV.s) (id:=3) (e:=9) (k:=1) (xs:=[(⟨#[97,46,111]⟩:ByteArray),(⟨#[97,46,100]⟩:ByteArray)]) rfl rfl sd sd) (Ao.cons (Al.row (fun _=>rfl) (A:=AV.s) (id:=4) (e:=9) (k:=1) (xs:=[(⟨#[97,46,99]⟩:ByteArray)]) rfl rfl sd sd) (Ao.cons (Al.row (fun _=>rfl) (A:=AV.s) (id:=5) (e:=9) (k:=1) (xs:=[(⟨#[97,46,104]⟩:ByteArray)]) rfl rfl sd sd) (Ao.cons (Al.c rfl (AP.nil 1)) (Ao.cons (AC (x:=AZ) kr) (Ao.cons (AC (x:=(AV.b true)) kr) (Ao.cons (AC (x:=B4) kr) Ao.nil)))))))) (Bg.cons (DF.st (Ao.cons (Al.row (fun _=>rfl) (A:=AV.s) (id:=6) (e:=9) (k:=1) (xs:=[(⟨#[98,46,111]⟩:ByteArray)]) rfl rfl sd sd) (Ao.cons (Al.row (fun _=>rfl) (A:=AV.s) (id:=7) (e:=9) (k:=1) (xs:=[(⟨#[98,46,99]⟩:ByteArray)]) rfl rfl sd sd) (Ao.cons (Al.c rfl (AP.nil 1)) (Ao.cons (Al.row (fun _=>rfl) (A:=AV.s) (id:=8) (e:=9) (k:=1) (xs:=[(⟨#[97,46,111]⟩:ByteArray)]) rfl rfl sd sd) (Ao.cons (AC (x:=Cc) kr) (Ao.cons (AC (x:=(AV.b false)) kr) (Ao.cons (AC (x:=B4) kr) Ao.nil)))))))) Bg.nil)))) (Ao.cons (Al.row (fun _=>rfl) (A:=AD.av) (id:=9) (e:=122) (k:=2) (xs:=[(⟨(⟨#[116,119,111]⟩:ByteArray),(2:Int)⟩:AD)]) rfl rfl sd sd) (Ao.cons (Al.row (fun _=>rfl) (A:=AV.s) (id:=10) (e:=9) (k:=1) (xs:=[(⟨#[108,105,98]⟩:ByteArray)]) rfl rfl sd sd) (Ao.cons (Al.own (id:=11) (len:=1) (e:=67) (k:=3) (els:=[E7]) rfl rfl rfl sd (Bg.cons (DF.st (Ao.cons (AC (x:=AZ) kr) (Ao.cons (Al.row (fun _=>rfl) (A:=AV.s) (id:=12) (e:=9) (k:=1) (xs:=[(⟨#[122,46,104]⟩:ByteArray)]) rfl rfl sd sd) (Ao.cons (AC (x:=(AV.b false)) kr) Ao.nil)))) Bg.nil)) (Ao.cons (AC (x:=(AV.i .i64 (4:Int))) kr) (Ao.cons (AC (x:=E5) kr) (Ao.cons (Al.c rfl (AP.nil 3)) (Ao.cons (Al.c rfl (AP.nil 3)) (Ao.cons (AC (x:=(AV.i .i64 (2:Int))) kr) (Ao.cons (AC (x:=(AV.b false)) kr) (Ao.cons (Al.c rfl (AP.nil 1)) Ao.nil)))))))))))))),trivial⟩) ((Kv W hW (⟨FE,[BF],(⟨(4:Int),(([AF,AH,AJ,AG].take [AF,AH,AJ,AG].length).drop 1)⟩:Aj),[],[],(2:Int),false,[]⟩:A7) sd).res (JW.tup ⟨JW.und _,JW.refl _,trivial⟩)) rfl kr le ?_
 refine Aq IY<|Aq AV.und<|Aq Dv ?_
 refine Aq AV.und<|Aq Dv<|Ad<|Sq<|Rg<|Aq (AV.b ((C0 AO (1:Int)).1)) ?_
 refine Aq (AV.b ((C0 AO (1:Int)).1)) ?_
 cases c_1:(C0 AO (1:Int)).1
 refine An<|An<|An<|Aq (AV.b false)<|Aq (AV.b false)<|An<|An<|An<|Aq (AV.b false)<|Aq (AV.b false)<|An<|An<|An<|Aq (AV.b false)<|Aq (AV.b false)<|An<|An<|An<|Aq (AV.b false)<|Aq (AV.b false)<|An<|An<|An<|Aq (AV.b false)<|Aq (AV.b false)<|An<|An<|An<|Aq (AV.b false)<|Aq (AV.b false)<|Ad<|Rt ?_
 exact Fb rfl (by simp only [K9,c_1,Aw])
 refine Ay<|Aq C5<|Ay<|A1.sc0 (vs:=[C5]) (r0:=(AV.i .i64 (GE ((C0 AO (1:Int)).2)))) kr kr (DP W ((C0 AO (1:Int)).2)) kr le ?_
 refine Ay<|Aq (AV.b (decide ((GE ((C0 AO (1:Int)).2))=(0:Int))))<|Aq (AV.b (decide ((GE ((C0 AO (1:Int)).2))=(0:Int)))) ?_
 refine Aq (AV.b (decide ((GE ((C0 AO (1:Int)).2))=(0:Int)))) ?_
 cases c_2:decide ((GE ((C0 AO (1:Int)).2))=(0:Int))
 have k_2:=of_decide_eq_false c_2
 refine An<|An<|An<|Aq (AV.b false)<|Aq (AV.b false)<|An<|An<|An<|Aq (AV.b false)<|Aq (AV.b false)<|An<|An<|An<|Aq (AV.b false)<|Aq (AV.b false)<|An<|An<|An<|Aq (AV.b false)<|Aq (AV.b false)<|An<|An<|An<|Aq (AV.b false)<|Aq (AV.b false)<|Ad<|Rt ?_
 exact Fb rfl (by simp only [K9,c_1,c_2,Aw])
 have k_2:=of_decide_eq_true c_2
 refine Ay<|Aq Cp<|Ay<|Nn (AV.own 28 0 3) ⟨4,1,[true,true,true].map AV.b⟩<|Ay<|A1.sfw (vs:=[Cp,(AV.own 28 0 3)]) (ss:=[Cp,((Ag 1 AV.b) [true,true,true])]) (r0:=(AV.b (HO ((D0 AO).1) [true,true,true]))) kr (show Bc _ _ _ from ⟨(Bc.e kr),⟨(Al.w (Al.cast (x':=(AV.own 28 0 3)) kr kr (Al.row (fun _=>rfl) (A:=AV.b) (id:=28) (e:=4) (k:=1) (xs:=[true,true,true]) rfl rfl sd sd))),trivial⟩⟩) (Gm W ((D0 AO).1) [true,true,true]) rfl kr le ?_
 refine Aq (AV.b (HO ((D0 AO).1) [true,true,true]))<|Aq (AV.b (HO ((D0 AO).1) [true,true,true])) ?_
 cases c_3:(HO ((D0 AO).1) [true,true,true])
 refine An<|An<|An<|Aq (AV.b false)<|Aq (AV.b false)<|An<|An<|An<|Aq (AV.b false)<|Aq (AV.b false)<|An<|An<|An<|Aq (AV.b false)<|Aq (AV.b false)<|An<|An<|An<|Aq (AV.b false)<|Aq (AV.b false)<|Ad<|Rt ?_
 exact Fb rfl (by simp only [K9,c_1,c_2,c_3,Aw])
 refine Ay<|Aq CB<|Ay<|A1.sc0 (vs:=[CB]) (r0:=(AV.i .i64 (GE ((D0 AO).2)))) kr kr (DP W ((D0 AO).2)) kr le ?_
 refine Ay<|Aq (AV.b (decide ((GE ((D0 AO).2))=(0:Int))))<|Aq (AV.b (decide ((GE ((D0 AO).2))=(0:Int)))) ?_
 refine Aq (AV.b (decide ((GE ((D0 AO).2))=(0:Int)))) ?_
 cases c_4:decide ((GE ((D0 AO).2))=(0:Int))
 have k_4:=of_decide_eq_false c_4
 refine An<|An<|An<|Aq (AV.b false)<|Aq (AV.b false)<|An<|An<|An<|Aq (AV.b false)<|Aq (AV.b false)<|An<|An<|An<|Aq (AV.b false)<|Aq (AV.b false)<|Ad<|Rt ?_
 exact Fb rfl (by simp only [K9,c_1,c_2,c_3,c_4,Aw])
 have k_4:=of_decide_eq_true c_4
 refine Ay<|Aq Du<|Ay<|A1.sc0 (vs:=[Du]) (r0:=(AV.i .i64 (GE ((C0 (⟨D7,[BF],(⟨(4:Int),(([AF,AH,AJ,AG].take [AF,AH,AJ,AG].length).drop 1)⟩:Aj),[],[],(2:Int),false,[]⟩:A7) (1:Int)).2)))) kr kr (DP W ((C0 (⟨D7,[BF],(⟨(4:Int),(([AF,AH,AJ,AG].take [AF,AH,AJ,AG].length).drop 1)⟩:Aj),[],[],(2:Int),false,[]⟩:A7) (1:Int)).2)) kr le ?_
 refine Ay<|Aq (AV.b (decide ((GE ((C0 (⟨D7,[BF],(⟨(4:Int),(([AF,AH,AJ,AG].take [AF,AH,AJ,AG].length).drop 1)⟩:Aj),[],[],(2:Int),false,[]⟩:A7) (1:Int)).2))=(1901:Int)))) ?_
 refine Aq (AV.b (decide ((GE ((C0 (⟨D7,[BF],(⟨(4:Int),(([AF,AH,AJ,AG].take [AF,AH,AJ,AG].length).drop 1)⟩:Aj),[],[],(2:Int),false,[]⟩:A7) (1:Int)).2))=(1901:Int)))) ?_
 refine Aq (AV.b (decide ((GE ((C0 (⟨D7,[BF],(⟨(4:Int),(([AF,AH,AJ,AG].take [AF,AH,AJ,AG].length).drop 1)⟩:Aj),[],[],(2:Int),false,[]⟩:A7) (1:Int)).2))=(1901:Int)))) ?_
 cases c_5:decide ((GE ((C0 (⟨D7,[BF],(⟨(4:Int),(([AF,AH,AJ,AG].take [AF,AH,AJ,AG].length).drop 1)⟩:Aj),[],[],(2:Int),false,[]⟩:A7) (1:Int)).2))=(1901:Int))
 have k_5:=of_decide_eq_false c_5
 refine An<|An<|An<|Aq (AV.b false)<|Aq (AV.b false)<|An<|An<|An<|Aq (AV.b false)<|Aq (AV.b false)<|Ad<|Rt ?_
 exact Fb rfl (by simp only [K9,c_1,c_2,c_3,c_4,c_5,Aw])
 have k_5:=of_decide_eq_true c_5
 refine Ay<|Aq Dw<|Ay<|A1.sc0 (vs:=[Dw]) (r0:=(AV.i .i64 (GE ((C0 AO (3:Int)).2)))) kr kr (DP W ((C0 AO (3:Int)).2)) kr le ?_
 refine Ay<|Aq (AV.b (decide ((GE ((C0 AO (3:Int)).2))=(1900:Int))))<|Aq (AV.b (decide ((GE ((C0 AO (3:Int)).2))=(1900:Int)))) ?_
 refine Aq (AV.b (decide ((GE ((C0 AO (3:Int)).2))=(1900:Int)))) ?_
 cases c_6:decide ((GE ((C0 AO (3:Int)).2))=(1900:Int))
 have k_6:=of_decide_eq_false c_6
 refine An<|An<|An<|Aq (AV.b false)<|Aq (AV.b false)<|Ad<|Rt ?_
 exact Fb rfl (by simp only [K9,c_1,c_2,c_3,c_4,c_5,c_6,Aw])
 have k_6:=of_decide_eq_true c_6
 refine Ay<|Aq Dv<|Ay<|A1.sc0 (vs:=[Dv]) (r0:=(AV.i .i64 (GE ((D0 (⟨FE,[BF],(⟨(4:Int),(([AF,AH,AJ,AG].take [AF,AH,AJ,AG].length).drop 1)⟩:Aj),[],[],(2:Int),false,[]⟩:A7)).2)))) kr kr (DP W ((D0 (⟨FE,[BF],(⟨(4:Int),(([AF,AH,AJ,AG].take [AF,AH,AJ,AG].length).drop 1)⟩:Aj),[],[],(2:Int),false,[]⟩:A7)).2)) kr le ?_
 refine Ay<|Aq (AV.b (decide ((GE ((D0 (⟨FE,[BF],(⟨(4:Int),(([AF,AH,AJ,AG].take [AF,AH,AJ,AG].length).drop 1)⟩:Aj),[],[],(2:Int),false,[]⟩:A7)).2))=(1900:Int))))<|Aq (AV.b (decide ((GE ((D0 (⟨FE,[BF],(⟨(4:Int),(([AF,AH,AJ,AG].take [AF,AH,AJ,AG].length).drop 1)⟩:Aj),[],[],(2:Int),false,[]⟩:A7)).2))=(1900:Int)))) ?_
 refine Aq (AV.b (decide ((GE ((D0 (⟨FE,[BF],(⟨(4:Int),(([AF,AH,AJ,AG].take [AF,AH,AJ,AG].length).drop 1)⟩:Aj),[],[],(2:Int),false,[]⟩:A7)).2))=(1900:Int))))<|Ad<|Rt ?_
 exact Fb rfl (by simp only [K9,c_1,c_2,c_3,c_4,c_5,c_6,Aw])
def Ca (s':A7):AV:=(AV.i .i64 ((Lb s').2))
def CA (s':A7) (edge:Int):AV:=(AV.i .i64 ((EQ s' edge).2))
def Bn (s':A7):AV:=((Ag 1 AV.b) ((Lb s').1))
def Bw (s':A7):AV:=(AV.i .i64 ((D0 (CJ s')).2))
def C4 (s':A7):AV:=((Ag 1 AV.b) ((D0 (CJ s')).1))
def Co (s':A7) (edge:Int):AV:=(AV.i .i64 ((C0 (CJ s') edge).2))
def EC (s':A7):AV:=(AV.tup [(Bn s'),(Ca s')])
def IU (s':A7):AV:=(AV.tup [(C4 s'),(Bw s')])
def IR (s':A7) (edge:Int):AV:=(AV.tup [(AV.b ((C0 (CJ s') edge).1)),(Co s' edge)])
def IQ (s':A7):AV:=(AV.tup [(AV.own 2 0 (((D0 (CJ s')).1).length)),(Bw s')])
def Bv (s':A7):AV:=(AV.st [((Ag 7 A8.av) (((CJ s').graph).edges)),((Ag 2 AD.av) (((CJ s').graph).pools)),((Ag 1 AV.s) (((CJ s').graph).defaults)),((Ag 3 Ae.av) ((CJ s').actions)),(AV.i .i64 (((CJ s').disk).clock)),((Ag 3 Ak.av) (((CJ s').disk).files)),((Ag 3 A6.av) ((CJ s').log)),((Ag 3 A2.av) ((CJ s').deps)),(AV.i .i64 ((CJ s').jobs)),(AV.b ((CJ s').going)),((Ag 1 (AV.i .i64)) ((CJ s').status))])
def EB (s':A7):Obj:=⟨35,11,[(Bv s')]⟩
theorem QT (W:World) {m0:Int} (hW:W.cell? ⟨0,0,none⟩=some (.int .i64 m0)) (s':A7) (edge:Int) (hz:s'.sz≤1048576):Ah Go.Proofs.Tryz.prog W 3 [(A7.av s'),(AV.i .i64 edge)] (AV.b (LH s' edge)) []:=by
 have hcs:(CJ s').sz≤1048576:=by rw [M8];exact hz
 have hcl:((D0 (CJ s')).1).length≤1048576:=Nat.le_trans (all_len _) (Nat.le_trans (CJ s').graph.sz_len (Nat.le_trans (CJ s').sz_graph hcs))
 refine A9 (fn:=Go.Proofs.Tryz.f3) Go.Proofs.Tryz.func3 rfl (en3 W) (ts:=[4]) rfl le<|Sq<|Rg<|Nn (AV.loc 0 0 0) ⟨35,11,[(A7.av s')]⟩<|Aq (AV.b false)<|Ad<|Sq<|Rg<|Aq (A7.av s')<|A1.sc0 (vs:=[(A7.av s')]) (r0:=(A7.av (CJ s'))) kr kr (NQ W s' sd) kr le<|Nn (AV.loc 1 0 0) ⟨35,11,[(AV.st [(AV.sl 7 true []),(AV.sl 2 true []),(AV.sl 1 true []),(AV.sl 3 true []),(AV.i .i64 (0:Int)),(AV.sl 3 true []),(AV.sl 3 true []),(AV.sl 3 true []),(AV.i .i64 (0:Int)),(AV.b false),(AV.sl 1 true [])])]⟩<|Sp 1 (EB s')<|Ad<|Sq<|Rg<|Aq (Bv s') ?_
 refine Aq (AV.i .i64 edge)<|A1.sc0 (vs:=[(Bv s'),(AV.i .i64 edge)]) (r0:=(IR s' edge)) kr kr (Ft W hW (CJ s') edge hcs) kr le ?_
 refine Aq (IR s' edge)<|Aq (AV.b ((C0 (CJ s') edge).1))<|Aq (Co s' edge) ?_
 refine Aq (AV.b ((C0 (CJ s') edge).1))<|Aq (Co s' edge)<|Ad<|Sq<|Rg<|Aq (A7.av s')<|Aq (AV.i .i64 edge)<|A1.sc0 (vs:=[(A7.av s'),(AV.i .i64 edge)]) (r0:=(AV.tup [(AV.b ((EQ s' edge).1)),(CA s' edge)])) kr kr (UF W s' edge sd) kr le<|Aq (AV.tup [(AV.b ((EQ s' edge).1)),(CA s' edge)])<|Aq (AV.b ((EQ s' edge).1))<|Aq (CA s' edge)<|Aq (AV.b ((EQ s' edge).1))<|Aq (CA s' edge)<|Ad<|Sq<|Rg<|Aq (Bv s') ?_
 by_cases z_1:(D0 (CJ s')).1=[]
 refine A1.sc0 (vs:=[(Bv s')]) (r0:=(IU s')) kr kr (Kv W hW (CJ s') hcs) kr le ?_
 refine Aq (IU s')<|Aq (C4 s')<|Aq (Bw s') ?_
 refine Aq (C4 s')<|Aq (Bw s')<|Ad<|Sq<|Rg<|Aq (A7.av s')<|A1.sc0 (vs:=[(A7.av s')]) (r0:=(EC s')) kr kr (J6 W s' sd) kr le<|Aq (EC s')<|Aq (Bn s')<|Aq (Ca s')<|Aq (Bn s')<|Aq (Ca s')<|Ad<|Sq<|Sq<|Rg<|Aq (AV.b ((C0 (CJ s') edge).1)) ?_
 refine Aq (AV.b ((EQ s' edge).1))<|Aq (AV.b (!((C0 (CJ s') edge).1==(EQ s' edge).1)))<|Aq (AV.b (!((C0 (CJ s') edge).1==(EQ s' edge).1))) ?_
 cases c_2:(!((C0 (CJ s') edge).1==(EQ s' edge).1))
 refine Ay<|Aq (Co s' edge)<|Ay<|A1.sc0 (vs:=[(Co s' edge)]) (r0:=(AV.i .i64 (GE ((C0 (CJ s') edge).2)))) kr kr (DP W ((C0 (CJ s') edge).2)) kr le ?_
 refine Ay<|Aq (CA s' edge)<|Ay<|Aq (AV.b (!decide ((GE ((C0 (CJ s') edge).2))=(EQ s' edge).2)))<|Aq (AV.b (!decide ((GE ((C0 (CJ s') edge).2))=(EQ s' edge).2)))<|Aq (AV.b (!decide ((GE ((C0 (CJ s') edge).2))=(EQ s' edge).2))) ?_
 cases c_3:(!decide ((GE ((C0 (CJ s') edge).2))=(EQ s' edge).2))
 have k_3:=LI c_3
 refine Ay<|Aq (C4 s')<|Ay<|Aq (Bn s')<|Ay<|A1.sc0 (vs:=[(C4 s'),(Bn s')]) (r0:=(AV.b (HO ((D0 (CJ s')).1) ((Lb s').1)))) kr kr (Gm W ((D0 (CJ s')).1) ((Lb s').1)) kr le ?_
 refine Ay<|Aq (AV.b (!(HO ((D0 (CJ s')).1) ((Lb s').1))))<|Aq (AV.b (!(HO ((D0 (CJ s')).1) ((Lb s').1))))<|Aq (AV.b (!(HO ((D0 (CJ s')).1) ((Lb s').1)))) ?_
 cases c_4:(!(HO ((D0 (CJ s')).1) ((Lb s').1)))
 refine Ay<|Aq (Bw s')<|Ay<|A1.sc0 (vs:=[(Bw s')]) (r0:=(AV.i .i64 (GE ((D0 (CJ s')).2)))) kr kr (DP W ((D0 (CJ s')).2)) kr le ?_
 refine Ay<|Aq (Ca s')<|Ay<|Aq (AV.b (!decide ((GE ((D0 (CJ s')).2))=(Lb s').2)))<|Aq (AV.b (!decide ((GE ((D0 (CJ s')).2))=(Lb s').2)))<|Ad ?_
 cases c_5:(!decide ((GE ((D0 (CJ s')).2))=(Lb s').2))
 have k_5:=LI c_5
 refine Cf<|A4.skip<|Sq<|Rg<|Aq (C4 s')<|A1.sc0 (vs:=[(C4 s')]) (r0:= .tup []) kr kr (LY W ((D0 (CJ s')).1) z_1) kr le<|Ad<|Sq<|Rg<|Aq (Bv s') ?_
 refine Aq (A7.av s')<|A1.sc0 (vs:=[(Bv s'),(A7.av s')]) (r0:=(AV.b (Jm (CJ s') s'))) kr kr (J5 W (CJ s') s') kr le ?_
 refine Aq (AV.b (Jm (CJ s') s')) ?_
 cases c_6:(Jm (CJ s') s')
 refine An<|Aq (AV.b false)<|Aq (AV.b false)<|Ad<|Rt ?_
 exact Fb rfl (by simp only [LH,c_2,c_3,c_4,c_5,c_6,Aw])
 refine Ay<|A1.sc0 (vs:=[]) (r0:=(AV.b K9)) kr kr (Ll W hW) kr le<|Aq (AV.b K9)<|Aq (AV.b K9)<|Ad<|Rt ?_
 exact Fb rfl (by simp only [LH,c_2,c_3,c_4,c_5,c_6,Aw])
 have k_5:=LJ c_5
 refine Ct<|Sq<|Rg<|Aq (AV.b false)<|Ad<|Rt ?_
 exact Fb rfl (by simp only [LH,c_2,c_3,c_4,c_5,Aw])
 refine An<|An<|An<|An<|Aq (AV.b true)<|Ad<|Ct<|Sq<|Rg<|Aq (AV.b false)<|Ad<|Rt ?_
 exact Fb rfl (by simp only [LH,c_2,c_3,c_4,Aw])
 have k_3:=LJ c_3
 refine An<|An<|An<|An<|Aq (AV.b true)<|Aq (AV.b true)<|An<|An<|An<|An<|Aq (AV.b true)<|Ad<|Ct<|Sq<|Rg<|Aq (AV.b false)<|Ad<|Rt ?_
 exact Fb rfl (by simp only [LH,c_2,c_3,Aw])
 refine An<|An<|An<|An<|Aq (AV.b true)<|Aq (AV.b true)<|An<|An<|An<|An<|Aq (AV.b true)<|Aq (AV.b true)<|An<|An<|An<|An<|Aq (AV.b true)<|Ad<|Ct<|Sq<|Rg<|Aq (AV.b false)<|Ad<|Rt ?_
 exact Fb rfl (by simp only [LH,c_2,Aw])
 refine SX (vs:=[(Bv s')]) (x:=(IQ s')) (h':=⟨3,[(2,some ⟨4,1,((D0 (CJ s')).1).map AV.b⟩),(1,some (EB s')),(0,some ⟨35,11,[(A7.av s')]⟩)]⟩) kr kr (SW W hW (CJ s') hcs z_1) kr (add_row (fun _=>rfl)) le ?_
 refine Aq (IQ s')<|Aq (AV.own 2 0 (((D0 (CJ s')).1).length))<|Aq (Bw s') ?_
 refine Aq (AV.own 2 0 (((D0 (CJ s')).1).length))<|Aq (Bw s')<|Ad<|Sq<|Rg<|Aq (A7.av s')<|A1.sc0 (vs:=[(A7.av s')]) (r0:=(EC s')) kr kr (J6 W s' sd) kr le<|Aq (EC s')<|Aq (Bn s')<|Aq (Ca s')<|Aq (Bn s')<|Aq (Ca s')<|Ad<|Sq<|Sq<|Rg<|Aq (AV.b ((C0 (CJ s') edge).1)) ?_
 refine Aq (AV.b ((EQ s' edge).1))<|Aq (AV.b (!((C0 (CJ s') edge).1==(EQ s' edge).1)))<|Aq (AV.b (!((C0 (CJ s') edge).1==(EQ s' edge).1))) ?_
 cases c_7:(!((C0 (CJ s') edge).1==(EQ s' edge).1))
 refine Ay<|Aq (Co s' edge)<|Ay<|A1.sc0 (vs:=[(Co s' edge)]) (r0:=(AV.i .i64 (GE ((C0 (CJ s') edge).2)))) kr kr (DP W ((C0 (CJ s') edge).2)) kr le ?_
 refine Ay<|Aq (CA s' edge)<|Ay<|Aq (AV.b (!decide ((GE ((C0 (CJ s') edge).2))=(EQ s' edge).2)))<|Aq (AV.b (!decide ((GE ((C0 (CJ s') edge).2))=(EQ s' edge).2)))<|Aq (AV.b (!decide ((GE ((C0 (CJ s') edge).2))=(EQ s' edge).2))) ?_
 cases c_8:(!decide ((GE ((C0 (CJ s') edge).2))=(EQ s' edge).2))
 have k_8:=LI c_8
 refine Ay<|Aq (AV.own 2 0 (((D0 (CJ s')).1).length))<|Ay<|Aq (Bn s')<|Ay<|A1.sfw (vs:=[(AV.own 2 0 (((D0 (CJ s')).1).length)),(Bn s')]) (ss:=[(C4 s'),(Bn s')]) (r0:=(AV.b (HO ((D0 (CJ s')).1) ((Lb s').1)))) kr (show Bc _ _ _ from ⟨(Al.w (Al.cast (x':=(AV.own 2 0 (((D0 (CJ s')).1).length))) kr kr (Al.row (fun _=>rfl) (A:=AV.b) (id:=2) (e:=4) (k:=1) (xs:=((D0 (CJ s')).1)) rfl rfl rfl (Nat.le_trans hcl (by decide))))),⟨(Bc.e kr),trivial⟩⟩) (Gm W ((D0 (CJ s')).1) ((Lb s').1)) rfl kr le ?_
 refine Ay<|Aq (AV.b (!(HO ((D0 (CJ s')).1) ((Lb s').1))))<|Aq (AV.b (!(HO ((D0 (CJ s')).1) ((Lb s').1))))<|Aq (AV.b (!(HO ((D0 (CJ s')).1) ((Lb s').1)))) ?_
 cases c_9:(!(HO ((D0 (CJ s')).1) ((Lb s').1)))
 refine Ay<|Aq (Bw s')<|Ay<|A1.sc0 (vs:=[(Bw s')]) (r0:=(AV.i .i64 (GE ((D0 (CJ s')).2)))) kr kr (DP W ((D0 (CJ s')).2)) kr le ?_
 refine Ay<|Aq (Ca s')<|Ay<|Aq (AV.b (!decide ((GE ((D0 (CJ s')).2))=(Lb s').2)))<|Aq (AV.b (!decide ((GE ((D0 (CJ s')).2))=(Lb s').2)))<|Ad ?_
 cases c_10:(!decide ((GE ((D0 (CJ s')).2))=(Lb s').2))
 have k_10:=LI c_10
 refine Cf<|A4.skip<|Sq<|Rg<|Aq (AV.own 2 0 (((D0 (CJ s')).1).length))<|sE1 (x:= .tup []) (h':=⟨3,[(2,some ⟨4,1,(m_d7 ((D0 (CJ s')).1)).map AV.b⟩),(1,some (EB s')),(0,some ⟨35,11,[(A7.av s')]⟩)]⟩) (vs:=[(AV.own 2 0 (((D0 (CJ s')).1).length))]) kr (LX W ((D0 (CJ s')).1) hcl (h:=⟨3,[(2,some ⟨4,1,((D0 (CJ s')).1).map AV.b⟩),(1,some (EB s')),(0,some ⟨35,11,[(A7.av s')]⟩)]⟩) (id:=2) rfl) le ?_
 refine Ad<|Sq<|Rg<|Aq (Bv s')<|Aq (A7.av s')<|A1.sc0 (vs:=[(Bv s'),(A7.av s')]) (r0:=(AV.b (Jm (CJ s') s'))) kr kr (J5 W (CJ s') s') kr le ?_
 refine Aq (AV.b (Jm (CJ s') s')) ?_
 cases c_11:(Jm (CJ s') s')
 refine An<|Aq (AV.b false)<|Aq (AV.b false)<|Ad<|Rt ?_
 exact Fb rfl (by simp only [LH,c_7,c_8,c_9,c_10,c_11,Aw])
 refine Ay<|A1.sc0 (vs:=[]) (r0:=(AV.b K9)) kr kr (Ll W hW) kr le<|Aq (AV.b K9)<|Aq (AV.b K9)<|Ad<|Rt ?_
 exact Fb rfl (by simp only [LH,c_7,c_8,c_9,c_10,c_11,Aw])
 have k_10:=LJ c_10
 refine Ct<|Sq<|Rg<|Aq (AV.b false)<|Ad<|Rt ?_
 exact Fb rfl (by simp only [LH,c_7,c_8,c_9,c_10,Aw])
 refine An<|An<|An<|An<|Aq (AV.b true)<|Ad<|Ct<|Sq<|Rg<|Aq (AV.b false)<|Ad<|Rt ?_
 exact Fb rfl (by simp only [LH,c_7,c_8,c_9,Aw])
 have k_8:=LJ c_8
 refine An<|An<|An<|An<|Aq (AV.b true)<|Aq (AV.b true)<|An<|An<|An<|An<|Aq (AV.b true)<|Ad<|Ct<|Sq<|Rg<|Aq (AV.b false)<|Ad<|Rt ?_
 exact Fb rfl (by simp only [LH,c_7,c_8,Aw])
 refine An<|An<|An<|An<|Aq (AV.b true)<|Aq (AV.b true)<|An<|An<|An<|An<|Aq (AV.b true)<|Aq (AV.b true)<|An<|An<|An<|An<|Aq (AV.b true)<|Ad<|Ct<|Sq<|Rg<|Aq (AV.b false)<|Ad<|Rt ?_
 exact Fb rfl (by simp only [LH,c_7,Aw])
end
end Go.Lift
