/-
  Lemmas of this claim: a layer over the kit's calls, contracts of the functions that the law reaches, and the law's row. No condition of its own.
-/
import Derived.Test.YtjfhbchfhpgefaaGreatDoorWaDirts
set_option linter.unusedSimpArgs false
set_option linter.unusedVariables false
set_option linter.unusedSectionVars false
set_option maxRecDepth 20000
namespace Go.Lift
noncomputable section
open Go Go.RowKit
theorem LT (W:World) {m0:Int} (hW:W.cell? ⟨0,0,none⟩=some (.int .i64 m0)) (g:A3) (hz0:g.sz≤1048576):Ah Go.Proofs.Tryz.prog W 62 [(A3.av g)] (AV.tup [((Ag 1 (AV.i .i64)) ((DQ g).1)),(AV.i .i64 ((DQ g).2))]) []:=by
 have hz: ∀i,Is g i≤1048576:=fun i=>Nat.le_trans (Ro g i) hz0
 have hzo:Lc g.edges≤1048576:=Nat.le_trans (Um g) hz0
 refine A9 (fn:=Go.Proofs.Tryz.f62) Go.Proofs.Tryz.func62 rfl (en62 W) (ts:=[2,3]) rfl le<|Sq<|Rg<|Nn (AV.loc 0 0 0) ⟨26,3,[(A3.av g)]⟩<|Aq (AV.sl 1 true [])<|Aq (AV.i .i64 (0:Int))<|Ad<|W7 [] (env':=[(0,(A3.av g)),(1,(AV.pt (A3.av g).cells)),(2,(AV.sl 1 true [])),(3,(AV.i .i64 (0:Int)))]) (h':=⟨0,[]⟩) ⟨by decide,rfl,A0.nil,(Ee (Af.cons (Dk.kk (x':=(AV.loc 0 0 0)) kr kr rfl (Ce A3.av g (id:=0) rfl rfl kr)) (Ee (Ee Af.nil))))⟩ Ar<|UK<|Sq<|Sq<|Rg<|Aq (A3.av g)<|A1.sc0 (vs:=[(A3.av g)]) (r0:=(AV.i .i64 (H9 g))) kr kr (QS W hW g) kr le<|Aq (AV.b (!decide ((H9 g)=(0:Int))))<|Ad ?_
 cases c_1:(!decide ((H9 g)=(0:Int)))
 have k_1:=LI c_1
 have q_1:=R9 c_1
 refine Cf<|A4.skip<|Sq<|Rg<|Nn (AV.loc 0 0 0) ⟨33,1,[(AV.sl 1 true [])]⟩<|Ad<|Sq<|Rg<|Aq (AV.pt ((A3.av g).cells.drop 0))<|Aq ((Ag 7 A8.av) g.edges)<|Ap (Ai g.edges.length) (AN (k:=7) (nl:=false) (e:=65) (A:=A8.av) (xs:=g.edges) kr kr)<|A1.sn (x:=(AV.own 1 0 g.edges.length)) (h':=⟨2,[(1,some ⟨33,1,(List.replicate g.edges.length ([]:List Int)).map (fun (_:List Int)=>AV.sl 1 true [])⟩),(0,some ⟨33,1,[(AV.sl 1 true [])]⟩)]⟩) (Pj (e:=33) (i:=Q4) (A:=(fun (_:List Int)=>AV.sl 1 true [])) (z:=([]:List Int)) (n:=g.edges.length) kr kr kr kr ⟨by decide,by kernel_rfl⟩ kr (by show _*24≤140737488355328;first|omega|(simp only [List.length_append,List.length_cons,List.length_nil,List.length_set,List.length_replicate];omega)|(simp;omega)) sd) le<|Aq (AV.own 1 0 g.edges.length)<|Ad<|Sq<|Sq<|Rg<|Aq (AV.own 1 0 g.edges.length)<|Aq (Ai g.edges.length)<|Aq (AV.i .i64 (0:Int))<|Ad<|A4.block ?_
 have hB1:g.edges.length≤281474976710656:=by first|omega|(simp;done)|(simp;omega)
 obtain ⟨R1,hR1⟩: ∃R,Px g (List.replicate g.edges.length ([]:List Int)) 0 (List.replicate g.edges.length ([]:List Int))=R:=⟨_,rfl⟩
 refine Av (fun ((v20,row):Nat×(List (List Int)))=>[(1,(AV.pt (A3.av g).cells)),(4,(AV.loc 0 0 0)),(5,(AV.own 1 0 g.edges.length)),(19,(Ai g.edges.length)),(20,(Ai v20))]) (fun ((v20,row):Nat×(List (List Int)))=>⟨2,[(0,some ⟨33,1,[(AV.sl 1 true [])]⟩),(1,some ⟨33,1,row.map (Ag 1 (AV.i .i64))⟩)]⟩) (fun ((v20,row):Nat×(List (List Int)))=>v20≤g.edges.length∧row.length=g.edges.length∧Px g ((List.replicate g.edges.length ([]:List Int)).drop v20) v20 row=R1) (fun ((v20,row):Nat×(List (List Int)))=>g.edges.length-v20) (0,(List.replicate g.edges.length ([]:List Int))) ?_ ?_ ?_
 exact ⟨[0,1],⟨by decide,rfl,(A0.cons kr (Fy (XM rfl rfl) A0.nil)),(Ee (Af.cons (AE.f kr) (Af.cons (AE.f kr) (Ee (Ee Af.nil)))))⟩,Ar⟩
 exact ⟨od,DO,hR1⟩
 rintro ⟨v20,row⟩ ⟨hi1,hr,hE1⟩
 try dsimp only
 refine Sq<|Rg<|Aq (AV.b (decide (((v20:Nat):Int)<((g.edges.length:Nat):Int))))<|Ad<|Sq ?_
 rcases Nat.lt_or_ge v20 g.edges.length with hl1|hl1
 have hc1:decide (((v20:Nat):Int)<((g.edges.length:Nat):Int))=true:=decide_eq_true (by omega)
 refine A4.cond (t:=true) (by rw [←hc1]<;>kernel_rfl) (A4.skip ?_)
 obtain ⟨x1,hx1⟩: ∃x,(List.replicate g.edges.length ([]:List Int))[v20]? =some x:=⟨_,List.getElem?_eq_getElem (by first|(simpa using hl1)|omega)⟩
 rw [AB hx1,Px.eq_2] at hE1
 refine Sq<|A4.block<|Sq<|Rg<|Aq (Ai v20)<|Aq (Ai v20)<|Ad<|Rg<|Aq (AV.own 1 0 g.edges.length)<|Aq (Ai v20)<|Aq (Ai v20)<|A1.sc0 (vs:=[(AV.pt (A3.av g).cells),(Ai v20)]) (r0:=((Ag 1 (AV.i .i64)) (Ha g ((v20:Nat):Int)))) kr kr (QV W g ((v20:Nat):Int) ⟨by simp;omega,by omega⟩ (hz _)) kr le<|Ap (AV.loc 1 v20 0) (Ge (e:=33) (id:=1) (len:=g.edges.length) (kk:= .i64) (ob:=⟨33,1,row.map (Ag 1 (AV.i .i64))⟩) (i:=v20) kr kr kr rfl kr sd)<|A1.st (x:=AV.und) (h':=⟨2,[(0,some ⟨33,1,[(AV.sl 1 true [])]⟩),(1,some ⟨33,1,(row.set v20 (Ha g ((v20:Nat):Int))).map (Ag 1 (AV.i .i64))⟩)]⟩) (L9 (e:=33) (k:=1) (i:=Q4) (id:=1) (A:=(Ag 1 (AV.i .i64))) (xs:=row) (y:=(Ha g ((v20:Nat):Int))) (j:=v20) kr kr kr rfl sd (fun _=>rfl) kr (fun _=>rfl) (fun _=>rfl))<|Ad<|Rg<|Ap (Ai (v20+1)) (AA (i:=v20) (m:=1) kr kr sd)<|Aq (Ai (v20+1))<|Ad ?_
 refine ⟨(v20+1,(row.set v20 (Ha g ((v20:Nat):Int)))),od,⟨od,DO,hE1⟩,?_⟩
 exact ⟨[0,1],⟨by decide,rfl,(A0.cons kr (A0.cons (Az (fun _=>rfl) (e:=33) (k:=1) (A:=(Ag 1 (AV.i .i64))) (xs:=(row.set v20 (Ha g ((v20:Nat):Int)))) rfl rfl) A0.nil)),(Ee (Af.cons (AE.f kr) (Af.cons (AE.f kr) (Ee (Ee Af.nil)))))⟩,Ar⟩
 have hc1:decide (((v20:Nat):Int)<((g.edges.length:Nat):Int))=false:=decide_eq_false (by omega)
 refine A4.cond (t:=false) (by rw [←hc1]<;>kernel_rfl) (A4.exit ?_)
 rw [List.drop_eq_nil_of_le (by first|(simpa using hl1)|omega),Px.eq_1] at hE1
 subst hE1
 refine Sq<|Rg<|Aq (AV.fn 106 [(AV.loc 0 0 0)])<|Nn (AV.loc 2 0 0) ⟨153,1,[AV.nilf]⟩<|Sp 2 DX<|Ad<|Sq<|Rg<|Aq (AV.fn 108 [(AV.loc 2 0 0)])<|Aq (AV.fn 108 [(AV.loc 2 0 0)])<|Ad<|Sq<|A4.label<|Sq<|A4.block ?_
 obtain ⟨R2,hR2⟩: ∃R,QE g row (g.edges.length-0+1) []=R:=⟨_,rfl⟩
 refine Av (fun ((kf2,cell):Nat×(List Int))=>[(4,(AV.loc 0 0 0)),(5,(AV.own 2 0 g.edges.length)),(7,(AV.loc 3 0 0)),(8,(AV.fn 108 [(AV.loc 3 0 0)]))]) (fun ((kf2,cell):Nat×(List Int))=>⟨4,[(1,Fv 3 1 (AV.i .i64) cell),(0,some ⟨33,1,[(B7 1 1 (AV.i .i64) cell)]⟩),(2,some ⟨33,1,row.map (Ag 1 (AV.i .i64))⟩),(3,some DX)]⟩) (fun ((kf2,cell):Nat×(List Int))=>g.edges.length-cell.length<kf2∧cell.length≤g.edges.length∧QE g row kf2 cell=R2) (fun ((kf2,cell):Nat×(List Int))=>kf2) (g.edges.length-0+1,[]) ?_ ?_ ?_
 exact ⟨[0,1000001,1,2],⟨by decide,rfl,(A0.cons rfl (A0.cons rfl (A0.cons (Az (fun _=>rfl) (e:=33) (k:=1) (A:=(Ag 1 (AV.i .i64))) (xs:=row) rfl rfl) (A0.cons kr A0.nil)))),(Af.cons (AE.f kr) (Af.cons (AE.f kr) (Af.cons (AE.f kr) (Af.cons (AE.f kr) Af.nil))))⟩,Ar⟩
 exact ⟨od,DO,hR2⟩
 rintro ⟨kf2,cell⟩ ⟨hi2,hcl,hE2⟩
 try dsimp only
 rcases kf2 with _|kf2
 exact absurd hi2 (Nat.not_lt_zero _)
 rw [QE.eq_2] at hE2
 refine Sq<|Sq<|Rg<|Ap (B7 1 1 (AV.i .i64) cell) (Sf (i:=Q4) (id:=0) (j:=0) (ob:=⟨33,1,[(B7 1 1 (AV.i .i64) cell)]⟩) (x:=(B7 1 1 (AV.i .i64) cell)) kr kr kr kr ID rfl)<|Ap (Ai cell.length) (Ts (e:=3) (A:=(AV.i .i64)) (xs:=cell) (p:=1) (k:=1) kr kr (fun q=>Tf (e:=3) (k:=1) (A:=(AV.i .i64)) q rfl))<|Aq (AV.own 2 0 g.edges.length)<|Aq (Ai g.edges.length)<|Aq (AV.b (decide (((cell.length:Nat):Int)<((g.edges.length:Nat):Int))))<|Ad ?_
 cases c_2:decide (((cell.length:Nat):Int)<((g.edges.length:Nat):Int))
 have k_2:=of_decide_eq_false c_2
 refine Cf<|A4.exit ?_
 try simp only [c_2,Aw] at hE2
 subst hE2
 refine Sq<|Rg<|Ap (B7 1 1 (AV.i .i64) cell) (Sf (i:=Q4) (id:=0) (j:=0) (ob:=⟨33,1,[(B7 1 1 (AV.i .i64) cell)]⟩) (x:=(B7 1 1 (AV.i .i64) cell)) kr kr kr kr ID rfl)<|Aq (B7 1 1 (AV.i .i64) cell)<|Aq (AV.i .i64 (0:Int))<|Ad<|Rt ?_
 have hM:DQ g=(cell,(0:Int)):=by simp only [DQ,c_1,hR1,hR2,Aw]
 refine ⟨Or.inr rfl,?_⟩
 rw [hM]
 exact AE.cast (x':=(AV.tup [(B7 1 1 (AV.i .i64) cell),(AV.i .i64 (0:Int))])) (y':=(AV.tup [((Ag 1 (AV.i .i64)) ((cell,(0:Int)).1)),(AV.i .i64 ((cell,(0:Int)).2))])) kr kr (AE.tup ⟨(AE.cast (x':=(B7 1 1 (AV.i .i64) cell)) (y':=Ag 1 (AV.i .i64) cell) kr kr (HR (fun _=>rfl) (by decide) (by decide) (e:=3) (k:=1) rfl sd)),⟨Ec,trivial⟩⟩ kr)
 have k_2:=of_decide_eq_true c_2
 refine Ct<|A4.skip<|A4.block<|Sq<|Sq<|Rg<|Aq (AV.own 2 0 g.edges.length)<|Aq (Ai g.edges.length)<|Aq (AV.i .i64 (0:Int))<|Ad<|A4.block ?_
 have hB3:g.edges.length≤281474976710656:=by first|omega|(simp;done)|(simp;omega)
 obtain ⟨R3,hR3⟩: ∃R,Py row 0 cell=R:=⟨_,rfl⟩
 refine Av (fun ((v38,cell2):Nat×(List Int))=>[(4,(AV.loc 0 0 0)),(5,(AV.own 2 0 g.edges.length)),(7,(AV.loc 3 0 0)),(8,(AV.fn 108 [(AV.loc 3 0 0)])),(36,(AV.own 2 0 g.edges.length)),(37,(Ai g.edges.length)),(38,(Ai v38))]) (fun ((v38,cell2):Nat×(List Int))=>⟨4,[(1,Fv 3 1 (AV.i .i64) cell2),(0,some ⟨33,1,[(B7 1 1 (AV.i .i64) cell2)]⟩),(2,some ⟨33,1,row.map (Ag 1 (AV.i .i64))⟩),(3,some DX)]⟩) (fun ((v38,cell2):Nat×(List Int))=>v38≤g.edges.length∧cell2.length=cell.length∧Py (row.drop v38) v38 cell2=R3) (fun ((v38,cell2):Nat×(List Int))=>g.edges.length-v38) (0,cell) ?_ ?_ ?_
 exact ⟨[0,1,2,3],⟨by decide,rfl,(A0.cons (Xc (A:=(AV.i .i64)) (e:=33) (k:=1) (ek:=1) (xs:=cell) rfl (by decide) rfl) (A0.cons (Cz (fun _=>rfl) (e:=3) (k:=1) (A:=(AV.i .i64)) (xs:=cell) rfl rfl) (A0.cons (Az (fun _=>rfl) (e:=33) (k:=1) (A:=(Ag 1 (AV.i .i64))) (xs:=row) rfl rfl) (A0.cons kr A0.nil)))),(Af.cons (AE.f kr) (Af.cons (AE.f kr) (Af.cons (AE.f kr) (Af.cons (AE.f kr) (Af.cons (AE.f kr) (Ee (Ee Af.nil)))))))⟩,Ar⟩
 exact ⟨od,DO,hR3⟩
 rintro ⟨v38,cell2⟩ ⟨hi3,hcm,hE3⟩
 try dsimp only
 refine Sq<|Rg<|Aq (AV.b (decide (((v38:Nat):Int)<((g.edges.length:Nat):Int))))<|Ad<|Sq ?_
 rcases Nat.lt_or_ge v38 g.edges.length with hl3|hl3
 have hc3:decide (((v38:Nat):Int)<((g.edges.length:Nat):Int))=true:=decide_eq_true (by omega)
 refine A4.cond (t:=true) (by rw [←hc3]<;>kernel_rfl) (A4.skip ?_)
 obtain ⟨x3,hx3⟩: ∃x,row[v38]? =some x:=⟨_,List.getElem?_eq_getElem (by first|(simpa using hl3)|omega)⟩
 rw [AB hx3,Py.eq_2] at hE3
 refine Sq<|A4.block<|Sq<|Rg<|Aq (Ai v38)<|Ap (AV.loc 2 v38 0) (Ge (e:=33) (id:=2) (len:=g.edges.length) (kk:= .i64) (ob:=⟨33,1,row.map (Ag 1 (AV.i .i64))⟩) (i:=v38) kr kr kr rfl kr sd)<|Ap ((Ag 1 (AV.i .i64)) x3) (Dg (e:=33) (k:=1) (i:=Q4) (id:=2) (xs:=row) (A:=(Ag 1 (AV.i .i64))) (j:=v38) kr kr rfl hx3 kr)<|Aq (Ai v38)<|Aq ((Ag 1 (AV.i .i64)) x3)<|Ad<|Sq<|Rg<|Aq (AV.fn 106 [(AV.loc 0 0 0)])<|Aq (Ai v38)<|A1.sfw (vs:=[(Ai v38),(AV.loc 0 0 0)]) (ss:=[(Ai v38),(AV.pt ((Ag 1 (AV.i .i64)) cell2).cells)]) (r0:=(AV.b (Iq ((v38:Nat):Int) cell2))) kr (show Bc _ _ _ from ⟨(Bc.e kr),⟨(Al.w (Al.cast (x':=(AV.loc 0 0 0)) kr kr (Iz (id:=0) (j:=0) (ob:=⟨33,1,[(B7 1 1 (AV.i .i64) cell2)]⟩) (x:=(B7 1 1 (AV.i .i64) cell2)) rfl rfl rfl ID (Al.acc (fun _=>rfl) (A:=(AV.i .i64)) (e:=3) (k:=1) (id:=1) (xs:=cell2) rfl rfl sd)))),trivial⟩⟩) (MU W ((v38:Nat):Int) cell2) rfl kr le<|Aq (AV.b (!(Iq ((v38:Nat):Int) cell2)))<|Aq (AV.b (!(Iq ((v38:Nat):Int) cell2))) ?_
 cases c_3:(!(Iq ((v38:Nat):Int) cell2))
 refine An<|An<|An<|An<|Aq (AV.b false)<|Ad<|Cf<|A4.skip<|Rg<|Ap (Ai (v38+1)) (AA (i:=v38) (m:=1) kr kr sd)<|Aq (Ai (v38+1))<|Ad ?_
 try simp only [c_3,Aw] at hE3
 refine ⟨(v38+1,cell2),od,⟨od,DO,hE3⟩,?_⟩
 exact ⟨[0,1,2,3],⟨by decide,rfl,(A0.cons (Xc (A:=(AV.i .i64)) (e:=33) (k:=1) (ek:=1) (xs:=cell2) rfl (by decide) rfl) (A0.cons (Cz (fun _=>rfl) (e:=3) (k:=1) (A:=(AV.i .i64)) (xs:=cell2) rfl rfl) (A0.cons (Az (fun _=>rfl) (e:=33) (k:=1) (A:=(Ag 1 (AV.i .i64))) (xs:=row) rfl rfl) (A0.cons kr A0.nil)))),(Af.cons (AE.f kr) (Af.cons (AE.f kr) (Af.cons (AE.f kr) (Af.cons (AE.f kr) (Af.cons (AE.f kr) (Ee (Ee Af.nil)))))))⟩,Ar⟩
 refine Ay<|Aq ((Ag 1 (AV.i .i64)) x3)<|Ay<|Aq (AV.fn 108 [(AV.loc 3 0 0)])<|Ay<|A1.sfw (vs:=[((Ag 1 (AV.i .i64)) x3),(AV.fn 108 [(AV.loc 3 0 0)])]) (ss:=[((Ag 1 (AV.i .i64)) x3),(AV.fn 108 [(AV.pt [AV.fn 106 [(AV.pt ((Ag 1 (AV.i .i64)) cell2).cells)]])])]) (r0:=(AV.b (WS x3 (fun z0=>Om z0 (fun z0=>Iq z0 cell2))))) kr (show Bc _ _ _ from ⟨(Bc.e kr),⟨(Al.w (Al.cast (x':=(AV.fn 108 [(AV.loc 3 0 0)])) kr kr (Al.fn (Ao.cons (Iz (id:=3) (j:=0) (ob:=DX) (x:=(AV.fn 106 [(AV.loc 0 0 0)])) rfl rfl rfl rfl (Al.fn (Ao.cons (Iz (id:=0) (j:=0) (ob:=⟨33,1,[(B7 1 1 (AV.i .i64) cell2)]⟩) (x:=(B7 1 1 (AV.i .i64) cell2)) rfl rfl rfl ID (Al.acc (fun _=>rfl) (A:=(AV.i .i64)) (e:=3) (k:=1) (id:=1) (xs:=cell2) rfl rfl sd)) Ao.nil))) Ao.nil)))),trivial⟩⟩) (GQ W x3 108 [(AV.pt [AV.fn 106 [(AV.pt ((Ag 1 (AV.i .i64)) cell2).cells)]])] (fun z0=>Om z0 (fun z0=>Iq z0 cell2)) kr (fun z0=>(SQ W z0 106 [(AV.pt ((Ag 1 (AV.i .i64)) cell2).cells)] (fun z0=>Iq z0 cell2) kr (fun z0=>(MU W z0 cell2))))) rfl kr le<|Ay<|Aq (AV.b (!(WS x3 (fun z0=>Om z0 (fun z0=>Iq z0 cell2)))))<|Aq (AV.b (!(WS x3 (fun z0=>Om z0 (fun z0=>Iq z0 cell2))))) ?_
 refine Ad ?_
 cases c_4:(!(WS x3 (fun z0=>Om z0 (fun z0=>Iq z0 cell2))))
 refine Cf<|A4.skip<|Rg<|Ap (Ai (v38+1)) (AA (i:=v38) (m:=1) kr kr sd)<|Aq (Ai (v38+1))<|Ad ?_
 try simp only [c_3,c_4,Aw] at hE3
 refine ⟨(v38+1,cell2),od,⟨od,DO,hE3⟩,?_⟩
 exact ⟨[0,1,2,3],⟨by decide,rfl,(A0.cons (Xc (A:=(AV.i .i64)) (e:=33) (k:=1) (ek:=1) (xs:=cell2) rfl (by decide) rfl) (A0.cons (Cz (fun _=>rfl) (e:=3) (k:=1) (A:=(AV.i .i64)) (xs:=cell2) rfl rfl) (A0.cons (Az (fun _=>rfl) (e:=33) (k:=1) (A:=(Ag 1 (AV.i .i64))) (xs:=row) rfl rfl) (A0.cons kr A0.nil)))),(Af.cons (AE.f kr) (Af.cons (AE.f kr) (Af.cons (AE.f kr) (Af.cons (AE.f kr) (Af.cons (AE.f kr) (Ee (Ee Af.nil)))))))⟩,Ar⟩
 refine Ct<|Sq<|Rg<|Ap (B7 1 1 (AV.i .i64) cell2) (Sf (i:=Q4) (id:=0) (j:=0) (ob:=⟨33,1,[(B7 1 1 (AV.i .i64) cell2)]⟩) (x:=(B7 1 1 (AV.i .i64) cell2)) kr kr kr kr ID rfl)<|Aq (Ai v38)<|Nn (AV.own 4 0 1) ⟨3,1,[((v38:Nat):Int)].map (AV.i .i64)⟩<|AY (x:=(AV.own 5 0 ((cell2++[((v38:Nat):Int)]).length))) (h':=⟨6,[(5,some ⟨3,1,(cell2++[((v38:Nat):Int)]).map (AV.i .i64)⟩),(4,some ⟨3,1,[((v38:Nat):Int)].map (AV.i .i64)⟩),(1,none),(0,some ⟨33,1,[(B7 1 1 (AV.i .i64) cell2)]⟩),(2,some ⟨33,1,row.map (Ag 1 (AV.i .i64))⟩),(3,some DX)]⟩) (Mg (e:=3) (X:=(AV.own 4 0 1)) (A:=(AV.i .i64)) (i:=Yf) (p:=1) (xs:=cell2) (ys:=[((v38:Nat):Int)]) kr kr kr (hx:=kr) kr (by simp) ⟨by decide,by kernel_rfl⟩ rfl (by intro q;first|(subst q;rfl)|(rw [q];rfl)|(simp only [q];rfl)) (by show _*8≤140737488355328;first|omega|(simp only [List.length_append,List.length_cons,List.length_nil,List.length_set,List.length_replicate];omega)|(simp;omega)) sd) le<|A1.st (x:=AV.und) (h':=⟨6,[(5,some ⟨3,1,(cell2++[((v38:Nat):Int)]).map (AV.i .i64)⟩),(4,some ⟨3,1,[((v38:Nat):Int)].map (AV.i .i64)⟩),(1,none),(0,some ⟨33,1,[(AV.own 5 0 ((cell2++[((v38:Nat):Int)]).length))]⟩),(2,some ⟨33,1,row.map (Ag 1 (AV.i .i64))⟩),(3,some DX)]⟩) (g_setC (i:=Q4) (id:=0) (j:=0) (e:=33) (k:=1) (els:=[(B7 1 1 (AV.i .i64) cell2)]) (x:=(B7 1 1 (AV.i .i64) cell2)) (y:=(AV.own 5 0 ((cell2++[((v38:Nat):Int)]).length))) kr kr kr kr kr RQ.acc rfl (by intro fs hh;cases hh) kr kr) ?_
 refine Ad<|A4.exit ?_
 try simp only [c_3,c_4,Aw] at hE3
 subst hE3
 try simp only [c_2,hR3,Aw] at hE2
 refine ⟨(kf2,(cell2++[((v38:Nat):Int)])),od,⟨DO,DO,hE2⟩,?_⟩
 exact ⟨[0,5,2,3],⟨by decide,rfl,(A0.cons (boxA (A:=(AV.i .i64)) (e:=33) (k:=1) (ek:=1) (xs:=(cell2++[((v38:Nat):Int)])) (by simp) rfl (by decide) (by simp) rfl) (A0.cons (FG (fun _=>rfl) (e:=3) (k:=1) (A:=(AV.i .i64)) (xs:=(cell2++[((v38:Nat):Int)])) (by simp) rfl rfl) (A0.cons (Az (fun _=>rfl) (e:=33) (k:=1) (A:=(Ag 1 (AV.i .i64))) (xs:=row) rfl rfl) (A0.cons kr A0.nil)))),(Af.cons (AE.f kr) (Af.cons (AE.f kr) (Af.cons (AE.f kr) (Af.cons (AE.f kr) Af.nil))))⟩,Ar⟩
 have hc3:decide (((v38:Nat):Int)<((g.edges.length:Nat):Int))=false:=decide_eq_false (by omega)
 refine A4.cond (t:=false) (by rw [←hc3]<;>kernel_rfl) (A4.exit ?_)
 rw [List.drop_eq_nil_of_le (by first|(simpa using hl3)|omega),Py.eq_1] at hE3
 subst hE3
 refine Sq<|Rg<|Aq (AV.sl 1 true [])<|Aq (AV.i .i64 (1001:Int))<|Ad<|Rt ?_
 try simp only [c_2,hR3,Aw] at hE2
 subst hE2
 have hM:DQ g=(([]:List Int),(1001:Int)):=by simp only [DQ,c_1,hR1,hR2,Aw]
 refine ⟨Or.inr rfl,?_⟩
 rw [hM]
 exact AE.cast (x':=(AV.tup [(AV.sl 1 true []),(AV.i .i64 (1001:Int))])) (y':=(AV.tup [((Ag 1 (AV.i .i64)) ((([]:List Int),(1001:Int)).1)),(AV.i .i64 ((([]:List Int),(1001:Int)).2))])) kr kr (AE.tup ⟨(AE.w rfl (AP.nil 1)),⟨Ec,trivial⟩⟩ kr)
 have k_1:=LJ c_1
 refine Ct<|Sq<|Rg<|Aq (AV.sl 1 true [])<|Aq (AV.i .i64 (1000:Int))<|Ad<|Rt ?_
 have hM:DQ g=(([]:List Int),(1000:Int)):=by simp only [DQ,c_1,Aw]
 refine ⟨Or.inr rfl,?_⟩
 rw [hM]
 exact AE.cast (x':=(AV.tup [(AV.sl 1 true []),(AV.i .i64 (1000:Int))])) (y':=(AV.tup [((Ag 1 (AV.i .i64)) ((([]:List Int),(1000:Int)).1)),(AV.i .i64 ((([]:List Int),(1000:Int)).2))])) kr kr (AE.tup ⟨(AE.w rfl (AP.nil 1)),⟨Ec,trivial⟩⟩ kr)
def CU:Obj:=⟨65,7,[(AV.st [(AV.sl 1 true []),(AV.sl 1 true []),(AV.sl 1 true []),(AV.sl 1 true []),(AV.s (⟨#[]⟩:ByteArray)),(AV.b false),(AV.s (⟨#[]⟩:ByteArray))])]⟩
def Hy (a:A8):Obj:=⟨65,7,[(AV.st [(AV.own 3 0 a.outs.length),((Ag 1 AV.s) a.ins),((Ag 1 AV.s) a.implicit),((Ag 1 AV.s) a.order),(AV.s a.command),(AV.b a.deps),(AV.s a.pool)])]⟩
def DN (a:A8):AV:=(AV.st [(AV.own 3 0 a.outs.length),(AV.own 5 0 a.ins.length),(AV.own 7 0 a.implicit.length),(AV.own 9 0 a.order.length),(AV.s a.command),(AV.b a.deps),(AV.s a.pool)])
def Hx (a:A8):Obj:=⟨65,7,[(AV.st [(AV.own 3 0 a.outs.length),(AV.own 5 0 a.ins.length),((Ag 1 AV.s) a.implicit),((Ag 1 AV.s) a.order),(AV.s a.command),(AV.b a.deps),(AV.s a.pool)])]⟩
def Hw (a:A8):Obj:=⟨65,7,[(AV.st [(AV.own 3 0 a.outs.length),(AV.own 5 0 a.ins.length),(AV.own 7 0 a.implicit.length),((Ag 1 AV.s) a.order),(AV.s a.command),(AV.b a.deps),(AV.s a.pool)])]⟩
def Hv (a:A8):Obj:=⟨65,7,[(DN a)]⟩
theorem Oz (W:World) (a:A8) (hz:a.sz≤1048576):Ah Go.Proofs.Tryz.prog W 92 [(A8.av a)] (A8.av (LD a)) []:=by
 have houts1:=Bp a.outs
 have hins1:=Bp a.ins
 have himplicit1:=Bp a.implicit
 have horder1:=Bp a.order
 have houts2:=a.sz_outs
 have hins2:=a.sz_ins
 have himplicit2:=a.sz_implicit
 have horder2:=a.sz_order
 refine BG A5 (fn:=Go.Proofs.Tryz.f92) Go.Proofs.Tryz.func92 rfl (en92 W) le<|Sq<|Rg<|Nn (AV.loc 0 0 0) ⟨65,7,[(A8.av a)]⟩<|Nn (AV.loc 1 0 0) CU<|Ad<|Sq<|Rg<|Nn (AV.own 2 0 0) ⟨9,1,[].map AV.s⟩<|Aq (AV.loc 0 0 0)<|Aq ((Ag 1 AV.s) a.outs)<|AY (x:=(AV.own 3 0 a.outs.length)) (h':=⟨4,[(3,some ⟨9,1,a.outs.map AV.s⟩),(2,none),(1,some CU),(0,some ⟨65,7,[(A8.av a)]⟩)]⟩) (CE (len:=0) (e:=9) (X:=((Ag 1 AV.s) a.outs)) (A:=AV.s) (i:=DU) (p:=2) (xs:=[]) (ys:=a.outs) kr kr kr (hx:=kr) kr ⟨by decide,by kernel_rfl⟩ rfl sd (by show _*16≤140737488355328;first|omega|(simp only [List.length_append,List.length_cons,List.length_nil,List.length_set,List.length_replicate];omega)|(simp;omega)) sd) le<|Aq (AV.loc 0 0 0)<|Sp 0 (Hy a)<|Ad<|Sq<|Rg<|Nn (AV.own 4 0 0) ⟨9,1,[].map AV.s⟩<|Aq (AV.loc 0 0 1)<|Aq ((Ag 1 AV.s) a.ins)<|AY (x:=(AV.own 5 0 a.ins.length)) (h':=⟨6,[(5,some ⟨9,1,a.ins.map AV.s⟩),(4,none),(3,some ⟨9,1,a.outs.map AV.s⟩),(2,none),(1,some CU),(0,some (Hy a))]⟩) (CE (len:=0) (e:=9) (X:=((Ag 1 AV.s) a.ins)) (A:=AV.s) (i:=DU) (p:=4) (xs:=[]) (ys:=a.ins) kr kr kr (hx:=kr) kr ⟨by decide,by kernel_rfl⟩ rfl sd (by show _*16≤140737488355328;first|omega|(simp only [List.length_append,List.length_cons,List.length_nil,List.length_set,List.length_replicate];omega)|(simp;omega)) sd) le ?_
 refine Aq (AV.loc 0 0 1)<|Sp 0 (Hx a)<|Ad<|Sq<|Rg<|Nn (AV.own 6 0 0) ⟨9,1,[].map AV.s⟩<|Aq (AV.loc 0 0 2)<|Aq ((Ag 1 AV.s) a.implicit)<|AY (x:=(AV.own 7 0 a.implicit.length)) (h':=⟨8,[(7,some ⟨9,1,a.implicit.map AV.s⟩),(6,none),(5,some ⟨9,1,a.ins.map AV.s⟩),(4,none),(3,some ⟨9,1,a.outs.map AV.s⟩),(2,none),(1,some CU),(0,some (Hx a))]⟩) (CE (len:=0) (e:=9) (X:=((Ag 1 AV.s) a.implicit)) (A:=AV.s) (i:=DU) (p:=6) (xs:=[]) (ys:=a.implicit) kr kr kr (hx:=kr) kr ⟨by decide,by kernel_rfl⟩ rfl sd (by show _*16≤140737488355328;first|omega|(simp only [List.length_append,List.length_cons,List.length_nil,List.length_set,List.length_replicate];omega)|(simp;omega)) sd) le<|Aq (AV.loc 0 0 2)<|Sp 0 (Hw a)<|Ad<|Sq<|Rg<|Nn (AV.own 8 0 0) ⟨9,1,[].map AV.s⟩ ?_
 refine Aq (AV.loc 0 0 3)<|Aq ((Ag 1 AV.s) a.order)<|AY (x:=(AV.own 9 0 a.order.length)) (h':=⟨10,[(9,some ⟨9,1,a.order.map AV.s⟩),(8,none),(7,some ⟨9,1,a.implicit.map AV.s⟩),(6,none),(5,some ⟨9,1,a.ins.map AV.s⟩),(4,none),(3,some ⟨9,1,a.outs.map AV.s⟩),(2,none),(1,some CU),(0,some (Hw a))]⟩) (CE (len:=0) (e:=9) (X:=((Ag 1 AV.s) a.order)) (A:=AV.s) (i:=DU) (p:=8) (xs:=[]) (ys:=a.order) kr kr kr (hx:=kr) kr ⟨by decide,by kernel_rfl⟩ rfl sd (by show _*16≤140737488355328;first|omega|(simp only [List.length_append,List.length_cons,List.length_nil,List.length_set,List.length_replicate];omega)|(simp;omega)) sd) le<|Aq (AV.loc 0 0 3)<|Sp 0 (Hv a)<|Ad<|Sq<|Rg<|Aq (DN a)<|Sp 1 (Hv a) ?_
 refine Ad<|Rt ?_
 have hM:LD a=(⟨a.outs,a.ins,a.implicit,a.order,a.command,a.deps,a.pool⟩:A8):=by simp only [LD,Aw]
 refine ⟨Or.inr rfl,(DN a),kr,?_⟩
 rw [hM]
 exact AE.cast (x':=(DN a)) (y':=(A8.av (⟨a.outs,a.ins,a.implicit,a.order,a.command,a.deps,a.pool⟩:A8))) kr kr (AE.st ⟨(Dk.kk (x':=(AV.own 3 0 a.outs.length)) kr kr rfl (Al.row (fun _=>rfl) (A:=AV.s) (id:=3) (e:=9) (k:=1) (xs:=a.outs) rfl rfl rfl sd)),⟨(Dk.kk (x':=(AV.own 5 0 a.ins.length)) kr kr rfl (Al.row (fun _=>rfl) (A:=AV.s) (id:=5) (e:=9) (k:=1) (xs:=a.ins) rfl rfl rfl sd)),⟨(Dk.kk (x':=(AV.own 7 0 a.implicit.length)) kr kr rfl (Al.row (fun _=>rfl) (A:=AV.s) (id:=7) (e:=9) (k:=1) (xs:=a.implicit) rfl rfl rfl sd)),⟨(Dk.kk (x':=(AV.own 9 0 a.order.length)) kr kr rfl (Al.row (fun _=>rfl) (A:=AV.s) (id:=9) (e:=9) (k:=1) (xs:=a.order) rfl rfl rfl sd)),⟨Ec,⟨Ec,⟨Ec,trivial⟩⟩⟩⟩⟩⟩⟩ kr)
def Cg:Obj:=⟨26,3,[(AV.st [(AV.sl 7 true []),(AV.sl 2 true []),(AV.sl 1 true [])])]⟩
theorem NP (W:World) (a:A3) (hz:a.sz≤1048576):Ah Go.Proofs.Tryz.prog W 49 [(A3.av a)] (A3.av (Jl a)) []:=by
 have hl:=a.sz_len
 have hp:=Dj AD.sz_one a.pools
 have hp2:=a.sz_pools
 have hd:=Bp a.defaults
 have hd2:=a.sz_defaults
 have he2:=a.sz_edges
 refine BG A5 (fn:=Go.Proofs.Tryz.f49) Go.Proofs.Tryz.func49 rfl (en49 W) le<|Sq<|Rg<|Nn (AV.loc 0 0 0) ⟨26,3,[(A3.av a)]⟩<|Nn (AV.loc 1 0 0) Cg<|Ad<|Sq<|Rg<|Aq (AV.sl 7 true [])<|Ad<|Sq<|Sq<|Rg<|Aq (AV.i .i64 (0:Int))<|Ad<|A4.block<|A4.lim 0 (x:=(A3.av a)) kr fun hlm1=> ?_
 have hB1:a.edges.length≤281474976710656:=AX (Et hlm1)
 obtain ⟨R1,hR1⟩: ∃R,Sr a.edges 0 []=R:=⟨_,rfl⟩
 refine Av (fun ((edges,i):(List A8)×Nat)=>[(1,(AV.loc 1 0 0)),(2,(AV.loc 2 0 0)),(3,(B7 0 7 A8.av edges)),(4,(Ai i))]) (fun ((edges,i):(List A8)×Nat)=>⟨3,[(0,Fv 65 7 A8.av edges),(1,some ⟨26,3,[(A3.av a)]⟩),(2,some Cg)]⟩) (fun ((edges,i):(List A8)×Nat)=>i≤a.edges.length∧edges.length≤i∧Sr (a.edges.drop i) i edges=R1) (fun ((edges,i):(List A8)×Nat)=>a.edges.length-i) ([],0) ?_ ?_ ?_
 exact ⟨[1000000,0,1],⟨by decide,rfl,(A0.cons rfl (A0.cons kr (A0.cons kr A0.nil))),(Af.cons (AE.f kr) (Af.cons (AE.f kr) (Ee (Ee Af.nil))))⟩,Ar⟩
 exact ⟨od,DO,hR1⟩
 rintro ⟨edges,i⟩ ⟨hi1,ha,hE1⟩
 try dsimp only
 refine Sq<|Sq<|Rg<|Aq (Ai i)<|Aq (AV.loc 1 0 0)<|Aq ((Ag 7 A8.av) a.edges)<|Ap (Ai a.edges.length) (AN (k:=7) (nl:=false) (e:=65) (A:=A8.av) (xs:=a.edges) kr kr)<|Aq (AV.b (decide (((i:Nat):Int)<((a.edges.length:Nat):Int))))<|Ad ?_
 rcases Nat.lt_or_ge i a.edges.length with hl1|hl1
 have hc1:decide (((i:Nat):Int)<((a.edges.length:Nat):Int))=true:=decide_eq_true (by omega)
 refine A4.cond (t:=true) (by rw [←hc1]<;>kernel_rfl) (A4.skip ?_)
 obtain ⟨x1,hx1⟩: ∃x,a.edges[i]? =some x:=⟨_,List.getElem?_eq_getElem hl1⟩
 rw [AB hx1,Sr.eq_2] at hE1
 have hxz:=Ia (sz:=A8.sz) (List.mem_of_getElem? hx1)
 refine Sq<|A4.block<|Rg<|Aq (B7 0 7 A8.av edges)<|Aq (AV.loc 1 0 0)<|Aq ((Ag 7 A8.av) a.edges)<|Aq (Ai i)<|Ap (AV.pt (A8.av x1).cells) (AQ (k:=7) (nl:=false) (e:=65) (kk:= .i64) (A:=A8.av) (xs:=a.edges) (i:=i) kr kr kr ⟨by kernel_rfl,by decide⟩ hx1)<|Aq (A8.av x1)<|A1.sc0 (vs:=[(A8.av x1)]) (r0:=(A8.av (LD x1))) kr kr (Oz W x1 sd) kr le<|Nn (AV.own 3 0 1) ⟨65,7,[(LD x1)].map A8.av⟩<|AY (x:=(AV.own 4 0 ((edges++[(LD x1)]).length))) (h':=⟨5,[(4,some ⟨65,7,(edges++[(LD x1)]).map A8.av⟩),(3,some ⟨65,7,[(LD x1)].map A8.av⟩),(0,none),(1,some ⟨26,3,[(A3.av a)]⟩),(2,some Cg)]⟩) (Mg (e:=65) (X:=(AV.own 3 0 1)) (A:=A8.av) (i:=tI_65) (p:=0) (xs:=edges) (ys:=[(LD x1)]) kr kr kr (hx:=kr) kr (by simp) ⟨by decide,by kernel_rfl⟩ rfl (by intro q;first|(subst q;rfl)|(rw [q];rfl)|(simp only [q];rfl)) (by show _*136≤140737488355328;first|omega|(simp only [List.length_append,List.length_cons,List.length_nil,List.length_set,List.length_replicate];omega)|(simp;omega)) sd) le<|Aq (AV.own 4 0 ((edges++[(LD x1)]).length))<|Ad<|Rg<|Aq (Ai i)<|Ap (Ai (i+1)) (AA (i:=i) (m:=1) kr kr sd)<|Aq (Ai (i+1))<|Ad ?_
 refine ⟨((edges++[(LD x1)]),i+1),od,⟨od,DO,hE1⟩,?_⟩
 exact ⟨[4,1,2],⟨by decide,rfl,(A0.cons (FG (fun _=>rfl) (e:=65) (k:=7) (A:=A8.av) (xs:=(edges++[(LD x1)])) (by simp) rfl rfl) (A0.cons kr (A0.cons kr A0.nil))),(Af.cons (AE.f kr) (Af.cons (AE.f kr) (Af.cons (GB (A:=A8.av) (xs:=(edges++[(LD x1)])) (by decide) (by simp) rfl) (Ee Af.nil))))⟩,Ar⟩
 have hc1:decide (((i:Nat):Int)<((a.edges.length:Nat):Int))=false:=decide_eq_false (by omega)
 refine A4.cond (t:=false) (by rw [←hc1]<;>kernel_rfl) (A4.exit ?_)
 rw [List.drop_eq_nil_of_le (hl1),Sr.eq_1] at hE1
 subst hE1
 refine Sq<|Rg<|Nn (AV.own 3 0 0) ⟨122,2,[].map AD.av⟩<|Aq (AV.loc 1 0 1)<|Aq ((Ag 2 AD.av) a.pools)<|AY (x:=(AV.own 4 0 a.pools.length)) (h':=⟨5,[(4,some ⟨122,2,a.pools.map AD.av⟩),(3,none),(0,Fv 65 7 A8.av edges),(1,some ⟨26,3,[(A3.av a)]⟩),(2,some Cg)]⟩) (CE (len:=0) (e:=122) (X:=((Ag 2 AD.av) a.pools)) (A:=AD.av) (i:=tI_122) (p:=3) (xs:=[]) (ys:=a.pools) kr kr kr (hx:=kr) kr ⟨by decide,by kernel_rfl⟩ rfl sd (by show _*24≤140737488355328;first|omega|(simp only [List.length_append,List.length_cons,List.length_nil,List.length_set,List.length_replicate];omega)|(simp;omega)) sd) le<|Aq (AV.own 4 0 a.pools.length)<|Ad<|Sq<|Rg<|Nn (AV.own 5 0 0) ⟨9,1,[].map AV.s⟩<|Aq (AV.loc 1 0 2)<|Aq ((Ag 1 AV.s) a.defaults)<|AY (x:=(AV.own 6 0 a.defaults.length)) (h':=⟨7,[(6,some ⟨9,1,a.defaults.map AV.s⟩),(5,none),(4,some ⟨122,2,a.pools.map AD.av⟩),(3,none),(0,Fv 65 7 A8.av edges),(1,some ⟨26,3,[(A3.av a)]⟩),(2,some Cg)]⟩) (CE (len:=0) (e:=9) (X:=((Ag 1 AV.s) a.defaults)) (A:=AV.s) (i:=DU) (p:=5) (xs:=[]) (ys:=a.defaults) kr kr kr (hx:=kr) kr ⟨by decide,by kernel_rfl⟩ rfl sd (by show _*16≤140737488355328;first|omega|(simp only [List.length_append,List.length_cons,List.length_nil,List.length_set,List.length_replicate];omega)|(simp;omega)) sd) le ?_
 refine Aq (AV.own 6 0 a.defaults.length)<|Ad<|Sq<|GA<|Fz.run A5 3 le<|Aq (B7 0 7 A8.av edges)<|Aq (AV.own 4 0 a.pools.length)<|Aq (AV.own 6 0 a.defaults.length)<|Ad<|IA (Ta.fits [2,4,6] (env1:=[(2,(AV.loc 0 0 0)),(31,((Ag 7 A8.av) edges)),(32,(AV.own 1 0 a.pools.length)),(33,(AV.own 2 0 a.defaults.length))]) (h1:=⟨3,[(2,some ⟨9,1,a.defaults.map AV.s⟩),(1,some ⟨122,2,a.pools.map AD.av⟩),(0,some Cg)]⟩) ⟨by decide,rfl,(A0.cons kr (A0.cons (Az (fun _=>rfl) (e:=122) (k:=2) (A:=AD.av) (xs:=a.pools) rfl rfl) (A0.cons (Az (fun _=>rfl) (e:=9) (k:=1) (A:=AV.s) (xs:=a.defaults) rfl rfl) A0.nil))),(Af.cons (AE.f kr) (Af.cons (AE.cast (x':=(B7 0 7 A8.av edges)) (y':=Ag 7 A8.av edges) kr kr (HR (fun _=>rfl) (by decide) (by decide) (e:=65) (k:=7) rfl sd)) (Af.cons (AE.f kr) (Af.cons (AE.f kr) Af.nil))))⟩ Ar)<|Fz.run A5 2 le<|Nb (AV.st [((Ag 7 A8.av) edges),(AV.own 1 0 a.pools.length),(AV.own 2 0 a.defaults.length)])<|Sp 0 ⟨26,3,[(AV.st [((Ag 7 A8.av) edges),(AV.own 1 0 a.pools.length),(AV.own 2 0 a.defaults.length)])]⟩<|Ad<|Fz.fin rfl<|Rt ?_
 have hM:Jl a=(⟨edges,a.pools,a.defaults⟩:A3):=by simp only [Jl,hR1,Aw]
 refine ⟨Or.inr rfl,(AV.st [((Ag 7 A8.av) edges),(AV.own 1 0 a.pools.length),(AV.own 2 0 a.defaults.length)]),kr,?_⟩
 rw [hM]
 exact AE.cast (x':=(AV.st [((Ag 7 A8.av) edges),(AV.own 1 0 a.pools.length),(AV.own 2 0 a.defaults.length)])) (y':=(A3.av (⟨edges,a.pools,a.defaults⟩:A3))) kr kr (AE.st ⟨Ec,⟨(Dk.kk (x':=(AV.own 1 0 a.pools.length)) kr kr rfl (Al.row (fun _=>rfl) (A:=AD.av) (id:=1) (e:=122) (k:=2) (xs:=a.pools) rfl rfl rfl sd)),⟨(Dk.kk (x':=(AV.own 2 0 a.defaults.length)) kr kr rfl (Al.row (fun _=>rfl) (A:=AV.s) (id:=2) (e:=9) (k:=1) (xs:=a.defaults) rfl rfl rfl sd)),trivial⟩⟩⟩ kr)
theorem Cr (W:World) (a:List ByteArray) (b:List ByteArray):Ah Go.Proofs.Tryz.prog W 36 [((Ag 1 AV.s) a),((Ag 1 AV.s) b)] (AV.b (Jz a b)) []:=by
 refine A9 (fn:=Go.Proofs.Tryz.f36) Go.Proofs.Tryz.func36 rfl (en36 W) (ts:=[4]) rfl le<|Sq<|Rg<|Aq (AV.b false)<|Ad<|Sq<|Sq<|Rg<|Aq ((Ag 1 AV.s) a)<|Ap (Ai a.length) (AN (k:=1) (nl:=false) (e:=9) (A:=AV.s) (xs:=a) kr kr)<|Aq ((Ag 1 AV.s) b)<|Ap (Ai b.length) (AN (k:=1) (nl:=false) (e:=9) (A:=AV.s) (xs:=b) kr kr)<|Aq (AV.b (!decide (((a.length:Nat):Int)=((b.length:Nat):Int))))<|Ad ?_
 cases c_1:(!decide (((a.length:Nat):Int)=((b.length:Nat):Int)))
 have k_1:=LI c_1
 refine Cf<|A4.skip<|Sq<|Sq<|Rg<|Aq (AV.i .i64 (0:Int))<|Ad<|A4.block<|A4.lim 0 (x:=((Ag 1 AV.s) a)) kr fun hlm1=> ?_
 have hB1:a.length≤281474976710656:=AX hlm1
 obtain ⟨R1,hR1⟩: ∃R,U3 b a 0=R:=⟨_,rfl⟩
 refine Av (fun (i:Nat)=>[(0,((Ag 1 AV.s) a)),(1,((Ag 1 AV.s) b)),(5,(Ai i))]) (fun (i:Nat)=>⟨0,[]⟩) (fun (i:Nat)=>i≤a.length∧U3 b (a.drop i) i=R1) (fun (i:Nat)=>a.length-i) 0 ?_ ?_ ?_
 exact ⟨[],⟨by decide,rfl,A0.nil,(Ee (Ee (Ee Af.nil)))⟩,Ar⟩
 exact ⟨od,hR1⟩
 rintro i ⟨hi1,hE1⟩
 try dsimp only
 refine Sq<|Sq<|Rg<|Aq (Ai i)<|Aq ((Ag 1 AV.s) a)<|Ap (Ai a.length) (AN (k:=1) (nl:=false) (e:=9) (A:=AV.s) (xs:=a) kr kr)<|Aq (AV.b (decide (((i:Nat):Int)<((a.length:Nat):Int))))<|Ad ?_
 rcases Nat.lt_or_ge i a.length with hl1|hl1
 have hc1:decide (((i:Nat):Int)<((a.length:Nat):Int))=true:=decide_eq_true (by omega)
 refine A4.cond (t:=true) (by rw [←hc1]<;>kernel_rfl) (A4.skip ?_)
 obtain ⟨x1,hx1⟩: ∃x,a[i]? =some x:=⟨_,List.getElem?_eq_getElem hl1⟩
 rw [AB hx1,U3.eq_2] at hE1
 refine Sq<|A4.block<|Sq<|A4.drawn A5 C9 8 kr le<|Dq ((Ag 1 AV.s) a)<|Dq (Ai i)<|Dp (AV.pt (AV.s x1).cells) (AQ (k:=1) (nl:=false) (e:=9) (kk:= .i64) (A:=AV.s) (xs:=a) (i:=i) kr kr kr ⟨by kernel_rfl,by decide⟩ hx1)<|Dq (AV.s x1)<|Dq ((Ag 1 AV.s) b)<|Dq (Ai i)<|Dp (AV.pt (AV.s (b.getD i default)).cells) (AQ (k:=1) (nl:=false) (e:=9) (kk:= .i64) (A:=AV.s) (xs:=b) (i:=i) kr kr kr ⟨by kernel_rfl,by decide⟩ (getD_some sd))<|Dq (AV.s (b.getD i default))<|Dq (AV.b (!decide (x1=(b.getD i default))))<|As.fin ?_
 cases c_2:(!decide (x1=(b.getD i default)))
 have k_2:=LI c_2
 refine Cf<|A4.skip<|Rg<|Aq (Ai i)<|Ap (Ai (i+1)) (AA (i:=i) (m:=1) kr kr sd)<|Aq (Ai (i+1))<|Ad ?_
 try simp only [c_2,Aw] at hE1
 refine ⟨i+1,od,⟨od,hE1⟩,?_⟩
 exact ⟨[],⟨by decide,rfl,A0.nil,(Ee (Ee (Ee Af.nil)))⟩,Ar⟩
 have k_2:=LJ c_2
 refine Ct<|Sq<|Rg<|Aq (AV.b false)<|Ad<|Rt ?_
 try simp only [c_2,Aw] at hE1
 subst hE1
 exact Fb rfl (by simp only [Jz,c_1,hR1,Aw])
 have hc1:decide (((i:Nat):Int)<((a.length:Nat):Int))=false:=decide_eq_false (by omega)
 refine A4.cond (t:=false) (by rw [←hc1]<;>kernel_rfl) (A4.exit ?_)
 rw [List.drop_eq_nil_of_le (hl1),U3.eq_1] at hE1
 subst hE1
 refine Sq<|Rg<|Aq (AV.b true)<|Ad<|Rt ?_
 exact Fb rfl (by simp only [Jz,c_1,hR1,Aw])
 have k_1:=LJ c_1
 refine Ct<|Sq<|Rg<|Aq (AV.b false)<|Ad<|Rt ?_
 exact Fb rfl (by simp only [Jz,c_1,Aw])
theorem OB (W:World) (a:A8) (b:A8):Ah Go.Proofs.Tryz.prog W 115 [(A8.av a),(A8.av b)] (AV.b (Mm a b)) []:=by
 refine A9 (fn:=Go.Proofs.Tryz.f115) Go.Proofs.Tryz.func115 rfl (en115 W) (ts:=[4]) rfl le<|Sq<|Rg<|Nn (AV.loc 0 0 0) ⟨65,7,[(A8.av a)]⟩<|Nn (AV.loc 1 0 0) ⟨65,7,[(A8.av b)]⟩<|Aq (AV.b false)<|Ad<|Sq<|Rg<|Aq (AV.loc 0 0 0)<|Aq ((Ag 1 AV.s) a.outs)<|Aq (AV.loc 1 0 0)<|Aq ((Ag 1 AV.s) b.outs)<|A1.sc0 (vs:=[((Ag 1 AV.s) a.outs),((Ag 1 AV.s) b.outs)]) (r0:=(AV.b (Jz a.outs b.outs))) kr kr (Cr W a.outs b.outs) kr le<|Aq (AV.b (Jz a.outs b.outs)) ?_
 cases c_1:(Jz a.outs b.outs)
 refine An<|An<|An<|An<|An<|Aq (AV.b false)<|Aq (AV.b false)<|An<|An<|An<|An<|An<|Aq (AV.b false)<|Aq (AV.b false)<|An<|An<|An<|An<|An<|Aq (AV.b false)<|Aq (AV.b false)<|An<|An<|An<|An<|An<|Aq (AV.b false)<|Aq (AV.b false)<|An<|An<|An<|An<|An<|Aq (AV.b false)<|Aq (AV.b false)<|An<|An<|An<|An<|An<|Aq (AV.b false)<|Aq (AV.b false)<|Ad<|Rt ?_
 exact Fb rfl (by simp only [Mm,c_1,Aw])
 refine Ay<|Aq (AV.loc 0 0 1)<|Ay<|Aq ((Ag 1 AV.s) a.ins)<|Ay<|Aq (AV.loc 1 0 1)<|Ay<|Aq ((Ag 1 AV.s) b.ins)<|Ay<|A1.sc0 (vs:=[((Ag 1 AV.s) a.ins),((Ag 1 AV.s) b.ins)]) (r0:=(AV.b (Jz a.ins b.ins))) kr kr (Cr W a.ins b.ins) kr le<|Aq (AV.b (Jz a.ins b.ins))<|Aq (AV.b (Jz a.ins b.ins)) ?_
 cases c_2:(Jz a.ins b.ins)
 refine An<|An<|An<|An<|An<|Aq (AV.b false)<|Aq (AV.b false)<|An<|An<|An<|An<|An<|Aq (AV.b false)<|Aq (AV.b false)<|An<|An<|An<|An<|An<|Aq (AV.b false)<|Aq (AV.b false)<|An<|An<|An<|An<|An<|Aq (AV.b false)<|Aq (AV.b false)<|An<|An<|An<|An<|An<|Aq (AV.b false)<|Aq (AV.b false)<|Ad<|Rt ?_
 exact Fb rfl (by simp only [Mm,c_1,c_2,Aw])
 refine Ay<|Aq (AV.loc 0 0 2)<|Ay<|Aq ((Ag 1 AV.s) a.implicit)<|Ay<|Aq (AV.loc 1 0 2)<|Ay<|Aq ((Ag 1 AV.s) b.implicit)<|Ay<|A1.sc0 (vs:=[((Ag 1 AV.s) a.implicit),((Ag 1 AV.s) b.implicit)]) (r0:=(AV.b (Jz a.implicit b.implicit))) kr kr (Cr W a.implicit b.implicit) kr le<|Aq (AV.b (Jz a.implicit b.implicit))<|Aq (AV.b (Jz a.implicit b.implicit)) ?_
 cases c_3:(Jz a.implicit b.implicit)
 refine An<|An<|An<|An<|An<|Aq (AV.b false)<|Aq (AV.b false)<|An<|An<|An<|An<|An<|Aq (AV.b false)<|Aq (AV.b false)<|An<|An<|An<|An<|An<|Aq (AV.b false)<|Aq (AV.b false)<|An<|An<|An<|An<|An<|Aq (AV.b false)<|Aq (AV.b false)<|Ad<|Rt ?_
 exact Fb rfl (by simp only [Mm,c_1,c_2,c_3,Aw])
 refine Ay<|Aq (AV.loc 0 0 3)<|Ay<|Aq ((Ag 1 AV.s) a.order)<|Ay<|Aq (AV.loc 1 0 3)<|Ay<|Aq ((Ag 1 AV.s) b.order)<|Ay<|A1.sc0 (vs:=[((Ag 1 AV.s) a.order),((Ag 1 AV.s) b.order)]) (r0:=(AV.b (Jz a.order b.order))) kr kr (Cr W a.order b.order) kr le<|Aq (AV.b (Jz a.order b.order))<|Aq (AV.b (Jz a.order b.order)) ?_
 cases c_4:(Jz a.order b.order)
 refine An<|An<|An<|An<|An<|Aq (AV.b false)<|Aq (AV.b false)<|An<|An<|An<|An<|An<|Aq (AV.b false)<|Aq (AV.b false)<|An<|An<|An<|An<|An<|Aq (AV.b false)<|Aq (AV.b false)<|Ad<|Rt ?_
 exact Fb rfl (by simp only [Mm,c_1,c_2,c_3,c_4,Aw])
 refine Ay<|Aq (AV.loc 0 0 4)<|Ay<|Aq (AV.s a.command)<|Ay<|Aq (AV.loc 1 0 4)<|Ay<|Aq (AV.s b.command)<|Ay<|Aq (AV.b (decide (a.command=b.command)))<|Aq (AV.b (decide (a.command=b.command)))<|Aq (AV.b (decide (a.command=b.command))) ?_
 cases c_5:decide (a.command=b.command)
 have k_5:=of_decide_eq_false c_5
 refine An<|An<|An<|An<|An<|Aq (AV.b false)<|Aq (AV.b false)<|An<|An<|An<|An<|An<|Aq (AV.b false)<|Aq (AV.b false)<|Ad<|Rt ?_
 exact Fb rfl (by simp only [Mm,c_1,c_2,c_3,c_4,c_5,Aw])
 have k_5:=of_decide_eq_true c_5
 refine Ay<|Aq (AV.loc 0 0 5)<|Ay<|Aq (AV.b a.deps)<|Ay<|Aq (AV.loc 1 0 5)<|Ay<|Aq (AV.b b.deps)<|Ay<|Aq (AV.b (a.deps==b.deps))<|Aq (AV.b (a.deps==b.deps))<|Aq (AV.b (a.deps==b.deps)) ?_
 cases c_6:(a.deps==b.deps)
 refine An<|An<|An<|An<|An<|Aq (AV.b false)<|Aq (AV.b false)<|Ad<|Rt ?_
 exact Fb rfl (by simp only [Mm,c_1,c_2,c_3,c_4,c_5,c_6,Aw])
 refine Ay<|Aq (AV.loc 0 0 6)<|Ay<|Aq (AV.s a.pool)<|Ay<|Aq (AV.loc 1 0 6)<|Ay<|Aq (AV.s b.pool)<|Ay<|Aq (AV.b (decide (a.pool=b.pool)))<|Aq (AV.b (decide (a.pool=b.pool)))<|Aq (AV.b (decide (a.pool=b.pool)))<|Ad<|Rt ?_
 exact Fb rfl (by simp only [Mm,c_1,c_2,c_3,c_4,c_5,c_6,Aw])
theorem NU (W:World) (a:List AD) (b:List AD):Ah Go.Proofs.Tryz.prog W 116 [((Ag 2 AD.av) a),((Ag 2 AD.av) b)] (AV.b (Qz a b)) []:=by
 refine A9 (fn:=Go.Proofs.Tryz.f116) Go.Proofs.Tryz.func116 rfl (en116 W) (ts:=[4]) rfl le<|Sq<|Rg<|Aq (AV.b false)<|Ad<|Sq<|Sq<|Rg<|Aq ((Ag 2 AD.av) a)<|Ap (Ai a.length) (AN (k:=2) (nl:=false) (e:=122) (A:=AD.av) (xs:=a) kr kr)<|Aq ((Ag 2 AD.av) b)<|Ap (Ai b.length) (AN (k:=2) (nl:=false) (e:=122) (A:=AD.av) (xs:=b) kr kr)<|Aq (AV.b (!decide (((a.length:Nat):Int)=((b.length:Nat):Int))))<|Ad ?_
 cases c_1:(!decide (((a.length:Nat):Int)=((b.length:Nat):Int)))
 have k_1:=LI c_1
 refine Cf<|A4.skip<|Sq<|Sq<|Rg<|Aq (AV.i .i64 (0:Int))<|Ad<|A4.block<|A4.lim 0 (x:=((Ag 2 AD.av) a)) kr fun hlm1=> ?_
 have hB1:a.length≤281474976710656:=AX hlm1
 obtain ⟨R1,hR1⟩: ∃R,U2 b a 0=R:=⟨_,rfl⟩
 refine Av (fun (i:Nat)=>[(0,((Ag 2 AD.av) a)),(1,((Ag 2 AD.av) b)),(5,(Ai i))]) (fun (i:Nat)=>⟨0,[]⟩) (fun (i:Nat)=>i≤a.length∧U2 b (a.drop i) i=R1) (fun (i:Nat)=>a.length-i) 0 ?_ ?_ ?_
 exact ⟨[],⟨by decide,rfl,A0.nil,(Ee (Ee (Ee Af.nil)))⟩,Ar⟩
 exact ⟨od,hR1⟩
 rintro i ⟨hi1,hE1⟩
 try dsimp only
 refine Sq<|Sq<|Rg<|Aq (Ai i)<|Aq ((Ag 2 AD.av) a)<|Ap (Ai a.length) (AN (k:=2) (nl:=false) (e:=122) (A:=AD.av) (xs:=a) kr kr)<|Aq (AV.b (decide (((i:Nat):Int)<((a.length:Nat):Int))))<|Ad ?_
 rcases Nat.lt_or_ge i a.length with hl1|hl1
 have hc1:decide (((i:Nat):Int)<((a.length:Nat):Int))=true:=decide_eq_true (by omega)
 refine A4.cond (t:=true) (by rw [←hc1]<;>kernel_rfl) (A4.skip ?_)
 obtain ⟨x1,hx1⟩: ∃x,a[i]? =some x:=⟨_,List.getElem?_eq_getElem hl1⟩
 rw [AB hx1,U2.eq_2] at hE1
 refine Sq<|A4.block<|Sq<|A4.drawn A5 C9 8 kr le<|Dq ((Ag 2 AD.av) a)<|Dq (Ai i)<|Dp (AV.pt (AD.av x1).cells) (AQ (k:=2) (nl:=false) (e:=122) (kk:= .i64) (A:=AD.av) (xs:=a) (i:=i) kr kr kr ⟨by kernel_rfl,by decide⟩ hx1)<|Dq (AD.av x1)<|Dq ((Ag 2 AD.av) b)<|Dq (Ai i)<|Dp (AV.pt (AD.av (b.getD i default)).cells) (AQ (k:=2) (nl:=false) (e:=122) (kk:= .i64) (A:=AD.av) (xs:=b) (i:=i) kr kr kr ⟨by kernel_rfl,by decide⟩ (getD_some sd))<|Dq (AD.av (b.getD i default))<|N1 (x:=(AV.b (!(decide (x1.name=(b.getD i default).name)&&(decide (x1.depth=(b.getD i default).depth)&&true))))) kr kr le<|As.fin ?_
 cases c_2:(!(decide (x1.name=(b.getD i default).name)&&(decide (x1.depth=(b.getD i default).depth)&&true)))
 refine Cf<|A4.skip<|Rg<|Aq (Ai i)<|Ap (Ai (i+1)) (AA (i:=i) (m:=1) kr kr sd)<|Aq (Ai (i+1))<|Ad ?_
 try simp only [c_2,Aw] at hE1
 refine ⟨i+1,od,⟨od,hE1⟩,?_⟩
 exact ⟨[],⟨by decide,rfl,A0.nil,(Ee (Ee (Ee Af.nil)))⟩,Ar⟩
 refine Ct<|Sq<|Rg<|Aq (AV.b false)<|Ad<|Rt ?_
 try simp only [c_2,Aw] at hE1
 subst hE1
 exact Fb rfl (by simp only [Qz,c_1,hR1,Aw])
 have hc1:decide (((i:Nat):Int)<((a.length:Nat):Int))=false:=decide_eq_false (by omega)
 refine A4.cond (t:=false) (by rw [←hc1]<;>kernel_rfl) (A4.exit ?_)
 rw [List.drop_eq_nil_of_le (hl1),U2.eq_1] at hE1
 subst hE1
 refine Sq<|Rg<|Aq (AV.b true)<|Ad<|Rt ?_
 exact Fb rfl (by simp only [Qz,c_1,hR1,Aw])
 have k_1:=LJ c_1
 refine Ct<|Sq<|Rg<|Aq (AV.b false)<|Ad<|Rt ?_
 exact Fb rfl (by simp only [Qz,c_1,Aw])
theorem NT (W:World) (a:A3) (b:A3):Ah Go.Proofs.Tryz.prog W 65 [(A3.av a),(A3.av b)] (AV.b (Oh a b)) []:=by
 refine A9 (fn:=Go.Proofs.Tryz.f65) Go.Proofs.Tryz.func65 rfl (en65 W) (ts:=[4]) rfl le<|Sq<|Rg<|Nn (AV.loc 0 0 0) ⟨26,3,[(A3.av a)]⟩<|Nn (AV.loc 1 0 0) ⟨26,3,[(A3.av b)]⟩<|Aq (AV.b false)<|Ad<|Sq<|Sq<|Rg<|Aq (AV.loc 0 0 0)<|Aq ((Ag 7 A8.av) a.edges)<|Ap (Ai a.edges.length) (AN (k:=7) (nl:=false) (e:=65) (A:=A8.av) (xs:=a.edges) kr kr)<|Aq (AV.loc 1 0 0)<|Aq ((Ag 7 A8.av) b.edges)<|Ap (Ai b.edges.length) (AN (k:=7) (nl:=false) (e:=65) (A:=A8.av) (xs:=b.edges) kr kr)<|Aq (AV.b (!decide (((a.edges.length:Nat):Int)=((b.edges.length:Nat):Int))))<|Ad ?_
 cases c_1:(!decide (((a.edges.length:Nat):Int)=((b.edges.length:Nat):Int)))
 have k_1:=LI c_1
 refine Cf<|A4.skip<|Sq<|Sq<|Rg<|Aq (AV.i .i64 (0:Int))<|Ad<|A4.block<|A4.lim 7 (x:=((Ag 7 A8.av) a.edges)) kr fun hlm1=> ?_
 have hB1:a.edges.length≤281474976710656:=AX hlm1
 obtain ⟨R1,hR1⟩: ∃R,U1 b a.edges 0=R:=⟨_,rfl⟩
 refine Av (fun (i:Nat)=>[(2,(AV.loc 0 0 0)),(3,(AV.loc 1 0 0)),(5,(Ai i))]) (fun (i:Nat)=>⟨2,[(0,some ⟨26,3,[(A3.av a)]⟩),(1,some ⟨26,3,[(A3.av b)]⟩)]⟩) (fun (i:Nat)=>i≤a.edges.length∧U1 b (a.edges.drop i) i=R1) (fun (i:Nat)=>a.edges.length-i) 0 ?_ ?_ ?_
 exact ⟨[0,1],⟨by decide,rfl,(A0.cons kr (A0.cons kr A0.nil)),(Af.cons (AE.f kr) (Af.cons (AE.f kr) (Ee Af.nil)))⟩,Ar⟩
 exact ⟨od,hR1⟩
 rintro i ⟨hi1,hE1⟩
 try dsimp only
 refine Sq<|Sq<|Rg<|Aq (Ai i)<|Aq (AV.loc 0 0 0)<|Aq ((Ag 7 A8.av) a.edges)<|Ap (Ai a.edges.length) (AN (k:=7) (nl:=false) (e:=65) (A:=A8.av) (xs:=a.edges) kr kr)<|Aq (AV.b (decide (((i:Nat):Int)<((a.edges.length:Nat):Int))))<|Ad ?_
 rcases Nat.lt_or_ge i a.edges.length with hl1|hl1
 have hc1:decide (((i:Nat):Int)<((a.edges.length:Nat):Int))=true:=decide_eq_true (by omega)
 refine A4.cond (t:=true) (by rw [←hc1]<;>kernel_rfl) (A4.skip ?_)
 obtain ⟨x1,hx1⟩: ∃x,a.edges[i]? =some x:=⟨_,List.getElem?_eq_getElem hl1⟩
 rw [AB hx1,U1.eq_2] at hE1
 refine Sq<|A4.block<|Sq<|A4.drawn A5 C9 10 kr le<|Dq (AV.loc 0 0 0)<|Dq ((Ag 7 A8.av) a.edges)<|Dq (Ai i)<|Dp (AV.pt (A8.av x1).cells) (AQ (k:=7) (nl:=false) (e:=65) (kk:= .i64) (A:=A8.av) (xs:=a.edges) (i:=i) kr kr kr ⟨by kernel_rfl,by decide⟩ hx1)<|Dq (A8.av x1)<|Dq (AV.loc 1 0 0)<|Dq ((Ag 7 A8.av) b.edges)<|Dq (Ai i)<|Dp (AV.pt (A8.av (b.edges.getD i default)).cells) (AQ (k:=7) (nl:=false) (e:=65) (kk:= .i64) (A:=A8.av) (xs:=b.edges) (i:=i) kr kr kr ⟨by kernel_rfl,by decide⟩ (getD_some sd))<|Dq (A8.av (b.edges.getD i default))<|As.sc0 (vs:=[(A8.av x1),(A8.av (b.edges.getD i default))]) (r0:=(AV.b (Mm x1 (b.edges.getD i default)))) kr kr (OB W x1 (b.edges.getD i default)) kr le<|Dq (AV.b (!(Mm x1 (b.edges.getD i default))))<|As.fin ?_
 cases c_2:(!(Mm x1 (b.edges.getD i default)))
 refine Cf<|A4.skip<|Rg<|Aq (Ai i)<|Ap (Ai (i+1)) (AA (i:=i) (m:=1) kr kr sd)<|Aq (Ai (i+1))<|Ad ?_
 try simp only [c_2,Aw] at hE1
 refine ⟨i+1,od,⟨od,hE1⟩,?_⟩
 exact ⟨[0,1],⟨by decide,rfl,(A0.cons kr (A0.cons kr A0.nil)),(Af.cons (AE.f kr) (Af.cons (AE.f kr) (Ee Af.nil)))⟩,Ar⟩
 refine Ct<|Sq<|Rg<|Aq (AV.b false)<|Ad<|Rt ?_
 try simp only [c_2,Aw] at hE1
 subst hE1
 exact Fb rfl (by simp only [Oh,c_1,hR1,Aw])
 have hc1:decide (((i:Nat):Int)<((a.edges.length:Nat):Int))=false:=decide_eq_false (by omega)
 refine A4.cond (t:=false) (by rw [←hc1]<;>kernel_rfl) (A4.exit ?_)
 rw [List.drop_eq_nil_of_le (hl1),U1.eq_1] at hE1
 subst hE1
 refine Sq<|Rg<|Aq (AV.loc 0 0 1)<|Aq ((Ag 2 AD.av) a.pools)<|Aq (AV.loc 1 0 1)<|Aq ((Ag 2 AD.av) b.pools)<|A1.sc0 (vs:=[((Ag 2 AD.av) a.pools),((Ag 2 AD.av) b.pools)]) (r0:=(AV.b (Qz a.pools b.pools))) kr kr (NU W a.pools b.pools) kr le<|Aq (AV.b (Qz a.pools b.pools)) ?_
 cases c_3:(Qz a.pools b.pools)
 refine An<|An<|An<|An<|An<|Aq (AV.b false)<|Aq (AV.b false)<|Ad<|Rt ?_
 exact Fb rfl (by simp only [Oh,c_1,hR1,c_3,Aw])
 refine Ay<|Aq (AV.loc 0 0 2)<|Ay<|Aq ((Ag 1 AV.s) a.defaults)<|Ay<|Aq (AV.loc 1 0 2)<|Ay<|Aq ((Ag 1 AV.s) b.defaults)<|Ay<|A1.sc0 (vs:=[((Ag 1 AV.s) a.defaults),((Ag 1 AV.s) b.defaults)]) (r0:=(AV.b (Jz a.defaults b.defaults))) kr kr (Cr W a.defaults b.defaults) kr le<|Aq (AV.b (Jz a.defaults b.defaults))<|Aq (AV.b (Jz a.defaults b.defaults))<|Ad<|Rt ?_
 exact Fb rfl (by simp only [Oh,c_1,hR1,c_3,Aw])
 have k_1:=LJ c_1
 refine Ct<|Sq<|Rg<|Aq (AV.b false)<|Ad<|Rt ?_
 exact Fb rfl (by simp only [Oh,c_1,Aw])
theorem DP (W:World) (e:Int):Ah Go.Proofs.Tryz.prog W 21 [(AV.i .i64 e)] (AV.i .i64 (GE e)) []:=by
 refine A9 (fn:=Go.Proofs.Tryz.f21) Go.Proofs.Tryz.func21 rfl (en21 W) (ts:=[2]) rfl le<|Sq<|Rg<|Aq (AV.i .i64 (0:Int))<|Ad<|Sq<|Rg<|Aq (AV.i .i64 e)<|Aq (AV.i .i64 e)<|Ad<|Rt ?_
 exact Fi rfl (by simp only [GE,Aw])
theorem QO (W:World) {m0:Int} (hW:W.cell? ⟨0,0,none⟩=some (.int .i64 m0)) (a:Ae):Ah Go.Proofs.Tryz.prog W 121 [(Ae.av a)] (AV.b (Pw a)) []:=by
 refine A9 (fn:=Go.Proofs.Tryz.f121) Go.Proofs.Tryz.func121 rfl (en121 W) (ts:=[2]) rfl le<|Sq<|Rg<|Nn (AV.loc 0 0 0) ⟨67,3,[(Ae.av a)]⟩<|Aq (AV.b false)<|Ad<|Sq<|Rg<|Aq (AV.loc 0 0 0)<|Aq (AV.s a.command)<|A1.sc0 (vs:=[(AV.s a.command)]) (r0:=(AV.b (IK a.command))) kr kr (JF W a.command) kr le<|Aq (AV.b (!(IK a.command)))<|Aq (AV.b (!(IK a.command))) ?_
 cases c_1:(!(IK a.command))
 refine Ay<|Aq (AV.loc 0 0 1)<|Ay<|Aq ((Ag 1 AV.s) a.reads)<|Ay<|A1.sc0 (vs:=[((Ag 1 AV.s) a.reads),(AV.i .i64 (8:Int))]) (r0:=(AV.b (G2 a.reads (8:Int)))) kr kr (LU W hW a.reads (8:Int)) kr le<|Ay<|Aq (AV.b (!(G2 a.reads (8:Int))))<|Aq (AV.b (!(G2 a.reads (8:Int))))<|Aq (AV.b (!(G2 a.reads (8:Int))))<|Ad<|Rt ?_
 exact Fb rfl (by simp only [Pw,c_1,Aw])
 refine An<|An<|An<|An<|Aq (AV.b true)<|Aq (AV.b true)<|Ad<|Rt ?_
 exact Fb rfl (by simp only [Pw,c_1,Aw])
theorem E2 (W:World) (s':List Ae) (f_f:FuncId) (c_f:List AV) (f:Ae→Bool) (hcl_f:Ac c_f=true) (hp_f: ∀(z0:Ae),Ah Go.Proofs.Tryz.prog W f_f ((Ae.av z0)::c_f) (AV.b (f z0)) []):Ah Go.Proofs.Tryz.prog W 161 [((Ag 3 Ae.av) s'),(AV.fn f_f c_f)] (AV.i .i64 (m_9 s' f)) []:=by
 refine A9 (fn:=Go.Proofs.Tryz.f161) Go.Proofs.Tryz.func161 rfl (en161 W) (ts:=[4]) rfl le<|Sq<|Rg<|Aq (AV.i .i64 (0:Int))<|Ad<|Sq<|Sq<|Rg<|Aq ((Ag 3 Ae.av) s')<|Ap (Ai s'.length) (AN (k:=3) (nl:=false) (e:=67) (A:=Ae.av) (xs:=s') kr kr)<|Aq (AV.i .i64 (0:Int))<|Ad<|A4.block<|A4.lim 0 (x:=((Ag 3 Ae.av) s')) kr fun hlm1=> ?_
 have hB1:s'.length≤281474976710656:=AX hlm1
 obtain ⟨R1,hR1⟩: ∃R,m_0 f s' 0=R:=⟨_,rfl⟩
 refine Av (fun (v8:Nat)=>[(0,((Ag 3 Ae.av) s')),(1,(AV.fn f_f c_f)),(7,(Ai s'.length)),(8,(Ai v8))]) (fun (v8:Nat)=>⟨0,[]⟩) (fun (v8:Nat)=>v8≤s'.length∧m_0 f (s'.drop v8) v8=R1) (fun (v8:Nat)=>s'.length-v8) 0 ?_ ?_ ?_
 exact ⟨[],⟨by decide,rfl,A0.nil,(Ee (Af.cons (AE.c kr hcl_f) (Ee (Ee Af.nil))))⟩,Ar⟩
 exact ⟨od,hR1⟩
 rintro v8 ⟨hi1,hE1⟩
 try dsimp only
 refine Sq<|Rg<|Aq (AV.b (decide (((v8:Nat):Int)<((s'.length:Nat):Int))))<|Ad<|Sq ?_
 rcases Nat.lt_or_ge v8 s'.length with hl1|hl1
 have hc1:decide (((v8:Nat):Int)<((s'.length:Nat):Int))=true:=decide_eq_true (by omega)
 refine A4.cond (t:=true) (by rw [←hc1]<;>kernel_rfl) (A4.skip ?_)
 obtain ⟨x1,hx1⟩: ∃x,s'[v8]? =some x:=⟨_,List.getElem?_eq_getElem hl1⟩
 rw [AB hx1,m_0.eq_2] at hE1
 refine Sq<|A4.block<|Sq<|Rg<|Aq (Ai v8)<|Aq (Ai v8)<|Ad<|Sq<|Rg<|Aq (AV.fn f_f c_f)<|Aq ((Ag 3 Ae.av) s')<|Aq (Ai v8)<|Ap (AV.pt (Ae.av x1).cells) (AQ (k:=3) (nl:=false) (e:=67) (kk:= .i64) (A:=Ae.av) (xs:=s') (i:=v8) kr kr kr ⟨by kernel_rfl,by decide⟩ hx1)<|Aq (Ae.av x1)<|A1.sc0 (vs:=((Ae.av x1)::c_f)) (r0:=(AV.b (f x1))) kr (by simp only [Ac,Bool.and_eq_true];exact ⟨by kernel_rfl,hcl_f⟩) (hp_f x1) kr le<|Ad ?_
 cases c_1:(f x1)
 refine Cf<|A4.skip<|Rg<|Ap (Ai (v8+1)) (AA (i:=v8) (m:=1) kr kr sd)<|Aq (Ai (v8+1))<|Ad ?_
 try simp only [c_1,Aw] at hE1
 refine ⟨v8+1,od,⟨od,hE1⟩,?_⟩
 exact ⟨[],⟨by decide,rfl,A0.nil,(Ee (Af.cons (AE.c kr hcl_f) (Ee (Ee Af.nil))))⟩,Ar⟩
 refine Ct<|Sq<|Rg<|Aq (Ai v8)<|Aq (Ai v8)<|Ad<|Rt ?_
 try simp only [c_1,Aw] at hE1
 subst hE1
 exact Fi rfl (by simp only [m_9,hR1,Aw])
 have hc1:decide (((v8:Nat):Int)<((s'.length:Nat):Int))=false:=decide_eq_false (by omega)
 refine A4.cond (t:=false) (by rw [←hc1]<;>kernel_rfl) (A4.exit ?_)
 rw [List.drop_eq_nil_of_le (hl1),m_0.eq_1] at hE1
 subst hE1
 refine Sq<|Rg<|Aq (AV.i .i64 (-1:Int))<|Ad<|Rt ?_
 exact Fi rfl (by simp only [m_9,hR1,Aw])
theorem DD (W:World) (s':List Ae) (f_f:FuncId) (c_f:List AV) (f:Ae→Bool) (hcl_f:Ac c_f=true) (hp_f: ∀(z0:Ae),Ah Go.Proofs.Tryz.prog W f_f ((Ae.av z0)::c_f) (AV.b (f z0)) []):Ah Go.Proofs.Tryz.prog W 120 [((Ag 3 Ae.av) s'),(AV.fn f_f c_f)] (AV.b (m_w s' f)) []:=by
 refine A9 (fn:=Go.Proofs.Tryz.f120) Go.Proofs.Tryz.func120 rfl (en120 W) (ts:=[4]) rfl le<|Sq<|Rg<|Aq (AV.b false)<|Ad<|Sq<|Rg<|Aq ((Ag 3 Ae.av) s')<|Aq (AV.fn f_f c_f)<|A1.sc0 (vs:=[((Ag 3 Ae.av) s'),(AV.fn f_f c_f)]) (r0:=(AV.i .i64 (m_9 s' f))) kr (by simp only [Ac,Bool.and_eq_true];exact ⟨by kernel_rfl,hcl_f,trivial⟩) (E2 W s' f_f c_f f hcl_f hp_f) kr le<|Aq (AV.b (decide ((0:Int)≤(m_9 s' f))))<|Aq (AV.b (decide ((0:Int)≤(m_9 s' f))))<|Ad<|Rt ?_
 exact Fb rfl (by simp only [m_w,Aw])
theorem QN (W:World) {m0:Int} (hW:W.cell? ⟨0,0,none⟩=some (.int .i64 m0)) (as':List Ae):Ah Go.Proofs.Tryz.prog W 73 [((Ag 3 Ae.av) as')] (AV.b (QD as')) []:=by
 refine A9 (fn:=Go.Proofs.Tryz.f73) Go.Proofs.Tryz.func73 rfl (en73 W) (ts:=[2]) rfl le<|Sq<|Rg<|Aq (AV.b false)<|Ad<|Sq<|Rg<|Aq ((Ag 3 Ae.av) as')<|Ap (Ai as'.length) (AN (k:=3) (nl:=false) (e:=67) (A:=Ae.av) (xs:=as') kr kr)<|Aq (AV.b (decide (((as'.length:Nat):Int)≤(16:Int))))<|Aq (AV.b (decide (((as'.length:Nat):Int)≤(16:Int)))) ?_
 cases c_1:decide (((as'.length:Nat):Int)≤(16:Int))
 have k_1:=of_decide_eq_false c_1
 refine An<|An<|An<|Aq (AV.b false)<|Aq (AV.b false)<|Ad<|Rt ?_
 exact Fb rfl (by simp only [QD,c_1,Aw])
 have k_1:=of_decide_eq_true c_1
 refine Ay<|Aq ((Ag 3 Ae.av) as')<|Ay<|A1.sc0 (vs:=[((Ag 3 Ae.av) as'),(AV.fn 121 [])]) (r0:=(AV.b (m_w as' (fun z0=>Pw z0)))) kr (by simp only [Ac,Bool.and_eq_true];exact ⟨by kernel_rfl,kr,trivial⟩) (DD W as' 121 [] (fun z0=>Pw z0) kr (fun z0=>(QO W hW z0))) kr le<|Ay<|Aq (AV.b (!(m_w as' (fun z0=>Pw z0))))<|Aq (AV.b (!(m_w as' (fun z0=>Pw z0))))<|Aq (AV.b (!(m_w as' (fun z0=>Pw z0))))<|Ad<|Rt ?_
 exact Fb rfl (by simp only [QD,c_1,Aw])
theorem Kx (W:World) (x':Int):Ah Go.Proofs.Tryz.prog W 188 [(AV.i .i64 x')] (AV.b (Nr x')) []:=by
 refine A9 (fn:=Go.Proofs.Tryz.f188) Go.Proofs.Tryz.func188 rfl (en188 W) (ts:=[2]) rfl le<|Sq<|Rg<|Aq (AV.b false)<|Ad<|Sq<|Rg<|Aq (AV.i .i64 x')<|Aq (AV.b (decide ((1:Int)≤x')))<|Aq (AV.b (decide ((1:Int)≤x'))) ?_
 cases c_1:decide ((1:Int)≤x')
 have k_1:=of_decide_eq_false c_1
 refine An<|An<|Aq (AV.b false)<|Aq (AV.b false)<|Ad<|Rt ?_
 exact Fb rfl (by simp only [Nr,c_1,Aw])
 have k_1:=of_decide_eq_true c_1
 refine Ay<|Aq (AV.i .i64 x')<|Ay<|Aq (AV.b (decide (x'≤(1048576:Int))))<|Aq (AV.b (decide (x'≤(1048576:Int))))<|Aq (AV.b (decide (x'≤(1048576:Int))))<|Ad<|Rt ?_
 exact Fb rfl (by simp only [Nr,c_1,Aw])
theorem QU (W:World) {m0:Int} (hW:W.cell? ⟨0,0,none⟩=some (.int .i64 m0)) (r:A6):Ah Go.Proofs.Tryz.prog W 139 [(A6.av r)] (AV.b (Mn r)) []:=by
 refine A9 (fn:=Go.Proofs.Tryz.f139) Go.Proofs.Tryz.func139 rfl (en139 W) (ts:=[2]) rfl le<|Sq<|Rg<|Nn (AV.loc 0 0 0) ⟨56,3,[(A6.av r)]⟩<|Aq (AV.b false)<|Ad<|Sq<|Rg<|Aq (AV.loc 0 0 0)<|Aq (AV.s r.out)<|A1.sc0 (vs:=[(AV.s r.out)]) (r0:=(AV.b (EU r.out))) kr kr (KT W hW r.out) kr le<|Aq (AV.b (EU r.out)) ?_
 cases c_1:(EU r.out)
 refine An<|An<|An<|Aq (AV.b false)<|Aq (AV.b false)<|An<|An<|An<|Aq (AV.b false)<|Aq (AV.b false)<|An<|An<|An<|Aq (AV.b false)<|Aq (AV.b false)<|Ad<|Rt ?_
 exact Fb rfl (by simp only [Mn,c_1,Aw])
 refine Ay<|Aq (AV.loc 0 0 1)<|Ay<|Aq (AV.i .i64 r.time)<|Ay<|A1.sc0 (vs:=[(AV.i .i64 r.time)]) (r0:=(AV.b (Nr r.time))) kr kr (Kx W r.time) kr le<|Aq (AV.b (Nr r.time))<|Aq (AV.b (Nr r.time)) ?_
 cases c_2:(Nr r.time)
 refine An<|An<|An<|Aq (AV.b false)<|Aq (AV.b false)<|An<|An<|An<|Aq (AV.b false)<|Aq (AV.b false)<|Ad<|Rt ?_
 exact Fb rfl (by simp only [Mn,c_1,c_2,Aw])
 refine Ay<|Aq (AV.loc 0 0 2)<|Ay<|Aq (AV.s r.sign)<|Ay<|Aq (AV.b (!decide (r.sign=(⟨#[]⟩:ByteArray))))<|Aq (AV.b (!decide (r.sign=(⟨#[]⟩:ByteArray))))<|Aq (AV.b (!decide (r.sign=(⟨#[]⟩:ByteArray)))) ?_
 cases c_3:(!decide (r.sign=(⟨#[]⟩:ByteArray)))
 refine An<|An<|An<|Aq (AV.b false)<|Aq (AV.b false)<|Ad<|Rt ?_
 exact Fb rfl (by simp only [Mn,c_1,c_2,c_3,Aw])
 refine Ay<|Aq (AV.loc 0 0 2)<|Ay<|Aq (AV.s r.sign)<|Ay<|A1.sc0 (vs:=[(AV.s r.sign),(AV.i .i64 (2048:Int))]) (r0:=(AV.b (LG r.sign (2048:Int)))) kr kr (MT W r.sign (2048:Int)) kr le<|Aq (AV.b (LG r.sign (2048:Int)))<|Aq (AV.b (LG r.sign (2048:Int)))<|Ad<|Rt ?_
 exact Fb rfl (by simp only [Mn,c_1,c_2,c_3,Aw])
theorem UE (W:World) {m0:Int} (hW:W.cell? ⟨0,0,none⟩=some (.int .i64 m0)) (r:A6):Ah Go.Proofs.Tryz.prog W 138 [(A6.av r)] (AV.b (Su r)) []:=by
 refine A9 (fn:=Go.Proofs.Tryz.f138) Go.Proofs.Tryz.func138 rfl (en138 W) (ts:=[2]) rfl le<|Sq<|Rg<|Nn (AV.loc 0 0 0) ⟨56,3,[(A6.av r)]⟩<|Aq (AV.b false)<|Ad<|Sq<|Rg<|Aq (A6.av r)<|A1.sc0 (vs:=[(A6.av r)]) (r0:=(AV.b (Mn r))) kr kr (QU W hW r) kr le<|Aq (AV.b (!(Mn r)))<|Aq (AV.b (!(Mn r)))<|Ad<|Rt ?_
 exact Fb rfl (by simp only [Su,Aw])
theorem E3 (W:World) (s':List A6) (f_f:FuncId) (c_f:List AV) (f:A6→Bool) (hcl_f:Ac c_f=true) (hp_f: ∀(z0:A6),Ah Go.Proofs.Tryz.prog W f_f ((A6.av z0)::c_f) (AV.b (f z0)) []):Ah Go.Proofs.Tryz.prog W 190 [((Ag 3 A6.av) s'),(AV.fn f_f c_f)] (AV.i .i64 (TK s' f)) []:=by
 refine A9 (fn:=Go.Proofs.Tryz.f190) Go.Proofs.Tryz.func190 rfl (en190 W) (ts:=[4]) rfl le<|Sq<|Rg<|Aq (AV.i .i64 (0:Int))<|Ad<|Sq<|Sq<|Rg<|Aq ((Ag 3 A6.av) s')<|Ap (Ai s'.length) (AN (k:=3) (nl:=false) (e:=56) (A:=A6.av) (xs:=s') kr kr)<|Aq (AV.i .i64 (0:Int))<|Ad<|A4.block<|A4.lim 0 (x:=((Ag 3 A6.av) s')) kr fun hlm1=> ?_
 have hB1:s'.length≤281474976710656:=AX hlm1
 obtain ⟨R1,hR1⟩: ∃R,m_1 f s' 0=R:=⟨_,rfl⟩
 refine Av (fun (v8:Nat)=>[(0,((Ag 3 A6.av) s')),(1,(AV.fn f_f c_f)),(7,(Ai s'.length)),(8,(Ai v8))]) (fun (v8:Nat)=>⟨0,[]⟩) (fun (v8:Nat)=>v8≤s'.length∧m_1 f (s'.drop v8) v8=R1) (fun (v8:Nat)=>s'.length-v8) 0 ?_ ?_ ?_
 exact ⟨[],⟨by decide,rfl,A0.nil,(Ee (Af.cons (AE.c kr hcl_f) (Ee (Ee Af.nil))))⟩,Ar⟩
 exact ⟨od,hR1⟩
 rintro v8 ⟨hi1,hE1⟩
 try dsimp only
 refine Sq<|Rg<|Aq (AV.b (decide (((v8:Nat):Int)<((s'.length:Nat):Int))))<|Ad<|Sq ?_
 rcases Nat.lt_or_ge v8 s'.length with hl1|hl1
 have hc1:decide (((v8:Nat):Int)<((s'.length:Nat):Int))=true:=decide_eq_true (by omega)
 refine A4.cond (t:=true) (by rw [←hc1]<;>kernel_rfl) (A4.skip ?_)
 obtain ⟨x1,hx1⟩: ∃x,s'[v8]? =some x:=⟨_,List.getElem?_eq_getElem hl1⟩
 rw [AB hx1,m_1.eq_2] at hE1
 refine Sq<|A4.block<|Sq<|Rg<|Aq (Ai v8)<|Aq (Ai v8)<|Ad<|Sq<|Rg<|Aq (AV.fn f_f c_f)<|Aq ((Ag 3 A6.av) s')<|Aq (Ai v8)<|Ap (AV.pt (A6.av x1).cells) (AQ (k:=3) (nl:=false) (e:=56) (kk:= .i64) (A:=A6.av) (xs:=s') (i:=v8) kr kr kr ⟨by kernel_rfl,by decide⟩ hx1)<|Aq (A6.av x1)<|A1.sc0 (vs:=((A6.av x1)::c_f)) (r0:=(AV.b (f x1))) kr (by simp only [Ac,Bool.and_eq_true];exact ⟨by kernel_rfl,hcl_f⟩) (hp_f x1) kr le<|Ad ?_
 cases c_1:(f x1)
 refine Cf<|A4.skip<|Rg<|Ap (Ai (v8+1)) (AA (i:=v8) (m:=1) kr kr sd)<|Aq (Ai (v8+1))<|Ad ?_
 try simp only [c_1,Aw] at hE1
 refine ⟨v8+1,od,⟨od,hE1⟩,?_⟩
 exact ⟨[],⟨by decide,rfl,A0.nil,(Ee (Af.cons (AE.c kr hcl_f) (Ee (Ee Af.nil))))⟩,Ar⟩
 refine Ct<|Sq<|Rg<|Aq (Ai v8)<|Aq (Ai v8)<|Ad<|Rt ?_
 try simp only [c_1,Aw] at hE1
 subst hE1
 exact Fi rfl (by simp only [TK,hR1,Aw])
 have hc1:decide (((v8:Nat):Int)<((s'.length:Nat):Int))=false:=decide_eq_false (by omega)
 refine A4.cond (t:=false) (by rw [←hc1]<;>kernel_rfl) (A4.exit ?_)
 rw [List.drop_eq_nil_of_le (hl1),m_1.eq_1] at hE1
 subst hE1
 refine Sq<|Rg<|Aq (AV.i .i64 (-1:Int))<|Ad<|Rt ?_
 exact Fi rfl (by simp only [TK,hR1,Aw])
theorem DE (W:World) (s':List A6) (f_f:FuncId) (c_f:List AV) (f:A6→Bool) (hcl_f:Ac c_f=true) (hp_f: ∀(z0:A6),Ah Go.Proofs.Tryz.prog W f_f ((A6.av z0)::c_f) (AV.b (f z0)) []):Ah Go.Proofs.Tryz.prog W 140 [((Ag 3 A6.av) s'),(AV.fn f_f c_f)] (AV.b (m_x s' f)) []:=by
 refine A9 (fn:=Go.Proofs.Tryz.f140) Go.Proofs.Tryz.func140 rfl (en140 W) (ts:=[4]) rfl le<|Sq<|Rg<|Aq (AV.b false)<|Ad<|Sq<|Rg<|Aq ((Ag 3 A6.av) s')<|Aq (AV.fn f_f c_f)<|A1.sc0 (vs:=[((Ag 3 A6.av) s'),(AV.fn f_f c_f)]) (r0:=(AV.i .i64 (TK s' f))) kr (by simp only [Ac,Bool.and_eq_true];exact ⟨by kernel_rfl,hcl_f,trivial⟩) (E3 W s' f_f c_f f hcl_f hp_f) kr le<|Aq (AV.b (decide ((0:Int)≤(TK s' f))))<|Aq (AV.b (decide ((0:Int)≤(TK s' f))))<|Ad<|Rt ?_
 exact Fb rfl (by simp only [m_x,Aw])
theorem RK (W:World) {m0:Int} (hW:W.cell? ⟨0,0,none⟩=some (.int .i64 m0)) (rs:List A6):Ah Go.Proofs.Tryz.prog W 93 [((Ag 3 A6.av) rs)] (AV.b (L0 rs)) []:=by
 refine A9 (fn:=Go.Proofs.Tryz.f93) Go.Proofs.Tryz.func93 rfl (en93 W) (ts:=[2]) rfl le<|Sq<|Rg<|Aq (AV.b false)<|Ad<|Sq<|Rg<|Aq (AV.fn 138 [])<|Ad<|Sq<|Rg<|Aq ((Ag 3 A6.av) rs)<|Ap (Ai rs.length) (AN (k:=3) (nl:=false) (e:=56) (A:=A6.av) (xs:=rs) kr kr)<|Aq (AV.b (decide (((rs.length:Nat):Int)≤(256:Int))))<|Aq (AV.b (decide (((rs.length:Nat):Int)≤(256:Int)))) ?_
 cases c_1:decide (((rs.length:Nat):Int)≤(256:Int))
 have k_1:=of_decide_eq_false c_1
 refine An<|An<|An<|An<|Aq (AV.b false)<|Aq (AV.b false)<|Ad<|Rt ?_
 exact Fb rfl (by simp only [L0,c_1,Aw])
 have k_1:=of_decide_eq_true c_1
 refine Ay<|Aq ((Ag 3 A6.av) rs)<|Ay<|Aq (AV.fn 138 [])<|Ay<|A1.sc0 (vs:=[((Ag 3 A6.av) rs),(AV.fn 138 [])]) (r0:=(AV.b (m_x rs (fun z0=>Su z0)))) kr (by simp only [Ac,Bool.and_eq_true];exact ⟨by kernel_rfl,kr,trivial⟩) (DE W rs 138 [] (fun z0=>Su z0) kr (fun z0=>(UE W hW z0))) kr le<|Ay<|Aq (AV.b (!(m_x rs (fun z0=>Su z0))))<|Aq (AV.b (!(m_x rs (fun z0=>Su z0))))<|Aq (AV.b (!(m_x rs (fun z0=>Su z0))))<|Ad<|Rt ?_
 exact Fb rfl (by simp only [L0,c_1,Aw])
theorem SN (W:World) {m0:Int} (hW:W.cell? ⟨0,0,none⟩=some (.int .i64 m0)) (f:A2):Ah Go.Proofs.Tryz.prog W 142 [(A2.av f)] (AV.b (Ns f)) []:=by
 refine A9 (fn:=Go.Proofs.Tryz.f142) Go.Proofs.Tryz.func142 rfl (en142 W) (ts:=[2]) rfl le<|Sq<|Rg<|Nn (AV.loc 0 0 0) ⟨61,3,[(A2.av f)]⟩<|Aq (AV.b false)<|Ad<|Sq<|Rg<|Aq (AV.loc 0 0 0)<|Aq (AV.s f.out)<|A1.sc0 (vs:=[(AV.s f.out)]) (r0:=(AV.b (EU f.out))) kr kr (KT W hW f.out) kr le<|Aq (AV.b (EU f.out)) ?_
 cases c_1:(EU f.out)
 refine An<|An<|An<|Aq (AV.b false)<|Aq (AV.b false)<|An<|An<|An<|Aq (AV.b false)<|Aq (AV.b false)<|Ad<|Rt ?_
 exact Fb rfl (by simp only [Ns,c_1,Aw])
 refine Ay<|Aq (AV.loc 0 0 1)<|Ay<|Aq (AV.i .i64 f.time)<|Ay<|A1.sc0 (vs:=[(AV.i .i64 f.time)]) (r0:=(AV.b (Nr f.time))) kr kr (Kx W f.time) kr le<|Aq (AV.b (Nr f.time))<|Aq (AV.b (Nr f.time)) ?_
 cases c_2:(Nr f.time)
 refine An<|An<|An<|Aq (AV.b false)<|Aq (AV.b false)<|Ad<|Rt ?_
 exact Fb rfl (by simp only [Ns,c_1,c_2,Aw])
 refine Ay<|Aq (AV.loc 0 0 2)<|Ay<|Aq ((Ag 1 AV.s) f.ins)<|Ay<|A1.sc0 (vs:=[((Ag 1 AV.s) f.ins),(AV.i .i64 (8:Int))]) (r0:=(AV.b (G2 f.ins (8:Int)))) kr kr (LU W hW f.ins (8:Int)) kr le<|Aq (AV.b (G2 f.ins (8:Int)))<|Aq (AV.b (G2 f.ins (8:Int)))<|Ad<|Rt ?_
 exact Fb rfl (by simp only [Ns,c_1,c_2,Aw])
theorem Q9 (W:World) {m0:Int} (hW:W.cell? ⟨0,0,none⟩=some (.int .i64 m0)) (f:A2):Ah Go.Proofs.Tryz.prog W 141 [(A2.av f)] (AV.b (Sx f)) []:=by
 refine A9 (fn:=Go.Proofs.Tryz.f141) Go.Proofs.Tryz.func141 rfl (en141 W) (ts:=[2]) rfl le<|Sq<|Rg<|Nn (AV.loc 0 0 0) ⟨61,3,[(A2.av f)]⟩<|Aq (AV.b false)<|Ad<|Sq<|Rg<|Aq (A2.av f)<|A1.sc0 (vs:=[(A2.av f)]) (r0:=(AV.b (Ns f))) kr kr (SN W hW f) kr le<|Aq (AV.b (!(Ns f)))<|Aq (AV.b (!(Ns f)))<|Ad<|Rt ?_
 exact Fb rfl (by simp only [Sx,Aw])
theorem Es (W:World) (s':List A2) (f_f:FuncId) (c_f:List AV) (f:A2→Bool) (hcl_f:Ac c_f=true) (hp_f: ∀(z0:A2),Ah Go.Proofs.Tryz.prog W f_f ((A2.av z0)::c_f) (AV.b (f z0)) []):Ah Go.Proofs.Tryz.prog W 191 [((Ag 3 A2.av) s'),(AV.fn f_f c_f)] (AV.i .i64 (TL s' f)) []:=by
 refine A9 (fn:=Go.Proofs.Tryz.f191) Go.Proofs.Tryz.func191 rfl (en191 W) (ts:=[4]) rfl le<|Sq<|Rg<|Aq (AV.i .i64 (0:Int))<|Ad<|Sq<|Sq<|Rg<|Aq ((Ag 3 A2.av) s')<|Ap (Ai s'.length) (AN (k:=3) (nl:=false) (e:=61) (A:=A2.av) (xs:=s') kr kr)<|Aq (AV.i .i64 (0:Int))<|Ad<|A4.block<|A4.lim 0 (x:=((Ag 3 A2.av) s')) kr fun hlm1=> ?_
 have hB1:s'.length≤281474976710656:=AX hlm1
 obtain ⟨R1,hR1⟩: ∃R,m_5 f s' 0=R:=⟨_,rfl⟩
 refine Av (fun (v8:Nat)=>[(0,((Ag 3 A2.av) s')),(1,(AV.fn f_f c_f)),(7,(Ai s'.length)),(8,(Ai v8))]) (fun (v8:Nat)=>⟨0,[]⟩) (fun (v8:Nat)=>v8≤s'.length∧m_5 f (s'.drop v8) v8=R1) (fun (v8:Nat)=>s'.length-v8) 0 ?_ ?_ ?_
 exact ⟨[],⟨by decide,rfl,A0.nil,(Ee (Af.cons (AE.c kr hcl_f) (Ee (Ee Af.nil))))⟩,Ar⟩
 exact ⟨od,hR1⟩
 rintro v8 ⟨hi1,hE1⟩
 try dsimp only
 refine Sq<|Rg<|Aq (AV.b (decide (((v8:Nat):Int)<((s'.length:Nat):Int))))<|Ad<|Sq ?_
 rcases Nat.lt_or_ge v8 s'.length with hl1|hl1
 have hc1:decide (((v8:Nat):Int)<((s'.length:Nat):Int))=true:=decide_eq_true (by omega)
 refine A4.cond (t:=true) (by rw [←hc1]<;>kernel_rfl) (A4.skip ?_)
 obtain ⟨x1,hx1⟩: ∃x,s'[v8]? =some x:=⟨_,List.getElem?_eq_getElem hl1⟩
 rw [AB hx1,m_5.eq_2] at hE1
 refine Sq<|A4.block<|Sq<|Rg<|Aq (Ai v8)<|Aq (Ai v8)<|Ad<|Sq<|Rg<|Aq (AV.fn f_f c_f)<|Aq ((Ag 3 A2.av) s')<|Aq (Ai v8)<|Ap (AV.pt (A2.av x1).cells) (AQ (k:=3) (nl:=false) (e:=61) (kk:= .i64) (A:=A2.av) (xs:=s') (i:=v8) kr kr kr ⟨by kernel_rfl,by decide⟩ hx1)<|Aq (A2.av x1)<|A1.sc0 (vs:=((A2.av x1)::c_f)) (r0:=(AV.b (f x1))) kr (by simp only [Ac,Bool.and_eq_true];exact ⟨by kernel_rfl,hcl_f⟩) (hp_f x1) kr le<|Ad ?_
 cases c_1:(f x1)
 refine Cf<|A4.skip<|Rg<|Ap (Ai (v8+1)) (AA (i:=v8) (m:=1) kr kr sd)<|Aq (Ai (v8+1))<|Ad ?_
 try simp only [c_1,Aw] at hE1
 refine ⟨v8+1,od,⟨od,hE1⟩,?_⟩
 exact ⟨[],⟨by decide,rfl,A0.nil,(Ee (Af.cons (AE.c kr hcl_f) (Ee (Ee Af.nil))))⟩,Ar⟩
 refine Ct<|Sq<|Rg<|Aq (Ai v8)<|Aq (Ai v8)<|Ad<|Rt ?_
 try simp only [c_1,Aw] at hE1
 subst hE1
 exact Fi rfl (by simp only [TL,hR1,Aw])
 have hc1:decide (((v8:Nat):Int)<((s'.length:Nat):Int))=false:=decide_eq_false (by omega)
 refine A4.cond (t:=false) (by rw [←hc1]<;>kernel_rfl) (A4.exit ?_)
 rw [List.drop_eq_nil_of_le (hl1),m_5.eq_1] at hE1
 subst hE1
 refine Sq<|Rg<|Aq (AV.i .i64 (-1:Int))<|Ad<|Rt ?_
 exact Fi rfl (by simp only [TL,hR1,Aw])
theorem DV (W:World) (s':List A2) (f_f:FuncId) (c_f:List AV) (f:A2→Bool) (hcl_f:Ac c_f=true) (hp_f: ∀(z0:A2),Ah Go.Proofs.Tryz.prog W f_f ((A2.av z0)::c_f) (AV.b (f z0)) []):Ah Go.Proofs.Tryz.prog W 143 [((Ag 3 A2.av) s'),(AV.fn f_f c_f)] (AV.b (m_y s' f)) []:=by
 refine A9 (fn:=Go.Proofs.Tryz.f143) Go.Proofs.Tryz.func143 rfl (en143 W) (ts:=[4]) rfl le<|Sq<|Rg<|Aq (AV.b false)<|Ad<|Sq<|Rg<|Aq ((Ag 3 A2.av) s')<|Aq (AV.fn f_f c_f)<|A1.sc0 (vs:=[((Ag 3 A2.av) s'),(AV.fn f_f c_f)]) (r0:=(AV.i .i64 (TL s' f))) kr (by simp only [Ac,Bool.and_eq_true];exact ⟨by kernel_rfl,hcl_f,trivial⟩) (Es W s' f_f c_f f hcl_f hp_f) kr le<|Aq (AV.b (decide ((0:Int)≤(TL s' f))))<|Aq (AV.b (decide ((0:Int)≤(TL s' f))))<|Ad<|Rt ?_
 exact Fb rfl (by simp only [m_y,Aw])
theorem MQ (W:World) {m0:Int} (hW:W.cell? ⟨0,0,none⟩=some (.int .i64 m0)) (fs:List A2):Ah Go.Proofs.Tryz.prog W 94 [((Ag 3 A2.av) fs)] (AV.b (LF fs)) []:=by
 refine A9 (fn:=Go.Proofs.Tryz.f94) Go.Proofs.Tryz.func94 rfl (en94 W) (ts:=[2]) rfl le<|Sq<|Rg<|Aq (AV.b false)<|Ad<|Sq<|Rg<|Aq (AV.fn 141 [])<|Ad<|Sq<|Rg<|Aq ((Ag 3 A2.av) fs)<|Ap (Ai fs.length) (AN (k:=3) (nl:=false) (e:=61) (A:=A2.av) (xs:=fs) kr kr)<|Aq (AV.b (decide (((fs.length:Nat):Int)≤(256:Int))))<|Aq (AV.b (decide (((fs.length:Nat):Int)≤(256:Int)))) ?_
 cases c_1:decide (((fs.length:Nat):Int)≤(256:Int))
 have k_1:=of_decide_eq_false c_1
 refine An<|An<|An<|An<|Aq (AV.b false)<|Aq (AV.b false)<|Ad<|Rt ?_
 exact Fb rfl (by simp only [LF,c_1,Aw])
 have k_1:=of_decide_eq_true c_1
 refine Ay<|Aq ((Ag 3 A2.av) fs)<|Ay<|Aq (AV.fn 141 [])<|Ay<|A1.sc0 (vs:=[((Ag 3 A2.av) fs),(AV.fn 141 [])]) (r0:=(AV.b (m_y fs (fun z0=>Sx z0)))) kr (by simp only [Ac,Bool.and_eq_true];exact ⟨by kernel_rfl,kr,trivial⟩) (DV W fs 141 [] (fun z0=>Sx z0) kr (fun z0=>(Q9 W hW z0))) kr le<|Ay<|Aq (AV.b (!(m_y fs (fun z0=>Sx z0))))<|Aq (AV.b (!(m_y fs (fun z0=>Sx z0))))<|Aq (AV.b (!(m_y fs (fun z0=>Sx z0))))<|Ad<|Rt ?_
 exact Fb rfl (by simp only [LF,c_1,Aw])
theorem Qb (W:World) (x':Int):Ah Go.Proofs.Tryz.prog W 123 [(AV.i .i64 x')] (AV.b (QC x')) []:=by
 refine A9 (fn:=Go.Proofs.Tryz.f123) Go.Proofs.Tryz.func123 rfl (en123 W) (ts:=[2]) rfl le<|Sq<|Rg<|Aq (AV.b false)<|Ad<|Sq<|Rg<|Aq (AV.i .i64 x')<|Aq (AV.b (decide ((0:Int)≤x')))<|Aq (AV.b (decide ((0:Int)≤x'))) ?_
 cases c_1:decide ((0:Int)≤x')
 have k_1:=of_decide_eq_false c_1
 refine An<|An<|Aq (AV.b false)<|Aq (AV.b false)<|Ad<|Rt ?_
 exact Fb rfl (by simp only [QC,c_1,Aw])
 have k_1:=of_decide_eq_true c_1
 refine Ay<|Aq (AV.i .i64 x')<|Ay<|Aq (AV.b (decide (x'≤(2147483647:Int))))<|Aq (AV.b (decide (x'≤(2147483647:Int))))<|Aq (AV.b (decide (x'≤(2147483647:Int))))<|Ad<|Rt ?_
 exact Fb rfl (by simp only [QC,c_1,Aw])
theorem Qa (W:World) {m0:Int} (hW:W.cell? ⟨0,0,none⟩=some (.int .i64 m0)) (d:Aj):Ah Go.Proofs.Tryz.prog W 74 [Aj.av d] (.b (Do EU d)) [] where
 enters:=en74 W
 calls:=fun w Y vs hG hY hvs=>by
  refine calls_of_wp Go.Proofs.Tryz.func74 rfl ?_
  have F0:=WW (P:=Go.Proofs.Tryz.prog) (n:=77) hG hY rfl hvs (by simp)
  refine wp_seq (wp_mono (F0.run (Q:=fun e env=>e= .normal∧env=[(1,(AV.pt (Aj.av d).cells))]) ?_) ?_)
  ·refine Rg ?_
   refine Nn (AV.loc 0 0 0) ⟨30,2,[(Aj.av d)]⟩<|Aq (AV.b false)<|Ad ?_
   exact ⟨[],[(1,(AV.pt (Aj.av d).cells))],⟨0,[]⟩,⟨by decide,rfl,A0.nil,(Af.cons (Dk.kk (x':=(AV.loc 0 0 0)) kr kr rfl (Ce Aj.av d (id:=0) rfl rfl kr)) Af.nil)⟩,rfl,rfl,⟨rfl,rfl⟩⟩
  rintro e a1 w1 ⟨env1,⟨rfl,rfl⟩,F1,hb1⟩
  have hr0:w.heap.size≤w1.heap.size:=hb1.size
  have hrW:W.heap.size≤w1.heap.size:=Nat.le_trans hG.size hr0
  refine wp_seq (wp_region ?_)
  show wpOps _ _ _ [0,1] _ _
  refine RL rfl rfl (v:= .map (some w1.heap.size)) (w':=w1.alloc (.map #[] 0)) rfl ?_
  have F2:=(F1.made (.map #[] 0)).put (t:=6) (x:= .raw (.map (some w1.heap.size))) (v:= .map (some w1.heap.size)) (by decide) (by simp only [CR])
  refine RL rfl rfl (v:=(a1.put (some 6) (.map (some w1.heap.size))).eval (.tmp 6)) (w':=w1.alloc (.map #[] 0)) rfl ?_
  have F3:=F2.put (t:=3) (by decide) (F2.env 6)
  have hr3:(w1.alloc (.map #[] 0)).heap[w1.heap.size]? =some (.map #[] 0):=Ip _ _
  obtain ⟨r,hrr⟩: ∃r,w1.heap.size=r:=⟨_,rfl⟩
  rw [hrr] at hr0 hrW hr3 F3
  simp only [hrr]
  refine wp_seq (wp_seq (wp_mono (F3.run (Q:=fun e env=>e= .normal∧env=[(1,(AV.pt (Aj.av d).cells)),(3,(AV.raw (Value.map (some r)))),(8,((Ag 3 Ak.av) d.files)),(9,(Ai d.files.length)),(10,(AV.i .i64 (0:Int)))]) ?_) ?_))
  ·refine Rg ?_
   refine Aq (AV.pt ((Aj.av d).cells.drop 1))<|Aq ((Ag 3 Ak.av) d.files)<|Ap (Ai d.files.length) (AN (k:=3) (nl:=false) (e:=85) (A:=Ak.av) (xs:=d.files) kr kr)<|Aq (AV.i .i64 (0:Int))<|Ad ?_
   exact ⟨[],[(1,(AV.pt (Aj.av d).cells)),(3,(AV.raw (Value.map (some r)))),(8,((Ag 3 Ak.av) d.files)),(9,(Ai d.files.length)),(10,(AV.i .i64 (0:Int)))],⟨0,[]⟩,⟨by decide,rfl,A0.nil,(Ee (Ee (Ee (Ee (Ee Af.nil)))))⟩,rfl,rfl,⟨rfl,rfl⟩⟩
  rintro e a2 w2 ⟨env2,⟨rfl,rfl⟩,F4,hb2⟩
  have hr4:=Below.blk hb2 hr3
  have hB:d.files.length≤281474976710656:=F4.len (t:=8) rfl
  obtain ⟨R,hR0⟩: ∃R,G4 EU d.clock d.files [] none=R:=⟨_,rfl⟩
  refine wp_block<|J8 (fun k a w'=> ∃(i:Nat) (es:Array MapEntry) (clock:Nat),k=d.files.length-i∧i≤d.files.length∧CF 77 W w Y [(1,(AV.pt (Aj.av d).cells)),(3,(AV.raw (Value.map (some r)))),(8,((Ag 3 Ak.av) d.files)),(9,(Ai d.files.length)),(10,(Ai i))] a w'∧w'.heap[r]? =some (.map es clock)∧OR es ((d.files.take i).map Ak.time)∧G4 EU d.clock (d.files.drop i) ((d.files.take i).map Ak.time) (d.files.take i).getLast? =R) (k0:=d.files.length) ⟨0,#[],0,rfl,Nat.zero_le _,F4,hr4,OR.nil,hR0⟩ ?_
  rintro k a3 w3 ⟨i,es,clock,hk,hi,F5,hr5,hes,hR⟩
  refine wp_seq (wp_mono (F5.run (Q:=fun e env=>e= .normal∧env=[(1,(AV.pt (Aj.av d).cells)),(3,(AV.raw (Value.map (some r)))),(8,((Ag 3 Ak.av) d.files)),(9,(Ai d.files.length)),(10,(Ai i)),(11,(AV.b (decide (((i:Nat):Int)<((d.files.length:Nat):Int)))))]) ?_) ?_)
  ·refine Rg ?_
   refine Aq (AV.b (decide (((i:Nat):Int)<((d.files.length:Nat):Int))))<|Ad ?_
   exact ⟨[],[(1,(AV.pt (Aj.av d).cells)),(3,(AV.raw (Value.map (some r)))),(8,((Ag 3 Ak.av) d.files)),(9,(Ai d.files.length)),(10,(Ai i)),(11,(AV.b (decide (((i:Nat):Int)<((d.files.length:Nat):Int)))))],⟨0,[]⟩,⟨by decide,rfl,A0.nil,(Ee (Ee (Ee (Ee (Ee (Ee Af.nil))))))⟩,rfl,rfl,⟨rfl,rfl⟩⟩
  rintro e a4 w4 ⟨env4,⟨rfl,rfl⟩,F6,hb4⟩
  have hr6:=Below.blk hb4 hr5
  refine wp_seq ?_
  rcases Nat.lt_or_ge i d.files.length with hl|hl
  ·refine wp_cond (t:=true) ((F6.bool (t:=11) rfl).trans (congrArg Value.bool (decide_eq_true (by omega)))) (wp_skip ?_)
   obtain ⟨x,hx⟩: ∃x,d.files[i]? =some x:=⟨_,List.getElem?_eq_getElem hl⟩
   have hst:=Wi (d:=d) hx
   obtain ⟨ts,hts⟩: ∃ts,(d.files.take i).map Ak.time=ts:=⟨_,rfl⟩
   rw [hts] at hes hR hst
   refine wp_seq (wp_block (wp_seq (wp_mono (F6.run (Q:=fun e env=>e= .normal∧env=[(1,(AV.pt (Aj.av d).cells)),(3,(AV.raw (Value.map (some r)))),(4,(Ai i)),(5,(AV.pt (Ak.av x).cells)),(8,((Ag 3 Ak.av) d.files)),(9,(Ai d.files.length)),(10,(Ai i))]) ?_) ?_)))
   ·refine Rg ?_
    refine Aq (Ai i)<|Ap (AV.pt (Ak.av x).cells) (AQ (k:=3) (nl:=false) (e:=85) (kk:= .i64) (A:=Ak.av) (xs:=d.files) (i:=i) kr kr kr ⟨by kernel_rfl,by decide⟩ hx)<|Aq (Ak.av x)<|Nn (AV.loc 0 0 0) ⟨85,3,[(AV.st [(AV.s (⟨#[]⟩:ByteArray)),(AV.i .i64 (0:Int)),(AV.i .i64 (0:Int))])]⟩<|Aq (Ai i)<|Sp 0 ⟨85,3,[(AV.st [(AV.s x.name),(AV.i .i64 x.content),(AV.i .i64 x.time)])]⟩<|Ad ?_
    exact ⟨[],[(1,(AV.pt (Aj.av d).cells)),(3,(AV.raw (Value.map (some r)))),(4,(Ai i)),(5,(AV.pt (Ak.av x).cells)),(8,((Ag 3 Ak.av) d.files)),(9,(Ai d.files.length)),(10,(Ai i))],⟨0,[]⟩,⟨by decide,rfl,A0.nil,(Ee (Ee (Ee (Af.cons (Dk.kk (x':=(AV.loc 0 0 0)) kr kr rfl (Al.loc (id:=0) (j:=0) (o:=0) (ob:=⟨85,3,[(AV.st [(AV.s x.name),(AV.i .i64 x.content),(AV.i .i64 x.time)])]⟩) (x:=(AV.st [(AV.s x.name),(AV.i .i64 x.content),(AV.i .i64 x.time)])) rfl rfl rfl (Ao.cons (AC (x:=(AV.s x.name)) kr) (Ao.cons (AC (x:=(AV.i .i64 x.content)) kr) (Ao.cons (AC (x:=(AV.i .i64 x.time)) kr) Ao.nil))))) (Ee (Ee (Ee Af.nil)))))))⟩,rfl,rfl,⟨rfl,rfl⟩⟩
   rintro e a5 w5 ⟨env5,⟨rfl,rfl⟩,F7,hb5⟩
   have hr:=Below.blk hb5 hr6
   have hWw5:=F7.glob.cell hW
   refine wp_seq (wp_mono (F7.run (Q:=fun e env=>(e= .ret∧env=[(2,(AV.b false))]∧Eh d ts x i=false)∨(e= .normal∧env=[(1,(AV.pt (Aj.av d).cells)),(3,(AV.raw (Value.map (some r)))),(5,(AV.pt (Ak.av x).cells)),(8,((Ag 3 Ak.av) d.files)),(9,(Ai d.files.length)),(10,(Ai i))]∧Eh d ts x i=true)) ?_) ?_)
   ·refine Sq ?_
    refine A4.drawn A5 C9 41 kr le<|Dq (AV.pt ((Ak.av x).cells.drop 0))<|Dq (AV.s x.name)<|As.sc0 (vs:=[(AV.s x.name)]) (r0:=(AV.b (EU x.name))) kr kr (KT w5 hWw5 x.name) kr le<|Dq (AV.b (!(EU x.name)))<|Dq (AV.b (!(EU x.name))) ?_
    cases c_1:(!(EU x.name))
    refine Dy<|Dq (AV.pt ((Ak.av x).cells.drop 1))<|Dy<|Dq (AV.i .i64 x.content)<|Dy<|As.sc0 (vs:=[(AV.i .i64 x.content)]) (r0:=(AV.b (QC x.content))) kr kr (Qb w5 x.content) kr le<|Dy<|Dq (AV.b (!(QC x.content)))<|Dq (AV.b (!(QC x.content)))<|Dq (AV.b (!(QC x.content))) ?_
    cases c_2:(!(QC x.content))
    refine Dy<|Dq (AV.pt ((Ak.av x).cells.drop 2))<|Dy<|Dq (AV.i .i64 x.time)<|Dy<|Dq (AV.b (decide (x.time<(1:Int))))<|Dq (AV.b (decide (x.time<(1:Int))))<|Dq (AV.b (decide (x.time<(1:Int)))) ?_
    cases c_3:decide (x.time<(1:Int))
    have k_3:=of_decide_eq_false c_3
    refine Dy<|Dq (AV.pt ((Ak.av x).cells.drop 2))<|Dy<|Dq (AV.i .i64 x.time)<|Dy<|Dq (AV.pt ((Aj.av d).cells.drop 0))<|Dy<|Dq (AV.i .i64 d.clock)<|Dy<|Dq (AV.b (decide (d.clock<x.time)))<|Dq (AV.b (decide (d.clock<x.time)))<|Dq (AV.b (decide (d.clock<x.time))) ?_
    cases c_4:decide (d.clock<x.time)
    have k_4:=of_decide_eq_false c_4
    refine Dy<|Dq (AV.raw (Value.map (some r)))<|Dy<|Dq (AV.pt ((Ak.av x).cells.drop 2))<|Dy<|Dq (AV.i .i64 x.time)<|Dy<|WV (x:=(AV.b (ts.any (fun t=>decide (t=x.time))))) (Wv (vt:=4) Go.Proofs.Tryz.underlying166 Go.Proofs.Tryz.underlying3 (fun _=>by kernel_rfl) hr hes rfl rfl) le<|Dq (AV.b (ts.any (fun t=>decide (t=x.time))))<|Dq (AV.b (ts.any (fun t=>decide (t=x.time)))) ?_
    cases c_5:(ts.any (fun t=>decide (t=x.time)))
    refine Dy<|Dq (Ai i)<|Dy<|Dq (AV.b (decide ((0:Int)<((i:Nat):Int))))<|Dy<|Dq (AV.b (decide ((0:Int)<((i:Nat):Int)))) ?_
    cases c_6:decide ((0:Int)<((i:Nat):Int))
    have k_6:=of_decide_eq_false c_6
    refine Dn<|Dn<|Dn<|Dn<|Dn<|Dn<|Dn<|Dn<|Dn<|Dn<|Dy<|Dq (AV.b false)<|Dq (AV.b false)<|As.fin<|Cf<|A4.skip ?_
    have hM:Eh d ts x i=true:=by simp only [Eh,c_1,c_2,c_3,c_4,c_5,c_6,Aw]
    exact ⟨[],[(1,(AV.pt (Aj.av d).cells)),(3,(AV.raw (Value.map (some r)))),(5,(AV.pt (Ak.av x).cells)),(8,((Ag 3 Ak.av) d.files)),(9,(Ai d.files.length)),(10,(Ai i))],⟨0,[]⟩,⟨by decide,rfl,A0.nil,(Ee (Ee (Ee (Ee (Ee (Ee Af.nil))))))⟩,rfl,rfl,Or.inr ⟨rfl,rfl,hM⟩⟩
    have k_6:=of_decide_eq_true c_6
    refine Dy<|Dq (AV.pt ((Aj.av d).cells.drop 1))<|Dy<|Dq ((Ag 3 Ak.av) d.files)<|Dy<|Dq (Ai i)<|Dy<|Dp (AV.i .i64 ((i-1:Nat):Int)) (Sg (i:=i) (m:=1) kr kr sd sd)<|Dy<|Dp (AV.pt (Ak.av (d.files.getD (i-1) default)).cells) (AQ (k:=3) (nl:=false) (e:=85) (kk:= .i64) (A:=Ak.av) (xs:=d.files) (i:=i-1) kr kr kr ⟨by kernel_rfl,by decide⟩ (getD_some sd))<|Dy<|Dq (AV.pt ((Ak.av (d.files.getD (i-1) default)).cells.drop 0))<|Dy<|Dq (AV.s ((d.files.getD (i-1) default).name))<|Dy<|Dq (AV.pt ((Ak.av x).cells.drop 0))<|Dy<|Dq (AV.s x.name)<|Dy<|Dq (AV.b (!Op.bytesLess ((d.files.getD (i-1) default).name).toList x.name.toList))<|Dy<|Dq (AV.b (!Op.bytesLess ((d.files.getD (i-1) default).name).toList x.name.toList))<|Dq (AV.b (!Op.bytesLess ((d.files.getD (i-1) default).name).toList x.name.toList))<|As.fin ?_
    cases c_7:(!Op.bytesLess ((d.files.getD (i-1) default).name).toList x.name.toList)
    refine Cf<|A4.skip ?_
    have hM:Eh d ts x i=true:=by simp only [Eh,c_1,c_2,c_3,c_4,c_5,c_6,c_7,Aw]
    exact ⟨[],[(1,(AV.pt (Aj.av d).cells)),(3,(AV.raw (Value.map (some r)))),(5,(AV.pt (Ak.av x).cells)),(8,((Ag 3 Ak.av) d.files)),(9,(Ai d.files.length)),(10,(Ai i))],⟨0,[]⟩,⟨by decide,rfl,A0.nil,(Ee (Ee (Ee (Ee (Ee (Ee Af.nil))))))⟩,rfl,rfl,Or.inr ⟨rfl,rfl,hM⟩⟩
    refine Ct<|Sq<|Rg<|Aq (AV.b false)<|Ad<|Rt ?_
    have hM:Eh d ts x i=false:=by simp only [Eh,c_1,c_2,c_3,c_4,c_5,c_6,c_7,Aw]
    exact ⟨[],[(2,(AV.b false))],⟨0,[]⟩,⟨by decide,rfl,A0.nil,(Ee Af.nil)⟩,rfl,rfl,Or.inl ⟨rfl,rfl,hM⟩⟩
    refine Dn<|Dn<|Dn<|Dn<|Dn<|Dn<|Dn<|Dn<|Dn<|Dn<|Dn<|Dn<|Dn<|Dn<|Dq (AV.b true)<|As.fin<|Ct<|Sq<|Rg<|Aq (AV.b false)<|Ad<|Rt ?_
    have hM:Eh d ts x i=false:=by simp only [Eh,c_1,c_2,c_3,c_4,c_5,Aw]
    exact ⟨[],[(2,(AV.b false))],⟨0,[]⟩,⟨by decide,rfl,A0.nil,(Ee Af.nil)⟩,rfl,rfl,Or.inl ⟨rfl,rfl,hM⟩⟩
    have k_4:=of_decide_eq_true c_4
    refine Dn<|Dn<|Dn<|Dn<|Dq (AV.b true)<|Dq (AV.b true)<|Dn<|Dn<|Dn<|Dn<|Dn<|Dn<|Dn<|Dn<|Dn<|Dn<|Dn<|Dn<|Dn<|Dn<|Dq (AV.b true)<|As.fin<|Ct<|Sq<|Rg<|Aq (AV.b false)<|Ad<|Rt ?_
    have hM:Eh d ts x i=false:=by simp only [Eh,c_1,c_2,c_3,c_4,Aw]
    exact ⟨[],[(2,(AV.b false))],⟨0,[]⟩,⟨by decide,rfl,A0.nil,(Ee Af.nil)⟩,rfl,rfl,Or.inl ⟨rfl,rfl,hM⟩⟩
    have k_3:=of_decide_eq_true c_3
    refine Dn<|Dn<|Dn<|Dn<|Dn<|Dq (AV.b true)<|Dq (AV.b true)<|Dn<|Dn<|Dn<|Dn<|Dq (AV.b true)<|Dq (AV.b true)<|Dn<|Dn<|Dn<|Dn<|Dn<|Dn<|Dn<|Dn<|Dn<|Dn<|Dn<|Dn<|Dn<|Dn<|Dq (AV.b true)<|As.fin<|Ct<|Sq<|Rg<|Aq (AV.b false)<|Ad<|Rt ?_
    have hM:Eh d ts x i=false:=by simp only [Eh,c_1,c_2,c_3,Aw]
    exact ⟨[],[(2,(AV.b false))],⟨0,[]⟩,⟨by decide,rfl,A0.nil,(Ee Af.nil)⟩,rfl,rfl,Or.inl ⟨rfl,rfl,hM⟩⟩
    refine Dn<|Dn<|Dn<|Dq (AV.b true)<|Dq (AV.b true)<|Dn<|Dn<|Dn<|Dn<|Dn<|Dq (AV.b true)<|Dq (AV.b true)<|Dn<|Dn<|Dn<|Dn<|Dq (AV.b true)<|Dq (AV.b true)<|Dn<|Dn<|Dn<|Dn<|Dn<|Dn<|Dn<|Dn<|Dn<|Dn<|Dn<|Dn<|Dn<|Dn<|Dq (AV.b true)<|As.fin<|Ct<|Sq<|Rg<|Aq (AV.b false)<|Ad<|Rt ?_
    have hM:Eh d ts x i=false:=by simp only [Eh,c_1,c_2,Aw]
    exact ⟨[],[(2,(AV.b false))],⟨0,[]⟩,⟨by decide,rfl,A0.nil,(Ee Af.nil)⟩,rfl,rfl,Or.inl ⟨rfl,rfl,hM⟩⟩
    refine Dn<|Dn<|Dn<|Dn<|Dq (AV.b true)<|Dq (AV.b true)<|Dn<|Dn<|Dn<|Dq (AV.b true)<|Dq (AV.b true)<|Dn<|Dn<|Dn<|Dn<|Dn<|Dq (AV.b true)<|Dq (AV.b true)<|Dn<|Dn<|Dn<|Dn<|Dq (AV.b true)<|Dq (AV.b true)<|Dn<|Dn<|Dn<|Dn<|Dn<|Dn<|Dn<|Dn<|Dn<|Dn<|Dn<|Dn<|Dn<|Dn<|Dq (AV.b true)<|As.fin<|Ct<|Sq<|Rg<|Aq (AV.b false)<|Ad<|Rt ?_
    have hM:Eh d ts x i=false:=by simp only [Eh,c_1,Aw]
    exact ⟨[],[(2,(AV.b false))],⟨0,[]⟩,⟨by decide,rfl,A0.nil,(Ee Af.nil)⟩,rfl,rfl,Or.inl ⟨rfl,rfl,hM⟩⟩
   rintro e a6 w6 ⟨env6,hq,F8,hb6⟩
   rcases hq with ⟨rfl,rfl,hC⟩|⟨rfl,rfl,hC⟩
   ·show a6.defers=[]∧ ∃v,_
    have hD:Do EU d=false:=by
     unfold Do
     rw [hR0,←hR,hst,hC];rfl
    rw [hD]
    exact F8.done (t:=2) rfl rfl rfl
   ·have hr8:=Below.blk hb6 hr
    rw [hC,Bool.true_and] at hst
    refine wp_region ?_
    show wpOps _ _ _ (List.range 3++[3]) _ _
    refine SK A5 3 [3] (by decide) (R:=fun env h=>CQ (fun e env=>e= .normal∧env=[(1,(AV.pt (Aj.av d).cells)),(3,(AV.raw (Value.map (some r)))),(8,((Ag 3 Ak.av) d.files)),(9,(Ai d.files.length)),(10,(Ai i)),(59,(AV.raw (Value.map (some r)))),(61,(AV.i .i64 x.time))]) .normal env h) ?_ rfl F8.rel ?_
    ·refine Aq (AV.raw (Value.map (some r))) ?_
     refine Aq (AV.pt ((Ak.av x).cells.drop 2))<|Aq (AV.i .i64 x.time)<|Ad ?_
     exact ⟨[],[(1,(AV.pt (Aj.av d).cells)),(3,(AV.raw (Value.map (some r)))),(8,((Ag 3 Ak.av) d.files)),(9,(Ai d.files.length)),(10,(Ai i)),(59,(AV.raw (Value.map (some r)))),(61,(AV.i .i64 x.time))],⟨0,[]⟩,⟨by decide,rfl,A0.nil,(Ee (Ee (Ee (Ee (Ee (Ee (Ee Af.nil)))))))⟩,rfl,rfl,⟨rfl,rfl⟩⟩
    rintro env' h' μ' a7 w7 ⟨keep,env7,h7,hf,hn,hc,_,rfl⟩ R7
    obtain ⟨F9,hb7⟩:=F8.of_rel hn hc (GK R7 hf (fun i hi=>by simp at hi))
    have hr9:=Below.blk hb7 hr8
    have hnk:ts.any (fun t=>decide (t=x.time))=false:=Wh hC
    refine Vq rfl rfl (w':={w7 with heap:=w7.heap.setIfInBounds r (.map (es.push ⟨.int .i64 x.time,.bool true,clock⟩) (clock+1))}) ?_ ?_
    ·unfold execOp
     refine run_uu ?_
     rw [F9.raw (t:=59) rfl,F9.int (t:=61) rfl]
     exact MI Go.Proofs.Tryz.underlying166 Go.Proofs.Tryz.underlying3 hr9 hes hnk
    obtain ⟨F10,hr10⟩:=F9.turn (es':=es.push ⟨.int .i64 x.time,.bool true,clock⟩) (c':=clock+1) hr9 hr0 hrW
    refine wp_mono (F10.run (Q:=fun e env=>e= .normal∧env=[(1,(AV.pt (Aj.av d).cells)),(3,(AV.raw (Value.map (some r)))),(8,((Ag 3 Ak.av) d.files)),(9,(Ai d.files.length)),(10,(Ai (i+1)))]) ?_) ?_
    ·refine Rg ?_
     refine Ap (Ai (i+1)) (AA (i:=i) (m:=1) kr kr sd)<|Aq (Ai (i+1))<|Ad ?_
     exact ⟨[],[(1,(AV.pt (Aj.av d).cells)),(3,(AV.raw (Value.map (some r)))),(8,((Ag 3 Ak.av) d.files)),(9,(Ai d.files.length)),(10,(Ai (i+1)))],⟨0,[]⟩,⟨by decide,rfl,A0.nil,(Ee (Ee (Ee (Ee (Ee Af.nil)))))⟩,rfl,rfl,⟨rfl,rfl⟩⟩
    rintro e a8 w8 ⟨env8,⟨rfl,rfl⟩,F11,hb8⟩
    refine ⟨d.files.length-(i+1),by omega,i+1,_,_,rfl,by omega,F11,Below.blk hb8 hr10,?_,by rw [←hst];exact hR⟩
    have:=hes.push x.time clock
    rw [←hts] at this
    rw [J4 hx,List.map_append]
    exact this
  ·refine wp_cond (t:=false) ((F6.bool (t:=11) rfl).trans (congrArg Value.bool (decide_eq_false (by omega)))) (wp_exit ?_)
   show (Code.seq _ _).wp _ _ _ _
   have hD:Do EU d=L8 d:=by
    have e:R=true:=by rw [←hR,List.drop_eq_nil_of_le hl];rfl
    unfold Do
    rw [hR0,e]
    exact Xm d
   rw [hD]
   refine wp_seq (wp_mono (F6.run (Q:=fun e env=>e= .normal∧env=[(2,(AV.b (L8 d)))]) ?_) ?_)
   ·refine Rg ?_
    refine Aq (AV.pt ((Aj.av d).cells.drop 0))<|Aq (AV.i .i64 d.clock)<|Aq (AV.b (decide ((0:Int)≤d.clock)))<|Aq (AV.b (decide ((0:Int)≤d.clock))) ?_
    cases c_1:decide ((0:Int)≤d.clock)
    have k_1:=of_decide_eq_false c_1
    refine An<|An<|An<|Aq (AV.b false)<|Aq (AV.b false)<|An<|An<|An<|An<|Aq (AV.b false)<|Aq (AV.b false)<|Ad ?_
    have hM:L8 d=false:=by simp only [L8,c_1,Aw]
    rw [hM]
    exact ⟨[],[(2,(AV.b false))],⟨0,[]⟩,⟨by decide,rfl,A0.nil,(Ee Af.nil)⟩,rfl,rfl,⟨rfl,rfl⟩⟩
    have k_1:=of_decide_eq_true c_1
    refine Ay<|Aq (AV.pt ((Aj.av d).cells.drop 0))<|Ay<|Aq (AV.i .i64 d.clock)<|Ay<|Aq (AV.b (decide (d.clock≤(1048576:Int))))<|Aq (AV.b (decide (d.clock≤(1048576:Int))))<|Aq (AV.b (decide (d.clock≤(1048576:Int)))) ?_
    cases c_2:decide (d.clock≤(1048576:Int))
    have k_2:=of_decide_eq_false c_2
    refine An<|An<|An<|An<|Aq (AV.b false)<|Aq (AV.b false)<|Ad ?_
    have hM:L8 d=false:=by simp only [L8,c_1,c_2,Aw]
    rw [hM]
    exact ⟨[],[(2,(AV.b false))],⟨0,[]⟩,⟨by decide,rfl,A0.nil,(Ee Af.nil)⟩,rfl,rfl,⟨rfl,rfl⟩⟩
    have k_2:=of_decide_eq_true c_2
    refine Ay<|Aq (AV.pt ((Aj.av d).cells.drop 1))<|Ay<|Aq ((Ag 3 Ak.av) d.files)<|Ay<|Ap (Ai d.files.length) (AN (k:=3) (nl:=false) (e:=85) (A:=Ak.av) (xs:=d.files) kr kr)<|Ay<|Aq (AV.b (decide (((d.files.length:Nat):Int)≤(64:Int))))<|Aq (AV.b (decide (((d.files.length:Nat):Int)≤(64:Int))))<|Aq (AV.b (decide (((d.files.length:Nat):Int)≤(64:Int))))<|Ad ?_
    have hM:L8 d=decide (((d.files.length:Nat):Int)≤(64:Int)):=by simp only [L8,c_1,c_2,Aw]
    rw [hM]
    exact ⟨[],[(2,(AV.b (decide (((d.files.length:Nat):Int)≤(64:Int)))))],⟨0,[]⟩,⟨by decide,rfl,A0.nil,(Ee Af.nil)⟩,rfl,rfl,⟨rfl,rfl⟩⟩
   rintro e a9 w9 ⟨env9,⟨rfl,rfl⟩,F12,hb9⟩
   refine wp_ret ?_
   show a9.defers=[]∧ ∃v,_
   exact F12.done (t:=2) rfl rfl rfl
theorem Kw (W:World) {m0:Int} (hW:W.cell? ⟨0,0,none⟩=some (.int .i64 m0)) (s':A7) (hz:s'.sz≤1048576):Ah Go.Proofs.Tryz.prog W 53 [(AV.pt (A7.av s').cells)] (AV.b (De s')) []:=by
 have hzg:=s'.sz_graph
 refine A9 (fn:=Go.Proofs.Tryz.f53) Go.Proofs.Tryz.func53 rfl (en53 W) (ts:=[2]) rfl le<|Sq<|Rg<|Aq (AV.b false)<|Ad<|Sq<|Rg<|Aq (AV.pt (A7.av s').cells)<|Aq (AV.pt (A7.av s').cells)<|Aq (AV.pt ((A7.av s').cells.drop 0))<|Aq (A3.av s'.graph)<|A1.sc0 (vs:=[(A3.av s'.graph)]) (r0:=(AV.tup [((Ag 1 (AV.i .i64)) ((DQ s'.graph).1)),(AV.i .i64 ((DQ s'.graph).2))])) kr kr (LT W hW s'.graph sd) kr le<|Aq (AV.tup [((Ag 1 (AV.i .i64)) ((DQ s'.graph).1)),(AV.i .i64 ((DQ s'.graph).2))])<|Aq ((Ag 1 (AV.i .i64)) ((DQ s'.graph).1))<|Aq (AV.i .i64 ((DQ s'.graph).2))<|Aq ((Ag 1 (AV.i .i64)) ((DQ s'.graph).1))<|Aq (AV.i .i64 ((DQ s'.graph).2))<|Ad<|Sq<|Rg<|Aq (AV.i .i64 ((DQ s'.graph).2))<|Aq (AV.b (decide ((DQ s'.graph).2=(0:Int))))<|Aq (AV.b (decide ((DQ s'.graph).2=(0:Int)))) ?_
 cases c_1:decide ((DQ s'.graph).2=(0:Int))
 have k_1:=of_decide_eq_false c_1
 refine An<|An<|An<|An<|An<|Aq (AV.b false)<|Aq (AV.b false)<|An<|An<|An<|An<|An<|Aq (AV.b false)<|Aq (AV.b false)<|An<|An<|An<|An<|An<|Aq (AV.b false)<|Aq (AV.b false)<|An<|An<|An<|An<|An<|Aq (AV.b false)<|Aq (AV.b false)<|Ad<|Rt ?_
 exact Fb rfl (by simp only [De,c_1,Aw])
 have k_1:=of_decide_eq_true c_1
 refine Ay<|Aq (AV.pt (A7.av s').cells)<|Ay<|Aq (AV.pt (A7.av s').cells)<|Ay<|Aq (AV.pt ((A7.av s').cells.drop 3))<|Ay<|Aq ((Ag 3 Ae.av) s'.actions)<|Ay<|A1.sc0 (vs:=[((Ag 3 Ae.av) s'.actions)]) (r0:=(AV.b (QD s'.actions))) kr kr (QN W hW s'.actions) kr le<|Aq (AV.b (QD s'.actions))<|Aq (AV.b (QD s'.actions)) ?_
 cases c_2:(QD s'.actions)
 refine An<|An<|An<|An<|An<|Aq (AV.b false)<|Aq (AV.b false)<|An<|An<|An<|An<|An<|Aq (AV.b false)<|Aq (AV.b false)<|An<|An<|An<|An<|An<|Aq (AV.b false)<|Aq (AV.b false)<|Ad<|Rt ?_
 exact Fb rfl (by simp only [De,c_1,c_2,Aw])
 refine Ay<|Aq (AV.pt (A7.av s').cells)<|Ay<|Aq (AV.pt (A7.av s').cells)<|Ay<|Aq (AV.pt ((A7.av s').cells.drop 4))<|Ay<|Aq (Aj.av s'.disk)<|Ay<|A1.sc0 (vs:=[(Aj.av s'.disk)]) (r0:=(AV.b (Do EU s'.disk))) kr kr (Qa W hW s'.disk) kr le<|Aq (AV.b (Do EU s'.disk))<|Aq (AV.b (Do EU s'.disk)) ?_
 cases c_3:(Do EU s'.disk)
 refine An<|An<|An<|An<|An<|Aq (AV.b false)<|Aq (AV.b false)<|An<|An<|An<|An<|An<|Aq (AV.b false)<|Aq (AV.b false)<|Ad<|Rt ?_
 exact Fb rfl (by simp only [De,c_1,c_2,c_3,Aw])
 refine Ay<|Aq (AV.pt (A7.av s').cells)<|Ay<|Aq (AV.pt (A7.av s').cells)<|Ay<|Aq (AV.pt ((A7.av s').cells.drop 6))<|Ay<|Aq ((Ag 3 A6.av) s'.log)<|Ay<|A1.sc0 (vs:=[((Ag 3 A6.av) s'.log)]) (r0:=(AV.b (L0 s'.log))) kr kr (RK W hW s'.log) kr le<|Aq (AV.b (L0 s'.log))<|Aq (AV.b (L0 s'.log)) ?_
 cases c_4:(L0 s'.log)
 refine An<|An<|An<|An<|An<|Aq (AV.b false)<|Aq (AV.b false)<|Ad<|Rt ?_
 exact Fb rfl (by simp only [De,c_1,c_2,c_3,c_4,Aw])
 refine Ay<|Aq (AV.pt (A7.av s').cells)<|Ay<|Aq (AV.pt (A7.av s').cells)<|Ay<|Aq (AV.pt ((A7.av s').cells.drop 7))<|Ay<|Aq ((Ag 3 A2.av) s'.deps)<|Ay<|A1.sc0 (vs:=[((Ag 3 A2.av) s'.deps)]) (r0:=(AV.b (LF s'.deps))) kr kr (MQ W hW s'.deps) kr le<|Aq (AV.b (LF s'.deps))<|Aq (AV.b (LF s'.deps))<|Ad<|Rt ?_
 exact Fb rfl (by simp only [De,c_1,c_2,c_3,c_4,Aw])
theorem EF (W:World) (x':Int) (least:Int) (most':Int):Ah Go.Proofs.Tryz.prog W 59 [(AV.i .i64 x'),(AV.i .i64 least),(AV.i .i64 most')] (AV.b (DL x' least most')) []:=by
 refine A9 (fn:=Go.Proofs.Tryz.f59) Go.Proofs.Tryz.func59 rfl (en59 W) (ts:=[6]) rfl le<|Sq<|Rg<|Aq (AV.b false)<|Ad<|Sq<|Rg<|Aq (AV.i .i64 x')<|Aq (AV.i .i64 least)<|Aq (AV.b (decide (least≤x')))<|Aq (AV.b (decide (least≤x'))) ?_
 cases c_1:decide (least≤x')
 have k_1:=of_decide_eq_false c_1
 refine An<|An<|An<|Aq (AV.b false)<|Aq (AV.b false)<|Ad<|Rt ?_
 exact Fb rfl (by simp only [DL,c_1,Aw])
 have k_1:=of_decide_eq_true c_1
 refine Ay<|Aq (AV.i .i64 x')<|Ay<|Aq (AV.i .i64 most')<|Ay<|Aq (AV.b (decide (x'≤most')))<|Aq (AV.b (decide (x'≤most')))<|Aq (AV.b (decide (x'≤most')))<|Ad<|Rt ?_
 exact Fb rfl (by simp only [DL,c_1,Aw])
theorem LV (W:World) (as':List Ae):Ah Go.Proofs.Tryz.prog W 80 [((Ag 3 Ae.av) as')] (AV.b (Pv as')) []:=by
 refine A9 (fn:=Go.Proofs.Tryz.f80) Go.Proofs.Tryz.func80 rfl (en80 W) (ts:=[2]) rfl le<|Sq<|Rg<|Aq (AV.b false)<|Ad<|Sq<|Sq<|Rg<|Aq (AV.i .i64 (0:Int))<|Ad<|A4.block<|A4.lim 0 (x:=((Ag 3 Ae.av) as')) kr fun hlm1=> ?_
 have hB1:as'.length≤281474976710656:=AX hlm1
 obtain ⟨R1,hR1⟩: ∃R,TX as' 0=R:=⟨_,rfl⟩
 refine Av (fun (i:Nat)=>[(0,((Ag 3 Ae.av) as')),(3,(Ai i))]) (fun (i:Nat)=>⟨0,[]⟩) (fun (i:Nat)=>i≤as'.length∧TX (as'.drop i) i=R1) (fun (i:Nat)=>as'.length-i) 0 ?_ ?_ ?_
 exact ⟨[],⟨by decide,rfl,A0.nil,(Ee (Ee Af.nil))⟩,Ar⟩
 exact ⟨od,hR1⟩
 rintro i ⟨hi1,hE1⟩
 try dsimp only
 refine Sq<|Sq<|Rg<|Aq (Ai i)<|Aq ((Ag 3 Ae.av) as')<|Ap (Ai as'.length) (AN (k:=3) (nl:=false) (e:=67) (A:=Ae.av) (xs:=as') kr kr)<|Aq (AV.b (decide (((i:Nat):Int)<((as'.length:Nat):Int))))<|Ad ?_
 rcases Nat.lt_or_ge i as'.length with hl1|hl1
 have hc1:decide (((i:Nat):Int)<((as'.length:Nat):Int))=true:=decide_eq_true (by omega)
 refine A4.cond (t:=true) (by rw [←hc1]<;>kernel_rfl) (A4.skip ?_)
 obtain ⟨x1,hx1⟩: ∃x,as'[i]? =some x:=⟨_,List.getElem?_eq_getElem hl1⟩
 rw [AB hx1,TX.eq_2] at hE1
 refine Sq<|A4.block<|Sq<|Rg<|Aq ((Ag 3 Ae.av) as')<|Aq (Ai i)<|Ap (AV.pt (Ae.av x1).cells) (AQ (k:=3) (nl:=false) (e:=67) (kk:= .i64) (A:=Ae.av) (xs:=as') (i:=i) kr kr kr ⟨by kernel_rfl,by decide⟩ hx1)<|Aq (AV.pt ((Ae.av x1).cells.drop 0))<|Aq (AV.s x1.command)<|A1.sc0 (vs:=[(AV.s x1.command),(AV.i .i64 (1:Int)),(AV.i .i64 (256:Int))]) (r0:=(AV.b (Hp x1.command (1:Int) (256:Int)))) kr kr (Ju W x1.command (1:Int) (256:Int)) kr le<|Aq (AV.b (!(Hp x1.command (1:Int) (256:Int))))<|Aq (AV.b (!(Hp x1.command (1:Int) (256:Int)))) ?_
 cases c_1:(!(Hp x1.command (1:Int) (256:Int)))
 refine Ay<|Aq ((Ag 3 Ae.av) as')<|Ay<|Aq (Ai i)<|Ay<|Ap (AV.pt (Ae.av x1).cells) (AQ (k:=3) (nl:=false) (e:=67) (kk:= .i64) (A:=Ae.av) (xs:=as') (i:=i) kr kr kr ⟨by kernel_rfl,by decide⟩ hx1)<|Ay<|Aq (AV.pt ((Ae.av x1).cells.drop 1))<|Ay<|Aq ((Ag 1 AV.s) x1.reads)<|Ay<|A1.sc0 (vs:=[((Ag 1 AV.s) x1.reads)]) (r0:=(AV.b (Jo x1.reads))) kr kr (CH W x1.reads) kr le<|Ay<|Aq (AV.b (!(Jo x1.reads)))<|Aq (AV.b (!(Jo x1.reads)))<|Ad ?_
 cases c_2:(!(Jo x1.reads))
 refine Cf<|A4.skip<|Rg<|Aq (Ai i)<|Ap (Ai (i+1)) (AA (i:=i) (m:=1) kr kr sd)<|Aq (Ai (i+1))<|Ad ?_
 try simp only [c_1,c_2,Aw] at hE1
 refine ⟨i+1,od,⟨od,hE1⟩,?_⟩
 exact ⟨[],⟨by decide,rfl,A0.nil,(Ee (Ee Af.nil))⟩,Ar⟩
 refine Ct<|Sq<|Rg<|Aq (AV.b false)<|Ad<|Rt ?_
 try simp only [c_1,c_2,Aw] at hE1
 subst hE1
 exact Fb rfl (by simp only [Pv,hR1,Aw])
 refine An<|An<|An<|An<|An<|An<|An<|Aq (AV.b true)<|Ad<|Ct<|Sq<|Rg<|Aq (AV.b false)<|Ad<|Rt ?_
 try simp only [c_1,Aw] at hE1
 subst hE1
 exact Fb rfl (by simp only [Pv,hR1,Aw])
 have hc1:decide (((i:Nat):Int)<((as'.length:Nat):Int))=false:=decide_eq_false (by omega)
 refine A4.cond (t:=false) (by rw [←hc1]<;>kernel_rfl) (A4.exit ?_)
 rw [List.drop_eq_nil_of_le (hl1),TX.eq_1] at hE1
 subst hE1
 refine Sq<|Rg<|Aq ((Ag 3 Ae.av) as')<|Ap (Ai as'.length) (AN (k:=3) (nl:=false) (e:=67) (A:=Ae.av) (xs:=as') kr kr)<|Aq (AV.b (decide (((as'.length:Nat):Int)≤(16:Int))))<|Aq (AV.b (decide (((as'.length:Nat):Int)≤(16:Int))))<|Ad<|Rt ?_
 exact Fb rfl (by simp only [Pv,hR1,Aw])
theorem JH (W:World) (d:Aj):Ah Go.Proofs.Tryz.prog W 41 [(Aj.av d)] (AV.b (Hm d)) []:=by
 refine A9 (fn:=Go.Proofs.Tryz.f41) Go.Proofs.Tryz.func41 rfl (en41 W) (ts:=[2]) rfl le<|Sq<|Rg<|Nn (AV.loc 0 0 0) ⟨30,2,[(Aj.av d)]⟩<|Aq (AV.b false)<|Ad<|Sq<|Sq<|Rg<|Aq (AV.i .i64 (0:Int))<|Ad<|A4.block<|A4.lim 0 (x:=(Aj.av d)) kr fun hlm1=> ?_
 have hB1:d.files.length≤281474976710656:=AX (Oa hlm1)
 obtain ⟨R1,hR1⟩: ∃R,Qp d d.files 0=R:=⟨_,rfl⟩
 refine Av (fun (i:Nat)=>[(1,(AV.loc 0 0 0)),(3,(Ai i))]) (fun (i:Nat)=>⟨1,[(0,some ⟨30,2,[(Aj.av d)]⟩)]⟩) (fun (i:Nat)=>i≤d.files.length∧Qp d (d.files.drop i) i=R1) (fun (i:Nat)=>d.files.length-i) 0 ?_ ?_ ?_
 exact ⟨[0],⟨by decide,rfl,(A0.cons kr A0.nil),(Af.cons (AE.f kr) (Ee Af.nil))⟩,Ar⟩
 exact ⟨od,hR1⟩
 rintro i ⟨hi1,hE1⟩
 try dsimp only
 refine Sq<|Sq<|Rg<|Aq (Ai i)<|Aq (AV.loc 0 0 1)<|Aq ((Ag 3 Ak.av) d.files)<|Ap (Ai d.files.length) (AN (k:=3) (nl:=false) (e:=85) (A:=Ak.av) (xs:=d.files) kr kr)<|Aq (AV.b (decide (((i:Nat):Int)<((d.files.length:Nat):Int))))<|Ad ?_
 rcases Nat.lt_or_ge i d.files.length with hl1|hl1
 have hc1:decide (((i:Nat):Int)<((d.files.length:Nat):Int))=true:=decide_eq_true (by omega)
 refine A4.cond (t:=true) (by rw [←hc1]<;>kernel_rfl) (A4.skip ?_)
 obtain ⟨x1,hx1⟩: ∃x,d.files[i]? =some x:=⟨_,List.getElem?_eq_getElem hl1⟩
 rw [AB hx1,Qp.eq_2] at hE1
 refine Sq<|A4.block<|Sq<|Rg<|Aq (AV.loc 0 0 1)<|Aq ((Ag 3 Ak.av) d.files)<|Aq (Ai i)<|Ap (AV.pt (Ak.av x1).cells) (AQ (k:=3) (nl:=false) (e:=85) (kk:= .i64) (A:=Ak.av) (xs:=d.files) (i:=i) kr kr kr ⟨by kernel_rfl,by decide⟩ hx1)<|Aq (Ak.av x1)<|Nn (AV.loc 1 0 0) ⟨85,3,[(AV.st [(AV.s (⟨#[]⟩:ByteArray)),(AV.i .i64 (0:Int)),(AV.i .i64 (0:Int))])]⟩<|Sp 1 ⟨85,3,[(AV.st [(AV.s x1.name),(AV.i .i64 x1.content),(AV.i .i64 x1.time)])]⟩<|Ad<|Sq<|Sq<|A4.drawn A5 C9 31 kr le<|Dq (AV.loc 1 0 0)<|Dq (AV.s x1.name)<|As.sc0 (vs:=[(AV.s x1.name)]) (r0:=(AV.b (Ho x1.name))) kr kr (FT W x1.name) kr le<|Dq (AV.b (!(Ho x1.name)))<|Dq (AV.b (!(Ho x1.name))) ?_
 cases c_1:(!(Ho x1.name))
 refine Dy<|Dq (AV.loc 1 0 1)<|Dy<|Dq (AV.i .i64 x1.content)<|Dy<|As.sc0 (vs:=[(AV.i .i64 x1.content),(AV.i .i64 (0:Int)),(AV.i .i64 (2147483647:Int))]) (r0:=(AV.b (DL x1.content (0:Int) (2147483647:Int)))) kr kr (EF W x1.content (0:Int) (2147483647:Int)) kr le<|Dy<|Dq (AV.b (!(DL x1.content (0:Int) (2147483647:Int))))<|Dq (AV.b (!(DL x1.content (0:Int) (2147483647:Int))))<|Dq (AV.b (!(DL x1.content (0:Int) (2147483647:Int)))) ?_
 cases c_2:(!(DL x1.content (0:Int) (2147483647:Int)))
 refine Dy<|Dq (AV.loc 1 0 2)<|Dy<|Dq (AV.i .i64 x1.time)<|Dy<|Dq (AV.loc 0 0 0)<|Dy<|Dq (AV.i .i64 d.clock)<|Dy<|As.sc0 (vs:=[(AV.i .i64 x1.time),(AV.i .i64 (1:Int)),(AV.i .i64 d.clock)]) (r0:=(AV.b (DL x1.time (1:Int) d.clock))) kr kr (EF W x1.time (1:Int) d.clock) kr le<|Dy<|Dq (AV.b (!(DL x1.time (1:Int) d.clock)))<|Dq (AV.b (!(DL x1.time (1:Int) d.clock)))<|Dq (AV.b (!(DL x1.time (1:Int) d.clock))) ?_
 cases c_3:(!(DL x1.time (1:Int) d.clock))
 refine Dy<|Dq (Ai i)<|Dy<|Dq (AV.b (decide ((0:Int)<((i:Nat):Int))))<|Dy<|Dq (AV.b (decide ((0:Int)<((i:Nat):Int)))) ?_
 cases c_4:decide ((0:Int)<((i:Nat):Int))
 have k_4:=of_decide_eq_false c_4
 refine Dn<|Dn<|Dn<|Dn<|Dn<|Dn<|Dn<|Dn<|Dn<|Dn<|Dy<|Dq (AV.b false)<|Dq (AV.b false)<|As.fin<|Cf<|A4.skip<|Sq<|Rg<|Aq (AV.i .i64 (0:Int))<|Ad<|A4.block ?_
 obtain ⟨R2,hR2⟩: ∃R,Oj i d x1 (i-0+1) 0=R:=⟨_,rfl⟩
 refine Av (fun ((kf2,k):Nat×Nat)=>[(1,(AV.loc 0 0 0)),(3,(Ai i)),(4,(AV.loc 1 0 0)),(5,(Ai k))]) (fun ((kf2,k):Nat×Nat)=>⟨2,[(0,some ⟨30,2,[(Aj.av d)]⟩),(1,some ⟨85,3,[(AV.st [(AV.s x1.name),(AV.i .i64 x1.content),(AV.i .i64 x1.time)])]⟩)]⟩) (fun ((kf2,k):Nat×Nat)=>i-k<kf2∧Oj i d x1 kf2 k=R2) (fun ((kf2,k):Nat×Nat)=>kf2) (i-0+1,0) ?_ ?_ ?_
 exact ⟨[0,1],⟨by decide,rfl,(A0.cons kr (A0.cons kr A0.nil)),(Af.cons (AE.f kr) (Ee (Af.cons (AE.f kr) (Ee Af.nil))))⟩,Ar⟩
 exact ⟨od,hR2⟩
 rintro ⟨kf2,k⟩ ⟨hi2,hE2⟩
 try dsimp only
 rcases kf2 with _|kf2
 exact absurd hi2 (Nat.not_lt_zero _)
 rw [Oj.eq_2] at hE2
 refine Sq<|Sq<|Rg<|Aq (Ai k)<|Aq (Ai i)<|Aq (AV.b (decide (((k:Nat):Int)<((i:Nat):Int))))<|Ad ?_
 cases c_5:decide (((k:Nat):Int)<((i:Nat):Int))
 have k_5:=of_decide_eq_false c_5
 refine Cf<|A4.exit ?_
 try simp only [c_5,Aw] at hE2
 subst hE2
 refine Rg<|Aq (Ai i)<|Ap (Ai (i+1)) (AA (i:=i) (m:=1) kr kr sd)<|Aq (Ai (i+1))<|Ad ?_
 try simp only [c_1,c_2,c_3,c_4,hR2,Aw] at hE1
 refine ⟨i+1,od,⟨od,hE1⟩,?_⟩
 exact ⟨[0],⟨by decide,rfl,(A0.cons kr A0.nil),(Af.cons (AE.f kr) (Ee Af.nil))⟩,Ar⟩
 have k_5:=of_decide_eq_true c_5
 refine Ct<|A4.skip<|Sq<|A4.block<|Sq<|A4.drawn A5 C9 8 kr le<|Dq (AV.loc 0 0 1)<|Dq ((Ag 3 Ak.av) d.files)<|Dq (Ai k)<|Dp (AV.pt (Ak.av (d.files.getD k default)).cells) (AQ (k:=3) (nl:=false) (e:=85) (kk:= .i64) (A:=Ak.av) (xs:=d.files) (i:=k) kr kr kr ⟨by kernel_rfl,by decide⟩ (getD_some sd))<|Dq (AV.pt ((Ak.av (d.files.getD k default)).cells.drop 2))<|Dq (AV.i .i64 ((d.files.getD k default).time))<|Dq (AV.loc 1 0 2)<|Dq (AV.i .i64 x1.time)<|Dq (AV.b (decide ((d.files.getD k default).time=x1.time)))<|As.fin ?_
 cases c_6:decide ((d.files.getD k default).time=x1.time)
 have k_6:=of_decide_eq_false c_6
 refine Cf<|A4.skip<|Rg<|Aq (Ai k)<|Ap (Ai (k+1)) (AA (i:=k) (m:=1) kr kr sd)<|Aq (Ai (k+1))<|Ad ?_
 try simp only [c_5,c_6,Aw] at hE2
 refine ⟨(kf2,k+1),od,⟨DO,hE2⟩,?_⟩
 exact ⟨[0,1],⟨by decide,rfl,(A0.cons kr (A0.cons kr A0.nil)),(Af.cons (AE.f kr) (Ee (Af.cons (AE.f kr) (Ee Af.nil))))⟩,Ar⟩
 have k_6:=of_decide_eq_true c_6
 refine Ct<|Sq<|Rg<|Aq (AV.b false)<|Ad<|Rt ?_
 try simp only [c_5,c_6,Aw] at hE2
 subst hE2
 try simp only [c_1,c_2,c_3,c_4,hR2,Aw] at hE1
 subst hE1
 exact Fb rfl (by simp only [Hm,hR1,Aw])
 have k_4:=of_decide_eq_true c_4
 refine Dy<|Dq (AV.loc 0 0 1)<|Dy<|Dq ((Ag 3 Ak.av) d.files)<|Dy<|Dq (Ai i)<|Dy<|Dp (AV.i .i64 ((i-1:Nat):Int)) (Sg (i:=i) (m:=1) kr kr sd sd)<|Dy<|Dp (AV.pt (Ak.av (d.files.getD (i-1) default)).cells) (AQ (k:=3) (nl:=false) (e:=85) (kk:= .i64) (A:=Ak.av) (xs:=d.files) (i:=i-1) kr kr kr ⟨by kernel_rfl,by decide⟩ (getD_some sd))<|Dy<|Dq (AV.pt ((Ak.av (d.files.getD (i-1) default)).cells.drop 0))<|Dy<|Dq (AV.s ((d.files.getD (i-1) default).name))<|Dy<|Dq (AV.loc 1 0 0)<|Dy<|Dq (AV.s x1.name)<|Dy<|Dq (AV.b (!Op.bytesLess ((d.files.getD (i-1) default).name).toList x1.name.toList))<|Dy<|Dq (AV.b (!Op.bytesLess ((d.files.getD (i-1) default).name).toList x1.name.toList))<|Dq (AV.b (!Op.bytesLess ((d.files.getD (i-1) default).name).toList x1.name.toList))<|As.fin ?_
 cases c_7:(!Op.bytesLess ((d.files.getD (i-1) default).name).toList x1.name.toList)
 refine Cf<|A4.skip<|Sq<|Rg<|Aq (AV.i .i64 (0:Int))<|Ad<|A4.block ?_
 obtain ⟨R2,hR2⟩: ∃R,Oj i d x1 (i-0+1) 0=R:=⟨_,rfl⟩
 refine Av (fun ((kf2,k2):Nat×Nat)=>[(1,(AV.loc 0 0 0)),(3,(Ai i)),(4,(AV.loc 1 0 0)),(5,(Ai k2))]) (fun ((kf2,k2):Nat×Nat)=>⟨2,[(0,some ⟨30,2,[(Aj.av d)]⟩),(1,some ⟨85,3,[(AV.st [(AV.s x1.name),(AV.i .i64 x1.content),(AV.i .i64 x1.time)])]⟩)]⟩) (fun ((kf2,k2):Nat×Nat)=>i-k2<kf2∧Oj i d x1 kf2 k2=R2) (fun ((kf2,k2):Nat×Nat)=>kf2) (i-0+1,0) ?_ ?_ ?_
 exact ⟨[0,1],⟨by decide,rfl,(A0.cons kr (A0.cons kr A0.nil)),(Af.cons (AE.f kr) (Ee (Af.cons (AE.f kr) (Ee Af.nil))))⟩,Ar⟩
 exact ⟨od,hR2⟩
 rintro ⟨kf2,k2⟩ ⟨hi2,hE2⟩
 try dsimp only
 rcases kf2 with _|kf2
 exact absurd hi2 (Nat.not_lt_zero _)
 rw [Oj.eq_2] at hE2
 refine Sq<|Sq<|Rg<|Aq (Ai k2)<|Aq (Ai i)<|Aq (AV.b (decide (((k2:Nat):Int)<((i:Nat):Int))))<|Ad ?_
 cases c_8:decide (((k2:Nat):Int)<((i:Nat):Int))
 have k_8:=of_decide_eq_false c_8
 refine Cf<|A4.exit ?_
 try simp only [c_8,Aw] at hE2
 subst hE2
 refine Rg<|Aq (Ai i)<|Ap (Ai (i+1)) (AA (i:=i) (m:=1) kr kr sd)<|Aq (Ai (i+1))<|Ad ?_
 try simp only [c_1,c_2,c_3,c_4,c_7,hR2,Aw] at hE1
 refine ⟨i+1,od,⟨od,hE1⟩,?_⟩
 exact ⟨[0],⟨by decide,rfl,(A0.cons kr A0.nil),(Af.cons (AE.f kr) (Ee Af.nil))⟩,Ar⟩
 have k_8:=of_decide_eq_true c_8
 refine Ct<|A4.skip<|Sq<|A4.block<|Sq<|A4.drawn A5 C9 8 kr le<|Dq (AV.loc 0 0 1)<|Dq ((Ag 3 Ak.av) d.files)<|Dq (Ai k2)<|Dp (AV.pt (Ak.av (d.files.getD k2 default)).cells) (AQ (k:=3) (nl:=false) (e:=85) (kk:= .i64) (A:=Ak.av) (xs:=d.files) (i:=k2) kr kr kr ⟨by kernel_rfl,by decide⟩ (getD_some sd))<|Dq (AV.pt ((Ak.av (d.files.getD k2 default)).cells.drop 2))<|Dq (AV.i .i64 ((d.files.getD k2 default).time))<|Dq (AV.loc 1 0 2)<|Dq (AV.i .i64 x1.time)<|Dq (AV.b (decide ((d.files.getD k2 default).time=x1.time)))<|As.fin ?_
 cases c_9:decide ((d.files.getD k2 default).time=x1.time)
 have k_9:=of_decide_eq_false c_9
 refine Cf<|A4.skip<|Rg<|Aq (Ai k2)<|Ap (Ai (k2+1)) (AA (i:=k2) (m:=1) kr kr sd)<|Aq (Ai (k2+1))<|Ad ?_
 try simp only [c_8,c_9,Aw] at hE2
 refine ⟨(kf2,k2+1),od,⟨DO,hE2⟩,?_⟩
 exact ⟨[0,1],⟨by decide,rfl,(A0.cons kr (A0.cons kr A0.nil)),(Af.cons (AE.f kr) (Ee (Af.cons (AE.f kr) (Ee Af.nil))))⟩,Ar⟩
 have k_9:=of_decide_eq_true c_9
 refine Ct<|Sq<|Rg<|Aq (AV.b false)<|Ad<|Rt ?_
 try simp only [c_8,c_9,Aw] at hE2
 subst hE2
 try simp only [c_1,c_2,c_3,c_4,c_7,hR2,Aw] at hE1
 subst hE1
 exact Fb rfl (by simp only [Hm,hR1,Aw])
 refine Ct<|Sq<|Rg<|Aq (AV.b false)<|Ad<|Rt ?_
 try simp only [c_1,c_2,c_3,c_4,c_7,Aw] at hE1
 subst hE1
 exact Fb rfl (by simp only [Hm,hR1,Aw])
 refine Dn<|Dn<|Dn<|Dn<|Dn<|Dn<|Dn<|Dn<|Dn<|Dn<|Dn<|Dn<|Dn<|Dn<|Dq (AV.b true)<|As.fin<|Ct<|Sq<|Rg<|Aq (AV.b false)<|Ad<|Rt ?_
 try simp only [c_1,c_2,c_3,Aw] at hE1
 subst hE1
 exact Fb rfl (by simp only [Hm,hR1,Aw])
 refine Dn<|Dn<|Dn<|Dn<|Dn<|Dn<|Dq (AV.b true)<|Dq (AV.b true)<|Dn<|Dn<|Dn<|Dn<|Dn<|Dn<|Dn<|Dn<|Dn<|Dn<|Dn<|Dn<|Dn<|Dn<|Dq (AV.b true)<|As.fin<|Ct<|Sq<|Rg<|Aq (AV.b false)<|Ad<|Rt ?_
 try simp only [c_1,c_2,Aw] at hE1
 subst hE1
 exact Fb rfl (by simp only [Hm,hR1,Aw])
 refine Dn<|Dn<|Dn<|Dn<|Dq (AV.b true)<|Dq (AV.b true)<|Dn<|Dn<|Dn<|Dn<|Dn<|Dn<|Dq (AV.b true)<|Dq (AV.b true)<|Dn<|Dn<|Dn<|Dn<|Dn<|Dn<|Dn<|Dn<|Dn<|Dn<|Dn<|Dn<|Dn<|Dn<|Dq (AV.b true)<|As.fin<|Ct<|Sq<|Rg<|Aq (AV.b false)<|Ad<|Rt ?_
 try simp only [c_1,Aw] at hE1
 subst hE1
 exact Fb rfl (by simp only [Hm,hR1,Aw])
 have hc1:decide (((i:Nat):Int)<((d.files.length:Nat):Int))=false:=decide_eq_false (by omega)
 refine A4.cond (t:=false) (by rw [←hc1]<;>kernel_rfl) (A4.exit ?_)
 rw [List.drop_eq_nil_of_le (hl1),Qp.eq_1] at hE1
 subst hE1
 refine Sq<|Rg<|Aq (AV.loc 0 0 0)<|Aq (AV.i .i64 d.clock)<|A1.sc0 (vs:=[(AV.i .i64 d.clock),(AV.i .i64 (0:Int)),(AV.i .i64 (1048576:Int))]) (r0:=(AV.b (DL d.clock (0:Int) (1048576:Int)))) kr kr (EF W d.clock (0:Int) (1048576:Int)) kr le<|Aq (AV.b (DL d.clock (0:Int) (1048576:Int))) ?_
 cases c_10:(DL d.clock (0:Int) (1048576:Int))
 refine An<|An<|An<|An<|Aq (AV.b false)<|Aq (AV.b false)<|Ad<|Rt ?_
 exact Fb rfl (by simp only [Hm,hR1,c_10,Aw])
 refine Ay<|Aq (AV.loc 0 0 1)<|Ay<|Aq ((Ag 3 Ak.av) d.files)<|Ay<|Ap (Ai d.files.length) (AN (k:=3) (nl:=false) (e:=85) (A:=Ak.av) (xs:=d.files) kr kr)<|Ay<|Aq (AV.b (decide (((d.files.length:Nat):Int)≤(64:Int))))<|Aq (AV.b (decide (((d.files.length:Nat):Int)≤(64:Int))))<|Aq (AV.b (decide (((d.files.length:Nat):Int)≤(64:Int))))<|Ad<|Rt ?_
 exact Fb rfl (by simp only [Hm,hR1,c_10,Aw])
theorem MW (W:World) (r:A6):Ah Go.Proofs.Tryz.prog W 72 [(A6.av r)] (AV.b (Qw r)) []:=by
 refine A9 (fn:=Go.Proofs.Tryz.f72) Go.Proofs.Tryz.func72 rfl (en72 W) (ts:=[2]) rfl le<|Sq<|Rg<|Nn (AV.loc 0 0 0) ⟨56,3,[(A6.av r)]⟩<|Aq (AV.b false)<|Ad<|Sq<|Rg<|Aq (AV.loc 0 0 0)<|Aq (AV.s r.out)<|A1.sc0 (vs:=[(AV.s r.out)]) (r0:=(AV.b (Ho r.out))) kr kr (FT W r.out) kr le<|Aq (AV.b (Ho r.out)) ?_
 cases c_1:(Ho r.out)
 refine An<|An<|An<|Aq (AV.b false)<|Aq (AV.b false)<|An<|An<|An<|Aq (AV.b false)<|Aq (AV.b false)<|Ad<|Rt ?_
 exact Fb rfl (by simp only [Qw,c_1,Aw])
 refine Ay<|Aq (AV.loc 0 0 1)<|Ay<|Aq (AV.i .i64 r.time)<|Ay<|A1.sc0 (vs:=[(AV.i .i64 r.time),(AV.i .i64 (1:Int)),(AV.i .i64 (1048576:Int))]) (r0:=(AV.b (DL r.time (1:Int) (1048576:Int)))) kr kr (EF W r.time (1:Int) (1048576:Int)) kr le<|Aq (AV.b (DL r.time (1:Int) (1048576:Int)))<|Aq (AV.b (DL r.time (1:Int) (1048576:Int))) ?_
 cases c_2:(DL r.time (1:Int) (1048576:Int))
 refine An<|An<|An<|Aq (AV.b false)<|Aq (AV.b false)<|Ad<|Rt ?_
 exact Fb rfl (by simp only [Qw,c_1,c_2,Aw])
 refine Ay<|Aq (AV.loc 0 0 2)<|Ay<|Aq (AV.s r.sign)<|Ay<|A1.sc0 (vs:=[(AV.s r.sign),(AV.i .i64 (1:Int)),(AV.i .i64 (2048:Int))]) (r0:=(AV.b (Hp r.sign (1:Int) (2048:Int)))) kr kr (Ju W r.sign (1:Int) (2048:Int)) kr le<|Aq (AV.b (Hp r.sign (1:Int) (2048:Int)))<|Aq (AV.b (Hp r.sign (1:Int) (2048:Int)))<|Ad<|Rt ?_
 exact Fb rfl (by simp only [Qw,c_1,c_2,Aw])
theorem Ky (W:World) (rs:List A6):Ah Go.Proofs.Tryz.prog W 30 [((Ag 3 A6.av) rs)] (AV.b (KX rs)) []:=by
 refine A9 (fn:=Go.Proofs.Tryz.f30) Go.Proofs.Tryz.func30 rfl (en30 W) (ts:=[2]) rfl le<|Sq<|Rg<|Aq (AV.b false)<|Ad<|Sq<|Sq<|Rg<|Aq (AV.i .i64 (0:Int))<|Ad<|A4.block<|A4.lim 0 (x:=((Ag 3 A6.av) rs)) kr fun hlm1=> ?_
 have hB1:rs.length≤281474976710656:=AX hlm1
 obtain ⟨R1,hR1⟩: ∃R,U5 rs 0=R:=⟨_,rfl⟩
 refine Av (fun (i:Nat)=>[(0,((Ag 3 A6.av) rs)),(3,(Ai i))]) (fun (i:Nat)=>⟨0,[]⟩) (fun (i:Nat)=>i≤rs.length∧U5 (rs.drop i) i=R1) (fun (i:Nat)=>rs.length-i) 0 ?_ ?_ ?_
 exact ⟨[],⟨by decide,rfl,A0.nil,(Ee (Ee Af.nil))⟩,Ar⟩
 exact ⟨od,hR1⟩
 rintro i ⟨hi1,hE1⟩
 try dsimp only
 refine Sq<|Sq<|Rg<|Aq (Ai i)<|Aq ((Ag 3 A6.av) rs)<|Ap (Ai rs.length) (AN (k:=3) (nl:=false) (e:=56) (A:=A6.av) (xs:=rs) kr kr)<|Aq (AV.b (decide (((i:Nat):Int)<((rs.length:Nat):Int))))<|Ad ?_
 rcases Nat.lt_or_ge i rs.length with hl1|hl1
 have hc1:decide (((i:Nat):Int)<((rs.length:Nat):Int))=true:=decide_eq_true (by omega)
 refine A4.cond (t:=true) (by rw [←hc1]<;>kernel_rfl) (A4.skip ?_)
 obtain ⟨x1,hx1⟩: ∃x,rs[i]? =some x:=⟨_,List.getElem?_eq_getElem hl1⟩
 rw [AB hx1,U5.eq_2] at hE1
 refine Sq<|A4.block<|Sq<|Rg<|Aq ((Ag 3 A6.av) rs)<|Aq (Ai i)<|Ap (AV.pt (A6.av x1).cells) (AQ (k:=3) (nl:=false) (e:=56) (kk:= .i64) (A:=A6.av) (xs:=rs) (i:=i) kr kr kr ⟨by kernel_rfl,by decide⟩ hx1)<|Aq (A6.av x1)<|A1.sc0 (vs:=[(A6.av x1)]) (r0:=(AV.b (Qw x1))) kr kr (MW W x1) kr le<|Aq (AV.b (!(Qw x1)))<|Ad ?_
 cases c_1:(!(Qw x1))
 refine Cf<|A4.skip<|Rg<|Aq (Ai i)<|Ap (Ai (i+1)) (AA (i:=i) (m:=1) kr kr sd)<|Aq (Ai (i+1))<|Ad ?_
 try simp only [c_1,Aw] at hE1
 refine ⟨i+1,od,⟨od,hE1⟩,?_⟩
 exact ⟨[],⟨by decide,rfl,A0.nil,(Ee (Ee Af.nil))⟩,Ar⟩
 refine Ct<|Sq<|Rg<|Aq (AV.b false)<|Ad<|Rt ?_
 try simp only [c_1,Aw] at hE1
 subst hE1
 exact Fb rfl (by simp only [KX,hR1,Aw])
 have hc1:decide (((i:Nat):Int)<((rs.length:Nat):Int))=false:=decide_eq_false (by omega)
 refine A4.cond (t:=false) (by rw [←hc1]<;>kernel_rfl) (A4.exit ?_)
 rw [List.drop_eq_nil_of_le (hl1),U5.eq_1] at hE1
 subst hE1
 refine Sq<|Rg<|Aq ((Ag 3 A6.av) rs)<|Ap (Ai rs.length) (AN (k:=3) (nl:=false) (e:=56) (A:=A6.av) (xs:=rs) kr kr)<|Aq (AV.b (decide (((rs.length:Nat):Int)≤(256:Int))))<|Aq (AV.b (decide (((rs.length:Nat):Int)≤(256:Int))))<|Ad<|Rt ?_
 exact Fb rfl (by simp only [KX,hR1,Aw])
theorem NV (W:World) (f:A2):Ah Go.Proofs.Tryz.prog W 149 [(A2.av f)] (AV.b (QB f)) []:=by
 refine A9 (fn:=Go.Proofs.Tryz.f149) Go.Proofs.Tryz.func149 rfl (en149 W) (ts:=[2]) rfl le<|Sq<|Rg<|Nn (AV.loc 0 0 0) ⟨61,3,[(A2.av f)]⟩<|Aq (AV.b false)<|Ad<|Sq<|Rg<|Aq (AV.loc 0 0 0)<|Aq (AV.s f.out)<|A1.sc0 (vs:=[(AV.s f.out)]) (r0:=(AV.b (Ho f.out))) kr kr (FT W f.out) kr le<|Aq (AV.b (Ho f.out)) ?_
 cases c_1:(Ho f.out)
 refine An<|An<|An<|Aq (AV.b false)<|Aq (AV.b false)<|An<|An<|An<|Aq (AV.b false)<|Aq (AV.b false)<|Ad<|Rt ?_
 exact Fb rfl (by simp only [QB,c_1,Aw])
 refine Ay<|Aq (AV.loc 0 0 1)<|Ay<|Aq (AV.i .i64 f.time)<|Ay<|A1.sc0 (vs:=[(AV.i .i64 f.time),(AV.i .i64 (1:Int)),(AV.i .i64 (1048576:Int))]) (r0:=(AV.b (DL f.time (1:Int) (1048576:Int)))) kr kr (EF W f.time (1:Int) (1048576:Int)) kr le<|Aq (AV.b (DL f.time (1:Int) (1048576:Int)))<|Aq (AV.b (DL f.time (1:Int) (1048576:Int))) ?_
 cases c_2:(DL f.time (1:Int) (1048576:Int))
 refine An<|An<|An<|Aq (AV.b false)<|Aq (AV.b false)<|Ad<|Rt ?_
 exact Fb rfl (by simp only [QB,c_1,c_2,Aw])
 refine Ay<|Aq (AV.loc 0 0 2)<|Ay<|Aq ((Ag 1 AV.s) f.ins)<|Ay<|A1.sc0 (vs:=[((Ag 1 AV.s) f.ins)]) (r0:=(AV.b (Jo f.ins))) kr kr (CH W f.ins) kr le<|Aq (AV.b (Jo f.ins))<|Aq (AV.b (Jo f.ins))<|Ad<|Rt ?_
 exact Fb rfl (by simp only [QB,c_1,c_2,Aw])
theorem JG (W:World) (fs:List A2):Ah Go.Proofs.Tryz.prog W 100 [((Ag 3 A2.av) fs)] (AV.b (LE fs)) []:=by
 refine A9 (fn:=Go.Proofs.Tryz.f100) Go.Proofs.Tryz.func100 rfl (en100 W) (ts:=[2]) rfl le<|Sq<|Rg<|Aq (AV.b false)<|Ad<|Sq<|Sq<|Rg<|Aq (AV.i .i64 (0:Int))<|Ad<|A4.block<|A4.lim 0 (x:=((Ag 3 A2.av) fs)) kr fun hlm1=> ?_
 have hB1:fs.length≤281474976710656:=AX hlm1
 obtain ⟨R1,hR1⟩: ∃R,TT fs 0=R:=⟨_,rfl⟩
 refine Av (fun (i:Nat)=>[(0,((Ag 3 A2.av) fs)),(3,(Ai i))]) (fun (i:Nat)=>⟨0,[]⟩) (fun (i:Nat)=>i≤fs.length∧TT (fs.drop i) i=R1) (fun (i:Nat)=>fs.length-i) 0 ?_ ?_ ?_
 exact ⟨[],⟨by decide,rfl,A0.nil,(Ee (Ee Af.nil))⟩,Ar⟩
 exact ⟨od,hR1⟩
 rintro i ⟨hi1,hE1⟩
 try dsimp only
 refine Sq<|Sq<|Rg<|Aq (Ai i)<|Aq ((Ag 3 A2.av) fs)<|Ap (Ai fs.length) (AN (k:=3) (nl:=false) (e:=61) (A:=A2.av) (xs:=fs) kr kr)<|Aq (AV.b (decide (((i:Nat):Int)<((fs.length:Nat):Int))))<|Ad ?_
 rcases Nat.lt_or_ge i fs.length with hl1|hl1
 have hc1:decide (((i:Nat):Int)<((fs.length:Nat):Int))=true:=decide_eq_true (by omega)
 refine A4.cond (t:=true) (by rw [←hc1]<;>kernel_rfl) (A4.skip ?_)
 obtain ⟨x1,hx1⟩: ∃x,fs[i]? =some x:=⟨_,List.getElem?_eq_getElem hl1⟩
 rw [AB hx1,TT.eq_2] at hE1
 refine Sq<|A4.block<|Sq<|Rg<|Aq ((Ag 3 A2.av) fs)<|Aq (Ai i)<|Ap (AV.pt (A2.av x1).cells) (AQ (k:=3) (nl:=false) (e:=61) (kk:= .i64) (A:=A2.av) (xs:=fs) (i:=i) kr kr kr ⟨by kernel_rfl,by decide⟩ hx1)<|Aq (A2.av x1)<|A1.sc0 (vs:=[(A2.av x1)]) (r0:=(AV.b (QB x1))) kr kr (NV W x1) kr le<|Aq (AV.b (!(QB x1)))<|Ad ?_
 cases c_1:(!(QB x1))
 refine Cf<|A4.skip<|Rg<|Aq (Ai i)<|Ap (Ai (i+1)) (AA (i:=i) (m:=1) kr kr sd)<|Aq (Ai (i+1))<|Ad ?_
 try simp only [c_1,Aw] at hE1
 refine ⟨i+1,od,⟨od,hE1⟩,?_⟩
 exact ⟨[],⟨by decide,rfl,A0.nil,(Ee (Ee Af.nil))⟩,Ar⟩
 refine Ct<|Sq<|Rg<|Aq (AV.b false)<|Ad<|Rt ?_
 try simp only [c_1,Aw] at hE1
 subst hE1
 exact Fb rfl (by simp only [LE,hR1,Aw])
 have hc1:decide (((i:Nat):Int)<((fs.length:Nat):Int))=false:=decide_eq_false (by omega)
 refine A4.cond (t:=false) (by rw [←hc1]<;>kernel_rfl) (A4.exit ?_)
 rw [List.drop_eq_nil_of_le (hl1),TT.eq_1] at hE1
 subst hE1
 refine Sq<|Rg<|Aq ((Ag 3 A2.av) fs)<|Ap (Ai fs.length) (AN (k:=3) (nl:=false) (e:=61) (A:=A2.av) (xs:=fs) kr kr)<|Aq (AV.b (decide (((fs.length:Nat):Int)≤(256:Int))))<|Aq (AV.b (decide (((fs.length:Nat):Int)≤(256:Int))))<|Ad<|Rt ?_
 exact Fb rfl (by simp only [LE,hR1,Aw])
theorem J7 (W:World) (s':A7) (hz:s'.sz≤1048576):Ah Go.Proofs.Tryz.prog W 58 [(A7.av s')] (AV.b (Jn s')) []:=by
 have hzg:=s'.sz_graph
 refine A9 (fn:=Go.Proofs.Tryz.f58) Go.Proofs.Tryz.func58 rfl (en58 W) (ts:=[2]) rfl le<|Sq<|Rg<|Nn (AV.loc 0 0 0) ⟨35,11,[(A7.av s')]⟩<|Aq (AV.b false)<|Ad<|Sq<|Rg<|Aq (AV.loc 0 0 0)<|Aq (AV.st [((Ag 7 A8.av) s'.graph.edges),((Ag 2 AD.av) s'.graph.pools),((Ag 1 AV.s) s'.graph.defaults)])<|A1.sc0 (vs:=[(AV.st [((Ag 7 A8.av) s'.graph.edges),((Ag 2 AD.av) s'.graph.pools),((Ag 1 AV.s) s'.graph.defaults)])]) (r0:=(AV.tup [((Ag 1 (AV.i .i64)) ((Hb (⟨s'.graph.edges,s'.graph.pools,s'.graph.defaults⟩:A3)).1)),(AV.i .i64 ((Hb (⟨s'.graph.edges,s'.graph.pools,s'.graph.defaults⟩:A3)).2))])) kr kr (MY W (⟨s'.graph.edges,s'.graph.pools,s'.graph.defaults⟩:A3) (Nat.le_trans s'.sz_graph hz)) kr le<|Aq (AV.tup [((Ag 1 (AV.i .i64)) ((Hb (⟨s'.graph.edges,s'.graph.pools,s'.graph.defaults⟩:A3)).1)),(AV.i .i64 ((Hb (⟨s'.graph.edges,s'.graph.pools,s'.graph.defaults⟩:A3)).2))])<|Aq ((Ag 1 (AV.i .i64)) ((Hb (⟨s'.graph.edges,s'.graph.pools,s'.graph.defaults⟩:A3)).1))<|Aq (AV.i .i64 ((Hb (⟨s'.graph.edges,s'.graph.pools,s'.graph.defaults⟩:A3)).2))<|Aq ((Ag 1 (AV.i .i64)) ((Hb (⟨s'.graph.edges,s'.graph.pools,s'.graph.defaults⟩:A3)).1))<|Aq (AV.i .i64 ((Hb (⟨s'.graph.edges,s'.graph.pools,s'.graph.defaults⟩:A3)).2))<|Ad<|Sq<|Rg<|Aq (AV.i .i64 ((Hb (⟨s'.graph.edges,s'.graph.pools,s'.graph.defaults⟩:A3)).2)) ?_
 refine Aq (AV.b (decide ((Hb (⟨s'.graph.edges,s'.graph.pools,s'.graph.defaults⟩:A3)).2=(0:Int))))<|Aq (AV.b (decide ((Hb (⟨s'.graph.edges,s'.graph.pools,s'.graph.defaults⟩:A3)).2=(0:Int)))) ?_
 cases c_1:decide ((Hb (⟨s'.graph.edges,s'.graph.pools,s'.graph.defaults⟩:A3)).2=(0:Int))
 have k_1:=of_decide_eq_false c_1
 refine An<|An<|An<|Aq (AV.b false)<|Aq (AV.b false)<|An<|An<|An<|Aq (AV.b false)<|Aq (AV.b false)<|An<|An<|An<|Aq (AV.b false)<|Aq (AV.b false)<|An<|An<|An<|Aq (AV.b false)<|Aq (AV.b false)<|Ad<|Rt ?_
 exact Fb rfl (by simp only [Jn,c_1,Aw])
 have k_1:=of_decide_eq_true c_1
 refine Ay<|Aq (AV.loc 0 0 3)<|Ay<|Aq ((Ag 3 Ae.av) s'.actions)<|Ay<|A1.sc0 (vs:=[((Ag 3 Ae.av) s'.actions)]) (r0:=(AV.b (Pv s'.actions))) kr kr (LV W s'.actions) kr le<|Aq (AV.b (Pv s'.actions))<|Aq (AV.b (Pv s'.actions)) ?_
 cases c_2:(Pv s'.actions)
 refine An<|An<|An<|Aq (AV.b false)<|Aq (AV.b false)<|An<|An<|An<|Aq (AV.b false)<|Aq (AV.b false)<|An<|An<|An<|Aq (AV.b false)<|Aq (AV.b false)<|Ad<|Rt ?_
 exact Fb rfl (by simp only [Jn,c_1,c_2,Aw])
 refine Ay<|Aq (AV.loc 0 0 4)<|Ay<|Aq (AV.st [(AV.i .i64 s'.disk.clock),((Ag 3 Ak.av) s'.disk.files)])<|Ay<|A1.sc0 (vs:=[(AV.st [(AV.i .i64 s'.disk.clock),((Ag 3 Ak.av) s'.disk.files)])]) (r0:=(AV.b (Hm (⟨s'.disk.clock,s'.disk.files⟩:Aj)))) kr kr (JH W (⟨s'.disk.clock,s'.disk.files⟩:Aj)) kr le<|Aq (AV.b (Hm (⟨s'.disk.clock,s'.disk.files⟩:Aj)))<|Aq (AV.b (Hm (⟨s'.disk.clock,s'.disk.files⟩:Aj))) ?_
 cases c_3:(Hm (⟨s'.disk.clock,s'.disk.files⟩:Aj))
 refine An<|An<|An<|Aq (AV.b false)<|Aq (AV.b false)<|An<|An<|An<|Aq (AV.b false)<|Aq (AV.b false)<|Ad<|Rt ?_
 exact Fb rfl (by simp only [Jn,c_1,c_2,c_3,Aw])
 refine Ay<|Aq (AV.loc 0 0 6)<|Ay<|Aq ((Ag 3 A6.av) s'.log)<|Ay<|A1.sc0 (vs:=[((Ag 3 A6.av) s'.log)]) (r0:=(AV.b (KX s'.log))) kr kr (Ky W s'.log) kr le<|Aq (AV.b (KX s'.log))<|Aq (AV.b (KX s'.log)) ?_
 cases c_4:(KX s'.log)
 refine An<|An<|An<|Aq (AV.b false)<|Aq (AV.b false)<|Ad<|Rt ?_
 exact Fb rfl (by simp only [Jn,c_1,c_2,c_3,c_4,Aw])
 refine Ay<|Aq (AV.loc 0 0 7)<|Ay<|Aq ((Ag 3 A2.av) s'.deps)<|Ay<|A1.sc0 (vs:=[((Ag 3 A2.av) s'.deps)]) (r0:=(AV.b (LE s'.deps))) kr kr (JG W s'.deps) kr le<|Aq (AV.b (LE s'.deps))<|Aq (AV.b (LE s'.deps))<|Ad<|Rt ?_
 exact Fb rfl (by simp only [Jn,c_1,c_2,c_3,c_4,Aw])
theorem LR (W:World) (a:List Ae) (b:List Ae):Ah Go.Proofs.Tryz.prog W 66 [((Ag 3 Ae.av) a),((Ag 3 Ae.av) b)] (AV.b (Np a b)) []:=by
 refine A9 (fn:=Go.Proofs.Tryz.f66) Go.Proofs.Tryz.func66 rfl (en66 W) (ts:=[4]) rfl le<|Sq<|Rg<|Aq (AV.b false)<|Ad<|Sq<|Sq<|Rg<|Aq ((Ag 3 Ae.av) a)<|Ap (Ai a.length) (AN (k:=3) (nl:=false) (e:=67) (A:=Ae.av) (xs:=a) kr kr)<|Aq ((Ag 3 Ae.av) b)<|Ap (Ai b.length) (AN (k:=3) (nl:=false) (e:=67) (A:=Ae.av) (xs:=b) kr kr)<|Aq (AV.b (!decide (((a.length:Nat):Int)=((b.length:Nat):Int))))<|Ad ?_
 cases c_1:(!decide (((a.length:Nat):Int)=((b.length:Nat):Int)))
 have k_1:=LI c_1
 refine Cf<|A4.skip<|Sq<|Sq<|Rg<|Aq (AV.i .i64 (0:Int))<|Ad<|A4.block<|A4.lim 0 (x:=((Ag 3 Ae.av) a)) kr fun hlm1=> ?_
 have hB1:a.length≤281474976710656:=AX hlm1
 obtain ⟨R1,hR1⟩: ∃R,TV b a 0=R:=⟨_,rfl⟩
 refine Av (fun (i:Nat)=>[(0,((Ag 3 Ae.av) a)),(1,((Ag 3 Ae.av) b)),(5,(Ai i))]) (fun (i:Nat)=>⟨0,[]⟩) (fun (i:Nat)=>i≤a.length∧TV b (a.drop i) i=R1) (fun (i:Nat)=>a.length-i) 0 ?_ ?_ ?_
 exact ⟨[],⟨by decide,rfl,A0.nil,(Ee (Ee (Ee Af.nil)))⟩,Ar⟩
 exact ⟨od,hR1⟩
 rintro i ⟨hi1,hE1⟩
 try dsimp only
 refine Sq<|Sq<|Rg<|Aq (Ai i)<|Aq ((Ag 3 Ae.av) a)<|Ap (Ai a.length) (AN (k:=3) (nl:=false) (e:=67) (A:=Ae.av) (xs:=a) kr kr)<|Aq (AV.b (decide (((i:Nat):Int)<((a.length:Nat):Int))))<|Ad ?_
 rcases Nat.lt_or_ge i a.length with hl1|hl1
 have hc1:decide (((i:Nat):Int)<((a.length:Nat):Int))=true:=decide_eq_true (by omega)
 refine A4.cond (t:=true) (by rw [←hc1]<;>kernel_rfl) (A4.skip ?_)
 obtain ⟨x1,hx1⟩: ∃x,a[i]? =some x:=⟨_,List.getElem?_eq_getElem hl1⟩
 rw [AB hx1,TV.eq_2] at hE1
 refine Sq<|A4.block<|Sq<|A4.drawn A5 C9 35 kr le<|Dq ((Ag 3 Ae.av) a)<|Dq (Ai i)<|Dp (AV.pt (Ae.av x1).cells) (AQ (k:=3) (nl:=false) (e:=67) (kk:= .i64) (A:=Ae.av) (xs:=a) (i:=i) kr kr kr ⟨by kernel_rfl,by decide⟩ hx1)<|Dq (AV.pt ((Ae.av x1).cells.drop 0))<|Dq (AV.s x1.command)<|Dq ((Ag 3 Ae.av) b)<|Dq (Ai i)<|Dp (AV.pt (Ae.av (b.getD i default)).cells) (AQ (k:=3) (nl:=false) (e:=67) (kk:= .i64) (A:=Ae.av) (xs:=b) (i:=i) kr kr kr ⟨by kernel_rfl,by decide⟩ (getD_some sd))<|Dq (AV.pt ((Ae.av (b.getD i default)).cells.drop 0))<|Dq (AV.s ((b.getD i default).command))<|Dq (AV.b (!decide (x1.command=(b.getD i default).command)))<|Dq (AV.b (!decide (x1.command=(b.getD i default).command))) ?_
 cases c_2:(!decide (x1.command=(b.getD i default).command))
 have k_2:=LI c_2
 refine Dy<|Dq ((Ag 3 Ae.av) a)<|Dy<|Dq (Ai i)<|Dy<|Dp (AV.pt (Ae.av x1).cells) (AQ (k:=3) (nl:=false) (e:=67) (kk:= .i64) (A:=Ae.av) (xs:=a) (i:=i) kr kr kr ⟨by kernel_rfl,by decide⟩ hx1)<|Dy<|Dq (AV.pt ((Ae.av x1).cells.drop 2))<|Dy<|Dq (AV.b x1.fails)<|Dy<|Dq ((Ag 3 Ae.av) b)<|Dy<|Dq (Ai i)<|Dy<|Dp (AV.pt (Ae.av (b.getD i default)).cells) (AQ (k:=3) (nl:=false) (e:=67) (kk:= .i64) (A:=Ae.av) (xs:=b) (i:=i) kr kr kr ⟨by kernel_rfl,by decide⟩ (getD_some sd))<|Dy<|Dq (AV.pt ((Ae.av (b.getD i default)).cells.drop 2))<|Dy<|Dq (AV.b ((b.getD i default).fails))<|Dy<|Dq (AV.b (!(x1.fails==(b.getD i default).fails)))<|Dq (AV.b (!(x1.fails==(b.getD i default).fails)))<|Dq (AV.b (!(x1.fails==(b.getD i default).fails))) ?_
 cases c_3:(!(x1.fails==(b.getD i default).fails))
 refine Dy<|Dq ((Ag 3 Ae.av) a)<|Dy<|Dq (Ai i)<|Dy<|Dp (AV.pt (Ae.av x1).cells) (AQ (k:=3) (nl:=false) (e:=67) (kk:= .i64) (A:=Ae.av) (xs:=a) (i:=i) kr kr kr ⟨by kernel_rfl,by decide⟩ hx1)<|Dy<|Dq (AV.pt ((Ae.av x1).cells.drop 1))<|Dy<|Dq ((Ag 1 AV.s) x1.reads)<|Dy<|Dq ((Ag 3 Ae.av) b)<|Dy<|Dq (Ai i)<|Dy<|Dp (AV.pt (Ae.av (b.getD i default)).cells) (AQ (k:=3) (nl:=false) (e:=67) (kk:= .i64) (A:=Ae.av) (xs:=b) (i:=i) kr kr kr ⟨by kernel_rfl,by decide⟩ (getD_some sd))<|Dy<|Dq (AV.pt ((Ae.av (b.getD i default)).cells.drop 1))<|Dy<|Dq ((Ag 1 AV.s) ((b.getD i default).reads))<|Dy<|As.sc0 (vs:=[((Ag 1 AV.s) x1.reads),((Ag 1 AV.s) ((b.getD i default).reads))]) (r0:=(AV.b (Jz x1.reads ((b.getD i default).reads)))) kr kr (Cr W x1.reads ((b.getD i default).reads)) kr le<|Dy<|Dq (AV.b (!(Jz x1.reads ((b.getD i default).reads))))<|Dq (AV.b (!(Jz x1.reads ((b.getD i default).reads))))<|As.fin ?_
 cases c_4:(!(Jz x1.reads ((b.getD i default).reads)))
 refine Cf<|A4.skip<|Rg<|Aq (Ai i)<|Ap (Ai (i+1)) (AA (i:=i) (m:=1) kr kr sd)<|Aq (Ai (i+1))<|Ad ?_
 try simp only [c_2,c_3,c_4,Aw] at hE1
 refine ⟨i+1,od,⟨od,hE1⟩,?_⟩
 exact ⟨[],⟨by decide,rfl,A0.nil,(Ee (Ee (Ee Af.nil)))⟩,Ar⟩
 refine Ct<|Sq<|Rg<|Aq (AV.b false)<|Ad<|Rt ?_
 try simp only [c_2,c_3,c_4,Aw] at hE1
 subst hE1
 exact Fb rfl (by simp only [Np,c_1,hR1,Aw])
 refine Dn<|Dn<|Dn<|Dn<|Dn<|Dn<|Dn<|Dn<|Dn<|Dn<|Dn<|Dn<|Dq (AV.b true)<|As.fin<|Ct<|Sq<|Rg<|Aq (AV.b false)<|Ad<|Rt ?_
 try simp only [c_2,c_3,Aw] at hE1
 subst hE1
 exact Fb rfl (by simp only [Np,c_1,hR1,Aw])
 have k_2:=LJ c_2
 refine Dn<|Dn<|Dn<|Dn<|Dn<|Dn<|Dn<|Dn<|Dn<|Dn<|Dn<|Dq (AV.b true)<|Dq (AV.b true)<|Dn<|Dn<|Dn<|Dn<|Dn<|Dn<|Dn<|Dn<|Dn<|Dn<|Dn<|Dn<|Dq (AV.b true)<|As.fin<|Ct<|Sq<|Rg<|Aq (AV.b false)<|Ad<|Rt ?_
 try simp only [c_2,Aw] at hE1
 subst hE1
 exact Fb rfl (by simp only [Np,c_1,hR1,Aw])
 have hc1:decide (((i:Nat):Int)<((a.length:Nat):Int))=false:=decide_eq_false (by omega)
 refine A4.cond (t:=false) (by rw [←hc1]<;>kernel_rfl) (A4.exit ?_)
 rw [List.drop_eq_nil_of_le (hl1),TV.eq_1] at hE1
 subst hE1
 refine Sq<|Rg<|Aq (AV.b true)<|Ad<|Rt ?_
 exact Fb rfl (by simp only [Np,c_1,hR1,Aw])
 have k_1:=LJ c_1
 refine Ct<|Sq<|Rg<|Aq (AV.b false)<|Ad<|Rt ?_
 exact Fb rfl (by simp only [Np,c_1,Aw])
theorem NR (W:World) (a:List Ak) (b:List Ak):Ah Go.Proofs.Tryz.prog W 86 [((Ag 3 Ak.av) a),((Ag 3 Ak.av) b)] (AV.b (Qx a b)) []:=by
 refine A9 (fn:=Go.Proofs.Tryz.f86) Go.Proofs.Tryz.func86 rfl (en86 W) (ts:=[4]) rfl le<|Sq<|Rg<|Aq (AV.b false)<|Ad<|Sq<|Sq<|Rg<|Aq ((Ag 3 Ak.av) a)<|Ap (Ai a.length) (AN (k:=3) (nl:=false) (e:=85) (A:=Ak.av) (xs:=a) kr kr)<|Aq ((Ag 3 Ak.av) b)<|Ap (Ai b.length) (AN (k:=3) (nl:=false) (e:=85) (A:=Ak.av) (xs:=b) kr kr)<|Aq (AV.b (!decide (((a.length:Nat):Int)=((b.length:Nat):Int))))<|Ad ?_
 cases c_1:(!decide (((a.length:Nat):Int)=((b.length:Nat):Int)))
 have k_1:=LI c_1
 refine Cf<|A4.skip<|Sq<|Sq<|Rg<|Aq (AV.i .i64 (0:Int))<|Ad<|A4.block<|A4.lim 0 (x:=((Ag 3 Ak.av) a)) kr fun hlm1=> ?_
 have hB1:a.length≤281474976710656:=AX hlm1
 obtain ⟨R1,hR1⟩: ∃R,U0 b a 0=R:=⟨_,rfl⟩
 refine Av (fun (i:Nat)=>[(0,((Ag 3 Ak.av) a)),(1,((Ag 3 Ak.av) b)),(5,(Ai i))]) (fun (i:Nat)=>⟨0,[]⟩) (fun (i:Nat)=>i≤a.length∧U0 b (a.drop i) i=R1) (fun (i:Nat)=>a.length-i) 0 ?_ ?_ ?_
 exact ⟨[],⟨by decide,rfl,A0.nil,(Ee (Ee (Ee Af.nil)))⟩,Ar⟩
 exact ⟨od,hR1⟩
 rintro i ⟨hi1,hE1⟩
 try dsimp only
 refine Sq<|Sq<|Rg<|Aq (Ai i)<|Aq ((Ag 3 Ak.av) a)<|Ap (Ai a.length) (AN (k:=3) (nl:=false) (e:=85) (A:=Ak.av) (xs:=a) kr kr)<|Aq (AV.b (decide (((i:Nat):Int)<((a.length:Nat):Int))))<|Ad ?_
 rcases Nat.lt_or_ge i a.length with hl1|hl1
 have hc1:decide (((i:Nat):Int)<((a.length:Nat):Int))=true:=decide_eq_true (by omega)
 refine A4.cond (t:=true) (by rw [←hc1]<;>kernel_rfl) (A4.skip ?_)
 obtain ⟨x1,hx1⟩: ∃x,a[i]? =some x:=⟨_,List.getElem?_eq_getElem hl1⟩
 rw [AB hx1,U0.eq_2] at hE1
 refine Sq<|A4.block<|Sq<|A4.drawn A5 C9 8 kr le<|Dq ((Ag 3 Ak.av) a)<|Dq (Ai i)<|Dp (AV.pt (Ak.av x1).cells) (AQ (k:=3) (nl:=false) (e:=85) (kk:= .i64) (A:=Ak.av) (xs:=a) (i:=i) kr kr kr ⟨by kernel_rfl,by decide⟩ hx1)<|Dq (Ak.av x1)<|Dq ((Ag 3 Ak.av) b)<|Dq (Ai i)<|Dp (AV.pt (Ak.av (b.getD i default)).cells) (AQ (k:=3) (nl:=false) (e:=85) (kk:= .i64) (A:=Ak.av) (xs:=b) (i:=i) kr kr kr ⟨by kernel_rfl,by decide⟩ (getD_some sd))<|Dq (Ak.av (b.getD i default))<|N1 (x:=(AV.b (!(decide (x1.name=(b.getD i default).name)&&(decide (x1.content=(b.getD i default).content)&&(decide (x1.time=(b.getD i default).time)&&true)))))) kr kr le<|As.fin ?_
 cases c_2:(!(decide (x1.name=(b.getD i default).name)&&(decide (x1.content=(b.getD i default).content)&&(decide (x1.time=(b.getD i default).time)&&true))))
 refine Cf<|A4.skip<|Rg<|Aq (Ai i)<|Ap (Ai (i+1)) (AA (i:=i) (m:=1) kr kr sd)<|Aq (Ai (i+1))<|Ad ?_
 try simp only [c_2,Aw] at hE1
 refine ⟨i+1,od,⟨od,hE1⟩,?_⟩
 exact ⟨[],⟨by decide,rfl,A0.nil,(Ee (Ee (Ee Af.nil)))⟩,Ar⟩
 refine Ct<|Sq<|Rg<|Aq (AV.b false)<|Ad<|Rt ?_
 try simp only [c_2,Aw] at hE1
 subst hE1
 exact Fb rfl (by simp only [Qx,c_1,hR1,Aw])
 have hc1:decide (((i:Nat):Int)<((a.length:Nat):Int))=false:=decide_eq_false (by omega)
 refine A4.cond (t:=false) (by rw [←hc1]<;>kernel_rfl) (A4.exit ?_)
 rw [List.drop_eq_nil_of_le (hl1),U0.eq_1] at hE1
 subst hE1
 refine Sq<|Rg<|Aq (AV.b true)<|Ad<|Rt ?_
 exact Fb rfl (by simp only [Qx,c_1,hR1,Aw])
 have k_1:=LJ c_1
 refine Ct<|Sq<|Rg<|Aq (AV.b false)<|Ad<|Rt ?_
 exact Fb rfl (by simp only [Qx,c_1,Aw])
theorem OA (W:World) (a:Aj) (b:Aj):Ah Go.Proofs.Tryz.prog W 35 [(Aj.av a),(Aj.av b)] (AV.b (Qr a b)) []:=by
 refine A9 (fn:=Go.Proofs.Tryz.f35) Go.Proofs.Tryz.func35 rfl (en35 W) (ts:=[4]) rfl le<|Sq<|Rg<|Nn (AV.loc 0 0 0) ⟨30,2,[(Aj.av a)]⟩<|Nn (AV.loc 1 0 0) ⟨30,2,[(Aj.av b)]⟩<|Aq (AV.b false)<|Ad<|Sq<|Rg<|Aq (AV.loc 0 0 0)<|Aq (AV.i .i64 a.clock)<|Aq (AV.loc 1 0 0)<|Aq (AV.i .i64 b.clock)<|Aq (AV.b (decide (a.clock=b.clock)))<|Aq (AV.b (decide (a.clock=b.clock))) ?_
 cases c_1:decide (a.clock=b.clock)
 have k_1:=of_decide_eq_false c_1
 refine An<|An<|An<|An<|An<|Aq (AV.b false)<|Aq (AV.b false)<|Ad<|Rt ?_
 exact Fb rfl (by simp only [Qr,c_1,Aw])
 have k_1:=of_decide_eq_true c_1
 refine Ay<|Aq (AV.loc 0 0 1)<|Ay<|Aq ((Ag 3 Ak.av) a.files)<|Ay<|Aq (AV.loc 1 0 1)<|Ay<|Aq ((Ag 3 Ak.av) b.files)<|Ay<|A1.sc0 (vs:=[((Ag 3 Ak.av) a.files),((Ag 3 Ak.av) b.files)]) (r0:=(AV.b (Qx a.files b.files))) kr kr (NR W a.files b.files) kr le<|Aq (AV.b (Qx a.files b.files))<|Aq (AV.b (Qx a.files b.files))<|Ad<|Rt ?_
 exact Fb rfl (by simp only [Qr,c_1,Aw])
theorem LS (W:World) (a:List A6) (b:List A6):Ah Go.Proofs.Tryz.prog W 67 [((Ag 3 A6.av) a),((Ag 3 A6.av) b)] (AV.b (Pu a b)) []:=by
 refine A9 (fn:=Go.Proofs.Tryz.f67) Go.Proofs.Tryz.func67 rfl (en67 W) (ts:=[4]) rfl le<|Sq<|Rg<|Aq (AV.b false)<|Ad<|Sq<|Sq<|Rg<|Aq ((Ag 3 A6.av) a)<|Ap (Ai a.length) (AN (k:=3) (nl:=false) (e:=56) (A:=A6.av) (xs:=a) kr kr)<|Aq ((Ag 3 A6.av) b)<|Ap (Ai b.length) (AN (k:=3) (nl:=false) (e:=56) (A:=A6.av) (xs:=b) kr kr)<|Aq (AV.b (!decide (((a.length:Nat):Int)=((b.length:Nat):Int))))<|Ad ?_
 cases c_1:(!decide (((a.length:Nat):Int)=((b.length:Nat):Int)))
 have k_1:=LI c_1
 refine Cf<|A4.skip<|Sq<|Sq<|Rg<|Aq (AV.i .i64 (0:Int))<|Ad<|A4.block<|A4.lim 0 (x:=((Ag 3 A6.av) a)) kr fun hlm1=> ?_
 have hB1:a.length≤281474976710656:=AX hlm1
 obtain ⟨R1,hR1⟩: ∃R,TW b a 0=R:=⟨_,rfl⟩
 refine Av (fun (i:Nat)=>[(0,((Ag 3 A6.av) a)),(1,((Ag 3 A6.av) b)),(5,(Ai i))]) (fun (i:Nat)=>⟨0,[]⟩) (fun (i:Nat)=>i≤a.length∧TW b (a.drop i) i=R1) (fun (i:Nat)=>a.length-i) 0 ?_ ?_ ?_
 exact ⟨[],⟨by decide,rfl,A0.nil,(Ee (Ee (Ee Af.nil)))⟩,Ar⟩
 exact ⟨od,hR1⟩
 rintro i ⟨hi1,hE1⟩
 try dsimp only
 refine Sq<|Sq<|Rg<|Aq (Ai i)<|Aq ((Ag 3 A6.av) a)<|Ap (Ai a.length) (AN (k:=3) (nl:=false) (e:=56) (A:=A6.av) (xs:=a) kr kr)<|Aq (AV.b (decide (((i:Nat):Int)<((a.length:Nat):Int))))<|Ad ?_
 rcases Nat.lt_or_ge i a.length with hl1|hl1
 have hc1:decide (((i:Nat):Int)<((a.length:Nat):Int))=true:=decide_eq_true (by omega)
 refine A4.cond (t:=true) (by rw [←hc1]<;>kernel_rfl) (A4.skip ?_)
 obtain ⟨x1,hx1⟩: ∃x,a[i]? =some x:=⟨_,List.getElem?_eq_getElem hl1⟩
 rw [AB hx1,TW.eq_2] at hE1
 refine Sq<|A4.block<|Sq<|A4.drawn A5 C9 8 kr le<|Dq ((Ag 3 A6.av) a)<|Dq (Ai i)<|Dp (AV.pt (A6.av x1).cells) (AQ (k:=3) (nl:=false) (e:=56) (kk:= .i64) (A:=A6.av) (xs:=a) (i:=i) kr kr kr ⟨by kernel_rfl,by decide⟩ hx1)<|Dq (A6.av x1)<|Dq ((Ag 3 A6.av) b)<|Dq (Ai i)<|Dp (AV.pt (A6.av (b.getD i default)).cells) (AQ (k:=3) (nl:=false) (e:=56) (kk:= .i64) (A:=A6.av) (xs:=b) (i:=i) kr kr kr ⟨by kernel_rfl,by decide⟩ (getD_some sd))<|Dq (A6.av (b.getD i default))<|N1 (x:=(AV.b (!(decide (x1.out=(b.getD i default).out)&&(decide (x1.time=(b.getD i default).time)&&(decide (x1.sign=(b.getD i default).sign)&&true)))))) kr kr le<|As.fin ?_
 cases c_2:(!(decide (x1.out=(b.getD i default).out)&&(decide (x1.time=(b.getD i default).time)&&(decide (x1.sign=(b.getD i default).sign)&&true))))
 refine Cf<|A4.skip<|Rg<|Aq (Ai i)<|Ap (Ai (i+1)) (AA (i:=i) (m:=1) kr kr sd)<|Aq (Ai (i+1))<|Ad ?_
 try simp only [c_2,Aw] at hE1
 refine ⟨i+1,od,⟨od,hE1⟩,?_⟩
 exact ⟨[],⟨by decide,rfl,A0.nil,(Ee (Ee (Ee Af.nil)))⟩,Ar⟩
 refine Ct<|Sq<|Rg<|Aq (AV.b false)<|Ad<|Rt ?_
 try simp only [c_2,Aw] at hE1
 subst hE1
 exact Fb rfl (by simp only [Pu,c_1,hR1,Aw])
 have hc1:decide (((i:Nat):Int)<((a.length:Nat):Int))=false:=decide_eq_false (by omega)
 refine A4.cond (t:=false) (by rw [←hc1]<;>kernel_rfl) (A4.exit ?_)
 rw [List.drop_eq_nil_of_le (hl1),TW.eq_1] at hE1
 subst hE1
 refine Sq<|Rg<|Aq (AV.b true)<|Ad<|Rt ?_
 exact Fb rfl (by simp only [Pu,c_1,hR1,Aw])
 have k_1:=LJ c_1
 refine Ct<|Sq<|Rg<|Aq (AV.b false)<|Ad<|Rt ?_
 exact Fb rfl (by simp only [Pu,c_1,Aw])
theorem NS (W:World) (a:A2) (b:A2):Ah Go.Proofs.Tryz.prog W 117 [(A2.av a),(A2.av b)] (AV.b (Qy a b)) []:=by
 refine A9 (fn:=Go.Proofs.Tryz.f117) Go.Proofs.Tryz.func117 rfl (en117 W) (ts:=[4]) rfl le<|Sq<|Rg<|Nn (AV.loc 0 0 0) ⟨61,3,[(A2.av a)]⟩<|Nn (AV.loc 1 0 0) ⟨61,3,[(A2.av b)]⟩<|Aq (AV.b false)<|Ad<|Sq<|Rg<|Aq (AV.loc 0 0 0)<|Aq (AV.s a.out)<|Aq (AV.loc 1 0 0)<|Aq (AV.s b.out)<|Aq (AV.b (decide (a.out=b.out)))<|Aq (AV.b (decide (a.out=b.out))) ?_
 cases c_1:decide (a.out=b.out)
 have k_1:=of_decide_eq_false c_1
 refine An<|An<|An<|An<|An<|Aq (AV.b false)<|Aq (AV.b false)<|An<|An<|An<|An<|An<|Aq (AV.b false)<|Aq (AV.b false)<|Ad<|Rt ?_
 exact Fb rfl (by simp only [Qy,c_1,Aw])
 have k_1:=of_decide_eq_true c_1
 refine Ay<|Aq (AV.loc 0 0 1)<|Ay<|Aq (AV.i .i64 a.time)<|Ay<|Aq (AV.loc 1 0 1)<|Ay<|Aq (AV.i .i64 b.time)<|Ay<|Aq (AV.b (decide (a.time=b.time)))<|Aq (AV.b (decide (a.time=b.time)))<|Aq (AV.b (decide (a.time=b.time))) ?_
 cases c_2:decide (a.time=b.time)
 have k_2:=of_decide_eq_false c_2
 refine An<|An<|An<|An<|An<|Aq (AV.b false)<|Aq (AV.b false)<|Ad<|Rt ?_
 exact Fb rfl (by simp only [Qy,c_1,c_2,Aw])
 have k_2:=of_decide_eq_true c_2
 refine Ay<|Aq (AV.loc 0 0 2)<|Ay<|Aq ((Ag 1 AV.s) a.ins)<|Ay<|Aq (AV.loc 1 0 2)<|Ay<|Aq ((Ag 1 AV.s) b.ins)<|Ay<|A1.sc0 (vs:=[((Ag 1 AV.s) a.ins),((Ag 1 AV.s) b.ins)]) (r0:=(AV.b (Jz a.ins b.ins))) kr kr (Cr W a.ins b.ins) kr le<|Aq (AV.b (Jz a.ins b.ins))<|Aq (AV.b (Jz a.ins b.ins))<|Ad<|Rt ?_
 exact Fb rfl (by simp only [Qy,c_1,c_2,Aw])
theorem MS (W:World) (a:List A2) (b:List A2):Ah Go.Proofs.Tryz.prog W 68 [((Ag 3 A2.av) a),((Ag 3 A2.av) b)] (AV.b (Pt a b)) []:=by
 refine A9 (fn:=Go.Proofs.Tryz.f68) Go.Proofs.Tryz.func68 rfl (en68 W) (ts:=[4]) rfl le<|Sq<|Rg<|Aq (AV.b false)<|Ad<|Sq<|Sq<|Rg<|Aq ((Ag 3 A2.av) a)<|Ap (Ai a.length) (AN (k:=3) (nl:=false) (e:=61) (A:=A2.av) (xs:=a) kr kr)<|Aq ((Ag 3 A2.av) b)<|Ap (Ai b.length) (AN (k:=3) (nl:=false) (e:=61) (A:=A2.av) (xs:=b) kr kr)<|Aq (AV.b (!decide (((a.length:Nat):Int)=((b.length:Nat):Int))))<|Ad ?_
 cases c_1:(!decide (((a.length:Nat):Int)=((b.length:Nat):Int)))
 have k_1:=LI c_1
 refine Cf<|A4.skip<|Sq<|Sq<|Rg<|Aq (AV.i .i64 (0:Int))<|Ad<|A4.block<|A4.lim 0 (x:=((Ag 3 A2.av) a)) kr fun hlm1=> ?_
 have hB1:a.length≤281474976710656:=AX hlm1
 obtain ⟨R1,hR1⟩: ∃R,TY b a 0=R:=⟨_,rfl⟩
 refine Av (fun (i:Nat)=>[(0,((Ag 3 A2.av) a)),(1,((Ag 3 A2.av) b)),(5,(Ai i))]) (fun (i:Nat)=>⟨0,[]⟩) (fun (i:Nat)=>i≤a.length∧TY b (a.drop i) i=R1) (fun (i:Nat)=>a.length-i) 0 ?_ ?_ ?_
 exact ⟨[],⟨by decide,rfl,A0.nil,(Ee (Ee (Ee Af.nil)))⟩,Ar⟩
 exact ⟨od,hR1⟩
 rintro i ⟨hi1,hE1⟩
 try dsimp only
 refine Sq<|Sq<|Rg<|Aq (Ai i)<|Aq ((Ag 3 A2.av) a)<|Ap (Ai a.length) (AN (k:=3) (nl:=false) (e:=61) (A:=A2.av) (xs:=a) kr kr)<|Aq (AV.b (decide (((i:Nat):Int)<((a.length:Nat):Int))))<|Ad ?_
 rcases Nat.lt_or_ge i a.length with hl1|hl1
 have hc1:decide (((i:Nat):Int)<((a.length:Nat):Int))=true:=decide_eq_true (by omega)
 refine A4.cond (t:=true) (by rw [←hc1]<;>kernel_rfl) (A4.skip ?_)
 obtain ⟨x1,hx1⟩: ∃x,a[i]? =some x:=⟨_,List.getElem?_eq_getElem hl1⟩
 rw [AB hx1,TY.eq_2] at hE1
 refine Sq<|A4.block<|Sq<|A4.drawn A5 C9 8 kr le<|Dq ((Ag 3 A2.av) a)<|Dq (Ai i)<|Dp (AV.pt (A2.av x1).cells) (AQ (k:=3) (nl:=false) (e:=61) (kk:= .i64) (A:=A2.av) (xs:=a) (i:=i) kr kr kr ⟨by kernel_rfl,by decide⟩ hx1)<|Dq (A2.av x1)<|Dq ((Ag 3 A2.av) b)<|Dq (Ai i)<|Dp (AV.pt (A2.av (b.getD i default)).cells) (AQ (k:=3) (nl:=false) (e:=61) (kk:= .i64) (A:=A2.av) (xs:=b) (i:=i) kr kr kr ⟨by kernel_rfl,by decide⟩ (getD_some sd))<|Dq (A2.av (b.getD i default))<|As.sc0 (vs:=[(A2.av x1),(A2.av (b.getD i default))]) (r0:=(AV.b (Qy x1 (b.getD i default)))) kr kr (NS W x1 (b.getD i default)) kr le<|Dq (AV.b (!(Qy x1 (b.getD i default))))<|As.fin ?_
 cases c_2:(!(Qy x1 (b.getD i default)))
 refine Cf<|A4.skip<|Rg<|Aq (Ai i)<|Ap (Ai (i+1)) (AA (i:=i) (m:=1) kr kr sd)<|Aq (Ai (i+1))<|Ad ?_
 try simp only [c_2,Aw] at hE1
 refine ⟨i+1,od,⟨od,hE1⟩,?_⟩
 exact ⟨[],⟨by decide,rfl,A0.nil,(Ee (Ee (Ee Af.nil)))⟩,Ar⟩
 refine Ct<|Sq<|Rg<|Aq (AV.b false)<|Ad<|Rt ?_
 try simp only [c_2,Aw] at hE1
 subst hE1
 exact Fb rfl (by simp only [Pt,c_1,hR1,Aw])
 have hc1:decide (((i:Nat):Int)<((a.length:Nat):Int))=false:=decide_eq_false (by omega)
 refine A4.cond (t:=false) (by rw [←hc1]<;>kernel_rfl) (A4.exit ?_)
 rw [List.drop_eq_nil_of_le (hl1),TY.eq_1] at hE1
 subst hE1
 refine Sq<|Rg<|Aq (AV.b true)<|Ad<|Rt ?_
 exact Fb rfl (by simp only [Pt,c_1,hR1,Aw])
 have k_1:=LJ c_1
 refine Ct<|Sq<|Rg<|Aq (AV.b false)<|Ad<|Rt ?_
 exact Fb rfl (by simp only [Pt,c_1,Aw])
theorem J5 (W:World) (a:A7) (b:A7):Ah Go.Proofs.Tryz.prog W 24 [(A7.av a),(A7.av b)] (AV.b (Jm a b)) []:=by
 refine A9 (fn:=Go.Proofs.Tryz.f24) Go.Proofs.Tryz.func24 rfl (en24 W) (ts:=[4]) rfl le<|Sq<|Rg<|Nn (AV.loc 0 0 0) ⟨35,11,[(A7.av a)]⟩<|Nn (AV.loc 1 0 0) ⟨35,11,[(A7.av b)]⟩<|Aq (AV.b false)<|Ad<|Sq<|Rg<|Aq (AV.loc 0 0 0)<|Aq (AV.st [((Ag 7 A8.av) a.graph.edges),((Ag 2 AD.av) a.graph.pools),((Ag 1 AV.s) a.graph.defaults)])<|Aq (AV.loc 1 0 0)<|Aq (AV.st [((Ag 7 A8.av) b.graph.edges),((Ag 2 AD.av) b.graph.pools),((Ag 1 AV.s) b.graph.defaults)])<|A1.sc0 (vs:=[(AV.st [((Ag 7 A8.av) a.graph.edges),((Ag 2 AD.av) a.graph.pools),((Ag 1 AV.s) a.graph.defaults)]),(AV.st [((Ag 7 A8.av) b.graph.edges),((Ag 2 AD.av) b.graph.pools),((Ag 1 AV.s) b.graph.defaults)])]) (r0:=(AV.b (Oh (⟨a.graph.edges,a.graph.pools,a.graph.defaults⟩:A3) (⟨b.graph.edges,b.graph.pools,b.graph.defaults⟩:A3)))) kr kr (NT W (⟨a.graph.edges,a.graph.pools,a.graph.defaults⟩:A3) (⟨b.graph.edges,b.graph.pools,b.graph.defaults⟩:A3)) kr le<|Aq (AV.b (Oh (⟨a.graph.edges,a.graph.pools,a.graph.defaults⟩:A3) (⟨b.graph.edges,b.graph.pools,b.graph.defaults⟩:A3))) ?_
 cases c_1:(Oh (⟨a.graph.edges,a.graph.pools,a.graph.defaults⟩:A3) (⟨b.graph.edges,b.graph.pools,b.graph.defaults⟩:A3))
 refine An<|An<|An<|An<|An<|Aq (AV.b false)<|Aq (AV.b false)<|An<|An<|An<|An<|An<|Aq (AV.b false)<|Aq (AV.b false)<|An<|An<|An<|An<|An<|Aq (AV.b false)<|Aq (AV.b false)<|An<|An<|An<|An<|An<|Aq (AV.b false)<|Aq (AV.b false)<|An<|An<|An<|An<|An<|Aq (AV.b false)<|Aq (AV.b false)<|An<|An<|An<|An<|An<|Aq (AV.b false)<|Aq (AV.b false)<|An<|An<|An<|An<|An<|Aq (AV.b false)<|Aq (AV.b false)<|Ad<|Rt ?_
 exact Fb rfl (by simp only [Jm,c_1,Aw])
 refine Ay<|Aq (AV.loc 0 0 3)<|Ay<|Aq ((Ag 3 Ae.av) a.actions)<|Ay<|Aq (AV.loc 1 0 3)<|Ay<|Aq ((Ag 3 Ae.av) b.actions)<|Ay<|A1.sc0 (vs:=[((Ag 3 Ae.av) a.actions),((Ag 3 Ae.av) b.actions)]) (r0:=(AV.b (Np a.actions b.actions))) kr kr (LR W a.actions b.actions) kr le<|Aq (AV.b (Np a.actions b.actions))<|Aq (AV.b (Np a.actions b.actions)) ?_
 cases c_2:(Np a.actions b.actions)
 refine An<|An<|An<|An<|An<|Aq (AV.b false)<|Aq (AV.b false)<|An<|An<|An<|An<|An<|Aq (AV.b false)<|Aq (AV.b false)<|An<|An<|An<|An<|An<|Aq (AV.b false)<|Aq (AV.b false)<|An<|An<|An<|An<|An<|Aq (AV.b false)<|Aq (AV.b false)<|An<|An<|An<|An<|An<|Aq (AV.b false)<|Aq (AV.b false)<|An<|An<|An<|An<|An<|Aq (AV.b false)<|Aq (AV.b false)<|Ad<|Rt ?_
 exact Fb rfl (by simp only [Jm,c_1,c_2,Aw])
 refine Ay<|Aq (AV.loc 0 0 4)<|Ay<|Aq (AV.st [(AV.i .i64 a.disk.clock),((Ag 3 Ak.av) a.disk.files)])<|Ay<|Aq (AV.loc 1 0 4)<|Ay<|Aq (AV.st [(AV.i .i64 b.disk.clock),((Ag 3 Ak.av) b.disk.files)])<|Ay<|A1.sc0 (vs:=[(AV.st [(AV.i .i64 a.disk.clock),((Ag 3 Ak.av) a.disk.files)]),(AV.st [(AV.i .i64 b.disk.clock),((Ag 3 Ak.av) b.disk.files)])]) (r0:=(AV.b (Qr (⟨a.disk.clock,a.disk.files⟩:Aj) (⟨b.disk.clock,b.disk.files⟩:Aj)))) kr kr (OA W (⟨a.disk.clock,a.disk.files⟩:Aj) (⟨b.disk.clock,b.disk.files⟩:Aj)) kr le<|Aq (AV.b (Qr (⟨a.disk.clock,a.disk.files⟩:Aj) (⟨b.disk.clock,b.disk.files⟩:Aj)))<|Aq (AV.b (Qr (⟨a.disk.clock,a.disk.files⟩:Aj) (⟨b.disk.clock,b.disk.files⟩:Aj))) ?_
 cases c_3:(Qr (⟨a.disk.clock,a.disk.files⟩:Aj) (⟨b.disk.clock,b.disk.files⟩:Aj))
 refine An<|An<|An<|An<|An<|Aq (AV.b false)<|Aq (AV.b false)<|An<|An<|An<|An<|An<|Aq (AV.b false)<|Aq (AV.b false)<|An<|An<|An<|An<|An<|Aq (AV.b false)<|Aq (AV.b false)<|An<|An<|An<|An<|An<|Aq (AV.b false)<|Aq (AV.b false)<|An<|An<|An<|An<|An<|Aq (AV.b false)<|Aq (AV.b false)<|Ad<|Rt ?_
 exact Fb rfl (by simp only [Jm,c_1,c_2,c_3,Aw])
 refine Ay<|Aq (AV.loc 0 0 6)<|Ay<|Aq ((Ag 3 A6.av) a.log)<|Ay<|Aq (AV.loc 1 0 6)<|Ay<|Aq ((Ag 3 A6.av) b.log)<|Ay<|A1.sc0 (vs:=[((Ag 3 A6.av) a.log),((Ag 3 A6.av) b.log)]) (r0:=(AV.b (Pu a.log b.log))) kr kr (LS W a.log b.log) kr le<|Aq (AV.b (Pu a.log b.log))<|Aq (AV.b (Pu a.log b.log)) ?_
 cases c_4:(Pu a.log b.log)
 refine An<|An<|An<|An<|An<|Aq (AV.b false)<|Aq (AV.b false)<|An<|An<|An<|An<|An<|Aq (AV.b false)<|Aq (AV.b false)<|An<|An<|An<|An<|An<|Aq (AV.b false)<|Aq (AV.b false)<|An<|An<|An<|An<|An<|Aq (AV.b false)<|Aq (AV.b false)<|Ad<|Rt ?_
 exact Fb rfl (by simp only [Jm,c_1,c_2,c_3,c_4,Aw])
 refine Ay<|Aq (AV.loc 0 0 7)<|Ay<|Aq ((Ag 3 A2.av) a.deps)<|Ay<|Aq (AV.loc 1 0 7)<|Ay<|Aq ((Ag 3 A2.av) b.deps)<|Ay<|A1.sc0 (vs:=[((Ag 3 A2.av) a.deps),((Ag 3 A2.av) b.deps)]) (r0:=(AV.b (Pt a.deps b.deps))) kr kr (MS W a.deps b.deps) kr le<|Aq (AV.b (Pt a.deps b.deps))<|Aq (AV.b (Pt a.deps b.deps)) ?_
 cases c_5:(Pt a.deps b.deps)
 refine An<|An<|An<|An<|An<|Aq (AV.b false)<|Aq (AV.b false)<|An<|An<|An<|An<|An<|Aq (AV.b false)<|Aq (AV.b false)<|An<|An<|An<|An<|An<|Aq (AV.b false)<|Aq (AV.b false)<|Ad<|Rt ?_
 exact Fb rfl (by simp only [Jm,c_1,c_2,c_3,c_4,c_5,Aw])
 refine Ay<|Aq (AV.loc 0 0 8)<|Ay<|Aq (AV.i .i64 a.jobs)<|Ay<|Aq (AV.loc 1 0 8)<|Ay<|Aq (AV.i .i64 b.jobs)<|Ay<|Aq (AV.b (decide (a.jobs=b.jobs)))<|Aq (AV.b (decide (a.jobs=b.jobs)))<|Aq (AV.b (decide (a.jobs=b.jobs))) ?_
 cases c_6:decide (a.jobs=b.jobs)
 have k_6:=of_decide_eq_false c_6
 refine An<|An<|An<|An<|An<|Aq (AV.b false)<|Aq (AV.b false)<|An<|An<|An<|An<|An<|Aq (AV.b false)<|Aq (AV.b false)<|Ad<|Rt ?_
 exact Fb rfl (by simp only [Jm,c_1,c_2,c_3,c_4,c_5,c_6,Aw])
 have k_6:=of_decide_eq_true c_6
 refine Ay<|Aq (AV.loc 0 0 9)<|Ay<|Aq (AV.b a.going)<|Ay<|Aq (AV.loc 1 0 9)<|Ay<|Aq (AV.b b.going)<|Ay<|Aq (AV.b (a.going==b.going))<|Aq (AV.b (a.going==b.going))<|Aq (AV.b (a.going==b.going)) ?_
 cases c_7:(a.going==b.going)
 refine An<|An<|An<|An<|An<|Aq (AV.b false)<|Aq (AV.b false)<|Ad<|Rt ?_
 exact Fb rfl (by simp only [Jm,c_1,c_2,c_3,c_4,c_5,c_6,c_7,Aw])
 refine Ay<|Aq (AV.loc 0 0 10)<|Ay<|Aq ((Ag 1 (AV.i .i64)) a.status)<|Ay<|Aq (AV.loc 1 0 10)<|Ay<|Aq ((Ag 1 (AV.i .i64)) b.status)<|Ay<|A1.sc0 (vs:=[((Ag 1 (AV.i .i64)) a.status),((Ag 1 (AV.i .i64)) b.status)]) (r0:=(AV.b (Qs a.status b.status))) kr kr (OC W a.status b.status) kr le<|Aq (AV.b (Qs a.status b.status))<|Aq (AV.b (Qs a.status b.status))<|Ad<|Rt ?_
 exact Fb rfl (by simp only [Jm,c_1,c_2,c_3,c_4,c_5,c_6,c_7,Aw])
theorem LQ (W:World) (a:List Ae) (hz:Eb Ae.sz a≤1048576):Ah Go.Proofs.Tryz.prog W 50 [((Ag 3 Ae.av) a)] ((Ag 3 Ae.av) (Qo a)) []:=by
 have hl:=Dj Ae.sz_one a
 refine A9 (fn:=Go.Proofs.Tryz.f50) Go.Proofs.Tryz.func50 rfl (en50 W) (ts:=[2]) rfl le<|Sq<|Rg<|Aq (AV.sl 3 true [])<|Ad<|Sq<|Rg<|Aq (AV.sl 3 true [])<|Ad<|Sq<|Sq<|Rg<|Aq (AV.i .i64 (0:Int))<|Ad<|A4.block<|A4.lim 0 (x:=((Ag 3 Ae.av) a)) kr fun hlm1=> ?_
 have hB1:a.length≤281474976710656:=AX hlm1
 obtain ⟨R1,hR1⟩: ∃R,Sm a 0 []=R:=⟨_,rfl⟩
 refine Av (fun ((out,i):(List Ae)×Nat)=>[(0,((Ag 3 Ae.av) a)),(3,(B7 0 3 Ae.av out)),(4,(Ai i))]) (fun ((out,i):(List Ae)×Nat)=>⟨1,[(0,Fv 67 3 Ae.av out)]⟩) (fun ((out,i):(List Ae)×Nat)=>i≤a.length∧out.length≤i∧Sm (a.drop i) i out=R1) (fun ((out,i):(List Ae)×Nat)=>a.length-i) ([],0) ?_ ?_ ?_
 exact ⟨[1000000],⟨by decide,rfl,(A0.cons rfl A0.nil),(Ee (Ee (Ee Af.nil)))⟩,Ar⟩
 exact ⟨od,DO,hR1⟩
 rintro ⟨out,i⟩ ⟨hi1,ha,hE1⟩
 try dsimp only
 refine Sq<|Sq<|Rg<|Aq (Ai i)<|Aq ((Ag 3 Ae.av) a)<|Ap (Ai a.length) (AN (k:=3) (nl:=false) (e:=67) (A:=Ae.av) (xs:=a) kr kr)<|Aq (AV.b (decide (((i:Nat):Int)<((a.length:Nat):Int))))<|Ad ?_
 rcases Nat.lt_or_ge i a.length with hl1|hl1
 have hc1:decide (((i:Nat):Int)<((a.length:Nat):Int))=true:=decide_eq_true (by omega)
 refine A4.cond (t:=true) (by rw [←hc1]<;>kernel_rfl) (A4.skip ?_)
 obtain ⟨x1,hx1⟩: ∃x,a[i]? =some x:=⟨_,List.getElem?_eq_getElem hl1⟩
 rw [AB hx1,Sm.eq_2] at hE1
 have hxz:=Ia (sz:=Ae.sz) (List.mem_of_getElem? hx1)
 have hr1:=Bp x1.reads
 have hr2:=x1.sz_reads
 refine Sq<|A4.block<|Sq<|Rg<|Aq ((Ag 3 Ae.av) a)<|Aq (Ai i)<|Ap (AV.pt (Ae.av x1).cells) (AQ (k:=3) (nl:=false) (e:=67) (kk:= .i64) (A:=Ae.av) (xs:=a) (i:=i) kr kr kr ⟨by kernel_rfl,by decide⟩ hx1)<|Aq (Ae.av x1)<|Nn (AV.loc 1 0 0) ⟨67,3,[(AV.st [(AV.s (⟨#[]⟩:ByteArray)),(AV.sl 1 true []),(AV.b false)])]⟩<|Sp 1 ⟨67,3,[(AV.st [(AV.s x1.command),((Ag 1 AV.s) x1.reads),(AV.b x1.fails)])]⟩<|Ad<|Sq<|Rg<|Nn (AV.own 2 0 0) ⟨9,1,[].map AV.s⟩<|Aq (AV.loc 1 0 1)<|Aq ((Ag 1 AV.s) x1.reads)<|AY (x:=(AV.own 3 0 x1.reads.length)) (h':=⟨4,[(3,some ⟨9,1,x1.reads.map AV.s⟩),(2,none),(1,some ⟨67,3,[(AV.st [(AV.s x1.command),((Ag 1 AV.s) x1.reads),(AV.b x1.fails)])]⟩),(0,Fv 67 3 Ae.av out)]⟩) (CE (len:=0) (e:=9) (X:=((Ag 1 AV.s) x1.reads)) (A:=AV.s) (i:=DU) (p:=2) (xs:=[]) (ys:=x1.reads) kr kr kr (hx:=kr) kr ⟨by decide,by kernel_rfl⟩ rfl sd (by show _*16≤140737488355328;first|omega|(simp only [List.length_append,List.length_cons,List.length_nil,List.length_set,List.length_replicate];omega)|(simp;omega)) sd) le<|Aq (AV.loc 1 0 1)<|Sp 1 ⟨67,3,[(AV.st [(AV.s x1.command),(AV.own 3 0 x1.reads.length),(AV.b x1.fails)])]⟩<|Ad<|GA<|Fz.run A5 3 le<|Aq (B7 0 3 Ae.av out)<|Aq (AV.st [(AV.s x1.command),(AV.own 3 0 x1.reads.length),(AV.b x1.fails)])<|Nn (AV.own 4 0 1) ⟨67,3,[(AV.st [(AV.s x1.command),(AV.own 3 0 x1.reads.length),(AV.b x1.fails)])]⟩ ?_
 refine Ad<|IA (Ta.fits [0] (env1:=[(0,((Ag 3 Ae.av) a)),(3,(B7 0 3 Ae.av out)),(4,(Ai i)),(21,(B7 0 3 Ae.av out)),(23,((Ag 3 Ae.av) [(⟨x1.command,x1.reads,x1.fails⟩:Ae)]))]) (h1:=⟨1,[(0,Fv 67 3 Ae.av out)]⟩) ⟨by decide,rfl,(A0.cons (Cz (fun _=>rfl) (e:=67) (k:=3) (A:=Ae.av) (xs:=out) rfl rfl) A0.nil),(Ee (Af.cons (BR (by decide)) (Ee (Af.cons (BR (by decide)) (Af.cons (Dk.kk (x':=(AV.own 4 0 1)) kr kr rfl (Al.own (id:=4) (len:=1) (e:=67) (k:=3) (els:=[(AV.st [(AV.s x1.command),(AV.own 3 0 x1.reads.length),(AV.b x1.fails)])]) rfl rfl rfl sd (Bg.cons (DF.st (Ao.cons (AC (x:=(AV.s x1.command)) kr) (Ao.cons (Al.row (fun _=>rfl) (A:=AV.s) (id:=3) (e:=9) (k:=1) (xs:=x1.reads) rfl rfl rfl sd) (Ao.cons (AC (x:=(AV.b x1.fails)) kr) Ao.nil)))) Bg.nil))) Af.nil)))))⟩ Ar)<|Fz.run A5 2 le<|AY (x:=(AV.own 1 0 ((out++[(⟨x1.command,x1.reads,x1.fails⟩:Ae)]).length))) (h':=⟨2,[(1,some ⟨67,3,(out++[(⟨x1.command,x1.reads,x1.fails⟩:Ae)]).map Ae.av⟩),(0,none)]⟩) (Mg (e:=67) (X:=((Ag 3 Ae.av) [(⟨x1.command,x1.reads,x1.fails⟩:Ae)])) (A:=Ae.av) (i:=tI_67) (p:=0) (xs:=out) (ys:=[(⟨x1.command,x1.reads,x1.fails⟩:Ae)]) kr kr kr (hx:=kr) kr (by simp) ⟨by decide,by kernel_rfl⟩ rfl (by intro q;first|(subst q;rfl)|(rw [q];rfl)|(simp only [q];rfl)) (by show _*48≤140737488355328;first|omega|(simp only [List.length_append,List.length_cons,List.length_nil,List.length_set,List.length_replicate];omega)|(simp;omega)) sd) le ?_
 refine Aq (AV.own 1 0 ((out++[(⟨x1.command,x1.reads,x1.fails⟩:Ae)]).length))<|Ad<|Fz.fin rfl<|Rg<|Aq (Ai i)<|Ap (Ai (i+1)) (AA (i:=i) (m:=1) kr kr sd)<|Aq (Ai (i+1))<|Ad ?_
 refine ⟨((out++[(⟨x1.command,x1.reads,x1.fails⟩:Ae)]),i+1),od,⟨od,DO,hE1⟩,?_⟩
 exact ⟨[1],⟨by decide,rfl,(A0.cons (FG (fun _=>rfl) (e:=67) (k:=3) (A:=Ae.av) (xs:=(out++[(⟨x1.command,x1.reads,x1.fails⟩:Ae)])) (by simp) rfl rfl) A0.nil),(Ee (Af.cons (GB (A:=Ae.av) (xs:=(out++[(⟨x1.command,x1.reads,x1.fails⟩:Ae)])) (by decide) (by simp) rfl) (Ee Af.nil)))⟩,Ar⟩
 have hc1:decide (((i:Nat):Int)<((a.length:Nat):Int))=false:=decide_eq_false (by omega)
 refine A4.cond (t:=false) (by rw [←hc1]<;>kernel_rfl) (A4.exit ?_)
 rw [List.drop_eq_nil_of_le (hl1),Sm.eq_1] at hE1
 subst hE1
 refine Sq<|Rg<|Aq (B7 0 3 Ae.av out)<|Aq (B7 0 3 Ae.av out)<|Ad<|Rt ?_
 have hM:Qo a=out:=by simp only [Qo,hR1,Aw]
 refine ⟨Or.inr rfl,?_⟩
 rw [hM]
 exact AE.cast (x':=(B7 0 3 Ae.av out)) (y':=((Ag 3 Ae.av) out)) kr kr (AE.cast (x':=(B7 0 3 Ae.av out)) (y':=Ag 3 Ae.av out) kr kr (HR (fun _=>rfl) (by decide) (by decide) (e:=67) (k:=3) rfl sd))
theorem Oy (W:World) (a:Aj) (hz:a.sz≤1048576):Ah Go.Proofs.Tryz.prog W 51 [(Aj.av a)] (Aj.av (Ol a)) []:=by
 have hl:=Dj Ak.sz_one a.files
 have hl2:=a.sz_files
 refine BG A5 (fn:=Go.Proofs.Tryz.f51) Go.Proofs.Tryz.func51 rfl (en51 W) le<|Sq<|Rg<|Nn (AV.loc 0 0 0) ⟨30,2,[(Aj.av a)]⟩<|Nn (AV.loc 1 0 0) ⟨30,2,[(AV.st [(AV.i .i64 (0:Int)),(AV.sl 3 true [])])]⟩<|Ad<|Sq<|Rg<|Nn (AV.own 2 0 0) ⟨85,3,[].map Ak.av⟩<|Aq (AV.loc 0 0 1)<|Aq ((Ag 3 Ak.av) a.files)<|AY (x:=(AV.own 3 0 a.files.length)) (h':=⟨4,[(3,some ⟨85,3,a.files.map Ak.av⟩),(2,none),(1,some ⟨30,2,[(AV.st [(AV.i .i64 (0:Int)),(AV.sl 3 true [])])]⟩),(0,some ⟨30,2,[(Aj.av a)]⟩)]⟩) (CE (len:=0) (e:=85) (X:=((Ag 3 Ak.av) a.files)) (A:=Ak.av) (i:=tI_85) (p:=2) (xs:=[]) (ys:=a.files) kr kr kr (hx:=kr) kr ⟨by decide,by kernel_rfl⟩ rfl sd (by show _*32≤140737488355328;first|omega|(simp only [List.length_append,List.length_cons,List.length_nil,List.length_set,List.length_replicate];omega)|(simp;omega)) sd) le<|Aq (AV.loc 0 0 1)<|Sp 0 ⟨30,2,[(AV.st [(AV.i .i64 a.clock),(AV.own 3 0 a.files.length)])]⟩<|Ad<|Sq<|Rg<|Aq (AV.st [(AV.i .i64 a.clock),(AV.own 3 0 a.files.length)])<|Sp 1 ⟨30,2,[(AV.st [(AV.i .i64 a.clock),(AV.own 3 0 a.files.length)])]⟩<|Ad<|Rt ?_
 have hM:Ol a=(⟨a.clock,a.files⟩:Aj):=by simp only [Ol,Aw]
 refine ⟨Or.inr rfl,(AV.st [(AV.i .i64 a.clock),(AV.own 3 0 a.files.length)]),kr,?_⟩
 rw [hM]
 exact AE.cast (x':=(AV.st [(AV.i .i64 a.clock),(AV.own 3 0 a.files.length)])) (y':=(Aj.av (⟨a.clock,a.files⟩:Aj))) kr kr (AE.st ⟨Ec,⟨(Dk.kk (x':=(AV.own 3 0 a.files.length)) kr kr rfl (Al.row (fun _=>rfl) (A:=Ak.av) (id:=3) (e:=85) (k:=3) (xs:=a.files) rfl rfl rfl sd)),trivial⟩⟩ kr)
theorem MR (W:World) (a:List A2) (hz:Eb A2.sz a≤1048576):Ah Go.Proofs.Tryz.prog W 52 [((Ag 3 A2.av) a)] ((Ag 3 A2.av) (Qv a)) []:=by
 have hl:=Dj A2.sz_one a
 refine A9 (fn:=Go.Proofs.Tryz.f52) Go.Proofs.Tryz.func52 rfl (en52 W) (ts:=[2]) rfl le<|Sq<|Rg<|Aq (AV.sl 3 true [])<|Ad<|Sq<|Rg<|Aq (AV.sl 3 true [])<|Ad<|Sq<|Sq<|Rg<|Aq (AV.i .i64 (0:Int))<|Ad<|A4.block<|A4.lim 0 (x:=((Ag 3 A2.av) a)) kr fun hlm1=> ?_
 have hB1:a.length≤281474976710656:=AX hlm1
 obtain ⟨R1,hR1⟩: ∃R,Sk a 0 []=R:=⟨_,rfl⟩
 refine Av (fun ((out,i):(List A2)×Nat)=>[(0,((Ag 3 A2.av) a)),(3,(B7 0 3 A2.av out)),(4,(Ai i))]) (fun ((out,i):(List A2)×Nat)=>⟨1,[(0,Fv 61 3 A2.av out)]⟩) (fun ((out,i):(List A2)×Nat)=>i≤a.length∧out.length≤i∧Sk (a.drop i) i out=R1) (fun ((out,i):(List A2)×Nat)=>a.length-i) ([],0) ?_ ?_ ?_
 exact ⟨[1000000],⟨by decide,rfl,(A0.cons rfl A0.nil),(Ee (Ee (Ee Af.nil)))⟩,Ar⟩
 exact ⟨od,DO,hR1⟩
 rintro ⟨out,i⟩ ⟨hi1,ha,hE1⟩
 try dsimp only
 refine Sq<|Sq<|Rg<|Aq (Ai i)<|Aq ((Ag 3 A2.av) a)<|Ap (Ai a.length) (AN (k:=3) (nl:=false) (e:=61) (A:=A2.av) (xs:=a) kr kr)<|Aq (AV.b (decide (((i:Nat):Int)<((a.length:Nat):Int))))<|Ad ?_
 rcases Nat.lt_or_ge i a.length with hl1|hl1
 have hc1:decide (((i:Nat):Int)<((a.length:Nat):Int))=true:=decide_eq_true (by omega)
 refine A4.cond (t:=true) (by rw [←hc1]<;>kernel_rfl) (A4.skip ?_)
 obtain ⟨x1,hx1⟩: ∃x,a[i]? =some x:=⟨_,List.getElem?_eq_getElem hl1⟩
 rw [AB hx1,Sk.eq_2] at hE1
 have hxz:=Ia (sz:=A2.sz) (List.mem_of_getElem? hx1)
 have hr1:=Bp x1.ins
 have hr2:=x1.sz_ins
 refine Sq<|A4.block<|Sq<|Rg<|Aq ((Ag 3 A2.av) a)<|Aq (Ai i)<|Ap (AV.pt (A2.av x1).cells) (AQ (k:=3) (nl:=false) (e:=61) (kk:= .i64) (A:=A2.av) (xs:=a) (i:=i) kr kr kr ⟨by kernel_rfl,by decide⟩ hx1)<|Aq (A2.av x1)<|Nn (AV.loc 1 0 0) ⟨61,3,[(AV.st [(AV.s (⟨#[]⟩:ByteArray)),(AV.i .i64 (0:Int)),(AV.sl 1 true [])])]⟩<|Sp 1 ⟨61,3,[(AV.st [(AV.s x1.out),(AV.i .i64 x1.time),((Ag 1 AV.s) x1.ins)])]⟩<|Ad<|Sq<|Rg<|Nn (AV.own 2 0 0) ⟨9,1,[].map AV.s⟩<|Aq (AV.loc 1 0 2)<|Aq ((Ag 1 AV.s) x1.ins)<|AY (x:=(AV.own 3 0 x1.ins.length)) (h':=⟨4,[(3,some ⟨9,1,x1.ins.map AV.s⟩),(2,none),(1,some ⟨61,3,[(AV.st [(AV.s x1.out),(AV.i .i64 x1.time),((Ag 1 AV.s) x1.ins)])]⟩),(0,Fv 61 3 A2.av out)]⟩) (CE (len:=0) (e:=9) (X:=((Ag 1 AV.s) x1.ins)) (A:=AV.s) (i:=DU) (p:=2) (xs:=[]) (ys:=x1.ins) kr kr kr (hx:=kr) kr ⟨by decide,by kernel_rfl⟩ rfl sd (by show _*16≤140737488355328;first|omega|(simp only [List.length_append,List.length_cons,List.length_nil,List.length_set,List.length_replicate];omega)|(simp;omega)) sd) le<|Aq (AV.loc 1 0 2)<|Sp 1 ⟨61,3,[(AV.st [(AV.s x1.out),(AV.i .i64 x1.time),(AV.own 3 0 x1.ins.length)])]⟩<|Ad<|GA<|Fz.run A5 3 le<|Aq (B7 0 3 A2.av out)<|Aq (AV.st [(AV.s x1.out),(AV.i .i64 x1.time),(AV.own 3 0 x1.ins.length)])<|Nn (AV.own 4 0 1) ⟨61,3,[(AV.st [(AV.s x1.out),(AV.i .i64 x1.time),(AV.own 3 0 x1.ins.length)])]⟩ ?_
 refine Ad<|IA (Ta.fits [0] (env1:=[(0,((Ag 3 A2.av) a)),(3,(B7 0 3 A2.av out)),(4,(Ai i)),(21,(B7 0 3 A2.av out)),(23,((Ag 3 A2.av) [(⟨x1.out,x1.time,x1.ins⟩:A2)]))]) (h1:=⟨1,[(0,Fv 61 3 A2.av out)]⟩) ⟨by decide,rfl,(A0.cons (Cz (fun _=>rfl) (e:=61) (k:=3) (A:=A2.av) (xs:=out) rfl rfl) A0.nil),(Ee (Af.cons (BR (by decide)) (Ee (Af.cons (BR (by decide)) (Af.cons (Dk.kk (x':=(AV.own 4 0 1)) kr kr rfl (Al.own (id:=4) (len:=1) (e:=61) (k:=3) (els:=[(AV.st [(AV.s x1.out),(AV.i .i64 x1.time),(AV.own 3 0 x1.ins.length)])]) rfl rfl rfl sd (Bg.cons (DF.st (Ao.cons (AC (x:=(AV.s x1.out)) kr) (Ao.cons (AC (x:=(AV.i .i64 x1.time)) kr) (Ao.cons (Al.row (fun _=>rfl) (A:=AV.s) (id:=3) (e:=9) (k:=1) (xs:=x1.ins) rfl rfl rfl sd) Ao.nil)))) Bg.nil))) Af.nil)))))⟩ Ar)<|Fz.run A5 2 le<|AY (x:=(AV.own 1 0 ((out++[(⟨x1.out,x1.time,x1.ins⟩:A2)]).length))) (h':=⟨2,[(1,some ⟨61,3,(out++[(⟨x1.out,x1.time,x1.ins⟩:A2)]).map A2.av⟩),(0,none)]⟩) (Mg (e:=61) (X:=((Ag 3 A2.av) [(⟨x1.out,x1.time,x1.ins⟩:A2)])) (A:=A2.av) (i:=tI_61) (p:=0) (xs:=out) (ys:=[(⟨x1.out,x1.time,x1.ins⟩:A2)]) kr kr kr (hx:=kr) kr (by simp) ⟨by decide,by kernel_rfl⟩ rfl (by intro q;first|(subst q;rfl)|(rw [q];rfl)|(simp only [q];rfl)) (by show _*48≤140737488355328;first|omega|(simp only [List.length_append,List.length_cons,List.length_nil,List.length_set,List.length_replicate];omega)|(simp;omega)) sd) le ?_
 refine Aq (AV.own 1 0 ((out++[(⟨x1.out,x1.time,x1.ins⟩:A2)]).length))<|Ad<|Fz.fin rfl<|Rg<|Aq (Ai i)<|Ap (Ai (i+1)) (AA (i:=i) (m:=1) kr kr sd)<|Aq (Ai (i+1))<|Ad ?_
 refine ⟨((out++[(⟨x1.out,x1.time,x1.ins⟩:A2)]),i+1),od,⟨od,DO,hE1⟩,?_⟩
 exact ⟨[1],⟨by decide,rfl,(A0.cons (FG (fun _=>rfl) (e:=61) (k:=3) (A:=A2.av) (xs:=(out++[(⟨x1.out,x1.time,x1.ins⟩:A2)])) (by simp) rfl rfl) A0.nil),(Ee (Af.cons (GB (A:=A2.av) (xs:=(out++[(⟨x1.out,x1.time,x1.ins⟩:A2)])) (by decide) (by simp) rfl) (Ee Af.nil)))⟩,Ar⟩
 have hc1:decide (((i:Nat):Int)<((a.length:Nat):Int))=false:=decide_eq_false (by omega)
 refine A4.cond (t:=false) (by rw [←hc1]<;>kernel_rfl) (A4.exit ?_)
 rw [List.drop_eq_nil_of_le (hl1),Sk.eq_1] at hE1
 subst hE1
 refine Sq<|Rg<|Aq (B7 0 3 A2.av out)<|Aq (B7 0 3 A2.av out)<|Ad<|Rt ?_
 have hM:Qv a=out:=by simp only [Qv,hR1,Aw]
 refine ⟨Or.inr rfl,?_⟩
 rw [hM]
 exact AE.cast (x':=(B7 0 3 A2.av out)) (y':=((Ag 3 A2.av) out)) kr kr (AE.cast (x':=(B7 0 3 A2.av out)) (y':=Ag 3 A2.av out) kr kr (HR (fun _=>rfl) (by decide) (by decide) (e:=61) (k:=3) rfl sd))
def EK:Obj:=⟨35,11,[(AV.st [(AV.sl 7 true []),(AV.sl 2 true []),(AV.sl 1 true []),(AV.sl 3 true []),(AV.i .i64 (0:Int)),(AV.sl 3 true []),(AV.sl 3 true []),(AV.sl 3 true []),(AV.i .i64 (0:Int)),(AV.b false),(AV.sl 1 true [])])]⟩
def Dh (a:A7):AV:=(AV.st [((Ag 7 A8.av) ((Jl (⟨a.graph.edges,a.graph.pools,a.graph.defaults⟩:A3)).edges)),((Ag 2 AD.av) ((Jl (⟨a.graph.edges,a.graph.pools,a.graph.defaults⟩:A3)).pools)),((Ag 1 AV.s) ((Jl (⟨a.graph.edges,a.graph.pools,a.graph.defaults⟩:A3)).defaults)),((Ag 3 Ae.av) (Qo a.actions)),(AV.i .i64 ((Ol (⟨a.disk.clock,a.disk.files⟩:Aj)).clock)),((Ag 3 Ak.av) ((Ol (⟨a.disk.clock,a.disk.files⟩:Aj)).files)),(AV.own 3 0 a.log.length),((Ag 3 A2.av) (Qv a.deps)),(AV.i .i64 a.jobs),(AV.b a.going),(AV.own 5 0 a.status.length)])
theorem NQ (W:World) (a:A7) (hz:a.sz≤1048576):Ah Go.Proofs.Tryz.prog W 16 [(A7.av a)] (A7.av (CJ a)) []:=by
 have hg1:(⟨a.graph.edges,a.graph.pools,a.graph.defaults⟩:A3).sz≤a.sz:=a.sz_graph
 have hg2:=a.sz_actions
 have hg3:(⟨a.disk.clock,a.disk.files⟩:Aj).sz≤a.sz:=a.sz_disk
 have hg4:=a.sz_log
 have hg5:=a.sz_deps
 have hg6:=a.sz_status
 have hl4:=Dj A6.sz_one a.log
 have hl6:=Dj (sz:=fun _:Int=>1) (fun _=>Nat.le_refl 1) a.status
 refine BG A5 (fn:=Go.Proofs.Tryz.f16) Go.Proofs.Tryz.func16 rfl (en16 W) le<|Sq<|Rg<|Nn (AV.loc 0 0 0) ⟨35,11,[(A7.av a)]⟩<|Nn (AV.loc 1 0 0) EK<|Ad<|Sq<|Rg<|Nn (AV.own 2 0 0) ⟨56,3,[].map A6.av⟩<|Aq (AV.loc 0 0 6)<|Aq ((Ag 3 A6.av) a.log)<|AY (x:=(AV.own 3 0 a.log.length)) (h':=⟨4,[(3,some ⟨56,3,a.log.map A6.av⟩),(2,none),(1,some EK),(0,some ⟨35,11,[(A7.av a)]⟩)]⟩) (CE (len:=0) (e:=56) (X:=((Ag 3 A6.av) a.log)) (A:=A6.av) (i:=tI_56) (p:=2) (xs:=[]) (ys:=a.log) kr kr kr (hx:=kr) kr ⟨by decide,by kernel_rfl⟩ rfl sd (by show _*40≤140737488355328;first|omega|(simp only [List.length_append,List.length_cons,List.length_nil,List.length_set,List.length_replicate];omega)|(simp;omega)) sd) le<|Aq (AV.own 3 0 a.log.length)<|Ad<|Sq<|Rg<|Nn (AV.own 4 0 0) ⟨3,1,[].map (AV.i .i64)⟩<|Aq (AV.loc 0 0 10)<|Aq ((Ag 1 (AV.i .i64)) a.status)<|AY (x:=(AV.own 5 0 a.status.length)) (h':=⟨6,[(5,some ⟨3,1,a.status.map (AV.i .i64)⟩),(4,none),(3,some ⟨56,3,a.log.map A6.av⟩),(2,none),(1,some EK),(0,some ⟨35,11,[(A7.av a)]⟩)]⟩) (CE (len:=0) (e:=3) (X:=((Ag 1 (AV.i .i64)) a.status)) (A:=(AV.i .i64)) (i:=Yf) (p:=4) (xs:=[]) (ys:=a.status) kr kr kr (hx:=kr) kr ⟨by decide,by kernel_rfl⟩ rfl sd (by show _*8≤140737488355328;first|omega|(simp only [List.length_append,List.length_cons,List.length_nil,List.length_set,List.length_replicate];omega)|(simp;omega)) sd) le ?_
 refine Aq (AV.own 5 0 a.status.length)<|Ad<|Sq<|A4.drawn A5 C9 18 kr le<|Dq (AV.loc 0 0 0)<|Dq (AV.st [((Ag 7 A8.av) a.graph.edges),((Ag 2 AD.av) a.graph.pools),((Ag 1 AV.s) a.graph.defaults)])<|As.sc0 (vs:=[(AV.st [((Ag 7 A8.av) a.graph.edges),((Ag 2 AD.av) a.graph.pools),((Ag 1 AV.s) a.graph.defaults)])]) (r0:=(A3.av (Jl (⟨a.graph.edges,a.graph.pools,a.graph.defaults⟩:A3)))) kr kr (NP W (⟨a.graph.edges,a.graph.pools,a.graph.defaults⟩:A3) sd) kr le<|Dq (AV.loc 0 0 3)<|Dq ((Ag 3 Ae.av) a.actions)<|As.sc0 (vs:=[((Ag 3 Ae.av) a.actions)]) (r0:=((Ag 3 Ae.av) (Qo a.actions))) kr kr (LQ W a.actions sd) kr le<|Dq (AV.loc 0 0 4)<|Dq (AV.st [(AV.i .i64 a.disk.clock),((Ag 3 Ak.av) a.disk.files)])<|As.sc0 (vs:=[(AV.st [(AV.i .i64 a.disk.clock),((Ag 3 Ak.av) a.disk.files)])]) (r0:=(Aj.av (Ol (⟨a.disk.clock,a.disk.files⟩:Aj)))) kr kr (Oy W (⟨a.disk.clock,a.disk.files⟩:Aj) sd) kr le<|Dq (AV.own 3 0 a.log.length)<|Dq (AV.loc 0 0 7)<|Dq ((Ag 3 A2.av) a.deps)<|As.sc0 (vs:=[((Ag 3 A2.av) a.deps)]) (r0:=((Ag 3 A2.av) (Qv a.deps))) kr kr (MR W a.deps sd) kr le<|Dq (AV.loc 0 0 8)<|Dq (AV.i .i64 a.jobs)<|Dq (AV.loc 0 0 9)<|Dq (AV.b a.going)<|Dq (AV.own 5 0 a.status.length)<|Nd (Dh a) ?_
 refine As.st (by decide) (x:=AV.und) (h':=⟨6,[(5,some ⟨3,1,a.status.map (AV.i .i64)⟩),(4,none),(3,some ⟨56,3,a.log.map A6.av⟩),(2,none),(1,some ⟨35,11,[(Dh a)]⟩),(0,some ⟨35,11,[(A7.av a)]⟩)]⟩) kr<|As.fin<|Rt ?_
 have hM:CJ a=(⟨(⟨(Jl (⟨a.graph.edges,a.graph.pools,a.graph.defaults⟩:A3)).edges,(Jl (⟨a.graph.edges,a.graph.pools,a.graph.defaults⟩:A3)).pools,(Jl (⟨a.graph.edges,a.graph.pools,a.graph.defaults⟩:A3)).defaults⟩:A3),(Qo a.actions),(⟨(Ol (⟨a.disk.clock,a.disk.files⟩:Aj)).clock,(Ol (⟨a.disk.clock,a.disk.files⟩:Aj)).files⟩:Aj),a.log,(Qv a.deps),a.jobs,a.going,a.status⟩:A7):=by simp only [CJ,Aw]
 refine ⟨Or.inr rfl,(Dh a),kr,?_⟩
 rw [hM]
 exact AE.cast (x':=(Dh a)) (y':=(A7.av (⟨(⟨(Jl (⟨a.graph.edges,a.graph.pools,a.graph.defaults⟩:A3)).edges,(Jl (⟨a.graph.edges,a.graph.pools,a.graph.defaults⟩:A3)).pools,(Jl (⟨a.graph.edges,a.graph.pools,a.graph.defaults⟩:A3)).defaults⟩:A3),(Qo a.actions),(⟨(Ol (⟨a.disk.clock,a.disk.files⟩:Aj)).clock,(Ol (⟨a.disk.clock,a.disk.files⟩:Aj)).files⟩:Aj),a.log,(Qv a.deps),a.jobs,a.going,a.status⟩:A7))) kr kr (AE.st ⟨Ec,⟨Ec,⟨Ec,⟨Ec,⟨Ec,⟨Ec,⟨(Dk.kk (x':=(AV.own 3 0 a.log.length)) kr kr rfl (Al.row (fun _=>rfl) (A:=A6.av) (id:=3) (e:=56) (k:=3) (xs:=a.log) rfl rfl rfl sd)),⟨Ec,⟨Ec,⟨Ec,⟨(Dk.kk (x':=(AV.own 5 0 a.status.length)) kr kr rfl (Al.row (fun _=>rfl) (A:=(AV.i .i64)) (id:=5) (e:=3) (k:=1) (xs:=a.status) rfl rfl rfl sd)),trivial⟩⟩⟩⟩⟩⟩⟩⟩⟩⟩⟩ kr)
theorem HH (W:World) (x':ByteArray):Ah Go.Proofs.Tryz.prog W 201 [(AV.s x')] (AV.b (K8 x')) []:=by
 refine A9 (fn:=Go.Proofs.Tryz.f201) Go.Proofs.Tryz.func201 rfl (en201 W) (ts:=[2]) rfl le<|Sq<|Rg<|Aq (AV.b false)<|Ad<|Sq<|Rg<|Aq (AV.s x')<|Aq (AV.s x')<|Aq (AV.b (!decide (x'=x')))<|Aq (AV.b (!decide (x'=x')))<|Ad<|Rt ?_
 exact Fb rfl (by simp only [K8,Aw])
theorem Ku (W:World) (x':ByteArray) (y:ByteArray):Ah Go.Proofs.Tryz.prog W 169 [(AV.s x'),(AV.s y)] (AV.i .i64 (LB x' y)) []:=by
 refine A9 (fn:=Go.Proofs.Tryz.f169) Go.Proofs.Tryz.func169 rfl (en169 W) (ts:=[4]) rfl le<|Sq<|Rg<|Aq (AV.i .i64 (0:Int))<|Ad<|Sq<|Rg<|Aq (AV.s x')<|A1.sc0 (vs:=[(AV.s x')]) (r0:=(AV.b (K8 x'))) kr kr (HH W x') kr le<|Aq (AV.b (K8 x'))<|Ad<|Sq<|Rg<|Aq (AV.s y)<|A1.sc0 (vs:=[(AV.s y)]) (r0:=(AV.b (K8 y))) kr kr (HH W y) kr le<|Aq (AV.b (K8 y))<|Ad<|Sq<|Sq<|Rg<|Aq (AV.b (K8 x'))<|Ad ?_
 cases c_1:(K8 x')
 refine Cf<|A4.skip<|Sq<|Sq<|Rg<|Aq (AV.b (K8 y))<|Ad ?_
 cases c_2:(K8 y)
 refine Cf<|A4.skip<|Sq<|Sq<|Rg<|Aq (AV.s x')<|Aq (AV.s y)<|Aq (AV.b (Op.bytesLess x'.toList y.toList))<|Ad ?_
 cases c_3:(Op.bytesLess x'.toList y.toList)
 refine Cf<|A4.skip<|Sq<|Sq<|Rg<|Aq (AV.s x')<|Aq (AV.s y)<|Aq (AV.b (!(Op.bytesLess x'.toList y.toList||decide (x'=y))))<|Ad ?_
 cases c_4:(!(Op.bytesLess x'.toList y.toList||decide (x'=y)))
 refine Cf<|A4.skip<|Sq<|Rg<|Aq (AV.i .i64 (0:Int))<|Ad<|Rt ?_
 try simp only [c_3,Aw] at c_4
 exact Fi rfl (by simp only [LB,c_1,c_2,c_3,c_4,Aw])
 refine Ct<|Sq<|Rg<|Aq (AV.i .i64 (1:Int))<|Ad<|Rt ?_
 try simp only [c_3,Aw] at c_4
 exact Fi rfl (by simp only [LB,c_1,c_2,c_3,c_4,Aw])
 refine Ct<|Sq<|Rg<|Aq (AV.i .i64 (-1:Int))<|Ad<|Rt ?_
 exact Fi rfl (by simp only [LB,c_1,c_2,c_3,Aw])
 refine Ct<|Sq<|Rg<|Aq (AV.i .i64 (1:Int))<|Ad<|Rt ?_
 exact Fi rfl (by simp only [LB,c_1,c_2,Aw])
 refine Ct<|Sq<|Sq<|Rg<|Aq (AV.b (K8 y))<|Ad ?_
 cases c_5:(K8 y)
 refine Cf<|A4.skip<|Sq<|Rg<|Aq (AV.i .i64 (-1:Int))<|Ad<|Rt ?_
 exact Fi rfl (by simp only [LB,c_1,c_5,Aw])
 refine Ct<|Sq<|Rg<|Aq (AV.i .i64 (0:Int))<|Ad<|Rt ?_
 exact Fi rfl (by simp only [LB,c_1,c_5,Aw])
theorem Qc (W:World) (f:Ak) (s':ByteArray):Ah Go.Proofs.Tryz.prog W 168 [(Ak.av f),(AV.s s')] (AV.i .i64 (HM f s')) []:=by
 refine A9 (fn:=Go.Proofs.Tryz.f168) Go.Proofs.Tryz.func168 rfl (en168 W) (ts:=[4]) rfl le<|Sq<|Rg<|Nn (AV.loc 0 0 0) ⟨85,3,[(Ak.av f)]⟩<|Aq (AV.i .i64 (0:Int))<|Ad<|Sq<|Rg<|Aq (AV.loc 0 0 0)<|Aq (AV.s f.name)<|Aq (AV.s s')<|A1.sc0 (vs:=[(AV.s f.name),(AV.s s')]) (r0:=(AV.i .i64 (LB f.name s'))) kr kr (Ku W f.name s') kr le<|Aq (AV.i .i64 (LB f.name s'))<|Ad<|Rt ?_
 exact Fi rfl (by simp only [HM,Aw])
theorem CW (W:World) (x':List Ak) (target:ByteArray) (f_cmp:FuncId) (c_cmp:List AV) (cmp:Ak→ByteArray→Int) (hcl_cmp:Ac c_cmp=true) (hp_cmp: ∀(z0:Ak) (z1:ByteArray),Ah Go.Proofs.Tryz.prog W f_cmp ((Ak.av z0)::(AV.s z1)::c_cmp) (AV.i .i64 (cmp z0 z1)) []) (hz:x'.length≤1048576):Ah Go.Proofs.Tryz.prog W 167 [((Ag 3 Ak.av) x'),(AV.s target),(AV.fn f_cmp c_cmp)] (AV.tup [(AV.i .i64 ((OM x' target cmp).1)),(AV.b ((OM x' target cmp).2))]) []:=by
 refine A9 (fn:=Go.Proofs.Tryz.f167) Go.Proofs.Tryz.func167 rfl (en167 W) (ts:=[6,7]) rfl le<|Sq<|Rg<|Aq (AV.i .i64 (0:Int))<|Aq (AV.b false)<|Ad<|Sq<|Rg<|Aq ((Ag 3 Ak.av) x')<|Ap (Ai x'.length) (AN (k:=3) (nl:=false) (e:=85) (A:=Ak.av) (xs:=x') kr kr)<|Aq (Ai x'.length)<|Ad<|Sq<|Rg<|Aq (Ai x'.length)<|Aq (AV.i .i64 (0:Int))<|Aq (Ai x'.length)<|Ad<|Sq<|A4.block ?_
 obtain ⟨R1,hR1⟩: ∃R,XI cmp x' target ((((x'.length:Nat):Int)-(0:Int)).toNat+1) (0:Int) ((x'.length:Nat):Int)=R:=⟨_,rfl⟩
 refine Av (fun ((kf1,(i,j)):Nat×(Int×Int))=>[(0,((Ag 3 Ak.av) x')),(1,(AV.s target)),(2,(AV.fn f_cmp c_cmp)),(8,(Ai x'.length)),(9,(AV.i .i64 i)),(10,(AV.i .i64 j))]) (fun ((kf1,(i,j)):Nat×(Int×Int))=>⟨0,[]⟩) (fun ((kf1,(i,j)):Nat×(Int×Int))=>(j-i).toNat<kf1∧0≤i∧i≤j∧j≤((x'.length:Nat):Int)∧XI cmp x' target kf1 i j=R1) (fun ((kf1,(i,j)):Nat×(Int×Int))=>kf1) ((((x'.length:Nat):Int)-(0:Int)).toNat+1,((0:Int),((x'.length:Nat):Int))) ?_ ?_ ?_
 exact ⟨[],⟨by decide,rfl,A0.nil,(Ee (Ee (Af.cons (AE.c kr hcl_cmp) (Ee (Ee (Ee Af.nil))))))⟩,Ar⟩
 exact ⟨od,DO,DO,DO,hR1⟩
 rintro ⟨kf1,i,j⟩ ⟨hi1,h0,h1,h2,hE1⟩
 try dsimp only
 rcases kf1 with _|kf1
 exact absurd hi1 (Nat.not_lt_zero _)
 rw [XI.eq_2] at hE1
 refine Sq<|Sq<|Rg<|Aq (AV.i .i64 i)<|Aq (AV.i .i64 j)<|Aq (AV.b (decide (i<j)))<|Ad ?_
 cases c_1:decide (i<j)
 have k_1:=of_decide_eq_false c_1
 refine Cf<|A4.exit ?_
 try simp only [c_1,Aw] at hE1
 subst hE1
 refine Sq<|Rg<|Aq (AV.i .i64 i)<|Aq (AV.i .i64 i)<|Aq (Ai x'.length)<|Aq (AV.b (decide (i<((x'.length:Nat):Int))))<|Aq (AV.b (decide (i<((x'.length:Nat):Int)))) ?_
 cases c_2:decide (i<((x'.length:Nat):Int))
 have k_2:=of_decide_eq_false c_2
 refine An<|An<|An<|An<|An<|An<|An<|An<|Aq (AV.b false)<|Aq (AV.i .i64 i)<|Aq (AV.b false)<|Ad<|Rt ?_
 have hM:OM x' target cmp=(i,false):=by simp only [OM,hR1,c_2,Aw]
 refine ⟨Or.inr rfl,?_⟩
 rw [hM]
 exact AE.cast (x':=(AV.tup [(AV.i .i64 i),(AV.b false)])) (y':=(AV.tup [(AV.i .i64 ((i,false).1)),(AV.b ((i,false).2))])) kr kr (AE.tup ⟨Ec,⟨Ec,trivial⟩⟩ kr)
 have k_2:=of_decide_eq_true c_2
 have q_2:=of_decide_eq_true c_2
 refine Ay<|Aq (AV.fn f_cmp c_cmp)<|Ay<|Aq ((Ag 3 Ak.av) x')<|Ay<|Aq (AV.i .i64 i)<|Ay<|Ap (AV.pt (Ak.av (x'.getD i.toNat default)).cells) (Ei (k:=3) (nl:=false) (e:=85) (kk:= .i64) (A:=Ak.av) (xs:=x') (n:=i) kr kr kr ⟨by kernel_rfl,by decide⟩ sd (getD_some sd))<|Ay<|Aq (Ak.av (x'.getD i.toNat default))<|Ay<|Aq (AV.s target)<|Ay<|A1.sc0 (vs:=((Ak.av (x'.getD i.toNat default))::(AV.s target)::c_cmp)) (r0:=(AV.i .i64 (cmp (x'.getD i.toNat default) target))) kr (by simp only [Ac,Bool.and_eq_true];exact ⟨by kernel_rfl,⟨by kernel_rfl,hcl_cmp⟩⟩) (hp_cmp (x'.getD i.toNat default) target) kr le<|Ay<|Aq (AV.b (decide ((cmp (x'.getD i.toNat default) target)=(0:Int))))<|Aq (AV.b (decide ((cmp (x'.getD i.toNat default) target)=(0:Int))))<|Aq (AV.i .i64 i)<|Aq (AV.b (decide ((cmp (x'.getD i.toNat default) target)=(0:Int))))<|Ad<|Rt ?_
 have hM:OM x' target cmp=(i,decide ((cmp (x'.getD i.toNat default) target)=(0:Int))):=by simp only [OM,hR1,c_2,Aw]
 refine ⟨Or.inr rfl,?_⟩
 rw [hM]
 exact AE.cast (x':=(AV.tup [(AV.i .i64 i),(AV.b (decide ((cmp (x'.getD i.toNat default) target)=(0:Int))))])) (y':=(AV.tup [(AV.i .i64 ((i,decide ((cmp (x'.getD i.toNat default) target)=(0:Int))).1)),(AV.b ((i,decide ((cmp (x'.getD i.toNat default) target)=(0:Int))).2))])) kr kr (AE.tup ⟨Ec,⟨Ec,trivial⟩⟩ kr)
 have k_1:=of_decide_eq_true c_1
 have q_1:=UO h0 (of_decide_eq_true c_1) h2 hz
 refine Ct<|A4.skip<|A4.block<|Sq<|Rg<|Aq (AV.i .i64 i)<|Aq (AV.i .i64 j)<|Aq (AV.i .i64 (IntKind.wrap .i64 (i+j)))<|Aq (AV.i .u64 (IntKind.wrap .u64 (IntKind.wrap .i64 (i+j))))<|Ap (AV.i .u64 (Int.fdiv (IntKind.wrap .u64 (IntKind.wrap .i64 (i+j))) (2^(min 1 IntKind.u64.bits)))) (g_shr (k:= .u64) (k':= .u64) (a:=(IntKind.wrap .u64 (IntKind.wrap .i64 (i+j)))) (n:=1) kr kr)<|Aq (AV.i .i64 (IntKind.wrap .i64 (Int.fdiv (IntKind.wrap .u64 (IntKind.wrap .i64 (i+j))) (2^(min 1 IntKind.u64.bits)))))<|Aq (AV.i .i64 (IntKind.wrap .i64 (Int.fdiv (IntKind.wrap .u64 (IntKind.wrap .i64 (i+j))) (2^(min 1 IntKind.u64.bits)))))<|Ad<|Sq<|Rg<|Aq (AV.fn f_cmp c_cmp)<|Aq ((Ag 3 Ak.av) x')<|Aq (AV.i .i64 (IntKind.wrap .i64 (Int.fdiv (IntKind.wrap .u64 (IntKind.wrap .i64 (i+j))) (2^(min 1 IntKind.u64.bits)))))<|Ap (AV.pt (Ak.av (x'.getD (IntKind.wrap .i64 (Int.fdiv (IntKind.wrap .u64 (IntKind.wrap .i64 (i+j))) (2^(min 1 IntKind.u64.bits)))).toNat default)).cells) (Ei (k:=3) (nl:=false) (e:=85) (kk:= .i64) (A:=Ak.av) (xs:=x') (n:=(IntKind.wrap .i64 (Int.fdiv (IntKind.wrap .u64 (IntKind.wrap .i64 (i+j))) (2^(min 1 IntKind.u64.bits))))) kr kr kr ⟨by kernel_rfl,by decide⟩ sd (getD_some sd))<|Aq (Ak.av (x'.getD (IntKind.wrap .i64 (Int.fdiv (IntKind.wrap .u64 (IntKind.wrap .i64 (i+j))) (2^(min 1 IntKind.u64.bits)))).toNat default))<|Aq (AV.s target)<|A1.sc0 (vs:=((Ak.av (x'.getD (IntKind.wrap .i64 (Int.fdiv (IntKind.wrap .u64 (IntKind.wrap .i64 (i+j))) (2^(min 1 IntKind.u64.bits)))).toNat default))::(AV.s target)::c_cmp)) (r0:=(AV.i .i64 (cmp (x'.getD (IntKind.wrap .i64 (Int.fdiv (IntKind.wrap .u64 (IntKind.wrap .i64 (i+j))) (2^(min 1 IntKind.u64.bits)))).toNat default) target))) kr (by simp only [Ac,Bool.and_eq_true];exact ⟨by kernel_rfl,⟨by kernel_rfl,hcl_cmp⟩⟩) (hp_cmp (x'.getD (IntKind.wrap .i64 (Int.fdiv (IntKind.wrap .u64 (IntKind.wrap .i64 (i+j))) (2^(min 1 IntKind.u64.bits)))).toNat default) target) kr le ?_
 refine Aq (AV.b (decide ((cmp (x'.getD (IntKind.wrap .i64 (Int.fdiv (IntKind.wrap .u64 (IntKind.wrap .i64 (i+j))) (2^(min 1 IntKind.u64.bits)))).toNat default) target)<(0:Int))))<|Ad ?_
 cases c_3:decide ((cmp (x'.getD (IntKind.wrap .i64 (Int.fdiv (IntKind.wrap .u64 (IntKind.wrap .i64 (i+j))) (2^(min 1 IntKind.u64.bits)))).toNat default) target)<(0:Int))
 have k_3:=of_decide_eq_false c_3
 refine Cf<|Rg<|Aq (AV.i .i64 (IntKind.wrap .i64 (Int.fdiv (IntKind.wrap .u64 (IntKind.wrap .i64 (i+j))) (2^(min 1 IntKind.u64.bits)))))<|Aq (AV.i .i64 (IntKind.wrap .i64 (Int.fdiv (IntKind.wrap .u64 (IntKind.wrap .i64 (i+j))) (2^(min 1 IntKind.u64.bits)))))<|Ad ?_
 try simp only [c_1,c_3,Aw] at hE1
 refine ⟨(kf1,(i,(IntKind.wrap .i64 (Int.fdiv (IntKind.wrap .u64 (IntKind.wrap .i64 (i+j))) (2^(min 1 IntKind.u64.bits)))))),od,⟨DO,DO,DO,DO,hE1⟩,?_⟩
 exact ⟨[],⟨by decide,rfl,A0.nil,(Ee (Ee (Af.cons (AE.c kr hcl_cmp) (Ee (Ee (Ee Af.nil))))))⟩,Ar⟩
 have k_3:=of_decide_eq_true c_3
 refine Ct<|Rg<|Aq (AV.i .i64 (IntKind.wrap .i64 (Int.fdiv (IntKind.wrap .u64 (IntKind.wrap .i64 (i+j))) (2^(min 1 IntKind.u64.bits)))))<|Aq (AV.i .i64 (IntKind.wrap .i64 ((IntKind.wrap .i64 (Int.fdiv (IntKind.wrap .u64 (IntKind.wrap .i64 (i+j))) (2^(min 1 IntKind.u64.bits))))+(1:Int))))<|Aq (AV.i .i64 (IntKind.wrap .i64 ((IntKind.wrap .i64 (Int.fdiv (IntKind.wrap .u64 (IntKind.wrap .i64 (i+j))) (2^(min 1 IntKind.u64.bits))))+(1:Int))))<|Ad ?_
 try simp only [c_1,c_3,Aw] at hE1
 refine ⟨(kf1,((IntKind.wrap .i64 ((IntKind.wrap .i64 (Int.fdiv (IntKind.wrap .u64 (IntKind.wrap .i64 (i+j))) (2^(min 1 IntKind.u64.bits))))+(1:Int))),j)),od,⟨DO,DO,DO,DO,hE1⟩,?_⟩
 exact ⟨[],⟨by decide,rfl,A0.nil,(Ee (Ee (Af.cons (AE.c kr hcl_cmp) (Ee (Ee (Ee Af.nil))))))⟩,Ar⟩
theorem SO (W:World) (d:Aj) (s':ByteArray) (hz:d.sz≤1048576):Ah Go.Proofs.Tryz.prog W 129 [(AV.pt (Aj.av d).cells),(AV.s s')] (AV.tup [(AV.i .i64 ((DK d s').1)),(AV.b ((DK d s').2))]) []:=by
 have hl:=Dj Ak.sz_one d.files
 have hl2:=d.sz_files
 refine A9 (fn:=Go.Proofs.Tryz.f129) Go.Proofs.Tryz.func129 rfl (en129 W) (ts:=[4,5]) rfl le<|Sq<|Rg<|Aq (AV.i .i64 (0:Int))<|Aq (AV.b false)<|Ad<|Sq<|Rg<|Aq (AV.pt (Aj.av d).cells)<|Aq (AV.pt (Aj.av d).cells)<|Aq (AV.pt ((Aj.av d).cells.drop 1))<|Aq ((Ag 3 Ak.av) d.files)<|Aq (AV.s s')<|A1.sc0 (vs:=[((Ag 3 Ak.av) d.files),(AV.s s'),(AV.fn 168 [])]) (r0:=(AV.tup [(AV.i .i64 ((OM d.files s' (fun z0 z1=>HM z0 z1)).1)),(AV.b ((OM d.files s' (fun z0 z1=>HM z0 z1)).2))])) kr (by simp only [Ac,Bool.and_eq_true];exact ⟨by kernel_rfl,by kernel_rfl,kr,trivial⟩) (CW W d.files s' 168 [] (fun z0 z1=>HM z0 z1) kr (fun z0 z1=>(Qc W z0 z1)) sd) kr le<|Aq (AV.i .i64 ((OM d.files s' (fun z0 z1=>HM z0 z1)).1))<|Aq (AV.b ((OM d.files s' (fun z0 z1=>HM z0 z1)).2))<|Aq (AV.i .i64 ((OM d.files s' (fun z0 z1=>HM z0 z1)).1))<|Aq (AV.b ((OM d.files s' (fun z0 z1=>HM z0 z1)).2))<|Ad<|Rt ?_
 have hM:DK d s'=((OM d.files s' (fun z0 z1=>HM z0 z1)).1,(OM d.files s' (fun z0 z1=>HM z0 z1)).2):=by simp only [DK,Aw]
 refine ⟨Or.inr rfl,?_⟩
 rw [hM]
 exact AE.cast (x':=(AV.tup [(AV.i .i64 ((OM d.files s' (fun z0 z1=>HM z0 z1)).1)),(AV.b ((OM d.files s' (fun z0 z1=>HM z0 z1)).2))])) (y':=(AV.tup [(AV.i .i64 (((OM d.files s' (fun z0 z1=>HM z0 z1)).1,(OM d.files s' (fun z0 z1=>HM z0 z1)).2).1)),(AV.b (((OM d.files s' (fun z0 z1=>HM z0 z1)).1,(OM d.files s' (fun z0 z1=>HM z0 z1)).2).2))])) kr kr (AE.tup ⟨Ec,⟨Ec,trivial⟩⟩ kr)
def Eo (d:Aj) (s':ByteArray):AV:=(AV.i .i64 ((DK d s').1))
def FL:AV:=(AV.st [(AV.s (⟨#[]⟩:ByteArray)),(AV.i .i64 (0:Int)),(AV.i .i64 (0:Int))])
def Hu:Obj:=⟨85,3,[FL]⟩
def FK:AV:=(AV.tup [FL,(AV.b false)])
def Kh:AV:=(AV.tup [(Ak.av (((⟨(⟨#[]⟩:ByteArray),(0:Int),(0:Int)⟩:Ak),false).1)),(AV.b (((⟨(⟨#[]⟩:ByteArray),(0:Int),(0:Int)⟩:Ak),false).2))])
def Kg (d:Aj) (s':ByteArray):AV:=(AV.st [(AV.s ((d.files.getD ((DK d s').1).toNat default).name)),(AV.i .i64 ((d.files.getD ((DK d s').1).toNat default).content)),(AV.i .i64 ((d.files.getD ((DK d s').1).toNat default).time))])
def Kf (d:Aj) (s':ByteArray):AV:=(AV.tup [(Kg d s'),(AV.b true)])
theorem Id (W:World) {m0:Int} (hW:W.cell? ⟨0,0,none⟩=some (.int .i64 m0)) (d:Aj) (s':ByteArray) (hz:d.sz≤1048576):Ah Go.Proofs.Tryz.prog W 82 [(Aj.av d),(AV.s s')] (AV.tup [(Ak.av ((Cn d s').1)),(AV.b ((Cn d s').2))]) []:=by
 have hl:=Dj Ak.sz_one d.files
 have hl2:=d.sz_files
 refine BG A5 (fn:=Go.Proofs.Tryz.f82) Go.Proofs.Tryz.func82 rfl (en82 W) le<|Sq<|Rg<|Nn (AV.loc 0 0 0) ⟨30,2,[(Aj.av d)]⟩<|Nn (AV.loc 1 0 0) Hu<|Aq (AV.b false)<|Ad<|Sq<|Sq<|Rg<|Aq (AV.s s')<|A1.sfw (vs:=[(AV.loc 0 0 0),(AV.s s')]) (ss:=[(AV.pt (Aj.av d).cells),(AV.s s')]) (r0:=(AV.tup [(Eo d s'),(AV.b ((DK d s').2))])) kr (show Bc _ _ _ from ⟨(Al.w (Al.cast (x':=(AV.loc 0 0 0)) kr kr (Ce Aj.av d (id:=0) rfl rfl kr))),⟨(Bc.e kr),trivial⟩⟩) (SO W d s' sd) rfl kr le<|Aq (AV.tup [(Eo d s'),(AV.b ((DK d s').2))])<|Aq (Eo d s')<|Aq (AV.b ((DK d s').2))<|Aq (Eo d s')<|Aq (AV.b ((DK d s').2))<|Ad<|Sq<|Rg<|Aq (AV.b ((DK d s').2))<|Aq (AV.b ((DK d s').2)) ?_
 cases c_1:(DK d s').2
 refine An<|An<|Aq (AV.b false)<|Ad<|Cf<|A4.skip<|Sq<|Rg<|Nb FL<|Sp 1 Hu<|Aq (AV.b false)<|Ad<|Rt ?_
 have hM:Cn d s'=((⟨(⟨#[]⟩:ByteArray),(0:Int),(0:Int)⟩:Ak),false):=by simp only [Cn,c_1,Aw]
 refine ⟨Or.inr rfl,FK,kr,?_⟩
 rw [hM]
 exact AE.cast (x':=FK) (y':=Kh) kr kr (AE.tup ⟨Ec,⟨Ec,trivial⟩⟩ kr)
 have q_1:=XZ hz c_1
 refine Ay<|Aq (Aj.av d)<|Ay<|A1.sc0 (vs:=[(Aj.av d)]) (r0:=(AV.b (Do EU d))) kr kr (Qa W hW d) kr le<|Aq (AV.b (Do EU d))<|Ad ?_
 cases c_2:(Do EU d)
 refine Cf<|A4.skip<|Sq<|Rg<|Nb FL<|Sp 1 Hu<|Aq (AV.b false)<|Ad<|Rt ?_
 have hM:Cn d s'=((⟨(⟨#[]⟩:ByteArray),(0:Int),(0:Int)⟩:Ak),false):=by simp only [Cn,c_1,c_2,Aw]
 refine ⟨Or.inr rfl,FK,kr,?_⟩
 rw [hM]
 exact AE.cast (x':=FK) (y':=Kh) kr kr (AE.tup ⟨Ec,⟨Ec,trivial⟩⟩ kr)
 refine Ct<|Sq<|Rg<|Aq (AV.loc 0 0 1)<|Aq ((Ag 3 Ak.av) d.files)<|Aq (Eo d s')<|Ap (AV.pt (Ak.av (d.files.getD ((DK d s').1).toNat default)).cells) (Ei (k:=3) (nl:=false) (e:=85) (kk:= .i64) (A:=Ak.av) (xs:=d.files) (n:=((DK d s').1)) kr kr kr ⟨by kernel_rfl,by decide⟩ sd (getD_some sd))<|Aq (Ak.av (d.files.getD ((DK d s').1).toNat default))<|Sp 1 ⟨85,3,[(Kg d s')]⟩<|Aq (AV.b true)<|Ad<|Rt ?_
 have hM:Cn d s'=((⟨(d.files.getD ((DK d s').1).toNat default).name,(d.files.getD ((DK d s').1).toNat default).content,(d.files.getD ((DK d s').1).toNat default).time⟩:Ak),true):=by simp only [Cn,c_1,c_2,Aw]
 refine ⟨Or.inr rfl,(Kf d s'),kr,?_⟩
 rw [hM]
 exact AE.cast (x':=(Kf d s')) (y':=(AV.tup [(Ak.av (((⟨(d.files.getD ((DK d s').1).toNat default).name,(d.files.getD ((DK d s').1).toNat default).content,(d.files.getD ((DK d s').1).toNat default).time⟩:Ak),true).1)),(AV.b (((⟨(d.files.getD ((DK d s').1).toNat default).name,(d.files.getD ((DK d s').1).toNat default).content,(d.files.getD ((DK d s').1).toNat default).time⟩:Ak),true).2))])) kr kr (AE.tup ⟨Ec,⟨Ec,trivial⟩⟩ kr)
theorem WQ (W:World) {m0:Int} (hW:W.cell? ⟨0,0,none⟩=some (.int .i64 m0)) (e:A8) (hz:e.sz≤1048576):Ah Go.Proofs.Tryz.prog W 144 [(A8.av e)] (AV.tup [(AV.s ((JL e).1)),(AV.i .i64 ((JL e).2))]) []:=by
 have hs:=PZ hz
 have hl1:=Bp e.outs
 have hl2:=Bp e.ins
 have hl3:=Bp e.implicit
 have hl4:=e.sz_outs
 have hl5:=e.sz_ins
 have hl6:=e.sz_implicit
 refine A9 (fn:=Go.Proofs.Tryz.f144) Go.Proofs.Tryz.func144 rfl (en144 W) (ts:=[2,3]) rfl le<|Sq<|Rg<|Nn (AV.loc 0 0 0) ⟨65,7,[(A8.av e)]⟩<|Aq (AV.s (⟨#[]⟩:ByteArray))<|Aq (AV.i .i64 (0:Int))<|Ad<|Sq<|Sq<|Rg<|A1.sfw (vs:=[(AV.loc 0 0 0)]) (ss:=[(AV.pt (A8.av e).cells)]) (r0:=(AV.b (Nt e))) kr (show Bc _ _ _ from ⟨(Al.w (Al.cast (x':=(AV.loc 0 0 0)) kr kr (Ce A8.av e (id:=0) rfl rfl kr))),trivial⟩) (SP W hW e) rfl kr le<|Aq (AV.b (!(Nt e)))<|Ad ?_
 cases c_1:(!(Nt e))
 refine Cf<|A4.skip<|Sq<|Rg<|Aq (AV.s (⟨#[110]⟩:ByteArray))<|Ad ?_
 refine OE [(1,(AV.loc 0 0 0)),(4,(AV.s (bif e.deps then (⟨#[100]⟩:ByteArray) else (⟨#[110]⟩:ByteArray))))] ⟨1,[(0,some ⟨65,7,[(A8.av e)]⟩)]⟩ ?_ ?_
 refine Sq<|Rg<|Aq (AV.loc 0 0 5)<|Aq (AV.b e.deps)<|Ad ?_
 cases c_2:e.deps
 refine Cf<|A4.skip ?_
 exact ⟨[0],⟨by decide,rfl,(A0.cons kr A0.nil),(Af.cons (AE.f kr) (Ee Af.nil))⟩,Ar⟩
 refine Ct<|Rg<|Aq (AV.s (⟨#[100]⟩:ByteArray))<|Ad ?_
 exact ⟨[0],⟨by decide,rfl,(A0.cons kr A0.nil),(Af.cons (AE.f kr) (Ee Af.nil))⟩,Ar⟩
 refine Sq<|A4.drawn A5 C9 12 kr le<|Dq (AV.loc 0 0 0)<|Dq ((Ag 1 AV.s) e.outs)<|As.sc0 (vs:=[((Ag 1 AV.s) e.outs),(AV.s (⟨#[32]⟩:ByteArray))]) (r0:=(AV.s (C2 e.outs (⟨#[32]⟩:ByteArray)))) kr kr (FV W e.outs (⟨#[32]⟩:ByteArray) sd sd) kr le<|Dq (AV.loc 0 0 1)<|Dq ((Ag 1 AV.s) e.ins)<|As.sc0 (vs:=[((Ag 1 AV.s) e.ins),(AV.s (⟨#[32]⟩:ByteArray))]) (r0:=(AV.s (C2 e.ins (⟨#[32]⟩:ByteArray)))) kr kr (FV W e.ins (⟨#[32]⟩:ByteArray) sd sd) kr le<|Dq (AV.loc 0 0 2)<|Dq ((Ag 1 AV.s) e.implicit)<|As.sc0 (vs:=[((Ag 1 AV.s) e.implicit),(AV.s (⟨#[32]⟩:ByteArray))]) (r0:=(AV.s (C2 e.implicit (⟨#[32]⟩:ByteArray)))) kr kr (FV W e.implicit (⟨#[32]⟩:ByteArray) sd sd) kr le<|Dq (AV.s (bif e.deps then (⟨#[100]⟩:ByteArray) else (⟨#[110]⟩:ByteArray)))<|Dq (AV.loc 0 0 4)<|Dq (AV.s e.command)<|As.sn (x:=(AV.own 1 0 5)) (h':=⟨2,[(1,some ⟨9,1,[(C2 e.outs (⟨#[32]⟩:ByteArray)),(C2 e.ins (⟨#[32]⟩:ByteArray)),(C2 e.implicit (⟨#[32]⟩:ByteArray)),(bif e.deps then (⟨#[100]⟩:ByteArray) else (⟨#[110]⟩:ByteArray)),e.command].map AV.s⟩),(0,some ⟨65,7,[(A8.av e)]⟩)]⟩) kr le<|As.sfw (vs:=[(AV.own 1 0 5),(AV.s (⟨#[124]⟩:ByteArray))]) (ss:=[((Ag 1 AV.s) [(C2 e.outs (⟨#[32]⟩:ByteArray)),(C2 e.ins (⟨#[32]⟩:ByteArray)),(C2 e.implicit (⟨#[32]⟩:ByteArray)),(bif e.deps then (⟨#[100]⟩:ByteArray) else (⟨#[110]⟩:ByteArray)),e.command]),(AV.s (⟨#[124]⟩:ByteArray))]) (r0:=(AV.s (C2 [(C2 e.outs (⟨#[32]⟩:ByteArray)),(C2 e.ins (⟨#[32]⟩:ByteArray)),(C2 e.implicit (⟨#[32]⟩:ByteArray)),(bif e.deps then (⟨#[100]⟩:ByteArray) else (⟨#[110]⟩:ByteArray)),e.command] (⟨#[124]⟩:ByteArray)))) kr (show Bc _ _ _ from ⟨(Al.w (Al.cast (x':=(AV.own 1 0 5)) kr kr (Al.row (fun _=>rfl) (A:=AV.s) (id:=1) (e:=9) (k:=1) (xs:=[(C2 e.outs (⟨#[32]⟩:ByteArray)),(C2 e.ins (⟨#[32]⟩:ByteArray)),(C2 e.implicit (⟨#[32]⟩:ByteArray)),(bif e.deps then (⟨#[100]⟩:ByteArray) else (⟨#[110]⟩:ByteArray)),e.command]) rfl rfl sd sd))),⟨(Bc.e kr),trivial⟩⟩) (FV W [(C2 e.outs (⟨#[32]⟩:ByteArray)),(C2 e.ins (⟨#[32]⟩:ByteArray)),(C2 e.implicit (⟨#[32]⟩:ByteArray)),(bif e.deps then (⟨#[100]⟩:ByteArray) else (⟨#[110]⟩:ByteArray)),e.command] (⟨#[124]⟩:ByteArray) (signs5 hz) (by simp only [List.length_cons,List.length_nil];decide)) rfl kr le ?_
 refine Dq (AV.s (C2 [(C2 e.outs (⟨#[32]⟩:ByteArray)),(C2 e.ins (⟨#[32]⟩:ByteArray)),(C2 e.implicit (⟨#[32]⟩:ByteArray)),(bif e.deps then (⟨#[100]⟩:ByteArray) else (⟨#[110]⟩:ByteArray)),e.command] (⟨#[124]⟩:ByteArray)))<|Dq (AV.i .i64 (0:Int))<|As.fin<|Rt ?_
 exact WZ rfl (by simp only [JL,c_1,Aw])
 refine Ct<|Sq<|Rg<|Aq (AV.s (⟨#[]⟩:ByteArray))<|Aq (AV.i .i64 (1100:Int))<|Ad<|Rt ?_
 exact WZ rfl (by simp only [JL,c_1,Aw])
def Gx:AV:=(AV.st [(AV.s (⟨#[]⟩:ByteArray)),(AV.i .i64 (0:Int)),(AV.s (⟨#[]⟩:ByteArray))])
def Iv:Obj:=⟨56,3,[Gx]⟩
def Gw:AV:=(AV.tup [Gx,(AV.b false)])
def Le:AV:=(AV.tup [(A6.av ((El,false).1)),(AV.b ((El,false).2))])
theorem Vn (W:World) {m0:Int} (hW:W.cell? ⟨0,0,none⟩=some (.int .i64 m0)) (rs:List A6) (out:ByteArray) (hz:Eb A6.sz rs≤1048576):Ah Go.Proofs.Tryz.prog W 145 [((Ag 3 A6.av) rs),(AV.s out)] (AV.tup [(A6.av ((Dc rs out).1)),(AV.b ((Dc rs out).2))]) []:=by
 have hl:=Dj A6.sz_one rs
 have hla:=TH rs out
 refine BG A5 (fn:=Go.Proofs.Tryz.f145) Go.Proofs.Tryz.func145 rfl (en145 W) le<|Sq<|Rg<|Nn (AV.loc 0 0 0) Iv<|Aq (AV.b false)<|Ad<|Sq<|Rg<|Aq ((Ag 3 A6.av) rs)<|Aq (AV.s out)<|A1.sc0 (vs:=[((Ag 3 A6.av) rs),(AV.s out)]) (r0:=(AV.i .i64 (AU rs out))) kr kr (Vo W rs out sd) kr le<|Aq (AV.i .i64 (AU rs out))<|Ad<|Sq<|Sq<|Rg<|Aq (AV.i .i64 (AU rs out))<|Aq (AV.b (decide ((AU rs out)<(0:Int))))<|Aq (AV.b (decide ((AU rs out)<(0:Int)))) ?_
 cases c_1:decide ((AU rs out)<(0:Int))
 have k_1:=of_decide_eq_false c_1
 refine Ay<|Aq ((Ag 3 A6.av) rs)<|Ay<|A1.sc0 (vs:=[((Ag 3 A6.av) rs)]) (r0:=(AV.b (L0 rs))) kr kr (RK W hW rs) kr le<|Ay<|Aq (AV.b (!(L0 rs)))<|Aq (AV.b (!(L0 rs)))<|Ad ?_
 cases c_2:(!(L0 rs))
 refine Cf<|A4.skip<|Sq<|Rg<|Aq ((Ag 3 A6.av) rs)<|Aq (AV.i .i64 (AU rs out))<|Ap (AV.pt (A6.av (rs.getD (AU rs out).toNat default)).cells) (Ei (k:=3) (nl:=false) (e:=56) (kk:= .i64) (A:=A6.av) (xs:=rs) (n:=(AU rs out)) kr kr kr ⟨by kernel_rfl,by decide⟩ sd (getD_some sd))<|Aq (A6.av (rs.getD (AU rs out).toNat default))<|Sp 0 ⟨56,3,[(AV.st [(AV.s ((rs.getD (AU rs out).toNat default).out)),(AV.i .i64 ((rs.getD (AU rs out).toNat default).time)),(AV.s ((rs.getD (AU rs out).toNat default).sign))])]⟩<|Aq (AV.b true)<|Ad<|Rt ?_
 have hM:Dc rs out=((⟨(rs.getD (AU rs out).toNat default).out,(rs.getD (AU rs out).toNat default).time,(rs.getD (AU rs out).toNat default).sign⟩:A6),true):=by simp only [Dc,c_1,c_2,Aw]
 refine ⟨Or.inr rfl,(AV.tup [(AV.st [(AV.s ((rs.getD (AU rs out).toNat default).out)),(AV.i .i64 ((rs.getD (AU rs out).toNat default).time)),(AV.s ((rs.getD (AU rs out).toNat default).sign))]),(AV.b true)]),kr,?_⟩
 rw [hM]
 exact AE.cast (x':=(AV.tup [(AV.st [(AV.s ((rs.getD (AU rs out).toNat default).out)),(AV.i .i64 ((rs.getD (AU rs out).toNat default).time)),(AV.s ((rs.getD (AU rs out).toNat default).sign))]),(AV.b true)])) (y':=(AV.tup [(A6.av (((⟨(rs.getD (AU rs out).toNat default).out,(rs.getD (AU rs out).toNat default).time,(rs.getD (AU rs out).toNat default).sign⟩:A6),true).1)),(AV.b (((⟨(rs.getD (AU rs out).toNat default).out,(rs.getD (AU rs out).toNat default).time,(rs.getD (AU rs out).toNat default).sign⟩:A6),true).2))])) kr kr (AE.tup ⟨Ec,⟨Ec,trivial⟩⟩ kr)
 refine Ct<|Sq<|Rg<|Nb Gx<|Sp 0 Iv<|Aq (AV.b false)<|Ad<|Rt ?_
 have hM:Dc rs out=(El,false):=by simp only [Dc,c_1,c_2,Aw]
 refine ⟨Or.inr rfl,Gw,kr,?_⟩
 rw [hM]
 exact AE.cast (x':=Gw) (y':=Le) kr kr (AE.tup ⟨Ec,⟨Ec,trivial⟩⟩ kr)
 have k_1:=of_decide_eq_true c_1
 refine An<|An<|An<|Aq (AV.b true)<|Ad<|Ct<|Sq<|Rg<|Nb Gx<|Sp 0 Iv<|Aq (AV.b false)<|Ad<|Rt ?_
 have hM:Dc rs out=(El,false):=by simp only [Dc,c_1,Aw]
 refine ⟨Or.inr rfl,Gw,kr,?_⟩
 rw [hM]
 exact AE.cast (x':=Gw) (y':=Le) kr kr (AE.tup ⟨Ec,⟨Ec,trivial⟩⟩ kr)
theorem QP (W:World) (f:A2) (hz:f.sz≤1048576):Ah Go.Proofs.Tryz.prog W 148 [(A2.av f)] (A2.av (GR f)) []:=by
 have hr1:=Bp f.ins
 have hr2:=f.sz_ins
 refine BG A5 (fn:=Go.Proofs.Tryz.f148) Go.Proofs.Tryz.func148 rfl (en148 W) le<|Sq<|Rg<|Nn (AV.loc 0 0 0) ⟨61,3,[(A2.av f)]⟩<|Nn (AV.loc 1 0 0) ⟨61,3,[(AV.st [(AV.s (⟨#[]⟩:ByteArray)),(AV.i .i64 (0:Int)),(AV.sl 1 true [])])]⟩<|Ad<|Sq<|Rg<|Aq (AV.loc 0 0 2)<|Aq ((Ag 1 AV.s) f.ins)<|A1.sc0 (vs:=[((Ag 1 AV.s) f.ins)]) (r0:=((Ag 1 AV.s) (Ik f.ins))) kr kr (H0 W f.ins sd) kr le<|Aq (AV.loc 0 0 2)<|Sp 0 ⟨61,3,[(AV.st [(AV.s f.out),(AV.i .i64 f.time),((Ag 1 AV.s) (Ik f.ins))])]⟩<|Ad<|Sq<|Rg<|Aq (AV.st [(AV.s f.out),(AV.i .i64 f.time),((Ag 1 AV.s) (Ik f.ins))])<|Sp 1 ⟨61,3,[(AV.st [(AV.s f.out),(AV.i .i64 f.time),((Ag 1 AV.s) (Ik f.ins))])]⟩<|Ad<|Rt ?_
 have hM:GR f=(⟨f.out,f.time,(Ik f.ins)⟩:A2):=by simp only [GR,Aw]
 refine ⟨Or.inr rfl,(AV.st [(AV.s f.out),(AV.i .i64 f.time),((Ag 1 AV.s) (Ik f.ins))]),kr,?_⟩
 rw [hM]
 exact Ec
def EA:AV:=(AV.st [(AV.s (⟨#[]⟩:ByteArray)),(AV.i .i64 (0:Int)),(AV.sl 1 true [])])
def Gi:Obj:=⟨61,3,[EA]⟩
def Ez:AV:=(AV.tup [EA,(AV.b false)])
def IP:AV:=(AV.tup [(A2.av (((⟨(⟨#[]⟩:ByteArray),(0:Int),[]⟩:A2),false).1)),(AV.b (((⟨(⟨#[]⟩:ByteArray),(0:Int),[]⟩:A2),false).2))])
theorem QQ (W:World) {m0:Int} (hW:W.cell? ⟨0,0,none⟩=some (.int .i64 m0)) (fs:List A2) (out:ByteArray) (hz:Eb A2.sz fs≤1048576):Ah Go.Proofs.Tryz.prog W 99 [((Ag 3 A2.av) fs),(AV.s out)] (AV.tup [(A2.av ((Ey fs out).1)),(AV.b ((Ey fs out).2))]) []:=by
 have hl:=Dj A2.sz_one fs
 have hla:=K0 fs out
 refine BG A5 (fn:=Go.Proofs.Tryz.f99) Go.Proofs.Tryz.func99 rfl (en99 W) le<|Sq<|Rg<|Nn (AV.loc 0 0 0) Gi<|Aq (AV.b false)<|Ad<|Sq<|Rg<|Aq ((Ag 3 A2.av) fs)<|Aq (AV.s out)<|A1.sc0 (vs:=[((Ag 3 A2.av) fs),(AV.s out)]) (r0:=(AV.i .i64 (Ax fs out))) kr kr (QR W fs out sd) kr le<|Aq (AV.i .i64 (Ax fs out))<|Ad<|Sq<|Sq<|Rg<|Aq (AV.i .i64 (Ax fs out))<|Aq (AV.b (decide ((Ax fs out)<(0:Int))))<|Aq (AV.b (decide ((Ax fs out)<(0:Int)))) ?_
 cases c_1:decide ((Ax fs out)<(0:Int))
 have k_1:=of_decide_eq_false c_1
 refine Ay<|Aq ((Ag 3 A2.av) fs)<|Ay<|A1.sc0 (vs:=[((Ag 3 A2.av) fs)]) (r0:=(AV.b (LF fs))) kr kr (MQ W hW fs) kr le<|Ay<|Aq (AV.b (!(LF fs)))<|Aq (AV.b (!(LF fs)))<|Ad ?_
 cases c_2:(!(LF fs))
 refine Cf<|A4.skip<|Sq<|Rg<|Aq ((Ag 3 A2.av) fs)<|Aq (AV.i .i64 (Ax fs out))<|Ap (AV.pt (A2.av (fs.getD (Ax fs out).toNat default)).cells) (Ei (k:=3) (nl:=false) (e:=61) (kk:= .i64) (A:=A2.av) (xs:=fs) (n:=(Ax fs out)) kr kr kr ⟨by kernel_rfl,by decide⟩ sd (getD_some sd))<|Aq (A2.av (fs.getD (Ax fs out).toNat default))<|A1.sc0 (vs:=[(A2.av (fs.getD (Ax fs out).toNat default))]) (r0:=(A2.av (GR (fs.getD (Ax fs out).toNat default)))) kr kr (QP W (fs.getD (Ax fs out).toNat default) (P9 hz sd)) kr le<|Sp 0 ⟨61,3,[(AV.st [(AV.s ((GR (fs.getD (Ax fs out).toNat default)).out)),(AV.i .i64 ((GR (fs.getD (Ax fs out).toNat default)).time)),((Ag 1 AV.s) ((GR (fs.getD (Ax fs out).toNat default)).ins))])]⟩<|Aq (AV.b true)<|Ad<|Rt ?_
 have hM:Ey fs out=((⟨(GR (fs.getD (Ax fs out).toNat default)).out,(GR (fs.getD (Ax fs out).toNat default)).time,(GR (fs.getD (Ax fs out).toNat default)).ins⟩:A2),true):=by simp only [Ey,c_1,c_2,Aw]
 refine ⟨Or.inr rfl,(AV.tup [(AV.st [(AV.s ((GR (fs.getD (Ax fs out).toNat default)).out)),(AV.i .i64 ((GR (fs.getD (Ax fs out).toNat default)).time)),((Ag 1 AV.s) ((GR (fs.getD (Ax fs out).toNat default)).ins))]),(AV.b true)]),kr,?_⟩
 rw [hM]
 exact AE.cast (x':=(AV.tup [(AV.st [(AV.s ((GR (fs.getD (Ax fs out).toNat default)).out)),(AV.i .i64 ((GR (fs.getD (Ax fs out).toNat default)).time)),((Ag 1 AV.s) ((GR (fs.getD (Ax fs out).toNat default)).ins))]),(AV.b true)])) (y':=(AV.tup [(A2.av (((⟨(GR (fs.getD (Ax fs out).toNat default)).out,(GR (fs.getD (Ax fs out).toNat default)).time,(GR (fs.getD (Ax fs out).toNat default)).ins⟩:A2),true).1)),(AV.b (((⟨(GR (fs.getD (Ax fs out).toNat default)).out,(GR (fs.getD (Ax fs out).toNat default)).time,(GR (fs.getD (Ax fs out).toNat default)).ins⟩:A2),true).2))])) kr kr (AE.tup ⟨Ec,⟨Ec,trivial⟩⟩ kr)
 refine Ct<|Sq<|Rg<|Nb EA<|Sp 0 Gi<|Aq (AV.b false)<|Ad<|Rt ?_
 have hM:Ey fs out=((⟨(⟨#[]⟩:ByteArray),(0:Int),[]⟩:A2),false):=by simp only [Ey,c_1,c_2,Aw]
 refine ⟨Or.inr rfl,Ez,kr,?_⟩
 rw [hM]
 exact AE.cast (x':=Ez) (y':=IP) kr kr (AE.tup ⟨(AE.st ⟨Ec,⟨Ec,⟨(AE.w rfl (AP.nil 1)),trivial⟩⟩⟩ kr),⟨Ec,trivial⟩⟩ kr)
 have k_1:=of_decide_eq_true c_1
 refine An<|An<|An<|Aq (AV.b true)<|Ad<|Ct<|Sq<|Rg<|Nb EA<|Sp 0 Gi<|Aq (AV.b false)<|Ad<|Rt ?_
 have hM:Ey fs out=((⟨(⟨#[]⟩:ByteArray),(0:Int),[]⟩:A2),false):=by simp only [Ey,c_1,Aw]
 refine ⟨Or.inr rfl,Ez,kr,?_⟩
 rw [hM]
 exact AE.cast (x':=Ez) (y':=IP) kr kr (AE.tup ⟨(AE.st ⟨Ec,⟨Ec,⟨(AE.w rfl (AP.nil 1)),trivial⟩⟩⟩ kr),⟨Ec,trivial⟩⟩ kr)
theorem FS (W:World) {m0:Int} (hW:W.cell? ⟨0,0,none⟩=some (.int .i64 m0)) (l:Am) (s':ByteArray) (hz:l.state.sz≤1048576) (he:l.edge.sz≤1048576):Ah Go.Proofs.Tryz.prog W 56 [(Am.av l),(AV.s s')] (AV.b (Nk l s')) []:=by
 have hg1:=l.state.sz_graph
 have hg3:=l.state.sz_disk
 have hg4:=l.state.sz_log
 have hg5:=l.state.sz_deps
 refine A9 (fn:=Go.Proofs.Tryz.f56) Go.Proofs.Tryz.func56 rfl (en56 W) (ts:=[4]) rfl le<|Sq<|Rg<|Nn (AV.loc 0 0 0) ⟨104,2,[(Am.av l)]⟩<|Aq (AV.b false)<|Ad<|Sq<|Rg<|Aq (AV.loc 0 0 0)<|Aq (AV.pt (A7.av l.state).cells)<|Aq (AV.pt (A7.av l.state).cells)<|Aq (AV.pt ((A7.av l.state).cells.drop 4))<|Aq (Aj.av l.state.disk)<|Aq (AV.s s')<|A1.sc0 (vs:=[(Aj.av l.state.disk),(AV.s s')]) (r0:=(AV.tup [(Ak.av ((Cn l.state.disk s').1)),(AV.b ((Cn l.state.disk s').2))])) kr kr (Id W hW l.state.disk s' sd) kr le<|Aq (AV.tup [(Ak.av ((Cn l.state.disk s').1)),(AV.b ((Cn l.state.disk s').2))])<|Aq (Ak.av ((Cn l.state.disk s').1))<|Aq (AV.b ((Cn l.state.disk s').2))<|Nn (AV.loc 1 0 0) ⟨85,3,[(AV.st [(AV.s (⟨#[]⟩:ByteArray)),(AV.i .i64 (0:Int)),(AV.i .i64 (0:Int))])]⟩<|Sp 1 ⟨85,3,[(AV.st [(AV.s (((Cn l.state.disk s').1).name)),(AV.i .i64 (((Cn l.state.disk s').1).content)),(AV.i .i64 (((Cn l.state.disk s').1).time))])]⟩<|Aq (AV.b ((Cn l.state.disk s').2))<|Ad<|Sq<|Rg<|Aq (AV.b ((Cn l.state.disk s').2))<|Aq (AV.b (!(Cn l.state.disk s').2))<|Aq (AV.b (!(Cn l.state.disk s').2)) ?_
 cases c_1:(!(Cn l.state.disk s').2)
 refine An<|An<|An<|An<|An<|An<|An<|Aq (AV.b false)<|Aq (AV.b false)<|Ad<|Rt ?_
 exact Fb rfl (by simp only [Nk,c_1,Aw])
 refine Ay<|Aq (AV.loc 0 0 0)<|Ay<|Aq (AV.pt (A7.av l.state).cells)<|Ay<|Aq (AV.pt (A7.av l.state).cells)<|Ay<|Aq (AV.pt ((A7.av l.state).cells.drop 0))<|Ay<|Aq (AV.s s')<|Ay<|A1.sc0 (vs:=[(AV.pt ((A7.av l.state).cells.drop 0)),(AV.s s')]) (r0:=(AV.i .i64 (CO l.state.graph s'))) kr kr ((DZ W l.state.graph s').wk ⟨IC 3 kr,⟨AP.refl _,trivial⟩⟩) kr le<|Ay<|Aq (AV.b (decide ((CO l.state.graph s')<(0:Int))))<|Aq (AV.b (decide ((CO l.state.graph s')<(0:Int))))<|Aq (AV.b (decide ((CO l.state.graph s')<(0:Int))))<|Ad<|Rt ?_
 exact Fb rfl (by simp only [Nk,c_1,Aw])
def Bu (l:Am):AV:=(AV.s ((JL l.edge).1))
def Bt (l:Am):AV:=(AV.pt (A7.av l.state).cells)
theorem JO (W:World) {m0:Int} (hW:W.cell? ⟨0,0,none⟩=some (.int .i64 m0)) (l:Am) (hz:l.state.sz≤1048576) (he:l.edge.sz≤1048576):Ah Go.Proofs.Tryz.prog W 97 [(Am.av l)] (AV.i .i64 (N0 l)) []:=by
 have hg1:=l.state.sz_graph
 have hg3:=l.state.sz_disk
 have hg4:=l.state.sz_log
 have hg5:=l.state.sz_deps
 refine A9 (fn:=Go.Proofs.Tryz.f97) Go.Proofs.Tryz.func97 rfl (en97 W) (ts:=[2]) rfl le<|Sq<|Rg<|Nn (AV.loc 0 0 0) ⟨104,2,[(Am.av l)]⟩<|Aq (AV.i .i64 (0:Int))<|Ad<|Sq<|Rg<|Aq (AV.loc 0 0 1)<|Aq (AV.pt (A8.av l.edge).cells)<|Aq (AV.pt (A8.av l.edge).cells)<|Aq (A8.av l.edge)<|A1.sc0 (vs:=[(A8.av l.edge)]) (r0:=(AV.tup [(Bu l),(AV.i .i64 ((JL l.edge).2))])) kr kr (WQ W hW l.edge sd) kr le<|Aq (AV.tup [(Bu l),(AV.i .i64 ((JL l.edge).2))])<|Aq (Bu l)<|Aq (AV.i .i64 ((JL l.edge).2))<|Aq (Bu l)<|Aq (AV.i .i64 ((JL l.edge).2))<|Ad<|Sq<|Rg<|Aq (AV.loc 0 0 0)<|Aq (Bt l)<|Aq (Bt l)<|Aq (AV.pt ((A7.av l.state).cells.drop 4))<|Aq (AV.pt ((A7.av l.state).cells.drop 4))<|Aq (AV.i .i64 l.state.disk.clock)<|Aq (AV.i .i64 l.state.disk.clock)<|Ad<|Sq<|Sq<|Rg<|Aq (AV.loc 0 0 1)<|Aq (AV.pt (A8.av l.edge).cells)<|Aq (AV.pt (A8.av l.edge).cells)<|Aq (AV.pt ((A8.av l.edge).cells.drop 0))<|Aq ((Ag 1 AV.s) l.edge.outs)<|Ap (Ai l.edge.outs.length) (AN (k:=1) (nl:=false) (e:=9) (A:=AV.s) (xs:=l.edge.outs) kr kr)<|Aq (AV.i .i64 (0:Int))<|Ad<|A4.block<|A4.lim 30 (x:=((Ag 1 AV.s) l.edge.outs)) kr fun hlm1=> ?_
 have hB1:l.edge.outs.length≤281474976710656:=AX hlm1
 obtain ⟨R1,hR1⟩: ∃R,UI l l.edge.outs 0 l.state.disk.clock=R:=⟨_,rfl⟩
 refine Av (fun ((out,v32):Int×Nat)=>[(1,(AV.loc 0 0 0)),(3,(Bu l)),(30,((Ag 1 AV.s) l.edge.outs)),(31,(Ai l.edge.outs.length)),(5,(AV.i .i64 out)),(32,(Ai v32))]) (fun ((out,v32):Int×Nat)=>⟨1,[(0,some ⟨104,2,[(Am.av l)]⟩)]⟩) (fun ((out,v32):Int×Nat)=>v32≤l.edge.outs.length∧UI l (l.edge.outs.drop v32) v32 out=R1) (fun ((out,v32):Int×Nat)=>l.edge.outs.length-v32) (l.state.disk.clock,0) ?_ ?_ ?_
 exact ⟨[0],⟨by decide,rfl,(A0.cons kr A0.nil),(Af.cons (AE.f kr) (Ee (Ee (Ee (Ee (Ee Af.nil))))))⟩,Ar⟩
 exact ⟨od,hR1⟩
 rintro ⟨out,v32⟩ ⟨hi1,hE1⟩
 try dsimp only
 refine Sq<|Rg<|Aq (AV.b (decide (((v32:Nat):Int)<((l.edge.outs.length:Nat):Int))))<|Ad<|Sq ?_
 rcases Nat.lt_or_ge v32 l.edge.outs.length with hl1|hl1
 have hc1:decide (((v32:Nat):Int)<((l.edge.outs.length:Nat):Int))=true:=decide_eq_true (by omega)
 refine A4.cond (t:=true) (by rw [←hc1]<;>kernel_rfl) (A4.skip ?_)
 obtain ⟨x1,hx1⟩: ∃x,l.edge.outs[v32]? =some x:=⟨_,List.getElem?_eq_getElem hl1⟩
 rw [AB hx1,UI.eq_2] at hE1
 refine Sq<|A4.block<|Sq<|Rg<|Ap (AV.pt (AV.s x1).cells) (AQ (k:=1) (nl:=false) (e:=9) (kk:= .i64) (A:=AV.s) (xs:=l.edge.outs) (i:=v32) kr kr kr ⟨by kernel_rfl,by decide⟩ hx1)<|Aq (AV.s x1)<|Aq (AV.s x1)<|Ad<|Sq<|Rg<|Aq (AV.loc 0 0 0)<|Aq (Bt l)<|Aq (Bt l)<|Aq (AV.pt ((A7.av l.state).cells.drop 4))<|Aq (Aj.av l.state.disk)<|Aq (AV.s x1)<|A1.sc0 (vs:=[(Aj.av l.state.disk),(AV.s x1)]) (r0:=(AV.tup [(Ak.av ((Cn l.state.disk x1).1)),(AV.b ((Cn l.state.disk x1).2))])) kr kr (Id W hW l.state.disk x1 sd) kr le<|Aq (AV.tup [(Ak.av ((Cn l.state.disk x1).1)),(AV.b ((Cn l.state.disk x1).2))])<|Aq (Ak.av ((Cn l.state.disk x1).1))<|Aq (AV.b ((Cn l.state.disk x1).2))<|Nn (AV.loc 1 0 0) ⟨85,3,[(AV.st [(AV.s (⟨#[]⟩:ByteArray)),(AV.i .i64 (0:Int)),(AV.i .i64 (0:Int))])]⟩<|Sp 1 ⟨85,3,[(AV.st [(AV.s (((Cn l.state.disk x1).1).name)),(AV.i .i64 (((Cn l.state.disk x1).1).content)),(AV.i .i64 (((Cn l.state.disk x1).1).time))])]⟩<|Aq (AV.b ((Cn l.state.disk x1).2))<|Ad<|Sq<|Rg<|Aq (AV.loc 0 0 0)<|Aq (Bt l)<|Aq (Bt l)<|Aq (AV.pt ((A7.av l.state).cells.drop 6))<|Aq ((Ag 3 A6.av) l.state.log)<|Aq (AV.s x1)<|A1.sc0 (vs:=[((Ag 3 A6.av) l.state.log),(AV.s x1)]) (r0:=(AV.tup [(A6.av ((Dc l.state.log x1).1)),(AV.b ((Dc l.state.log x1).2))])) kr kr (Vn W hW l.state.log x1 sd) kr le ?_
 refine Aq (AV.tup [(A6.av ((Dc l.state.log x1).1)),(AV.b ((Dc l.state.log x1).2))])<|Aq (A6.av ((Dc l.state.log x1).1))<|Aq (AV.b ((Dc l.state.log x1).2))<|Nn (AV.loc 2 0 0) ⟨56,3,[(AV.st [(AV.s (⟨#[]⟩:ByteArray)),(AV.i .i64 (0:Int)),(AV.s (⟨#[]⟩:ByteArray))])]⟩<|Sp 2 ⟨56,3,[(AV.st [(AV.s (((Dc l.state.log x1).1).out)),(AV.i .i64 (((Dc l.state.log x1).1).time)),(AV.s (((Dc l.state.log x1).1).sign))])]⟩<|Aq (AV.b ((Dc l.state.log x1).2))<|Ad<|Sq<|Sq<|Rg<|Aq (AV.b ((Cn l.state.disk x1).2))<|Aq (AV.b (!(Cn l.state.disk x1).2))<|Aq (AV.b (!(Cn l.state.disk x1).2)) ?_
 cases c_1:(!(Cn l.state.disk x1).2)
 refine Ay<|Aq (AV.b ((Dc l.state.log x1).2))<|Ay<|Aq (AV.b (!(Dc l.state.log x1).2))<|Aq (AV.b (!(Dc l.state.log x1).2))<|Aq (AV.b (!(Dc l.state.log x1).2)) ?_
 cases c_2:(!(Dc l.state.log x1).2)
 refine Ay<|Aq (AV.loc 2 0 2)<|Ay<|Aq (AV.s (((Dc l.state.log x1).1).sign))<|Ay<|Aq (Bu l)<|Ay<|Aq (AV.b (!decide (((Dc l.state.log x1).1).sign=(JL l.edge).1)))<|Aq (AV.b (!decide (((Dc l.state.log x1).1).sign=(JL l.edge).1)))<|Aq (AV.b (!decide (((Dc l.state.log x1).1).sign=(JL l.edge).1))) ?_
 cases c_3:(!decide (((Dc l.state.log x1).1).sign=(JL l.edge).1))
 have k_3:=LI c_3
 refine Ay<|Aq (AV.loc 2 0 1)<|Ay<|Aq (AV.i .i64 (((Dc l.state.log x1).1).time))<|Ay<|Aq (AV.loc 1 0 2)<|Ay<|Aq (AV.i .i64 (((Cn l.state.disk x1).1).time))<|Ay<|Aq (AV.b (!decide (((Dc l.state.log x1).1).time=((Cn l.state.disk x1).1).time)))<|Aq (AV.b (!decide (((Dc l.state.log x1).1).time=((Cn l.state.disk x1).1).time)))<|Ad ?_
 cases c_4:(!decide (((Dc l.state.log x1).1).time=((Cn l.state.disk x1).1).time))
 have k_4:=LI c_4
 refine Cf<|A4.skip<|Rg<|Aq (AV.i .i64 out)<|Aq (AV.loc 1 0 2)<|Aq (AV.i .i64 (((Cn l.state.disk x1).1).time))<|Aq (AV.i .i64 (if ((Cn l.state.disk x1).1).time<out then ((Cn l.state.disk x1).1).time else out))<|Aq (AV.i .i64 (if ((Cn l.state.disk x1).1).time<out then ((Cn l.state.disk x1).1).time else out))<|Ad<|Rg<|Ap (Ai (v32+1)) (AA (i:=v32) (m:=1) kr kr sd)<|Aq (Ai (v32+1))<|Ad ?_
 try simp only [c_1,c_2,c_3,c_4,Aw] at hE1
 refine ⟨((if ((Cn l.state.disk x1).1).time<out then ((Cn l.state.disk x1).1).time else out),v32+1),od,⟨od,hE1⟩,?_⟩
 exact ⟨[0],⟨by decide,rfl,(A0.cons kr A0.nil),(Af.cons (AE.f kr) (Ee (Ee (Ee (Ee (Ee Af.nil))))))⟩,Ar⟩
 have k_4:=LJ c_4
 refine Ct<|Sq<|Rg<|Aq (AV.i .i64 (-1:Int))<|Ad<|Rt ?_
 try simp only [c_1,c_2,c_3,c_4,Aw] at hE1
 subst hE1
 exact Fi rfl (by simp only [N0,hR1,Aw])
 have k_3:=LJ c_3
 refine An<|An<|An<|An<|An<|Aq (AV.b true)<|Ad<|Ct<|Sq<|Rg<|Aq (AV.i .i64 (-1:Int))<|Ad<|Rt ?_
 try simp only [c_1,c_2,c_3,Aw] at hE1
 subst hE1
 exact Fi rfl (by simp only [N0,hR1,Aw])
 refine An<|An<|An<|An<|Aq (AV.b true)<|Aq (AV.b true)<|An<|An<|An<|An<|An<|Aq (AV.b true)<|Ad<|Ct<|Sq<|Rg<|Aq (AV.i .i64 (-1:Int))<|Ad<|Rt ?_
 try simp only [c_1,c_2,Aw] at hE1
 subst hE1
 exact Fi rfl (by simp only [N0,hR1,Aw])
 refine An<|An<|Aq (AV.b true)<|Aq (AV.b true)<|An<|An<|An<|An<|Aq (AV.b true)<|Aq (AV.b true)<|An<|An<|An<|An<|An<|Aq (AV.b true)<|Ad<|Ct<|Sq<|Rg<|Aq (AV.i .i64 (-1:Int))<|Ad<|Rt ?_
 try simp only [c_1,Aw] at hE1
 subst hE1
 exact Fi rfl (by simp only [N0,hR1,Aw])
 have hc1:decide (((v32:Nat):Int)<((l.edge.outs.length:Nat):Int))=false:=decide_eq_false (by omega)
 refine A4.cond (t:=false) (by rw [←hc1]<;>kernel_rfl) (A4.exit ?_)
 rw [List.drop_eq_nil_of_le (hl1),UI.eq_1] at hE1
 subst hE1
 refine Sq<|Rg<|Aq (AV.i .i64 out)<|Aq (AV.i .i64 out)<|Ad<|Rt ?_
 exact Fi rfl (by simp only [N0,hR1,Aw])
theorem Jt (W:World) {m0:Int} (hW:W.cell? ⟨0,0,none⟩=some (.int .i64 m0)) (s':ByteArray) (l:Am) (time:Int) (hz:l.state.sz≤1048576) (he:l.edge.sz≤1048576):Ah Go.Proofs.Tryz.prog W 146 [(AV.s s'),(AV.pt (Am.av l).cells),(AV.pt ((AV.i .i64) time).cells)] (AV.b (TR s' l time)) []:=by
 have hg1:=l.state.sz_graph
 have hg3:=l.state.sz_disk
 have hg4:=l.state.sz_log
 have hg5:=l.state.sz_deps
 refine A9 (fn:=Go.Proofs.Tryz.f146) Go.Proofs.Tryz.func146 rfl (en146 W) (ts:=[4]) rfl le<|Sq<|Rg<|Aq (AV.b false)<|Ad<|Sq<|Rg<|Aq (AV.pt ((Am.av l).cells.drop 0))<|Aq (AV.pt (A7.av l.state).cells)<|Aq (AV.pt (A7.av l.state).cells)<|Aq (AV.pt ((A7.av l.state).cells.drop 4))<|Aq (Aj.av l.state.disk)<|Aq (AV.s s')<|A1.sc0 (vs:=[(Aj.av l.state.disk),(AV.s s')]) (r0:=(AV.tup [(Ak.av ((Cn l.state.disk s').1)),(AV.b ((Cn l.state.disk s').2))])) kr kr (Id W hW l.state.disk s' sd) kr le<|Aq (AV.tup [(Ak.av ((Cn l.state.disk s').1)),(AV.b ((Cn l.state.disk s').2))])<|Aq (Ak.av ((Cn l.state.disk s').1))<|Aq (AV.b ((Cn l.state.disk s').2))<|Nn (AV.loc 0 0 0) ⟨85,3,[(AV.st [(AV.s (⟨#[]⟩:ByteArray)),(AV.i .i64 (0:Int)),(AV.i .i64 (0:Int))])]⟩<|Sp 0 ⟨85,3,[(AV.st [(AV.s (((Cn l.state.disk s').1).name)),(AV.i .i64 (((Cn l.state.disk s').1).content)),(AV.i .i64 (((Cn l.state.disk s').1).time))])]⟩<|Aq (AV.b ((Cn l.state.disk s').2))<|Ad<|Sq<|Rg<|Aq (AV.b ((Cn l.state.disk s').2))<|Aq (AV.b (!(Cn l.state.disk s').2))<|Aq (AV.b (!(Cn l.state.disk s').2)) ?_
 cases c_1:(!(Cn l.state.disk s').2)
 refine Ay<|Aq (AV.loc 0 0 2)<|Ay<|Aq (AV.i .i64 (((Cn l.state.disk s').1).time))<|Ay<|Aq (AV.i .i64 time)<|Ay<|Aq (AV.b (decide (time<((Cn l.state.disk s').1).time)))<|Aq (AV.b (decide (time<((Cn l.state.disk s').1).time)))<|Aq (AV.b (decide (time<((Cn l.state.disk s').1).time)))<|Ad<|Rt ?_
 exact Fb rfl (by simp only [TR,c_1,Aw])
 refine An<|An<|An<|An<|Aq (AV.b true)<|Aq (AV.b true)<|Ad<|Rt ?_
 exact Fb rfl (by simp only [TR,c_1,Aw])
theorem FU (W:World) (s':List ByteArray) (f_f:FuncId) (c_f:List AV) (f:ByteArray→Bool) (hcl_f:Ac c_f=true) (hp_f: ∀(z0:ByteArray),Ah Go.Proofs.Tryz.prog W f_f ((AV.s z0)::c_f) (AV.b (f z0)) []):Ah Go.Proofs.Tryz.prog W 95 [((Ag 1 AV.s) s'),(AV.fn f_f c_f)] (AV.i .i64 (TN s' f)) []:=by
 refine A9 (fn:=Go.Proofs.Tryz.f95) Go.Proofs.Tryz.func95 rfl (en95 W) (ts:=[4]) rfl le<|Sq<|Rg<|Aq (AV.i .i64 (0:Int))<|Ad<|Sq<|Sq<|Rg<|Aq ((Ag 1 AV.s) s')<|Ap (Ai s'.length) (AN (k:=1) (nl:=false) (e:=9) (A:=AV.s) (xs:=s') kr kr)<|Aq (AV.i .i64 (0:Int))<|Ad<|A4.block<|A4.lim 0 (x:=((Ag 1 AV.s) s')) kr fun hlm1=> ?_
 have hB1:s'.length≤281474976710656:=AX hlm1
 obtain ⟨R1,hR1⟩: ∃R,V9 f s' 0=R:=⟨_,rfl⟩
 refine Av (fun (v8:Nat)=>[(0,((Ag 1 AV.s) s')),(1,(AV.fn f_f c_f)),(7,(Ai s'.length)),(8,(Ai v8))]) (fun (v8:Nat)=>⟨0,[]⟩) (fun (v8:Nat)=>v8≤s'.length∧V9 f (s'.drop v8) v8=R1) (fun (v8:Nat)=>s'.length-v8) 0 ?_ ?_ ?_
 exact ⟨[],⟨by decide,rfl,A0.nil,(Ee (Af.cons (AE.c kr hcl_f) (Ee (Ee Af.nil))))⟩,Ar⟩
 exact ⟨od,hR1⟩
 rintro v8 ⟨hi1,hE1⟩
 try dsimp only
 refine Sq<|Rg<|Aq (AV.b (decide (((v8:Nat):Int)<((s'.length:Nat):Int))))<|Ad<|Sq ?_
 rcases Nat.lt_or_ge v8 s'.length with hl1|hl1
 have hc1:decide (((v8:Nat):Int)<((s'.length:Nat):Int))=true:=decide_eq_true (by omega)
 refine A4.cond (t:=true) (by rw [←hc1]<;>kernel_rfl) (A4.skip ?_)
 obtain ⟨x1,hx1⟩: ∃x,s'[v8]? =some x:=⟨_,List.getElem?_eq_getElem hl1⟩
 rw [AB hx1,V9.eq_2] at hE1
 refine Sq<|A4.block<|Sq<|Rg<|Aq (Ai v8)<|Aq (Ai v8)<|Ad<|Sq<|Rg<|Aq (AV.fn f_f c_f)<|Aq ((Ag 1 AV.s) s')<|Aq (Ai v8)<|Ap (AV.pt (AV.s x1).cells) (AQ (k:=1) (nl:=false) (e:=9) (kk:= .i64) (A:=AV.s) (xs:=s') (i:=v8) kr kr kr ⟨by kernel_rfl,by decide⟩ hx1)<|Aq (AV.s x1)<|A1.sc0 (vs:=((AV.s x1)::c_f)) (r0:=(AV.b (f x1))) kr (by simp only [Ac,Bool.and_eq_true];exact ⟨by kernel_rfl,hcl_f⟩) (hp_f x1) kr le<|Ad ?_
 cases c_1:(f x1)
 refine Cf<|A4.skip<|Rg<|Ap (Ai (v8+1)) (AA (i:=v8) (m:=1) kr kr sd)<|Aq (Ai (v8+1))<|Ad ?_
 try simp only [c_1,Aw] at hE1
 refine ⟨v8+1,od,⟨od,hE1⟩,?_⟩
 exact ⟨[],⟨by decide,rfl,A0.nil,(Ee (Af.cons (AE.c kr hcl_f) (Ee (Ee Af.nil))))⟩,Ar⟩
 refine Ct<|Sq<|Rg<|Aq (Ai v8)<|Aq (Ai v8)<|Ad<|Rt ?_
 try simp only [c_1,Aw] at hE1
 subst hE1
 exact Fi rfl (by simp only [TN,hR1,Aw])
 have hc1:decide (((v8:Nat):Int)<((s'.length:Nat):Int))=false:=decide_eq_false (by omega)
 refine A4.cond (t:=false) (by rw [←hc1]<;>kernel_rfl) (A4.exit ?_)
 rw [List.drop_eq_nil_of_le (hl1),V9.eq_1] at hE1
 subst hE1
 refine Sq<|Rg<|Aq (AV.i .i64 (-1:Int))<|Ad<|Rt ?_
 exact Fi rfl (by simp only [TN,hR1,Aw])
theorem BW (W:World) (s':List ByteArray) (f_f:FuncId) (c_f:List AV) (f:ByteArray→Bool) (hcl_f:Ac c_f=true) (hp_f: ∀(z0:ByteArray),Ah Go.Proofs.Tryz.prog W f_f ((AV.s z0)::c_f) (AV.b (f z0)) []):Ah Go.Proofs.Tryz.prog W 54 [((Ag 1 AV.s) s'),(AV.fn f_f c_f)] (AV.b (VQ s' f)) []:=by
 refine A9 (fn:=Go.Proofs.Tryz.f54) Go.Proofs.Tryz.func54 rfl (en54 W) (ts:=[4]) rfl le<|Sq<|Rg<|Aq (AV.b false)<|Ad<|Sq<|Rg<|Aq ((Ag 1 AV.s) s')<|Aq (AV.fn f_f c_f)<|A1.sc0 (vs:=[((Ag 1 AV.s) s'),(AV.fn f_f c_f)]) (r0:=(AV.i .i64 (TN s' f))) kr (by simp only [Ac,Bool.and_eq_true];exact ⟨by kernel_rfl,hcl_f,trivial⟩) (FU W s' f_f c_f f hcl_f hp_f) kr le<|Aq (AV.b (decide ((0:Int)≤(TN s' f))))<|Aq (AV.b (decide ((0:Int)≤(TN s' f))))<|Ad<|Rt ?_
 exact Fb rfl (by simp only [VQ,Aw])
theorem Er (W:World) {m0:Int} (hW:W.cell? ⟨0,0,none⟩=some (.int .i64 m0)) (l:Am) (ss:List ByteArray) (time:Int) (hz:l.state.sz≤1048576) (he:l.edge.sz≤1048576):Ah Go.Proofs.Tryz.prog W 98 [(Am.av l),((Ag 1 AV.s) ss),(AV.i .i64 time)] (AV.b (K7 l ss time)) []:=by
 have hg1:=l.state.sz_graph
 have hg3:=l.state.sz_disk
 have hg4:=l.state.sz_log
 have hg5:=l.state.sz_deps
 refine A9 (fn:=Go.Proofs.Tryz.f98) Go.Proofs.Tryz.func98 rfl (en98 W) (ts:=[6]) rfl le<|Sq<|Rg<|Nn (AV.loc 0 0 0) ⟨104,2,[(Am.av l)]⟩<|Nn (AV.loc 1 0 0) ⟨3,1,[(AV.i .i64 time)]⟩<|Aq (AV.b false)<|Ad<|Sq<|Rg<|Aq ((Ag 1 AV.s) ss)<|Aq (AV.fn 146 [(AV.loc 0 0 0),(AV.loc 1 0 0)])<|A1.sfw (vs:=[((Ag 1 AV.s) ss),(AV.fn 146 [(AV.loc 0 0 0),(AV.loc 1 0 0)])]) (ss:=[((Ag 1 AV.s) ss),(AV.fn 146 [(AV.pt (Am.av l).cells),(AV.pt ((AV.i .i64) time).cells)])]) (r0:=(AV.b (VQ ss (fun z0=>TR z0 l time)))) kr (show Bc _ _ _ from ⟨(Bc.e kr),⟨(Al.w (Al.cast (x':=(AV.fn 146 [(AV.loc 0 0 0),(AV.loc 1 0 0)])) kr kr (Al.fn (Ao.cons (Ce Am.av l (id:=0) rfl rfl kr) (Ao.cons (Iz (id:=1) (j:=0) (ob:=⟨3,1,[(AV.i .i64 time)]⟩) (x:=(AV.i .i64 time)) rfl rfl rfl rfl (AC (x:=(AV.i .i64 time)) kr)) Ao.nil))))),trivial⟩⟩) (BW W ss 146 [(AV.pt (Am.av l).cells),(AV.pt ((AV.i .i64) time).cells)] (fun z0=>TR z0 l time) kr (fun z0=>(Jt W hW z0 l time sd sd))) rfl kr le<|Aq (AV.b (VQ ss (fun z0=>TR z0 l time)))<|Ad<|Rt ?_
 exact Fb rfl (by simp only [K7,Aw])
def B3 (l:Am):AV:=(AV.pt (A8.av l.edge).cells)
def C3 (l:Am):Obj:=⟨104,2,[(Am.av l)]⟩
def BE (l:Am):AV:=(AV.s (l.edge.outs.getD 0 default))
def B9 (l:Am):AV:=(AV.i .i64 (N0 l))
def Dt (l:Am):AV:=((Ag 1 AV.s) (((Ey l.state.deps (l.edge.outs.getD 0 default)).1).ins))
def Fo (l:Am):AV:=(AV.tup [(Ak.av ((Cn l.state.disk (l.edge.outs.getD 0 default)).1)),(AV.b ((Cn l.state.disk (l.edge.outs.getD 0 default)).2))])
def Fn (l:Am):AV:=(AV.tup [(A2.av ((Ey l.state.deps (l.edge.outs.getD 0 default)).1)),(AV.b ((Ey l.state.deps (l.edge.outs.getD 0 default)).2))])
def Ds (l:Am):Obj:=⟨61,3,[(AV.st [(AV.s (((Ey l.state.deps (l.edge.outs.getD 0 default)).1).out)),(AV.i .i64 (((Ey l.state.deps (l.edge.outs.getD 0 default)).1).time)),(Dt l)])]⟩
theorem GP (W:World) {m0:Int} (hW:W.cell? ⟨0,0,none⟩=some (.int .i64 m0)) (l:Am) (hz:l.state.sz≤1048576) (he:l.edge.sz≤1048576) (ho:0<l.edge.outs.length):Ah Go.Proofs.Tryz.prog W 57 [(Am.av l)] (AV.b (KU l)) []:=by
 have hg1:=l.state.sz_graph
 have hg3:=l.state.sz_disk
 have hg4:=l.state.sz_log
 have hg5:=l.state.sz_deps
 refine A9 (fn:=Go.Proofs.Tryz.f57) Go.Proofs.Tryz.func57 rfl (en57 W) (ts:=[2]) rfl le<|Sq<|Rg<|Nn (AV.loc 0 0 0) (C3 l)<|Aq (AV.b false)<|Ad<|Sq<|Rg<|Aq (Am.av l)<|A1.sc0 (vs:=[(Am.av l)]) (r0:=(B9 l)) kr kr (JO W hW l sd sd) kr le<|Aq (B9 l)<|Ad<|Sq<|Sq<|A4.drawn A5 C9 20 kr le<|Dq (B9 l)<|Dq (AV.b (decide ((N0 l)<(0:Int))))<|Dq (AV.b (decide ((N0 l)<(0:Int)))) ?_
 cases c_1:decide ((N0 l)<(0:Int))
 have k_1:=of_decide_eq_false c_1
 refine Dy<|Dq (Am.av l)<|Dy<|Dq (AV.loc 0 0 1)<|Dy<|Dq (B3 l)<|Dy<|Dq (B3 l)<|Dy<|Dq (AV.pt ((A8.av l.edge).cells.drop 1))<|Dy<|Dq ((Ag 1 AV.s) l.edge.ins)<|Dy<|Dq (B9 l)<|Dy<|As.sc0 (vs:=[(Am.av l),((Ag 1 AV.s) l.edge.ins),(B9 l)]) (r0:=(AV.b (K7 l l.edge.ins (N0 l)))) kr kr (Er W hW l l.edge.ins (N0 l) sd sd) kr le<|Dq (AV.b (K7 l l.edge.ins (N0 l)))<|Dq (AV.b (K7 l l.edge.ins (N0 l))) ?_
 cases c_2:(K7 l l.edge.ins (N0 l))
 refine Dy<|Dq (Am.av l)<|Dy<|Dq (AV.loc 0 0 1)<|Dy<|Dq (B3 l)<|Dy<|Dq (B3 l)<|Dy<|Dq (AV.pt ((A8.av l.edge).cells.drop 2))<|Dy<|Dq ((Ag 1 AV.s) l.edge.implicit)<|Dy<|Dq (B9 l)<|Dy<|As.sc0 (vs:=[(Am.av l),((Ag 1 AV.s) l.edge.implicit),(B9 l)]) (r0:=(AV.b (K7 l l.edge.implicit (N0 l)))) kr kr (Er W hW l l.edge.implicit (N0 l) sd sd) kr le<|Dq (AV.b (K7 l l.edge.implicit (N0 l)))<|As.fin ?_
 cases c_3:(K7 l l.edge.implicit (N0 l))
 refine Cf<|A4.skip<|Sq<|Sq<|Rg<|Aq (AV.loc 0 0 1)<|Aq (B3 l)<|Aq (B3 l)<|Aq (AV.pt ((A8.av l.edge).cells.drop 5))<|Aq (AV.b l.edge.deps)<|Aq (AV.b (!l.edge.deps))<|Ad ?_
 cases c_4:(!l.edge.deps)
 refine Cf<|A4.skip<|Sq<|Ed A5 C9 17 [15] kr kr kr le<|Dq (AV.loc 0 0 0)<|Dq (AV.pt (A7.av l.state).cells)<|Dq (AV.pt (A7.av l.state).cells)<|Dq (AV.pt ((A7.av l.state).cells.drop 7))<|Dq ((Ag 3 A2.av) l.state.deps)<|Dq (AV.loc 0 0 1)<|Dq (B3 l)<|Dq (B3 l)<|Dq (AV.pt ((A8.av l.edge).cells.drop 0))<|Dq ((Ag 1 AV.s) l.edge.outs)<|Dp (AV.pt (BE l).cells) (AQ (k:=1) (nl:=false) (e:=9) (kk:= .i64) (A:=AV.s) (xs:=l.edge.outs) (i:=0) kr kr kr ⟨by kernel_rfl,by decide⟩ (getD_some sd))<|Dq (BE l)<|As.sc0 (vs:=[((Ag 3 A2.av) l.state.deps),(BE l)]) (r0:=(Fn l)) kr kr (QQ W hW l.state.deps (l.edge.outs.getD 0 default) sd) kr le<|Dq (Fn l)<|Dq (A2.av ((Ey l.state.deps (l.edge.outs.getD 0 default)).1))<|Dq (AV.b ((Ey l.state.deps (l.edge.outs.getD 0 default)).2))<|As.sn (x:=(AV.loc 1 0 0)) (h':=⟨2,[(1,some ⟨61,3,[(AV.st [(AV.s (⟨#[]⟩:ByteArray)),(AV.i .i64 (0:Int)),(AV.sl 1 true [])])]⟩),(0,some (C3 l))]⟩) kr le ?_
 refine As.st (by decide) (x:=AV.und) (h':=⟨2,[(1,some (Ds l)),(0,some (C3 l))]⟩) kr<|Dq (AV.b ((Ey l.state.deps (l.edge.outs.getD 0 default)).2))<|As.fin<|Sq<|Ed A5 C9 17 [15] kr kr kr le<|Dq (AV.loc 0 0 0)<|Dq (AV.pt (A7.av l.state).cells)<|Dq (AV.pt (A7.av l.state).cells)<|Dq (AV.pt ((A7.av l.state).cells.drop 4))<|Dq (Aj.av l.state.disk)<|Dq (AV.loc 0 0 1)<|Dq (B3 l)<|Dq (B3 l)<|Dq (AV.pt ((A8.av l.edge).cells.drop 0))<|Dq ((Ag 1 AV.s) l.edge.outs)<|Dp (AV.pt (BE l).cells) (AQ (k:=1) (nl:=false) (e:=9) (kk:= .i64) (A:=AV.s) (xs:=l.edge.outs) (i:=0) kr kr kr ⟨by kernel_rfl,by decide⟩ (getD_some sd))<|Dq (BE l)<|As.sc0 (vs:=[(Aj.av l.state.disk),(BE l)]) (r0:=(Fo l)) kr kr (Id W hW l.state.disk (l.edge.outs.getD 0 default) sd) kr le<|Dq (Fo l) ?_
 refine Dq (Ak.av ((Cn l.state.disk (l.edge.outs.getD 0 default)).1))<|Dq (AV.b ((Cn l.state.disk (l.edge.outs.getD 0 default)).2))<|As.sn (x:=(AV.loc 2 0 0)) (h':=⟨3,[(2,some ⟨85,3,[(AV.st [(AV.s (⟨#[]⟩:ByteArray)),(AV.i .i64 (0:Int)),(AV.i .i64 (0:Int))])]⟩),(1,some (Ds l)),(0,some (C3 l))]⟩) kr le<|As.st (by decide) (x:=AV.und) (h':=⟨3,[(2,some ⟨85,3,[(AV.st [(AV.s (((Cn l.state.disk (l.edge.outs.getD 0 default)).1).name)),(AV.i .i64 (((Cn l.state.disk (l.edge.outs.getD 0 default)).1).content)),(AV.i .i64 (((Cn l.state.disk (l.edge.outs.getD 0 default)).1).time))])]⟩),(1,some (Ds l)),(0,some (C3 l))]⟩) kr<|Dq (AV.b ((Cn l.state.disk (l.edge.outs.getD 0 default)).2))<|As.fin<|Sq<|Rg<|Aq (AV.b ((Ey l.state.deps (l.edge.outs.getD 0 default)).2))<|Aq (AV.b (!(Ey l.state.deps (l.edge.outs.getD 0 default)).2)) ?_
 refine Aq (AV.b (!(Ey l.state.deps (l.edge.outs.getD 0 default)).2)) ?_
 cases c_5:(!(Ey l.state.deps (l.edge.outs.getD 0 default)).2)
 refine Ay<|Aq (AV.loc 1 0 1)<|Ay<|Aq (AV.i .i64 (((Ey l.state.deps (l.edge.outs.getD 0 default)).1).time))<|Ay<|Aq (AV.loc 2 0 2)<|Ay<|Aq (AV.i .i64 (((Cn l.state.disk (l.edge.outs.getD 0 default)).1).time))<|Ay<|Aq (AV.b (!decide (((Ey l.state.deps (l.edge.outs.getD 0 default)).1).time=((Cn l.state.disk (l.edge.outs.getD 0 default)).1).time)))<|Aq (AV.b (!decide (((Ey l.state.deps (l.edge.outs.getD 0 default)).1).time=((Cn l.state.disk (l.edge.outs.getD 0 default)).1).time)))<|Aq (AV.b (!decide (((Ey l.state.deps (l.edge.outs.getD 0 default)).1).time=((Cn l.state.disk (l.edge.outs.getD 0 default)).1).time))) ?_
 cases c_6:(!decide (((Ey l.state.deps (l.edge.outs.getD 0 default)).1).time=((Cn l.state.disk (l.edge.outs.getD 0 default)).1).time))
 have k_6:=LI c_6
 refine Ay<|Aq (Am.av l)<|Ay<|Aq (AV.loc 1 0 2)<|Ay<|Aq (Dt l)<|Ay<|Aq (B9 l)<|Ay<|A1.sc0 (vs:=[(Am.av l),(Dt l),(B9 l)]) (r0:=(AV.b (K7 l (((Ey l.state.deps (l.edge.outs.getD 0 default)).1).ins) (N0 l)))) kr kr (Er W hW l (((Ey l.state.deps (l.edge.outs.getD 0 default)).1).ins) (N0 l) sd sd) kr le<|Aq (AV.b (K7 l (((Ey l.state.deps (l.edge.outs.getD 0 default)).1).ins) (N0 l)))<|Aq (AV.b (K7 l (((Ey l.state.deps (l.edge.outs.getD 0 default)).1).ins) (N0 l)))<|Ad<|Rt ?_
 exact Fb rfl (by simp only [KU,c_1,c_2,c_3,c_4,c_5,c_6,Aw])
 have k_6:=LJ c_6
 refine An<|An<|An<|An<|An<|Aq (AV.b true)<|Aq (AV.b true)<|Ad<|Rt ?_
 exact Fb rfl (by simp only [KU,c_1,c_2,c_3,c_4,c_5,c_6,Aw])
 refine An<|An<|An<|An<|An<|Aq (AV.b true)<|Aq (AV.b true)<|An<|An<|An<|An<|An<|Aq (AV.b true)<|Aq (AV.b true)<|Ad<|Rt ?_
 exact Fb rfl (by simp only [KU,c_1,c_2,c_3,c_4,c_5,Aw])
 refine Ct<|Sq<|Rg<|Aq (AV.b false)<|Ad<|Rt ?_
 exact Fb rfl (by simp only [KU,c_1,c_2,c_3,c_4,Aw])
 refine Ct<|Sq<|Rg<|Aq (AV.b true)<|Ad<|Rt ?_
 exact Fb rfl (by simp only [KU,c_1,c_2,c_3,Aw])
 refine Dn<|Dn<|Dn<|Dn<|Dn<|Dn<|Dn<|Dn<|Dq (AV.b true)<|As.fin<|Ct<|Sq<|Rg<|Aq (AV.b true)<|Ad<|Rt ?_
 exact Fb rfl (by simp only [KU,c_1,c_2,Aw])
 have k_1:=of_decide_eq_true c_1
 refine Dn<|Dn<|Dn<|Dn<|Dn<|Dn<|Dn<|Dn<|Dq (AV.b true)<|Dq (AV.b true)<|Dn<|Dn<|Dn<|Dn<|Dn<|Dn<|Dn<|Dn<|Dq (AV.b true)<|As.fin<|Ct<|Sq<|Rg<|Aq (AV.b true)<|Ad<|Rt ?_
 exact Fb rfl (by simp only [KU,c_1,Aw])
def FJ (s':A7) (edge:Int):AV:=(A8.av (s'.graph.edges.getD edge.toNat default))
def Br (s':A7) (edge:Int):AV:=(AV.pt (FJ s' edge).cells)
def Cw (s':A7) (edge:Int):AV:=(Am.av (⟨s',(s'.graph.edges.getD edge.toNat default)⟩:Am))
def Bq (s':A7) (edge:Int):AV:=(AV.st [(AV.loc 0 0 0),(Br s' edge)])
def Dr (s':A7) (edge:Int):AV:=(AV.fn 1000056 [(Bq s' edge)])
def Ke (s':A7) (edge:Int):AV:=((Ag 1 (Ag 1 AV.s)) [(s'.graph.edges.getD edge.toNat default).ins,(s'.graph.edges.getD edge.toNat default).implicit,(s'.graph.edges.getD edge.toNat default).order])
theorem Ft (W:World) {m0:Int} (hW:W.cell? ⟨0,0,none⟩=some (.int .i64 m0)) (s':A7) (edge:Int) (hz:s'.sz≤1048576):Ah Go.Proofs.Tryz.prog W 17 [(A7.av s'),(AV.i .i64 edge)] (AV.tup [(AV.b ((C0 s' edge).1)),(AV.i .i64 ((C0 s' edge).2))]) []:=by
 have hzg:=s'.sz_graph
 refine A9 (fn:=Go.Proofs.Tryz.f17) Go.Proofs.Tryz.func17 rfl (en17 W) (ts:=[4,5]) rfl le<|Sq<|Rg<|Nn (AV.loc 0 0 0) ⟨35,11,[(A7.av s')]⟩<|Aq (AV.b false)<|Aq (AV.i .i64 (0:Int))<|Ad<|Sq<|Sq<|Rg<|A1.sfw (vs:=[(AV.loc 0 0 0)]) (ss:=[(AV.pt (A7.av s').cells)]) (r0:=(AV.b (De s'))) kr (show Bc _ _ _ from ⟨(Al.w (Al.cast (x':=(AV.loc 0 0 0)) kr kr (Ce A7.av s' (id:=0) rfl rfl kr))),trivial⟩) (Kw W hW s' sd) rfl kr le<|Aq (AV.b (!(De s')))<|Aq (AV.b (!(De s'))) ?_
 cases c_1:(!(De s'))
 refine Ay<|Aq (AV.i .i64 edge)<|Ay<|Aq (AV.b (decide (edge<(0:Int))))<|Aq (AV.b (decide (edge<(0:Int))))<|Aq (AV.b (decide (edge<(0:Int)))) ?_
 cases c_2:decide (edge<(0:Int))
 have k_2:=of_decide_eq_false c_2
 refine Ay<|Aq (AV.i .i64 edge)<|Ay<|Aq (AV.loc 0 0 0)<|Ay<|Aq (AV.loc 0 0 0)<|Ay<|Aq ((Ag 7 A8.av) s'.graph.edges)<|Ay<|Ap (Ai s'.graph.edges.length) (AN (k:=7) (nl:=false) (e:=65) (A:=A8.av) (xs:=s'.graph.edges) kr kr)<|Ay<|Aq (AV.b (decide (((s'.graph.edges.length:Nat):Int)≤edge)))<|Aq (AV.b (decide (((s'.graph.edges.length:Nat):Int)≤edge)))<|Ad ?_
 cases c_3:decide (((s'.graph.edges.length:Nat):Int)≤edge)
 have k_3:=of_decide_eq_false c_3
 have q_3:=Vg hz (by assumption) (by assumption) c_3
 refine Cf<|A4.skip<|Sq<|Rg<|Aq (AV.loc 0 0 0)<|Aq (AV.loc 0 0 0)<|Aq ((Ag 7 A8.av) s'.graph.edges)<|Aq (AV.i .i64 edge)<|Ap (Br s' edge) (Ei (k:=7) (nl:=false) (e:=65) (kk:= .i64) (A:=A8.av) (xs:=s'.graph.edges) (n:=edge) kr kr kr ⟨by kernel_rfl,by decide⟩ sd (getD_some sd))<|Nb (Bq s' edge)<|Nn (AV.loc 1 0 0) ⟨104,2,[(AV.st [AV.nilp,AV.nilp])]⟩<|Sp 1 ⟨104,2,[(Bq s' edge)]⟩<|Ad<|Sq<|Sq<|A4.drawn A5 C9 19 kr le<|Dq (AV.loc 1 0 1)<|Dq (Br s' edge)<|Dq (Br s' edge)<|Dq (AV.pt ((FJ s' edge).cells.drop 1))<|Dq ((Ag 1 AV.s) ((s'.graph.edges.getD edge.toNat default).ins))<|Dq (AV.loc 1 0 1)<|Dq (Br s' edge)<|Dq (Br s' edge)<|Dq (AV.pt ((FJ s' edge).cells.drop 2))<|Dq ((Ag 1 AV.s) ((s'.graph.edges.getD edge.toNat default).implicit))<|Dq (AV.loc 1 0 1)<|Dq (Br s' edge)<|Dq (Br s' edge)<|Dq (AV.pt ((FJ s' edge).cells.drop 3)) ?_
 refine Dq ((Ag 1 AV.s) ((s'.graph.edges.getD edge.toNat default).order))<|As.sn (x:=(AV.own 2 0 3)) (h':=⟨3,[(2,some ⟨24,1,[(s'.graph.edges.getD edge.toNat default).ins,(s'.graph.edges.getD edge.toNat default).implicit,(s'.graph.edges.getD edge.toNat default).order].map (Ag 1 AV.s)⟩),(1,some ⟨104,2,[(Bq s' edge)]⟩),(0,some ⟨35,11,[(A7.av s')]⟩)]⟩) kr le ?_
 by_cases z_4:(Ci [(s'.graph.edges.getD edge.toNat default).ins,(s'.graph.edges.getD edge.toNat default).implicit,(s'.graph.edges.getD edge.toNat default).order])=[]
 refine As.sfw (vs:=[(AV.own 2 0 3)]) (ss:=[(Ke s' edge)]) (r0:=((Ag 1 AV.s) ([]:List ByteArray))) kr (show Bc _ _ _ from ⟨(Al.w (Al.cast (x':=(AV.own 2 0 3)) kr kr (Al.row (fun _=>rfl) (A:=(Ag 1 AV.s)) (id:=2) (e:=24) (k:=1) (xs:=[(s'.graph.edges.getD edge.toNat default).ins,(s'.graph.edges.getD edge.toNat default).implicit,(s'.graph.edges.getD edge.toNat default).order]) rfl rfl sd sd))),trivial⟩) (by rw [←show (Ci [(s'.graph.edges.getD edge.toNat default).ins,(s'.graph.edges.getD edge.toNat default).implicit,(s'.graph.edges.getD edge.toNat default).order])=[] from z_4];exact (BQ W [(s'.graph.edges.getD edge.toNat default).ins,(s'.graph.edges.getD edge.toNat default).implicit,(s'.graph.edges.getD edge.toNat default).order] (by simp only [List.flatten_cons,List.flatten_nil,List.append_nil,List.length_append];have:=PI hz (by assumption) (by assumption) (by assumption);omega))) rfl kr le<|Dq (Bq s' edge)<|Dq (Dr s' edge)<|As.sfw (vs:=[((Ag 1 AV.s) ([]:List ByteArray)),(Dr s' edge)]) (ss:=[((Ag 1 AV.s) ([]:List ByteArray)),(AV.fn 1000056 [(Cw s' edge)])]) (r0:=(AV.b (VQ ([]:List ByteArray) (fun z0=>Nk (⟨s',(s'.graph.edges.getD edge.toNat default)⟩:Am) z0)))) kr (show Bc _ _ _ from ⟨(Bc.e kr),⟨(Al.w (Al.cast (x':=(Dr s' edge)) kr kr (Al.fn (Ao.cons (Al.st (Ao.cons (Ce A7.av s' (id:=0) rfl rfl kr) (Ao.cons (AC (x:=(Br s' edge)) kr) Ao.nil))) Ao.nil)))),trivial⟩⟩) (BW W ([]:List ByteArray) 1000056 [(Cw s' edge)] (fun z0=>Nk (⟨s',(s'.graph.edges.getD edge.toNat default)⟩:Am) z0) kr (fun z0=>(M2 (f:=56) (bs:=[(Cw s' edge)]) (ys:=[(AV.s z0)]) (FS W hW (⟨s',(s'.graph.edges.getD edge.toNat default)⟩:Am) z0 hz (DM hz (by assumption) (by assumption) (by assumption)).2.2.1) (by decide) (by simp) rfl))) rfl kr le ?_
 refine As.fin ?_
 cases c_5:(VQ ([]:List ByteArray) (fun z0=>Nk (⟨s',(s'.graph.edges.getD edge.toNat default)⟩:Am) z0))
 refine Cf<|A4.skip<|Sq<|Rg<|Aq (Bq s' edge)<|A1.sfw (vs:=[(Bq s' edge)]) (ss:=[(Cw s' edge)]) (r0:=(AV.b (KU (⟨s',(s'.graph.edges.getD edge.toNat default)⟩:Am)))) kr (show Bc _ _ _ from ⟨(Al.w (Al.cast (x':=(Bq s' edge)) kr kr (Al.st (Ao.cons (Ce A7.av s' (id:=0) rfl rfl kr) (Ao.cons (AC (x:=(Br s' edge)) kr) Ao.nil))))),trivial⟩) (GP W hW (⟨s',(s'.graph.edges.getD edge.toNat default)⟩:Am) hz (DM hz (by assumption) (by assumption) (by assumption)).2.2.1 (DM hz (by assumption) (by assumption) (by assumption)).2.2.2) rfl kr le<|Aq (AV.b (KU (⟨s',(s'.graph.edges.getD edge.toNat default)⟩:Am)))<|Aq (AV.i .i64 (0:Int))<|Ad<|Rt ?_
 exact WX rfl (by simp only [C0,c_1,c_2,c_3,z_4,c_5,Aw])
 refine Ct<|Sq<|Rg<|Aq (AV.b false)<|Aq (AV.i .i64 (1901:Int))<|Ad<|Rt ?_
 exact WX rfl (by simp only [C0,c_1,c_2,c_3,z_4,c_5,Aw])
 refine KC (A:=AV.s) (xs:=(Ci [(s'.graph.edges.getD edge.toNat default).ins,(s'.graph.edges.getD edge.toNat default).implicit,(s'.graph.edges.getD edge.toNat default).order])) (vs:=[(AV.own 2 0 3)]) (ss:=[(Ke s' edge)]) kr (show Bc _ _ _ from ⟨(Al.w (Al.cast (x':=(AV.own 2 0 3)) kr kr (Al.row (fun _=>rfl) (A:=(Ag 1 AV.s)) (id:=2) (e:=24) (k:=1) (xs:=[(s'.graph.edges.getD edge.toNat default).ins,(s'.graph.edges.getD edge.toNat default).implicit,(s'.graph.edges.getD edge.toNat default).order]) rfl rfl sd sd))),trivial⟩) (BI W [(s'.graph.edges.getD edge.toNat default).ins,(s'.graph.edges.getD edge.toNat default).implicit,(s'.graph.edges.getD edge.toNat default).order] (by simp only [List.flatten_cons,List.flatten_nil,List.append_nil,List.length_append];have:=PI hz (by assumption) (by assumption) (by assumption);omega) z_4) (fun _=>rfl) (fun _=>rfl) le<|Dq (Bq s' edge)<|Dq (Dr s' edge)<|As.sfw (vs:=[(AV.own 3 0 ((Ci [(s'.graph.edges.getD edge.toNat default).ins,(s'.graph.edges.getD edge.toNat default).implicit,(s'.graph.edges.getD edge.toNat default).order]).length)),(Dr s' edge)]) (ss:=[((Ag 1 AV.s) (Ci [(s'.graph.edges.getD edge.toNat default).ins,(s'.graph.edges.getD edge.toNat default).implicit,(s'.graph.edges.getD edge.toNat default).order])),(AV.fn 1000056 [(Cw s' edge)])]) (r0:=(AV.b (VQ (Ci [(s'.graph.edges.getD edge.toNat default).ins,(s'.graph.edges.getD edge.toNat default).implicit,(s'.graph.edges.getD edge.toNat default).order]) (fun z0=>Nk (⟨s',(s'.graph.edges.getD edge.toNat default)⟩:Am) z0)))) kr (show Bc _ _ _ from ⟨(Al.w (Al.cast (x':=(AV.own 3 0 ((Ci [(s'.graph.edges.getD edge.toNat default).ins,(s'.graph.edges.getD edge.toNat default).implicit,(s'.graph.edges.getD edge.toNat default).order]).length))) kr kr (Al.row (fun _=>rfl) (A:=AV.s) (id:=3) (e:=9) (k:=1) (xs:=(Ci [(s'.graph.edges.getD edge.toNat default).ins,(s'.graph.edges.getD edge.toNat default).implicit,(s'.graph.edges.getD edge.toNat default).order])) rfl rfl rfl sd))),⟨(Al.w (Al.cast (x':=(Dr s' edge)) kr kr (Al.fn (Ao.cons (Al.st (Ao.cons (Ce A7.av s' (id:=0) rfl rfl kr) (Ao.cons (AC (x:=(Br s' edge)) kr) Ao.nil))) Ao.nil)))),trivial⟩⟩) (BW W (Ci [(s'.graph.edges.getD edge.toNat default).ins,(s'.graph.edges.getD edge.toNat default).implicit,(s'.graph.edges.getD edge.toNat default).order]) 1000056 [(Cw s' edge)] (fun z0=>Nk (⟨s',(s'.graph.edges.getD edge.toNat default)⟩:Am) z0) kr (fun z0=>(M2 (f:=56) (bs:=[(Cw s' edge)]) (ys:=[(AV.s z0)]) (FS W hW (⟨s',(s'.graph.edges.getD edge.toNat default)⟩:Am) z0 hz (DM hz (by assumption) (by assumption) (by assumption)).2.2.1) (by decide) (by simp) rfl))) rfl kr le ?_
 refine As.fin ?_
 cases c_6:(VQ (Ci [(s'.graph.edges.getD edge.toNat default).ins,(s'.graph.edges.getD edge.toNat default).implicit,(s'.graph.edges.getD edge.toNat default).order]) (fun z0=>Nk (⟨s',(s'.graph.edges.getD edge.toNat default)⟩:Am) z0))
 refine Cf<|A4.skip<|Sq<|Rg<|Aq (Bq s' edge)<|A1.sfw (vs:=[(Bq s' edge)]) (ss:=[(Cw s' edge)]) (r0:=(AV.b (KU (⟨s',(s'.graph.edges.getD edge.toNat default)⟩:Am)))) kr (show Bc _ _ _ from ⟨(Al.w (Al.cast (x':=(Bq s' edge)) kr kr (Al.st (Ao.cons (Ce A7.av s' (id:=0) rfl rfl kr) (Ao.cons (AC (x:=(Br s' edge)) kr) Ao.nil))))),trivial⟩) (GP W hW (⟨s',(s'.graph.edges.getD edge.toNat default)⟩:Am) hz (DM hz (by assumption) (by assumption) (by assumption)).2.2.1 (DM hz (by assumption) (by assumption) (by assumption)).2.2.2) rfl kr le<|Aq (AV.b (KU (⟨s',(s'.graph.edges.getD edge.toNat default)⟩:Am)))<|Aq (AV.i .i64 (0:Int))<|Ad<|Rt ?_
 exact WX rfl (by simp only [C0,c_1,c_2,c_3,c_6,Aw])
 refine Ct<|Sq<|Rg<|Aq (AV.b false)<|Aq (AV.i .i64 (1901:Int))<|Ad<|Rt ?_
 exact WX rfl (by simp only [C0,c_1,c_2,c_3,c_6,Aw])
 have k_3:=of_decide_eq_true c_3
 refine Ct<|Sq<|Rg<|Aq (AV.b false)<|Aq (AV.i .i64 (1900:Int))<|Ad<|Rt ?_
 exact WX rfl (by simp only [C0,c_1,c_2,c_3,Aw])
 have k_2:=of_decide_eq_true c_2
 refine An<|An<|An<|An<|An<|An<|Aq (AV.b true)<|Ad<|Ct<|Sq<|Rg<|Aq (AV.b false)<|Aq (AV.i .i64 (1900:Int))<|Ad<|Rt ?_
 exact WX rfl (by simp only [C0,c_1,c_2,Aw])
 refine An<|An<|Aq (AV.b true)<|Aq (AV.b true)<|An<|An<|An<|An<|An<|An<|Aq (AV.b true)<|Ad<|Ct<|Sq<|Rg<|Aq (AV.b false)<|Aq (AV.i .i64 (1900:Int))<|Ad<|Rt ?_
 exact WX rfl (by simp only [C0,c_1,Aw])
def BU (s':A7):Obj:=⟨35,11,[(A7.av s')]⟩
def Ht (s':A7):AV:=(AV.i .i64 ((DQ (⟨s'.graph.edges,s'.graph.pools,s'.graph.defaults⟩:A3)).2))
def Cv (s':A7):AV:=((Ag 1 (AV.i .i64)) ((DQ (⟨s'.graph.edges,s'.graph.pools,s'.graph.defaults⟩:A3)).1))
def Kd (s':A7):AV:=(AV.st [((Ag 7 A8.av) s'.graph.edges),((Ag 2 AD.av) s'.graph.pools),((Ag 1 AV.s) s'.graph.defaults)])
def FI (s':A7):AV:=(AV.i .i64 ((((DQ (⟨s'.graph.edges,s'.graph.pools,s'.graph.defaults⟩:A3)).1).length:Nat):Int))
def Kc (s':A7):AV:=(AV.tup [(Cv s'),(Ht s')])
end
end Go.Lift
