/-
  Lemmas of this claim: a layer over the kit's calls, contracts of the functions that the law reaches, and the law's row. No condition of its own.
-/
import Derived.Test.YtjfhbchfhpgefaaGreatDoorSaDirtyForms
import Derived.Test.YtjfhbchfhpgefaaGreatDoorLbDirtyForms
import Derived.Test.YtjfhbchfhpgefaaGreatDoorScDirtyForms
set_option linter.unusedSimpArgs false
set_option linter.unusedVariables false
set_option linter.unusedSectionVars false
set_option maxRecDepth 20000
namespace Go.Lift
noncomputable section
open Go Go.RowKit
theorem gOf_av (g:AL):(Nh g).av=AL.av g:=by
 have h1:Ea.av∘Rw=B1.av:=rfl
 have h2:Fd.av∘pOf=BZ.av:=rfl
 simp only [BW.av,Nh,AL.av,AY,List.map_map,h1,h2,Strs.av]
theorem Rg {W:World} {n N:Nat} {env:C7} {h:A7} {Q:EL} {id:Nat} {ops:Array Oper} (k:A4 Go.Proofs.Tryz.prog W AU n ops ops.toList env h (Q .normal)):Ah Go.Proofs.Tryz.prog W n N (.region id ops false) env h Q:=Ah.region A6 k
theorem Ua (W:World) (s:ByteArray):Ar Go.Proofs.Tryz.prog W 199 [.s s] (.b (Ix s)) []:=Gz W s
theorem S8 (W:World) {m0:Int} (hW:W.cell? ⟨0,0,none⟩=some (.int .i64 m0)) (s:ByteArray):Ar Go.Proofs.Tryz.prog W 164 [.s s] (.tup [.s (CM s).1,.i .i64 (CM s).2]) []:=Pu W hW s
theorem Qq (W:World) {m0:Int} (hW:W.cell? ⟨0,0,none⟩=some (.int .i64 m0)) (g:AL):Ar Go.Proofs.Tryz.prog W 104 [AL.av g] (.i .i64 (K3 g)) []:=by
 rw [←gOf_av];exact SH W hW (Nh g)
theorem Hu (W:World) (xs:List ByteArray) (sep:ByteArray) (hl:(Ds xs sep).size≤140737488355328) (hn:xs.length≤140737488355328):Ar Go.Proofs.Tryz.prog W 192 [AY 1 AV.s xs,.s sep] (.s (Ds xs sep)) []:=
 SP W false xs sep (by have:(Ds xs sep).size=(Lib.join (xs.map (·.data.toList)) sep.data.toList).length:=by show (Lib.join (xs.map (·.data.toList)) sep.data.toList).toArray.size=_;rw [List.size_toArray]
                       omega) hn
theorem IB (W:World) (xs:List ByteArray) (hn:xs.length≤1048576):Ar Go.Proofs.Tryz.prog W 154 [AY 1 AV.s xs] (AY 1 AV.s (JY xs)) []:=by
 cases xs with
 |nil=>
  refine DE (Wd W) fun w Y vs hG hvs=> ?_
  simp only [AY,List.map_nil,H3,IO,Qv] at hvs
  obtain ⟨v1,r1,rfl,h1,rfl⟩:=hvs
  rcases h1 with ⟨_,rfl⟩|⟨_,a,c,rfl,_⟩
  ·refine (Go.Proofs.Tryz.slices_Clone_string_nil 0 0 w).mono ?_
   rintro e w' ⟨rfl,rfl⟩
   exact ⟨_,rfl,by simp only [JY,AY,List.map_nil,VR,CR];exact Or.inl ⟨trivial,trivial⟩,Below.refl _ _⟩
  ·refine (Go.Proofs.Tryz.slices_Clone_string_zero a c w).mono ?_
   rintro e w' ⟨v',rfl,⟨_,e2|⟨g,cap,cur,rfl,_⟩⟩,e3,e4⟩
   ·exact absurd e2.1 e3
   ·exact ⟨_,rfl,by simp only [JY,AY,List.map_nil,VR,CR];exact Or.inr ⟨trivial,_,_,rfl,Nat.zero_le _,by simp,trivial⟩,e4⟩
 |cons x r=>
  exact (QF W (x::r) (by simp) (by omega)).freeze (BM.cast (x':=AV.own 0 0 (x::r).length) (y':=AY 1 AV.s (x::r)) kr kr (Up (fun _=>rfl) (by decide) (by decide) (e:=9) (k:=1) (A:=AV.s) (xs:=x::r) (by rw [Fh];rfl) rfl (by show (x::r).length≤281474976710656;omega)))
theorem LU {α:Type} [Inhabited α] {p:α→Bool}: ∀ {xs:List α},(∀i,i<xs.length→p (xs.getD i default)=false)→Km p xs= -1
 | [],_=>rfl
 |x::xs,h=>by
  have ih:=LU (p:=p) (xs:=xs) (fun i hi=>by have:=h (i+1) (by simp;omega);simpa using this)
  have h0:=h 0 (by simp)
  simp only [List.getD_cons_zero] at h0
  simp only [Km,ih,h0];rfl
theorem Pa {α:Type} [Inhabited α] {p:α→Bool}: ∀ {xs:List α} {m:Nat},m<xs.length→p (xs.getD m default)=true→(∀i,m<i→i<xs.length→p (xs.getD i default)=false)→Km p xs=((m:Nat):Int)
 | [],m,hm,_,_=>by simp at hm
 |x::xs,0,hm,h0,h=>by
  have ih:=LU (p:=p) (xs:=xs) (fun i hi=>by have:=h (i+1) (by omega) (by simp;omega);simpa using this)
  simp only [List.getD_cons_zero] at h0
  simp only [Km,ih,h0];rfl
 |x::xs,m+1,hm,h0,h=>by
  have ih:=Pa (p:=p) (xs:=xs) (m:=m) (by simpa using hm) (by simpa using h0) (fun i h1 h2=>by have:=h (i+1) (by omega) (by simp;omega);simpa using this)
  simp only [Km,ih]
  rw [if_pos (by omega)]
  simp
theorem M4 (W:World) (rs:List Aa) (hn:rs.length≤1048576):Ar Go.Proofs.Tryz.prog W 219 [(AY 3 Aa.av) rs] (.fn 236 [.pt [(AY 3 Aa.av) rs]]) []:=by
 refine As (fn:=Go.Proofs.Tryz.f219) Go.Proofs.Tryz.func219 rfl (en219 W) (ts:=[2]) rfl le<|Sq<|Rg<|Nn (AV.loc 0 0 0) ⟨31,1,[(AY 3 Aa.av) rs]⟩<|Aq AV.nilf<|Ad<|Sq<|Rg<|Aq (.fn 236 [.loc 0 0 0])<|Aq (.fn 236 [.loc 0 0 0])<|Ad<|Rt ?_
 exact ⟨Or.inr rfl,BM.f kr⟩
abbrev Rj (rs:List Aa):={x:Nat×Value // x.1<rs.length∧Qx (rs.getD x.1 default).out x.2}
theorem Ro {w1:World} {μ1:Mu} {n₀:Nat} (hn0:n₀≤w1.heap.size) (p:Addr) (rs:List Aa) (hn:rs.length≤1048576) (hp:CR w1 μ1 (.pt [(AY 3 Aa.av) rs]) (.pointer (some p))):
  SeqStopsK Fence.wide 2 Go.Proofs.Tryz.prog 236 #[.pointer (some p)] (fun x:Rj rs=> #[.int .i64 (x.1.1:Int),x.1.2]) (La n₀ w1 μ1)
   (fun ys=>ys.map (·.1.1)=back rs.length rs.length) (fun pre=> ∃j,j≤rs.length∧pre.map (·.1.1)=back rs.length j) rs.length w1:=by
 intro l J Jx W hW hJ hJx hY h0
 have hS:Gl w1 μ1 W:=Gl.below hW
 refine callsIn_of_wp Go.Proofs.Tryz.func236 rfl trivial ?_ rfl
 have hcl:CR W (Eo (Yb w1 μ1 W)) (.pt [(AY 3 Aa.av) rs]) (.pointer (some p)):=Du hS.rd _ _ hp
 have hvs:FL W (Eo (Yb w1 μ1 W)) [.raw (.func (.yield l) #[] #[]),.pt [(AY 3 Aa.av) rs]] [Value.func (.yield l) #[] #[],.pointer (some p)]:=by
  simp only [FL]
  exact ⟨_,_,rfl,by simp only [CR],_,_,rfl,hcl,rfl⟩
 have R0:ER 19 ⟨W,W,Eo (Yb w1 μ1 W),0⟩ W (Eo (Yb w1 μ1 W)) (Dt 0 [.raw (.func (.yield l) #[] #[]),.pt [(AY 3 Aa.av) rs]]) ⟨0,[]⟩ {tmps:=[Value.func (.yield l) #[] #[],.pointer (some p)].toArray++Array.replicate 17 undef,defers:=[]} W:=
  Fq (Ga.refl W) (fun g q=>q.2) (Gh (CV _ _ hvs) _) (by simp) rfl
 show Code.wpIn Fence.wide 2 _ _ _ {tmps:=[Value.func (.yield l) #[] #[],.pointer (some p)].toArray++Array.replicate 17 undef,defers:=[]} W
 refine wpIn_seq (GY (Or.inl rfl) A6 kr (CU.q ((AY 3 Aa.av) rs)<|CU.p (Ai rs.length) (CA (k:=3) (nl:=false) (e:=56) (A:=Aa.av) (xs:=rs) kr kr)<|CU.p (AV.i .i64 (((rs.length:Nat):Int)-1)) (RH (a:=((rs.length:Nat):Int)) (b:=1) kr kr (by omega) (by omega))<|CU.q (AV.i .i64 (((rs.length:Nat):Int)-1))<|CU.done (Q:=fun env=>env=[(3,AV.i .i64 (((rs.length:Nat):Int)-1)),(6,AV.i .i64 (((rs.length:Nat):Int)-1)),(5,Ai rs.length),(4,(AY 3 Aa.av) rs)]++Dt 0 [.raw (.func (.yield l) #[] #[]),.pt [(AY 3 Aa.av) rs]]) rfl) R0 ?_)
 rintro env1 a1 rfl R1
 refine wpIn_block (wpIn_wide.2 (J4 (fun (k:Nat) (a:Act) (W2:World)=> ∃(pre:List (Rj rs)) (j:Nat),j+k=rs.length∧pre.map (·.1.1)=back rs.length j∧J pre W2∧
  ER 19 ⟨W2,W2,Eo (Yb w1 μ1 W2),0⟩ W2 (Eo (Yb w1 μ1 W2)) [(3,AV.i .i64 (((rs.length:Nat):Int)-1-((j:Nat):Int))),(1,.pt [(AY 3 Aa.av) rs]),(0,.raw (.func (.yield l) #[] #[]))] ⟨0,[]⟩ a W2) (k0:=rs.length) ?_ ?_))
 ·refine ⟨[],0,by omega,rfl,h0,R1.sub ⟨?_,rfl,rfl,trivial⟩⟩
  show AV.i .i64 (((rs.length:Nat):Int)-1)=_
  rw [show (((rs.length:Nat):Int)-1-((0:Nat):Int))=(((rs.length:Nat):Int)-1) from by omega]
 rintro k a W2 ⟨pre,j,hjk,hpre,hJp,R⟩
 refine (wpIn_wide (n:=2)).1 ?_
 refine wpIn_seq (wpIn_seq (GY (Or.inl rfl) A6 kr (CU.q (AV.i .i64 (((rs.length:Nat):Int)-1-((j:Nat):Int)))<|CU.q (AV.b (decide ((0:Int)≤(((rs.length:Nat):Int)-1-((j:Nat):Int)))))<|CU.done (Q:=fun env=>env=[(8,(AV.b (decide ((0:Int)≤(((rs.length:Nat):Int)-1-((j:Nat):Int)))))),(7,AV.i .i64 (((rs.length:Nat):Int)-1-((j:Nat):Int))),(3,AV.i .i64 (((rs.length:Nat):Int)-1-((j:Nat):Int))),(1,.pt [(AY 3 Aa.av) rs]),(0,.raw (.func (.yield l) #[] #[]))]) rfl) R ?_))
 rintro env2 a2 rfl R2
 have h8:=R2.env 8
 change VR _ _ (AV.b _) (a2.eval (.tmp 8)) at h8
 simp only [VR,CR] at h8
 rcases Nat.eq_zero_or_pos k with hk0|hk0
 ·refine wpIn_cond (t:=false) (by rw [h8];congr 1;exact decide_eq_false (by omega)) (wpIn_exit ?_)
  refine ⟨R2.dfr,_,results_none rfl _ _ _,⟨_,rfl⟩,Or.inl ⟨pre,?_,hJp⟩⟩
  show pre.map (·.1.1)=_
  rw [hpre,show j=rs.length by omega]
 refine wpIn_cond (t:=true) (by rw [h8];congr 1;exact decide_eq_true (by omega)) (wpIn_skip ?_)
 obtain ⟨m,hm⟩: ∃m:Nat,m=rs.length-1-j:=⟨_,rfl⟩
 have hme:((rs.length:Nat):Int)-1-((j:Nat):Int)=((m:Nat):Int):=by omega
 have hml:m<rs.length:=by omega
 rw [hme] at R2
 refine wpIn_seq (wpIn_block (wpIn_seq (wpIn_region ?_)))
 show wpOpsIn _ _ _ _ _ ([0,1,2,3,4,5]++[6,7]) _ _
 refine Io (os:=_) (Or.inl rfl) A6 kr [0,1,2,3,4,5] rfl (CU.q (.raw (.func (.yield l) #[] #[]))<|CU.q (Ai m)<|CU.q ((AY 3 Aa.av) rs)<|CU.q (Ai m)<|CU.p (AV.pt (Aa.av (rs.getD m default)).cells) (CP (k:=3) (nl:=false) (e:=56) (kk:= .i64) (A:=Aa.av) (xs:=rs) (i:=m) kr kr kr ⟨by kernel_rfl,by decide⟩ (getD_some hml))<|CU.q (Aa.av (rs.getD m default))<|CU.done (Q:=fun env=>env=[(16,Aa.av (rs.getD m default)),(15,AV.pt (Aa.av (rs.getD m default)).cells),(14,Ai m),(13,(AY 3 Aa.av) rs),(12,Ai m),(11,.raw (.func (.yield l) #[] #[])),(8,(AV.b (decide ((0:Int)≤((m:Nat):Int))))),(7,Ai m),(3,Ai m),(1,.pt [(AY 3 Aa.av) rs]),(0,.raw (.func (.yield l) #[] #[]))]) rfl) R2 ?_
 rintro env3 a3 rfl R3
 have g0:=R3.env 11
 change VR _ _ (AV.raw _) (a3.eval (.tmp 11)) at g0
 simp only [VR] at g0
 have g1:=R3.env 12
 change VR _ _ (Ai m) (a3.eval (.tmp 12)) at g1
 simp only [VR,CR] at g1
 have g2:=R3.env 16
 change VR _ _ (Aa.av (rs.getD m default)) (a3.eval (.tmp 16)) at g2
 generalize hv:a3.eval (.tmp 16)=v at g2
 have hgood:Qx (rs.getD m default).out v:=by
  simp only [Aa.av,AY,VR,D2,CR] at g2
  obtain ⟨cs,rfl,v1,r1,e1,⟨rfl,hs1⟩,v2,r2,rfl,rfl,v3,r3,rfl,⟨rfl,_⟩,rfl⟩:=g2
  exact ⟨_,_,congrArg Value.agg (Array.ext' e1),hs1,Or.inl ⟨_,rfl⟩⟩
 have hpl:pre.length=j:=by have:=congrArg List.length hpre;simpa [back] using this
 obtain ⟨fn,tm,asg,bd,hy,hR⟩:=hY pre ⟨(m,v),hml,hgood⟩ W2 hJp (by omega)
 dsimp only at hy
 have hpre':(pre++[(⟨(m,v),hml,hgood⟩:Rj rs)]).map (·.1.1)=back rs.length (j+1):=by
  rw [List.map_append,hpre,LR]
  show _++[m]=_
  rw [show m=rs.length-1-j by omega]
 have hrun: ∀(c:Operand→Value) (ty:TypeId) (pos:String) (af:Array Edge),c (.tmp 11)= .func (.yield l) #[] #[]→c (.tmp 12)= .int .i64 ((m:Nat):Int)→c (.tmp 16)=v→ ∀at':Array TypeId,
   (execOp c ⟨some 17,.call {callee:= .value (.tmp 11),args:= #[.tmp 12,.tmp 16],argTypes:=at'},ty,pos,af,none⟩).run Go.Proofs.Tryz.prog W2= .ok (.round l fn tm asg bd) W2:=by
  intro c ty pos af e1 e2 e3 at'
  unfold execOp
  simp only [resolve,e1,e2,e3,Deferred.ofValue,Sem.run_bind,Sem.run_pure,Result.andThen_ok,invoke,Array.empty_append,List.map_toArray,List.map_cons,List.map_nil,Array.append_empty]
  exact hy
 refine J0 rfl rfl (PU (Or.inl rfl) kr (hrun _ _ _ _ g0 g1 hv _) hR ?_)
 rintro e W3 (⟨rfl,hJ3,hk3⟩|⟨rfl,hJx3⟩)
 ·refine ⟨_,rfl,?_⟩
  have R4:ER 19 ⟨W3,W3,Eo (Yb w1 μ1 W3),0⟩ W3 (Eo (Yb w1 μ1 W3)) [(17,.b true),(3,Ai m),(1,.pt [(AY 3 Aa.av) rs]),(0,.raw (.func (.yield l) #[] #[]))] ⟨0,[]⟩ (a3.put (some 17) (.bool true)) W3:=by
   have R3':=(R3.sub (env':=[(3,Ai m),(1,.pt [(AY 3 Aa.av) rs]),(0,.raw (.func (.yield l) #[] #[]))]) ⟨rfl,rfl,rfl,trivial⟩)
   have R5:ER 19 ⟨W3,W3,Eo (Yb w1 μ1 W3),0⟩ W3 (Eo (Yb w1 μ1 W3)) [(3,Ai m),(1,.pt [(AY 3 Aa.av) rs]),(0,.raw (.func (.yield l) #[] #[]))] ⟨0,[]⟩ a3 W3:=
    Fq (Ga.refl W3) (fun g q=>q.2) (QD hk3 R3' kr) R3.sz R3.dfr
   exact FK A6 R5 (Hw.refl R5.sim).step (d:=some 17) (fun t ht=>by cases ht;decide) (x:= .b true) (by simp only [VR,CR])
  show wpOpsIn _ _ _ _ _ ([7]++[]) _ _
  refine Io (os:=_) (Or.inl rfl) A6 kr [7] rfl (CU.q (.b false)<|CU.done (Q:=fun env=>env=[(18,.b false),(17,.b true),(3,Ai m),(1,.pt [(AY 3 Aa.av) rs]),(0,.raw (.func (.yield l) #[] #[]))]) rfl) R4 ?_
  rintro env5 a5 rfl R5
  have h18:=R5.env 18
  change VR _ _ (AV.b false) (a5.eval (.tmp 18)) at h18
  simp only [VR,CR] at h18
  refine wpIn_cond (t:=false) h18 (wpIn_skip ?_)
  refine GY (Or.inl rfl) A6 kr (CU.q (Ai m)<|CU.p (AV.i .i64 (((m:Nat):Int)-1)) (RH (a:=((m:Nat):Int)) (b:=1) kr kr (by omega) (by omega))<|CU.q (AV.i .i64 (((m:Nat):Int)-1))<|CU.done (Q:=fun env=>env=[(3,AV.i .i64 (((m:Nat):Int)-1)),(10,AV.i .i64 (((m:Nat):Int)-1)),(9,Ai m),(18,.b false),(17,.b true),(3,Ai m),(1,.pt [(AY 3 Aa.av) rs]),(0,.raw (.func (.yield l) #[] #[]))]) rfl) R5 ?_
  rintro env6 a6 rfl R6
  refine ⟨k-1,by omega,pre++[⟨(m,v),hml,hgood⟩],j+1,by omega,hpre',hJ3,R6.sub ⟨?_,rfl,rfl,trivial⟩⟩
  show AV.i .i64 (((m:Nat):Int)-1)=_
  rw [show ((rs.length:Nat):Int)-1-(((j+1:Nat):Nat):Int)=((m:Nat):Int)-1 from by omega]
 ·refine ⟨_,rfl,?_⟩
  have R5:ER 19 ⟨W3,W3,Eo (fun _=>False),0⟩ W3 (Eo (fun _=>False)) [(17,.b false)] ⟨0,[]⟩ (a3.put (some 17) (.bool false)) W3:=by
   have R5:ER 19 ⟨W3,W3,Eo (fun _=>False),0⟩ W3 (Eo (fun _=>False)) [] ⟨0,[]⟩ a3 W3:=
    Fq (Ga.refl W3) (fun g q=>q.elim) (fun t=>by show VR _ _ .und _;simp only [VR]) R3.sz R3.dfr
   exact FK A6 R5 (Hw.refl R5.sim).step (d:=some 17) (fun t ht=>by cases ht;decide) (x:= .b false) (by simp only [VR,CR])
  show wpOpsIn _ _ _ _ _ ([7]++[]) _ _
  refine Io (os:=_) (Or.inl rfl) A6 kr [7] rfl (CU.q (.b true)<|CU.done (Q:=fun env=>env=[(18,.b true),(17,.b false)]) rfl) R5 ?_
  rintro env5 a5 rfl R5
  have h18:=R5.env 18
  change VR _ _ (AV.b true) (a5.eval (.tmp 18)) at h18
  simp only [VR,CR] at h18
  refine wpIn_cond (t:=true) h18 (wpIn_ret ?_)
  exact ⟨R5.dfr,_,results_none rfl _ _ _,⟨_,rfl⟩,Or.inr ⟨_,⟨j+1,by omega,hpre'⟩,hJx3⟩⟩
theorem U9 (W:World) (rs:List Aa) (out:ByteArray) (hn:rs.length≤1048576):Ar Go.Proofs.Tryz.prog W 193 [(AY 3 Aa.av) rs,.s out] (.i .i64 (BK rs out)) []:=by
 refine DE (en193 W) fun w Y vs hG hvs=> ?_
 have hvs':FL w (Eo fun _=>False) [(AY 3 Aa.av) rs,.s out] vs:=J1 (fun a u ⟨h1,h2,h3⟩=>⟨h1,(fun q=>by rcases q with q|⟨_,_,q,_⟩;exact q;cases q),h3⟩) _ _ hvs
 have hvl:=GJ hvs'
 match vs,hvl,hvs' with
 | [v1,v2],_,hvs'=>
 refine (callsIn_wide (n:=3)).1 (callsIn_of_wp_marks Go.Proofs.Tryz.func193 rfl trivial ?_ rfl)
 have R0:ER 16 ⟨W,w,Eo fun _=>False,0⟩ w (Eo fun _=>False) (Dt 0 [(AY 3 Aa.av) rs,.s out]) ⟨0,[]⟩ {tmps:=[v1,v2].toArray++Array.replicate 14 undef,defers:=[]} w:=
  Fq hG (fun g q=>q.elim) (Gh (CV _ _ hvs') _) (by simp) rfl
 show Code.wpIn Fence.wide 3 _ _ _ {tmps:=[v1,v2].toArray++Array.replicate 14 undef,defers:=[]} w
 refine wpIn_seq (wpIn_mono (L2.region (N:=0) (W:=W) (Or.inl rfl) A6 kr (Q:=fun e env' h'=>e= .normal∧env'=[(4,AV.loc 1 0 0),(3,AV.loc 0 0 0)]++Dt 0 [(AY 3 Aa.av) rs,.s out]∧h'=OB ⟨9,1,[AV.s out]⟩ ⟨3,1,[AV.i .i64 0]⟩)
  (Nn (AV.loc 0 0 0) ⟨9,1,[AV.s out]⟩<|Nn (AV.loc 1 0 0) ⟨3,1,[AV.i .i64 0]⟩<|Ad ⟨rfl,rfl,rfl⟩) _ _ _ _ _ rfl rfl R0) ?_)
 rintro e a1 w1 ⟨env1,h1,μ1,⟨rfl,rfl,rfl⟩,R1⟩
 refine wpIn_seq (wpIn_seq (wpIn_mono (L2.region (N:=0) (W:=W) (Or.inl rfl) A6 kr (Q:=fun e env' h'=>e= .normal∧env'=[(8,.fn 236 [.pt [(AY 3 Aa.av) rs]]),(7,(AY 3 Aa.av) rs),(4,AV.loc 1 0 0),(3,AV.loc 0 0 0)]++Dt 0 [(AY 3 Aa.av) rs,.s out]∧h'=OB ⟨9,1,[AV.s out]⟩ ⟨3,1,[AV.i .i64 0]⟩)
  (Aq ((AY 3 Aa.av) rs)<|A4.sc0 (vs:=[(AY 3 Aa.av) rs]) (r0:= .fn 236 [.pt [(AY 3 Aa.av) rs]]) kr kr (M4 W rs hn) kr le<|Ad ⟨rfl,rfl,rfl⟩) _ _ _ _ _ rfl rfl R1) ?_))
 clear R1
 rintro e a1 w1 ⟨env1,h1,μ1,⟨rfl,rfl,rfl⟩,R1⟩
 have hs1:=R1.sim
 have hy1:μ1.Y=fun _=>False:=R1.snc.y
 have hf1:=R1.fresh
 have hown:=JR (a:=⟨9,1,[AV.s out]⟩) (b:=⟨3,1,[AV.i .i64 0]⟩) hf1
 have hmut: ∀g,μ1.mut g→g<w1.heap.size∧w.heap.size≤g:=by
  rintro g (q|⟨id,sl,q,rfl⟩)
  ·rw [hy1] at q;exact q.elim
  ·exact ⟨(hs1.lt id sl q).2,(hs1.lt id sl q).1⟩
 have hn0:w.heap.size≤w1.heap.size:=hs1.below.size
 have hfn:=R1.env 8
 change VR w1 μ1 (.fn 236 [.pt [(AY 3 Aa.av) rs]]) (a1.tmps.getD 8 undef) at hfn
 simp only [VR,D2] at hfn
 obtain ⟨cs,hV,v8,r8,he8,hp8,rfl⟩:=hfn
 have hp8':=hp8
 simp only [CR] at hp8'
 obtain ⟨p,rfl,_⟩:=hp8'
 have hcs:cs= #[.pointer (some p)]:=Array.ext' he8
 subst hcs
 have hV8:a1.tmps.getD 8 undef= .func (.func 236) #[] #[.pointer (some p)]:=by
  rcases hV with ⟨_,h⟩|⟨h,_⟩
  ·exact h
  ·exact absurd h (by decide)
 have hl3:=R1.env 3
 change VR w1 μ1 (.loc 0 0 0) (a1.tmps.getD 3 undef) at hl3
 have hl4:=R1.env 4
 change VR w1 μ1 (.loc 1 0 0) (a1.tmps.getD 4 undef) at hl4
 have hloc: ∀(W:World) (id:Nat) (v:Value),VR w1 μ1 (.loc id 0 0) v→VR W μ1 (.loc id 0 0) v:=fun W id v h=>by simp only [VR] at h ⊢;exact h
 have hleave: ∀(D:Nat) (W3:World) (z:Int),w1.heap.size≤D→W3.heap[D]? =some (.deferred (some []))→FM w μ1 W3 (OB ⟨9,1,[AV.s out]⟩ ⟨3,1,[AV.i .i64 z]⟩)→z=BK rs out→
   LeavesInM Fence.wide 3 Go.Proofs.Tryz.prog Go.Proofs.Tryz.f193 a1.tmps (fun e w'=> ∃v,e= .returned v∧VR w' (Eo Y) (.i .i64 (BK rs out)) v∧Below w.heap.size w w') [{target:= .collected D,args:= #[]}] .returning W3:=by
  intro D W3 z hD hK hs hz
  refine SN (m:=16) A6 (env:=[(4,AV.loc 1 0 0)]) (x:= .i .i64 z) hK hs (H0 rfl rfl) (JR hf1) hf1 (Nat.le_trans hn0 hD) (fun W t=> ?_) R1.sz kr (fun v W4 hv hb=>⟨v,rfl,?_,hb⟩)
  ·by_cases e:t=4
   ·subst e;exact hloc W 1 _ hl4
   ·unfold C7.get;rw [Cg,if_neg e];show VR W μ1 .und _;simp only [VR]
  ·simp only [VR,CR] at hv ⊢;rw [←hz];exact hv
 refine wpIn_block (wpIn_rangeFunc_ownH (α:=Rj rs) (F:=Fence.wide) rfl (by decide) (gf:=236) (lb:= #[.pointer (some p)]) hV8 trivial (fun args w=>en236 W args w)
  (Ro (n₀:=w.heap.size) hn0 p rs hn hp8) La.trans (La.put hn0) (Below.refl _ _) (fun _=>rfl)
  (fun pre W2=>(∀x∈pre,(rs.getD x.1.1 default).out≠out)∧Gl w1 μ1 W2∧FM w μ1 W2 (OB ⟨9,1,[AV.s out]⟩ ⟨3,1,[AV.i .i64 0]⟩))
  (fun c pre W2=>c= .ret∧ ∃ini last,pre=ini++[last]∧(∀x∈ini,(rs.getD x.1.1 default).out≠out)∧(rs.getD last.1.1 default).out=out∧FM w μ1 W2 (OB ⟨9,1,[AV.s out]⟩ ⟨3,1,[AV.i .i64 ((last.1.1:Nat):Int)]⟩))
  ?_ ?_ ⟨by simp,⟨Nat.le_refl _,fun _ _ _=>rfl⟩,hs1⟩
  (fun x a' W2=>a'.tmps.size=16∧a'.defers=[]∧a'.tmps.getD 3 undef=a1.tmps.getD 3 undef∧a'.tmps.getD 4 undef=a1.tmps.getD 4 undef∧a'.tmps.getD 5 undef= .int .i64 ((x.1.1:Nat):Int)∧
    ∃q,a'.tmps.getD 6 undef= .pointer (some q)∧w1.heap.size≤q.block∧BL W2 (Eo fun _=>False) [.s (rs.getD x.1.1 default).out,.und,.und] q) ?_ ?_ ?_ ?_ ?_)
 ·
  rintro pre A A' row ⟨h1,h2,h3⟩ hg hr
  exact ⟨h1,h2.grown hg (fun r e=>(hr r e).1),h3.grown (H0 rfl rfl) (JR hf1) hg (fun r e=>⟨Nat.le_trans hn0 (hr r e).1,(hr r e).2⟩)⟩
 ·rintro c pre A A' row ⟨h1,ini,last,h2,h3,h4,h5⟩ hg hr
  exact ⟨h1,ini,last,h2,h3,h4,h5.grown (H0 rfl rfl) (JR hf1) hg (fun r e=>⟨Nat.le_trans hn0 (hr r e).1,(hr r e).2⟩)⟩
 ·rintro x a' _ A A' row ⟨h1,h2,h3,h4,h5,q,h6,h7,h8⟩ hg hr
  refine ⟨h1,h2,h3,h4,h5,q,h6,h7,Gr (fun ad u ⟨k1,k2,k3⟩=>⟨?_,k2,k3⟩) _ _ h8⟩
  rw [Fe (hg.block _ (Js k1) (fun e=> ?_))]
  ·exact k1
  ·obtain ⟨_,o,ho,hc⟩:=hr _ e.symm
   unfold World.cell? at k1;rw [ho] at k1;cases o<;>simp_all [Go.Obj.isCells]
 ·
  rintro l pre ⟨⟨k,v⟩,hk,hgood⟩ W2 K ⟨hne,hS,hs⟩ hK
  have hgood':Qx (rs.getD k default).out v:=hgood
  obtain ⟨t,y,rfl,hso,hy⟩:=hgood'
  have RA:ER 16 ⟨W2,W2,Eo fun _=>False,0⟩ W2 (Eo fun _=>False) [(10,.st [.s (rs.getD k default).out,.i .i64 t,.raw y]),(9,Ai k),(4,.raw (a1.tmps.getD 4 undef)),(3,.raw (a1.tmps.getD 3 undef))] ⟨0,[]⟩
    {tmps:=(a1.tmps.setIfInBounds 9 (.int .i64 ((k:Nat):Int))).setIfInBounds 10 (.agg #[.string (rs.getD k default).out,.int .i64 t,y]),defers:=[]} W2:=by
   have h16:=R1.sz
   change a1.tmps.size=16 at h16
   refine Fq (Ga.refl W2) (fun g q=>q.elim) (fun q=> ?_) (by simpa using h16) rfl
   unfold C7.get
   simp only [Cg]
   by_cases e10:q=10
   ·subst e10
    simp only [if_true,Option.getD_some,Array.getD_eq_getD_getElem?,Array.getElem?_setIfInBounds]
    rw [if_pos (by simp;omega)]
    simp only [Option.getD_some,VR,D2,CR]
    exact ⟨_,rfl,_,_,rfl,⟨rfl,hso⟩,_,_,rfl,rfl,_,_,rfl,rfl,rfl⟩
   ·by_cases e9:q=9
    ·subst e9
     rw [if_neg e10,if_pos rfl]
     simp only [Option.getD_some,Array.getD_eq_getD_getElem?,Array.getElem?_setIfInBounds]
     rw [if_neg (by decide),if_pos trivial,if_pos (by omega)]
     simp only [Option.getD_some,VR,CR]
    ·rw [if_neg e10,if_neg e9]
     have hq:((a1.tmps.setIfInBounds 9 (.int .i64 ((k:Nat):Int))).setIfInBounds 10 (.agg #[.string (rs.getD k default).out,.int .i64 t,y])).getD q undef=a1.tmps.getD q undef:=by
      simp only [Array.getD_eq_getD_getElem?,Array.getElem?_setIfInBounds]
      rw [if_neg (fun e=>e10 e.symm),if_neg (fun e=>e9 e.symm)]
     show VR _ _ _ (((a1.tmps.setIfInBounds 9 (.int .i64 ((k:Nat):Int))).setIfInBounds 10 (.agg #[.string (rs.getD k default).out,.int .i64 t,y])).getD q undef)
     rw [hq]
     by_cases e4:q=4
     ·subst e4;rw [if_pos rfl];simp only [Option.getD_some,VR]
     ·by_cases e3:q=3
      ·subst e3;rw [if_neg e4,if_pos rfl];simp only [Option.getD_some,VR]
      ·rw [if_neg e4,if_neg e3];show VR _ _ .und _;simp only [VR]
  refine (fun (hg: ∀tm':Array Value,tm'=(a1.tmps.setIfInBounds 9 (.int .i64 ((k:Nat):Int))).setIfInBounds 10 (.agg #[.string (rs.getD k default).out,.int .i64 t,y])→Code.wpIn _ _ _ _ _ {tmps:=tm',defers:=[]} W2)=>hg _ (by simp)) ?_
  rintro tm' rfl
  refine wpIn_mono (Q:=fun e a' w'=> ∃env' h' μ',(e= .normal∧env'=[(6,AV.loc 0 0 0),(5,Ai k),(10,.st [.s (rs.getD k default).out,.i .i64 t,.raw y]),(9,Ai k),(4,.raw (a1.tmps.getD 4 undef)),(3,.raw (a1.tmps.getD 3 undef))]∧h'=⟨1,[(0,some ⟨56,3,[.st [.s (rs.getD k default).out,.i .i64 t,.raw y]]⟩)]⟩)∧
   ER 16 ⟨W2,W2,Eo fun _=>False,0⟩ W2 μ' env' h' a' w') ?_ ?_
  ·rcases hy with ⟨s,rfl⟩|⟨p',n',c',rfl⟩
   all_goals
    exact L2.seq (N:=0) (W:=W2) (Q:=fun e env' h'=>e= .normal∧env'=_∧h'=_) (L2.region (Or.inr ⟨l,rfl⟩) A6 kr (Aq (Ai k)<|Ad (L2.region (Or.inr ⟨l,rfl⟩) A6 kr
     (Nn (AV.loc 0 0 0) ⟨56,3,[.st [AV.s (⟨#[]⟩:ByteArray),.i .i64 0,AV.s (⟨#[]⟩:ByteArray)]]⟩<|Sp 0 ⟨56,3,[.st [.s (rs.getD k default).out,.i .i64 t,.raw _]]⟩<|Ad ⟨rfl,rfl,rfl⟩)))) _ _ _ _ _ rfl rfl RA
  ·rintro e a' W3 ⟨env',h',μ',⟨rfl,rfl,rfl⟩,RB⟩
   have hb:=RB.sim.below
   have hbn:Below w.heap.size W2 W3:=hb.mono (Nat.le_trans hn0 hS.1)
   have hkp:La w.heap.size w1 μ1 W2 W3:=⟨hbn,fun g hg _=>hb.block g (Nat.lt_of_lt_of_le hg hS.1)⟩
   refine hK a' W3 ⟨hb.size,fun q o _ hq _=>(hb.block q (Array.getElem?_eq_some_iff.1 hq).1).trans hq⟩ hkp ⟨hne,hS.step hkp,hs.keep (H0 rfl rfl) hbn fun id sl e=>hb.block _ (hs.lt id sl e).2⟩ ?_
   have q3:=RB.env 3
   have q4:=RB.env 4
   have q5:=RB.env 5
   have q6:=RB.env 6
   change VR _ _ (.raw _) _ at q3
   change VR _ _ (.raw _) _ at q4
   change VR _ _ (Ai k) _ at q5
   change VR _ _ (AV.loc 0 0 0) _ at q6
   simp only [VR] at q3 q4
   simp only [VR,CR] at q5
   obtain ⟨q,e1,e2,e3⟩:=Td RB.sim (id:=0) rfl q6 (rs.getD k default).out _ rfl rfl
   exact ⟨RB.sz,RB.dfr,q3,q4,q5,q,e1,Nat.le_trans hS.1 e2,e3⟩
 ·
  rintro l pre x a' W2 hl hr ⟨hne,hS,hs⟩ ⟨h1,h2,h3,h4,h5,q,h6,h7,h8⟩ hlen
  have h8':CR W2 μ1 (.pt [.s (rs.getD x.1.1 default).out,.und,.und]) (.pointer (some q)):=by
   simp only [CR]
   refine ⟨q,rfl,?_⟩
   simp only [BL] at h8 ⊢
   obtain ⟨⟨u0,⟨k1,_,k3⟩,k4⟩,⟨u1,⟨k5,_,k7⟩,_⟩,⟨u2,⟨k9,_,k11⟩,_⟩,_⟩:=h8
   have hm: ¬μ1.mut q.block:=fun z=>by have:=(hmut _ z).1;omega
   exact ⟨⟨u0,⟨k1,hm,k3⟩,by simp only [CR] at k4 ⊢;exact k4⟩,⟨u1,⟨k5,by rw [HG];exact hm,k7⟩,trivial⟩,⟨u2,⟨k9,by rw [HG,HG];exact hm,k11⟩,trivial⟩,trivial⟩
  have RB:ER 16 ⟨W,W2,μ1,2⟩ w μ1 [(6,.pt [.s (rs.getD x.1.1 default).out,.und,.und]),(5,Ai x.1.1),(4,AV.loc 1 0 0),(3,AV.loc 0 0 0)] (OB ⟨9,1,[AV.s out]⟩ ⟨3,1,[AV.i .i64 0]⟩) a' W2:=by
   refine ⟨R1.glob,⟨ID.refl _ _,rfl,fun _ _ h=>h,hf1⟩,Nat.le_refl _,hs,fun t=> ?_,h1,h2,hf1⟩
   unfold C7.get
   simp only [Cg]
   by_cases e6:t=6
   ·subst e6;rw [if_pos rfl,h6];exact Eb _ _ h8'
   ·by_cases e5:t=5
    ·subst e5;rw [if_neg e6,if_pos rfl,h5];simp only [Option.getD_some,VR,CR]
    ·by_cases e4:t=4
     ·subst e4;rw [if_neg e6,if_neg e5,if_pos rfl,h4];exact hloc _ _ _ hl4
     ·by_cases e3:t=3
      ·subst e3;rw [if_neg e6,if_neg e5,if_neg e4,if_pos rfl,h3];exact hloc _ _ _ hl3
      ·rw [if_neg e6,if_neg e5,if_neg e4,if_neg e3];show VR _ _ .und _;simp only [VR]
  refine wpIn_block (wpIn_seq (GY (Or.inr ⟨l,rfl⟩) A6 kr (CU.q (.pt ([AV.s (rs.getD x.1.1 default).out,.und,.und].drop 0))<|CU.q (.s (rs.getD x.1.1 default).out)<|CU.q (.s out)<|CU.q (.b (decide ((rs.getD x.1.1 default).out=out)))<|CU.done (Q:=fun env=>env=[(14,.b (decide ((rs.getD x.1.1 default).out=out))),(13,.s out),(12,.s (rs.getD x.1.1 default).out),(11,.pt ([AV.s (rs.getD x.1.1 default).out,.und,.und].drop 0)),(6,.pt [.s (rs.getD x.1.1 default).out,.und,.und]),(5,Ai x.1.1),(4,AV.loc 1 0 0),(3,AV.loc 0 0 0)]) rfl) RB ?_))
  rintro env2 a2 rfl R2
  have h14:=R2.env 14
  change VR _ _ (AV.b _) (a2.eval (.tmp 14)) at h14
  simp only [VR,CR] at h14
  by_cases heq:(rs.getD x.1.1 default).out=out
  ·refine wpIn_cond (t:=true) (by rw [h14,decide_eq_true heq]) (wpIn_seq (wpIn_mono (L2.region (N:=2) (W:=W) (Or.inr ⟨l,rfl⟩) A6 kr (Q:=fun e env' h'=>e= .normal∧h'=OB ⟨9,1,[AV.s out]⟩ ⟨3,1,[AV.i .i64 ((x.1.1:Nat):Int)]⟩)
     (Aq (Ai x.1.1)<|Sp 1 ⟨3,1,[AV.i .i64 ((x.1.1:Nat):Int)]⟩<|Ad ⟨rfl,rfl⟩) _ _ _ _ _ rfl rfl R2) ?_))
   rintro e a3 W3 ⟨env3,h3,μ3,⟨rfl,rfl⟩,R3⟩
   have hmu:μ3=μ1:=Uz R3 rfl (LI _ _)
   subst hmu
   refine wpIn_ret ⟨⟨PE R3.snc.ext hs R3.sim fun _ _ e=>e,fun g o hg ho hc=> ?_⟩,rfl,pre,x,rfl,hne,heq,R3.sim⟩
   rw [R3.snc.ext.bl g (Array.getElem?_eq_some_iff.1 ho).1 (fun z=>by have:=(hmut _ z).1;omega)];exact ho
  ·refine wpIn_cond (t:=false) (by rw [h14,decide_eq_false heq]) (wpIn_skip ?_)
   refine ⟨KeepsFrom.refl _ _,⟨Below.refl _ _,fun _ _ _=>rfl⟩,fun z hz=> ?_,hS,hs⟩
   rcases List.mem_append.1 hz with hz|hz
   ·exact hne z hz
   ·simp only [List.mem_singleton] at hz;subst hz;exact heq
 ·
  rintro D xs W2 hD hxs ⟨hne,hS,hs⟩ hK
  have hz:(-1:Int)=BK rs out:=by
   refine (LU fun i hi=> ?_).symm
   have hm:i∈xs.map (·.1.1):=by
    have hxs':xs.map (·.1.1)=back rs.length rs.length:=hxs
    rw [hxs'];simp only [back,List.mem_map,List.mem_range];exact ⟨rs.length-1-i,by omega,by omega⟩
   obtain ⟨x,hx,rfl⟩:=List.mem_map.1 hm
   exact decide_eq_false (hne x hx)
  refine wpIn_seq (wpIn_region ?_)
  refine J0 rfl rfl (To (env:=[(4,AV.loc 1 0 0)]) (h:=OB ⟨9,1,[AV.s out]⟩ ⟨3,1,[AV.i .i64 0]⟩) (h':=OB ⟨9,1,[AV.s out]⟩ ⟨3,1,[AV.i .i64 (-1)]⟩) (x:= .und) (Or.inl rfl) A6 kr kr rfl hs hf1 (fun t=> ?_) (fun W3 μ3 st=> ?_))
  ·by_cases e:t=4
   ·subst e;exact hloc _ _ _ hl4
   ·unfold C7.get;rw [Cg,if_neg e];show VR _ _ .und _;simp only [VR]
  ·have R3:ER 16 ⟨W,W2,μ1,2⟩ w μ3 [] (OB ⟨9,1,[AV.s out]⟩ ⟨3,1,[AV.i .i64 (-1)]⟩) {tmps:=a1.tmps,defers:=[]} W3:=by
     have s0:OH ⟨W,W2,μ1,2⟩ μ1 W2:=⟨ID.refl _ _,rfl,fun _ _ h=>h,hf1⟩
     refine ⟨R1.glob,s0.step st (Nat.le_refl _),Nat.le_refl _,st.sim,fun t=>by show VR _ _ .und _;simp only [VR],R1.sz,rfl,fun id hid=> ?_⟩
     cases e:μ3 id with
     |none=>rfl
     |some s=>exact absurd (st.dom id (hf1 id hid) (by rw [e];simp)).2 (by show ¬id<2;exact Nat.not_lt.2 hid)
   have hmu:μ3=μ1:=Uz R3 rfl (LI _ _)
   subst hmu
   refine wpIn_ret ?_
   have hD2:=(Array.getElem?_eq_some_iff.1 hK).1
   have hdf:a1.defers=[]:=R1.dfr
   show LeavesInM _ _ _ _ _ _ ({target:= .collected D,args:= #[]}::a1.defers) _ _
   rw [hdf]
   exact hleave D W3 (-1) hD (by rw [st.ext.bl D hD2 (fun z=>by have:=(hmut _ z).1;omega)];exact hK) st.sim hz
 ·rintro D c pre W2 hD ⟨j,hj,hmap⟩ ⟨rfl,ini,last,rfl,hini,hlast,hs'⟩ hK
  refine wpIn_ret ?_
  have hdf:a1.defers=[]:=R1.dfr
  show LeavesInM _ _ _ _ _ _ ({target:= .collected D,args:= #[]}::a1.defers) _ _
  rw [hdf]
  refine hleave D W2 _ hD hK hs' (Eq.symm (Pa last.2.1 (decide_eq_true hlast) fun i h1 h2=> ?_))
  obtain ⟨j',rfl⟩: ∃j',j=j'+1:=by
   cases j with
   |zero=>simp [back] at hmap
   |succ j'=>exact ⟨j',rfl⟩
  rw [LR,List.map_append] at hmap
  obtain ⟨e1,e2⟩:=List.append_inj' hmap rfl
  have e3:last.1.1=rs.length-1-j':=by simpa using e2
  have hm:i∈ini.map (·.1.1):=by
   rw [e1];simp only [back,List.mem_map,List.mem_range];exact ⟨rs.length-1-i,by omega,by omega⟩
  obtain ⟨x,hx,rfl⟩:=List.mem_map.1 hm
  exact decide_eq_false (hini x hx)
theorem M3 (W:World) (rs:List AG) (hn:rs.length≤1048576):Ar Go.Proofs.Tryz.prog W 194 [(AY 3 AG.av) rs] (.fn 220 [.pt [(AY 3 AG.av) rs]]) []:=by
 refine As (fn:=Go.Proofs.Tryz.f194) Go.Proofs.Tryz.func194 rfl (en194 W) (ts:=[2]) rfl le<|Sq<|Rg<|Nn (AV.loc 0 0 0) ⟨32,1,[(AY 3 AG.av) rs]⟩<|Aq AV.nilf<|Ad<|Sq<|Rg<|Aq (.fn 220 [.loc 0 0 0])<|Aq (.fn 220 [.loc 0 0 0])<|Ad<|Rt ?_
 exact ⟨Or.inr rfl,BM.f kr⟩
abbrev Ri (rs:List AG):={x:Nat×Value // x.1<rs.length∧Qx (rs.getD x.1 default).out x.2}
theorem Rn {w1:World} {μ1:Mu} {n₀:Nat} (hn0:n₀≤w1.heap.size) (p:Addr) (rs:List AG) (hn:rs.length≤1048576) (hp:CR w1 μ1 (.pt [(AY 3 AG.av) rs]) (.pointer (some p))):
  SeqStopsK Fence.wide 2 Go.Proofs.Tryz.prog 220 #[.pointer (some p)] (fun x:Ri rs=> #[.int .i64 (x.1.1:Int),x.1.2]) (La n₀ w1 μ1)
   (fun ys=>ys.map (·.1.1)=back rs.length rs.length) (fun pre=> ∃j,j≤rs.length∧pre.map (·.1.1)=back rs.length j) rs.length w1:=by
 intro l J Jx W hW hJ hJx hY h0
 have hS:Gl w1 μ1 W:=Gl.below hW
 refine callsIn_of_wp Go.Proofs.Tryz.func220 rfl trivial ?_ rfl
 have hcl:CR W (Eo (Yb w1 μ1 W)) (.pt [(AY 3 AG.av) rs]) (.pointer (some p)):=Du hS.rd _ _ hp
 have hvs:FL W (Eo (Yb w1 μ1 W)) [.raw (.func (.yield l) #[] #[]),.pt [(AY 3 AG.av) rs]] [Value.func (.yield l) #[] #[],.pointer (some p)]:=by
  simp only [FL]
  exact ⟨_,_,rfl,by simp only [CR],_,_,rfl,hcl,rfl⟩
 have R0:ER 19 ⟨W,W,Eo (Yb w1 μ1 W),0⟩ W (Eo (Yb w1 μ1 W)) (Dt 0 [.raw (.func (.yield l) #[] #[]),.pt [(AY 3 AG.av) rs]]) ⟨0,[]⟩ {tmps:=[Value.func (.yield l) #[] #[],.pointer (some p)].toArray++Array.replicate 17 undef,defers:=[]} W:=
  Fq (Ga.refl W) (fun g q=>q.2) (Gh (CV _ _ hvs) _) (by simp) rfl
 show Code.wpIn Fence.wide 2 _ _ _ {tmps:=[Value.func (.yield l) #[] #[],.pointer (some p)].toArray++Array.replicate 17 undef,defers:=[]} W
 refine wpIn_seq (GY (Or.inl rfl) A6 kr (CU.q ((AY 3 AG.av) rs)<|CU.p (Ai rs.length) (CA (k:=3) (nl:=false) (e:=61) (A:=AG.av) (xs:=rs) kr kr)<|CU.p (AV.i .i64 (((rs.length:Nat):Int)-1)) (RH (a:=((rs.length:Nat):Int)) (b:=1) kr kr (by omega) (by omega))<|CU.q (AV.i .i64 (((rs.length:Nat):Int)-1))<|CU.done (Q:=fun env=>env=[(3,AV.i .i64 (((rs.length:Nat):Int)-1)),(6,AV.i .i64 (((rs.length:Nat):Int)-1)),(5,Ai rs.length),(4,(AY 3 AG.av) rs)]++Dt 0 [.raw (.func (.yield l) #[] #[]),.pt [(AY 3 AG.av) rs]]) rfl) R0 ?_)
 rintro env1 a1 rfl R1
 refine wpIn_block (wpIn_wide.2 (J4 (fun (k:Nat) (a:Act) (W2:World)=> ∃(pre:List (Ri rs)) (j:Nat),j+k=rs.length∧pre.map (·.1.1)=back rs.length j∧J pre W2∧
  ER 19 ⟨W2,W2,Eo (Yb w1 μ1 W2),0⟩ W2 (Eo (Yb w1 μ1 W2)) [(3,AV.i .i64 (((rs.length:Nat):Int)-1-((j:Nat):Int))),(1,.pt [(AY 3 AG.av) rs]),(0,.raw (.func (.yield l) #[] #[]))] ⟨0,[]⟩ a W2) (k0:=rs.length) ?_ ?_))
 ·refine ⟨[],0,by omega,rfl,h0,R1.sub ⟨?_,rfl,rfl,trivial⟩⟩
  show AV.i .i64 (((rs.length:Nat):Int)-1)=_
  rw [show (((rs.length:Nat):Int)-1-((0:Nat):Int))=(((rs.length:Nat):Int)-1) from by omega]
 rintro k a W2 ⟨pre,j,hjk,hpre,hJp,R⟩
 refine (wpIn_wide (n:=2)).1 ?_
 refine wpIn_seq (wpIn_seq (GY (Or.inl rfl) A6 kr (CU.q (AV.i .i64 (((rs.length:Nat):Int)-1-((j:Nat):Int)))<|CU.q (AV.b (decide ((0:Int)≤(((rs.length:Nat):Int)-1-((j:Nat):Int)))))<|CU.done (Q:=fun env=>env=[(8,(AV.b (decide ((0:Int)≤(((rs.length:Nat):Int)-1-((j:Nat):Int)))))),(7,AV.i .i64 (((rs.length:Nat):Int)-1-((j:Nat):Int))),(3,AV.i .i64 (((rs.length:Nat):Int)-1-((j:Nat):Int))),(1,.pt [(AY 3 AG.av) rs]),(0,.raw (.func (.yield l) #[] #[]))]) rfl) R ?_))
 rintro env2 a2 rfl R2
 have h8:=R2.env 8
 change VR _ _ (AV.b _) (a2.eval (.tmp 8)) at h8
 simp only [VR,CR] at h8
 rcases Nat.eq_zero_or_pos k with hk0|hk0
 ·refine wpIn_cond (t:=false) (by rw [h8];congr 1;exact decide_eq_false (by omega)) (wpIn_exit ?_)
  refine ⟨R2.dfr,_,results_none rfl _ _ _,⟨_,rfl⟩,Or.inl ⟨pre,?_,hJp⟩⟩
  show pre.map (·.1.1)=_
  rw [hpre,show j=rs.length by omega]
 refine wpIn_cond (t:=true) (by rw [h8];congr 1;exact decide_eq_true (by omega)) (wpIn_skip ?_)
 obtain ⟨m,hm⟩: ∃m:Nat,m=rs.length-1-j:=⟨_,rfl⟩
 have hme:((rs.length:Nat):Int)-1-((j:Nat):Int)=((m:Nat):Int):=by omega
 have hml:m<rs.length:=by omega
 rw [hme] at R2
 refine wpIn_seq (wpIn_block (wpIn_seq (wpIn_region ?_)))
 show wpOpsIn _ _ _ _ _ ([0,1,2,3,4,5]++[6,7]) _ _
 refine Io (os:=_) (Or.inl rfl) A6 kr [0,1,2,3,4,5] rfl (CU.q (.raw (.func (.yield l) #[] #[]))<|CU.q (Ai m)<|CU.q ((AY 3 AG.av) rs)<|CU.q (Ai m)<|CU.p (AV.pt (AG.av (rs.getD m default)).cells) (CP (k:=3) (nl:=false) (e:=61) (kk:= .i64) (A:=AG.av) (xs:=rs) (i:=m) kr kr kr ⟨by kernel_rfl,by decide⟩ (getD_some hml))<|CU.q (AG.av (rs.getD m default))<|CU.done (Q:=fun env=>env=[(16,AG.av (rs.getD m default)),(15,AV.pt (AG.av (rs.getD m default)).cells),(14,Ai m),(13,(AY 3 AG.av) rs),(12,Ai m),(11,.raw (.func (.yield l) #[] #[])),(8,(AV.b (decide ((0:Int)≤((m:Nat):Int))))),(7,Ai m),(3,Ai m),(1,.pt [(AY 3 AG.av) rs]),(0,.raw (.func (.yield l) #[] #[]))]) rfl) R2 ?_
 rintro env3 a3 rfl R3
 have g0:=R3.env 11
 change VR _ _ (AV.raw _) (a3.eval (.tmp 11)) at g0
 simp only [VR] at g0
 have g1:=R3.env 12
 change VR _ _ (Ai m) (a3.eval (.tmp 12)) at g1
 simp only [VR,CR] at g1
 have g2:=R3.env 16
 change VR _ _ (AG.av (rs.getD m default)) (a3.eval (.tmp 16)) at g2
 generalize hv:a3.eval (.tmp 16)=v at g2
 have hgood:Qx (rs.getD m default).out v:=by
  simp only [AG.av,AY,VR,D2,CR] at g2
  obtain ⟨cs,rfl,v1,r1,e1,⟨rfl,hs1⟩,v2,r2,rfl,rfl,v3,r3,rfl,h3,rfl⟩:=g2
  rcases h3 with ⟨_,rfl⟩|⟨_,a,c,rfl,_⟩<;>exact ⟨_,_,congrArg Value.agg (Array.ext' e1),hs1,Or.inr ⟨_,_,_,rfl⟩⟩
 have hpl:pre.length=j:=by have:=congrArg List.length hpre;simpa [back] using this
 obtain ⟨fn,tm,asg,bd,hy,hR⟩:=hY pre ⟨(m,v),hml,hgood⟩ W2 hJp (by omega)
 dsimp only at hy
 have hpre':(pre++[(⟨(m,v),hml,hgood⟩:Ri rs)]).map (·.1.1)=back rs.length (j+1):=by
  rw [List.map_append,hpre,LR]
  show _++[m]=_
  rw [show m=rs.length-1-j by omega]
 have hrun: ∀(c:Operand→Value) (ty:TypeId) (pos:String) (af:Array Edge),c (.tmp 11)= .func (.yield l) #[] #[]→c (.tmp 12)= .int .i64 ((m:Nat):Int)→c (.tmp 16)=v→ ∀at':Array TypeId,
   (execOp c ⟨some 17,.call {callee:= .value (.tmp 11),args:= #[.tmp 12,.tmp 16],argTypes:=at'},ty,pos,af,none⟩).run Go.Proofs.Tryz.prog W2= .ok (.round l fn tm asg bd) W2:=by
  intro c ty pos af e1 e2 e3 at'
  unfold execOp
  simp only [resolve,e1,e2,e3,Deferred.ofValue,Sem.run_bind,Sem.run_pure,Result.andThen_ok,invoke,Array.empty_append,List.map_toArray,List.map_cons,List.map_nil,Array.append_empty]
  exact hy
 refine J0 rfl rfl (PU (Or.inl rfl) kr (hrun _ _ _ _ g0 g1 hv _) hR ?_)
 rintro e W3 (⟨rfl,hJ3,hk3⟩|⟨rfl,hJx3⟩)
 ·refine ⟨_,rfl,?_⟩
  have R4:ER 19 ⟨W3,W3,Eo (Yb w1 μ1 W3),0⟩ W3 (Eo (Yb w1 μ1 W3)) [(17,.b true),(3,Ai m),(1,.pt [(AY 3 AG.av) rs]),(0,.raw (.func (.yield l) #[] #[]))] ⟨0,[]⟩ (a3.put (some 17) (.bool true)) W3:=by
   have R3':=(R3.sub (env':=[(3,Ai m),(1,.pt [(AY 3 AG.av) rs]),(0,.raw (.func (.yield l) #[] #[]))]) ⟨rfl,rfl,rfl,trivial⟩)
   have R5:ER 19 ⟨W3,W3,Eo (Yb w1 μ1 W3),0⟩ W3 (Eo (Yb w1 μ1 W3)) [(3,Ai m),(1,.pt [(AY 3 AG.av) rs]),(0,.raw (.func (.yield l) #[] #[]))] ⟨0,[]⟩ a3 W3:=
    Fq (Ga.refl W3) (fun g q=>q.2) (QD hk3 R3' kr) R3.sz R3.dfr
   exact FK A6 R5 (Hw.refl R5.sim).step (d:=some 17) (fun t ht=>by cases ht;decide) (x:= .b true) (by simp only [VR,CR])
  show wpOpsIn _ _ _ _ _ ([7]++[]) _ _
  refine Io (os:=_) (Or.inl rfl) A6 kr [7] rfl (CU.q (.b false)<|CU.done (Q:=fun env=>env=[(18,.b false),(17,.b true),(3,Ai m),(1,.pt [(AY 3 AG.av) rs]),(0,.raw (.func (.yield l) #[] #[]))]) rfl) R4 ?_
  rintro env5 a5 rfl R5
  have h18:=R5.env 18
  change VR _ _ (AV.b false) (a5.eval (.tmp 18)) at h18
  simp only [VR,CR] at h18
  refine wpIn_cond (t:=false) h18 (wpIn_skip ?_)
  refine GY (Or.inl rfl) A6 kr (CU.q (Ai m)<|CU.p (AV.i .i64 (((m:Nat):Int)-1)) (RH (a:=((m:Nat):Int)) (b:=1) kr kr (by omega) (by omega))<|CU.q (AV.i .i64 (((m:Nat):Int)-1))<|CU.done (Q:=fun env=>env=[(3,AV.i .i64 (((m:Nat):Int)-1)),(10,AV.i .i64 (((m:Nat):Int)-1)),(9,Ai m),(18,.b false),(17,.b true),(3,Ai m),(1,.pt [(AY 3 AG.av) rs]),(0,.raw (.func (.yield l) #[] #[]))]) rfl) R5 ?_
  rintro env6 a6 rfl R6
  refine ⟨k-1,by omega,pre++[⟨(m,v),hml,hgood⟩],j+1,by omega,hpre',hJ3,R6.sub ⟨?_,rfl,rfl,trivial⟩⟩
  show AV.i .i64 (((m:Nat):Int)-1)=_
  rw [show ((rs.length:Nat):Int)-1-(((j+1:Nat):Nat):Int)=((m:Nat):Int)-1 from by omega]
 ·refine ⟨_,rfl,?_⟩
  have R5:ER 19 ⟨W3,W3,Eo (fun _=>False),0⟩ W3 (Eo (fun _=>False)) [(17,.b false)] ⟨0,[]⟩ (a3.put (some 17) (.bool false)) W3:=by
   have R5:ER 19 ⟨W3,W3,Eo (fun _=>False),0⟩ W3 (Eo (fun _=>False)) [] ⟨0,[]⟩ a3 W3:=
    Fq (Ga.refl W3) (fun g q=>q.elim) (fun t=>by show VR _ _ .und _;simp only [VR]) R3.sz R3.dfr
   exact FK A6 R5 (Hw.refl R5.sim).step (d:=some 17) (fun t ht=>by cases ht;decide) (x:= .b false) (by simp only [VR,CR])
  show wpOpsIn _ _ _ _ _ ([7]++[]) _ _
  refine Io (os:=_) (Or.inl rfl) A6 kr [7] rfl (CU.q (.b true)<|CU.done (Q:=fun env=>env=[(18,.b true),(17,.b false)]) rfl) R5 ?_
  rintro env5 a5 rfl R5
  have h18:=R5.env 18
  change VR _ _ (AV.b true) (a5.eval (.tmp 18)) at h18
  simp only [VR,CR] at h18
  refine wpIn_cond (t:=true) h18 (wpIn_ret ?_)
  exact ⟨R5.dfr,_,results_none rfl _ _ _,⟨_,rfl⟩,Or.inr ⟨_,⟨j+1,by omega,hpre'⟩,hJx3⟩⟩
theorem Qp (W:World) (rs:List AG) (out:ByteArray) (hn:rs.length≤1048576):Ar Go.Proofs.Tryz.prog W 147 [(AY 3 AG.av) rs,.s out] (.i .i64 (B2 rs out)) []:=by
 refine DE (en147 W) fun w Y vs hG hvs=> ?_
 have hvs':FL w (Eo fun _=>False) [(AY 3 AG.av) rs,.s out] vs:=J1 (fun a u ⟨h1,h2,h3⟩=>⟨h1,(fun q=>by rcases q with q|⟨_,_,q,_⟩;exact q;cases q),h3⟩) _ _ hvs
 have hvl:=GJ hvs'
 match vs,hvl,hvs' with
 | [v1,v2],_,hvs'=>
 refine (callsIn_wide (n:=3)).1 (callsIn_of_wp_marks Go.Proofs.Tryz.func147 rfl trivial ?_ rfl)
 have R0:ER 16 ⟨W,w,Eo fun _=>False,0⟩ w (Eo fun _=>False) (Dt 0 [(AY 3 AG.av) rs,.s out]) ⟨0,[]⟩ {tmps:=[v1,v2].toArray++Array.replicate 14 undef,defers:=[]} w:=
  Fq hG (fun g q=>q.elim) (Gh (CV _ _ hvs') _) (by simp) rfl
 show Code.wpIn Fence.wide 3 _ _ _ {tmps:=[v1,v2].toArray++Array.replicate 14 undef,defers:=[]} w
 refine wpIn_seq (wpIn_mono (L2.region (N:=0) (W:=W) (Or.inl rfl) A6 kr (Q:=fun e env' h'=>e= .normal∧env'=[(4,AV.loc 1 0 0),(3,AV.loc 0 0 0)]++Dt 0 [(AY 3 AG.av) rs,.s out]∧h'=OB ⟨9,1,[AV.s out]⟩ ⟨3,1,[AV.i .i64 0]⟩)
  (Nn (AV.loc 0 0 0) ⟨9,1,[AV.s out]⟩<|Nn (AV.loc 1 0 0) ⟨3,1,[AV.i .i64 0]⟩<|Ad ⟨rfl,rfl,rfl⟩) _ _ _ _ _ rfl rfl R0) ?_)
 rintro e a1 w1 ⟨env1,h1,μ1,⟨rfl,rfl,rfl⟩,R1⟩
 refine wpIn_seq (wpIn_seq (wpIn_mono (L2.region (N:=0) (W:=W) (Or.inl rfl) A6 kr (Q:=fun e env' h'=>e= .normal∧env'=[(8,.fn 220 [.pt [(AY 3 AG.av) rs]]),(7,(AY 3 AG.av) rs),(4,AV.loc 1 0 0),(3,AV.loc 0 0 0)]++Dt 0 [(AY 3 AG.av) rs,.s out]∧h'=OB ⟨9,1,[AV.s out]⟩ ⟨3,1,[AV.i .i64 0]⟩)
  (Aq ((AY 3 AG.av) rs)<|A4.sc0 (vs:=[(AY 3 AG.av) rs]) (r0:= .fn 220 [.pt [(AY 3 AG.av) rs]]) kr kr (M3 W rs hn) kr le<|Ad ⟨rfl,rfl,rfl⟩) _ _ _ _ _ rfl rfl R1) ?_))
 clear R1
 rintro e a1 w1 ⟨env1,h1,μ1,⟨rfl,rfl,rfl⟩,R1⟩
 have hs1:=R1.sim
 have hy1:μ1.Y=fun _=>False:=R1.snc.y
 have hf1:=R1.fresh
 have hown:=JR (a:=⟨9,1,[AV.s out]⟩) (b:=⟨3,1,[AV.i .i64 0]⟩) hf1
 have hmut: ∀g,μ1.mut g→g<w1.heap.size∧w.heap.size≤g:=by
  rintro g (q|⟨id,sl,q,rfl⟩)
  ·rw [hy1] at q;exact q.elim
  ·exact ⟨(hs1.lt id sl q).2,(hs1.lt id sl q).1⟩
 have hn0:w.heap.size≤w1.heap.size:=hs1.below.size
 have hfn:=R1.env 8
 change VR w1 μ1 (.fn 220 [.pt [(AY 3 AG.av) rs]]) (a1.tmps.getD 8 undef) at hfn
 simp only [VR,D2] at hfn
 obtain ⟨cs,hV,v8,r8,he8,hp8,rfl⟩:=hfn
 have hp8':=hp8
 simp only [CR] at hp8'
 obtain ⟨p,rfl,_⟩:=hp8'
 have hcs:cs= #[.pointer (some p)]:=Array.ext' he8
 subst hcs
 have hV8:a1.tmps.getD 8 undef= .func (.func 220) #[] #[.pointer (some p)]:=by
  rcases hV with ⟨_,h⟩|⟨h,_⟩
  ·exact h
  ·exact absurd h (by decide)
 have hl3:=R1.env 3
 change VR w1 μ1 (.loc 0 0 0) (a1.tmps.getD 3 undef) at hl3
 have hl4:=R1.env 4
 change VR w1 μ1 (.loc 1 0 0) (a1.tmps.getD 4 undef) at hl4
 have hloc: ∀(W:World) (id:Nat) (v:Value),VR w1 μ1 (.loc id 0 0) v→VR W μ1 (.loc id 0 0) v:=fun W id v h=>by simp only [VR] at h ⊢;exact h
 have hleave: ∀(D:Nat) (W3:World) (z:Int),w1.heap.size≤D→W3.heap[D]? =some (.deferred (some []))→FM w μ1 W3 (OB ⟨9,1,[AV.s out]⟩ ⟨3,1,[AV.i .i64 z]⟩)→z=B2 rs out→
   LeavesInM Fence.wide 3 Go.Proofs.Tryz.prog Go.Proofs.Tryz.f147 a1.tmps (fun e w'=> ∃v,e= .returned v∧VR w' (Eo Y) (.i .i64 (B2 rs out)) v∧Below w.heap.size w w') [{target:= .collected D,args:= #[]}] .returning W3:=by
  intro D W3 z hD hK hs hz
  refine SN (m:=16) A6 (env:=[(4,AV.loc 1 0 0)]) (x:= .i .i64 z) hK hs (H0 rfl rfl) (JR hf1) hf1 (Nat.le_trans hn0 hD) (fun W t=> ?_) R1.sz kr (fun v W4 hv hb=>⟨v,rfl,?_,hb⟩)
  ·by_cases e:t=4
   ·subst e;exact hloc W 1 _ hl4
   ·unfold C7.get;rw [Cg,if_neg e];show VR W μ1 .und _;simp only [VR]
  ·simp only [VR,CR] at hv ⊢;rw [←hz];exact hv
 refine wpIn_block (wpIn_rangeFunc_ownH (α:=Ri rs) (F:=Fence.wide) rfl (by decide) (gf:=220) (lb:= #[.pointer (some p)]) hV8 trivial (fun args w=>en220 W args w)
  (Rn (n₀:=w.heap.size) hn0 p rs hn hp8) La.trans (La.put hn0) (Below.refl _ _) (fun _=>rfl)
  (fun pre W2=>(∀x∈pre,(rs.getD x.1.1 default).out≠out)∧Gl w1 μ1 W2∧FM w μ1 W2 (OB ⟨9,1,[AV.s out]⟩ ⟨3,1,[AV.i .i64 0]⟩))
  (fun c pre W2=>c= .ret∧ ∃ini last,pre=ini++[last]∧(∀x∈ini,(rs.getD x.1.1 default).out≠out)∧(rs.getD last.1.1 default).out=out∧FM w μ1 W2 (OB ⟨9,1,[AV.s out]⟩ ⟨3,1,[AV.i .i64 ((last.1.1:Nat):Int)]⟩))
  ?_ ?_ ⟨by simp,⟨Nat.le_refl _,fun _ _ _=>rfl⟩,hs1⟩
  (fun x a' W2=>a'.tmps.size=16∧a'.defers=[]∧a'.tmps.getD 3 undef=a1.tmps.getD 3 undef∧a'.tmps.getD 4 undef=a1.tmps.getD 4 undef∧a'.tmps.getD 5 undef= .int .i64 ((x.1.1:Nat):Int)∧
    ∃q,a'.tmps.getD 6 undef= .pointer (some q)∧w1.heap.size≤q.block∧BL W2 (Eo fun _=>False) [.s (rs.getD x.1.1 default).out,.und,.und] q) ?_ ?_ ?_ ?_ ?_)
 ·
  rintro pre A A' row ⟨h1,h2,h3⟩ hg hr
  exact ⟨h1,h2.grown hg (fun r e=>(hr r e).1),h3.grown (H0 rfl rfl) (JR hf1) hg (fun r e=>⟨Nat.le_trans hn0 (hr r e).1,(hr r e).2⟩)⟩
 ·rintro c pre A A' row ⟨h1,ini,last,h2,h3,h4,h5⟩ hg hr
  exact ⟨h1,ini,last,h2,h3,h4,h5.grown (H0 rfl rfl) (JR hf1) hg (fun r e=>⟨Nat.le_trans hn0 (hr r e).1,(hr r e).2⟩)⟩
 ·rintro x a' _ A A' row ⟨h1,h2,h3,h4,h5,q,h6,h7,h8⟩ hg hr
  refine ⟨h1,h2,h3,h4,h5,q,h6,h7,Gr (fun ad u ⟨k1,k2,k3⟩=>⟨?_,k2,k3⟩) _ _ h8⟩
  rw [Fe (hg.block _ (Js k1) (fun e=> ?_))]
  ·exact k1
  ·obtain ⟨_,o,ho,hc⟩:=hr _ e.symm
   unfold World.cell? at k1;rw [ho] at k1;cases o<;>simp_all [Go.Obj.isCells]
 ·
  rintro l pre ⟨⟨k,v⟩,hk,hgood⟩ W2 K ⟨hne,hS,hs⟩ hK
  have hgood':Qx (rs.getD k default).out v:=hgood
  obtain ⟨t,y,rfl,hso,hy⟩:=hgood'
  have RA:ER 16 ⟨W2,W2,Eo fun _=>False,0⟩ W2 (Eo fun _=>False) [(10,.st [.s (rs.getD k default).out,.i .i64 t,.raw y]),(9,Ai k),(4,.raw (a1.tmps.getD 4 undef)),(3,.raw (a1.tmps.getD 3 undef))] ⟨0,[]⟩
    {tmps:=(a1.tmps.setIfInBounds 9 (.int .i64 ((k:Nat):Int))).setIfInBounds 10 (.agg #[.string (rs.getD k default).out,.int .i64 t,y]),defers:=[]} W2:=by
   have h16:=R1.sz
   change a1.tmps.size=16 at h16
   refine Fq (Ga.refl W2) (fun g q=>q.elim) (fun q=> ?_) (by simpa using h16) rfl
   unfold C7.get
   simp only [Cg]
   by_cases e10:q=10
   ·subst e10
    simp only [if_true,Option.getD_some,Array.getD_eq_getD_getElem?,Array.getElem?_setIfInBounds]
    rw [if_pos (by simp;omega)]
    simp only [Option.getD_some,VR,D2,CR]
    exact ⟨_,rfl,_,_,rfl,⟨rfl,hso⟩,_,_,rfl,rfl,_,_,rfl,rfl,rfl⟩
   ·by_cases e9:q=9
    ·subst e9
     rw [if_neg e10,if_pos rfl]
     simp only [Option.getD_some,Array.getD_eq_getD_getElem?,Array.getElem?_setIfInBounds]
     rw [if_neg (by decide),if_pos trivial,if_pos (by omega)]
     simp only [Option.getD_some,VR,CR]
    ·rw [if_neg e10,if_neg e9]
     have hq:((a1.tmps.setIfInBounds 9 (.int .i64 ((k:Nat):Int))).setIfInBounds 10 (.agg #[.string (rs.getD k default).out,.int .i64 t,y])).getD q undef=a1.tmps.getD q undef:=by
      simp only [Array.getD_eq_getD_getElem?,Array.getElem?_setIfInBounds]
      rw [if_neg (fun e=>e10 e.symm),if_neg (fun e=>e9 e.symm)]
     show VR _ _ _ (((a1.tmps.setIfInBounds 9 (.int .i64 ((k:Nat):Int))).setIfInBounds 10 (.agg #[.string (rs.getD k default).out,.int .i64 t,y])).getD q undef)
     rw [hq]
     by_cases e4:q=4
     ·subst e4;rw [if_pos rfl];simp only [Option.getD_some,VR]
     ·by_cases e3:q=3
      ·subst e3;rw [if_neg e4,if_pos rfl];simp only [Option.getD_some,VR]
      ·rw [if_neg e4,if_neg e3];show VR _ _ .und _;simp only [VR]
  refine (fun (hg: ∀tm':Array Value,tm'=(a1.tmps.setIfInBounds 9 (.int .i64 ((k:Nat):Int))).setIfInBounds 10 (.agg #[.string (rs.getD k default).out,.int .i64 t,y])→Code.wpIn _ _ _ _ _ {tmps:=tm',defers:=[]} W2)=>hg _ (by simp)) ?_
  rintro tm' rfl
  refine wpIn_mono (Q:=fun e a' w'=> ∃env' h' μ',(e= .normal∧env'=[(6,AV.loc 0 0 0),(5,Ai k),(10,.st [.s (rs.getD k default).out,.i .i64 t,.raw y]),(9,Ai k),(4,.raw (a1.tmps.getD 4 undef)),(3,.raw (a1.tmps.getD 3 undef))]∧h'=⟨1,[(0,some ⟨61,3,[.st [.s (rs.getD k default).out,.i .i64 t,.raw y]]⟩)]⟩)∧
   ER 16 ⟨W2,W2,Eo fun _=>False,0⟩ W2 μ' env' h' a' w') ?_ ?_
  ·rcases hy with ⟨s,rfl⟩|⟨p',n',c',rfl⟩
   all_goals
    exact L2.seq (N:=0) (W:=W2) (Q:=fun e env' h'=>e= .normal∧env'=_∧h'=_) (L2.region (Or.inr ⟨l,rfl⟩) A6 kr (Aq (Ai k)<|Ad (L2.region (Or.inr ⟨l,rfl⟩) A6 kr
     (Nn (AV.loc 0 0 0) ⟨61,3,[.st [AV.s (⟨#[]⟩:ByteArray),.i .i64 0,AV.sl 1 true []]]⟩<|Sp 0 ⟨61,3,[.st [.s (rs.getD k default).out,.i .i64 t,.raw _]]⟩<|Ad ⟨rfl,rfl,rfl⟩)))) _ _ _ _ _ rfl rfl RA
  ·rintro e a' W3 ⟨env',h',μ',⟨rfl,rfl,rfl⟩,RB⟩
   have hb:=RB.sim.below
   have hbn:Below w.heap.size W2 W3:=hb.mono (Nat.le_trans hn0 hS.1)
   have hkp:La w.heap.size w1 μ1 W2 W3:=⟨hbn,fun g hg _=>hb.block g (Nat.lt_of_lt_of_le hg hS.1)⟩
   refine hK a' W3 ⟨hb.size,fun q o _ hq _=>(hb.block q (Array.getElem?_eq_some_iff.1 hq).1).trans hq⟩ hkp ⟨hne,hS.step hkp,hs.keep (H0 rfl rfl) hbn fun id sl e=>hb.block _ (hs.lt id sl e).2⟩ ?_
   have q3:=RB.env 3
   have q4:=RB.env 4
   have q5:=RB.env 5
   have q6:=RB.env 6
   change VR _ _ (.raw _) _ at q3
   change VR _ _ (.raw _) _ at q4
   change VR _ _ (Ai k) _ at q5
   change VR _ _ (AV.loc 0 0 0) _ at q6
   simp only [VR] at q3 q4
   simp only [VR,CR] at q5
   obtain ⟨q,e1,e2,e3⟩:=Td RB.sim (id:=0) rfl q6 (rs.getD k default).out _ rfl rfl
   exact ⟨RB.sz,RB.dfr,q3,q4,q5,q,e1,Nat.le_trans hS.1 e2,e3⟩
 ·
  rintro l pre x a' W2 hl hr ⟨hne,hS,hs⟩ ⟨h1,h2,h3,h4,h5,q,h6,h7,h8⟩ hlen
  have h8':CR W2 μ1 (.pt [.s (rs.getD x.1.1 default).out,.und,.und]) (.pointer (some q)):=by
   simp only [CR]
   refine ⟨q,rfl,?_⟩
   simp only [BL] at h8 ⊢
   obtain ⟨⟨u0,⟨k1,_,k3⟩,k4⟩,⟨u1,⟨k5,_,k7⟩,_⟩,⟨u2,⟨k9,_,k11⟩,_⟩,_⟩:=h8
   have hm: ¬μ1.mut q.block:=fun z=>by have:=(hmut _ z).1;omega
   exact ⟨⟨u0,⟨k1,hm,k3⟩,by simp only [CR] at k4 ⊢;exact k4⟩,⟨u1,⟨k5,by rw [HG];exact hm,k7⟩,trivial⟩,⟨u2,⟨k9,by rw [HG,HG];exact hm,k11⟩,trivial⟩,trivial⟩
  have RB:ER 16 ⟨W,W2,μ1,2⟩ w μ1 [(6,.pt [.s (rs.getD x.1.1 default).out,.und,.und]),(5,Ai x.1.1),(4,AV.loc 1 0 0),(3,AV.loc 0 0 0)] (OB ⟨9,1,[AV.s out]⟩ ⟨3,1,[AV.i .i64 0]⟩) a' W2:=by
   refine ⟨R1.glob,⟨ID.refl _ _,rfl,fun _ _ h=>h,hf1⟩,Nat.le_refl _,hs,fun t=> ?_,h1,h2,hf1⟩
   unfold C7.get
   simp only [Cg]
   by_cases e6:t=6
   ·subst e6;rw [if_pos rfl,h6];exact Eb _ _ h8'
   ·by_cases e5:t=5
    ·subst e5;rw [if_neg e6,if_pos rfl,h5];simp only [Option.getD_some,VR,CR]
    ·by_cases e4:t=4
     ·subst e4;rw [if_neg e6,if_neg e5,if_pos rfl,h4];exact hloc _ _ _ hl4
     ·by_cases e3:t=3
      ·subst e3;rw [if_neg e6,if_neg e5,if_neg e4,if_pos rfl,h3];exact hloc _ _ _ hl3
      ·rw [if_neg e6,if_neg e5,if_neg e4,if_neg e3];show VR _ _ .und _;simp only [VR]
  refine wpIn_block (wpIn_seq (GY (Or.inr ⟨l,rfl⟩) A6 kr (CU.q (.pt ([AV.s (rs.getD x.1.1 default).out,.und,.und].drop 0))<|CU.q (.s (rs.getD x.1.1 default).out)<|CU.q (.s out)<|CU.q (.b (decide ((rs.getD x.1.1 default).out=out)))<|CU.done (Q:=fun env=>env=[(14,.b (decide ((rs.getD x.1.1 default).out=out))),(13,.s out),(12,.s (rs.getD x.1.1 default).out),(11,.pt ([AV.s (rs.getD x.1.1 default).out,.und,.und].drop 0)),(6,.pt [.s (rs.getD x.1.1 default).out,.und,.und]),(5,Ai x.1.1),(4,AV.loc 1 0 0),(3,AV.loc 0 0 0)]) rfl) RB ?_))
  rintro env2 a2 rfl R2
  have h14:=R2.env 14
  change VR _ _ (AV.b _) (a2.eval (.tmp 14)) at h14
  simp only [VR,CR] at h14
  by_cases heq:(rs.getD x.1.1 default).out=out
  ·refine wpIn_cond (t:=true) (by rw [h14,decide_eq_true heq]) (wpIn_seq (wpIn_mono (L2.region (N:=2) (W:=W) (Or.inr ⟨l,rfl⟩) A6 kr (Q:=fun e env' h'=>e= .normal∧h'=OB ⟨9,1,[AV.s out]⟩ ⟨3,1,[AV.i .i64 ((x.1.1:Nat):Int)]⟩)
     (Aq (Ai x.1.1)<|Sp 1 ⟨3,1,[AV.i .i64 ((x.1.1:Nat):Int)]⟩<|Ad ⟨rfl,rfl⟩) _ _ _ _ _ rfl rfl R2) ?_))
   rintro e a3 W3 ⟨env3,h3,μ3,⟨rfl,rfl⟩,R3⟩
   have hmu:μ3=μ1:=Uz R3 rfl (LI _ _)
   subst hmu
   refine wpIn_ret ⟨⟨PE R3.snc.ext hs R3.sim fun _ _ e=>e,fun g o hg ho hc=> ?_⟩,rfl,pre,x,rfl,hne,heq,R3.sim⟩
   rw [R3.snc.ext.bl g (Array.getElem?_eq_some_iff.1 ho).1 (fun z=>by have:=(hmut _ z).1;omega)];exact ho
  ·refine wpIn_cond (t:=false) (by rw [h14,decide_eq_false heq]) (wpIn_skip ?_)
   refine ⟨KeepsFrom.refl _ _,⟨Below.refl _ _,fun _ _ _=>rfl⟩,fun z hz=> ?_,hS,hs⟩
   rcases List.mem_append.1 hz with hz|hz
   ·exact hne z hz
   ·simp only [List.mem_singleton] at hz;subst hz;exact heq
 ·
  rintro D xs W2 hD hxs ⟨hne,hS,hs⟩ hK
  have hz:(-1:Int)=B2 rs out:=by
   refine (LU fun i hi=> ?_).symm
   have hm:i∈xs.map (·.1.1):=by
    have hxs':xs.map (·.1.1)=back rs.length rs.length:=hxs
    rw [hxs'];simp only [back,List.mem_map,List.mem_range];exact ⟨rs.length-1-i,by omega,by omega⟩
   obtain ⟨x,hx,rfl⟩:=List.mem_map.1 hm
   exact decide_eq_false (hne x hx)
  refine wpIn_seq (wpIn_region ?_)
  refine J0 rfl rfl (To (env:=[(4,AV.loc 1 0 0)]) (h:=OB ⟨9,1,[AV.s out]⟩ ⟨3,1,[AV.i .i64 0]⟩) (h':=OB ⟨9,1,[AV.s out]⟩ ⟨3,1,[AV.i .i64 (-1)]⟩) (x:= .und) (Or.inl rfl) A6 kr kr rfl hs hf1 (fun t=> ?_) (fun W3 μ3 st=> ?_))
  ·by_cases e:t=4
   ·subst e;exact hloc _ _ _ hl4
   ·unfold C7.get;rw [Cg,if_neg e];show VR _ _ .und _;simp only [VR]
  ·have R3:ER 16 ⟨W,W2,μ1,2⟩ w μ3 [] (OB ⟨9,1,[AV.s out]⟩ ⟨3,1,[AV.i .i64 (-1)]⟩) {tmps:=a1.tmps,defers:=[]} W3:=by
     have s0:OH ⟨W,W2,μ1,2⟩ μ1 W2:=⟨ID.refl _ _,rfl,fun _ _ h=>h,hf1⟩
     refine ⟨R1.glob,s0.step st (Nat.le_refl _),Nat.le_refl _,st.sim,fun t=>by show VR _ _ .und _;simp only [VR],R1.sz,rfl,fun id hid=> ?_⟩
     cases e:μ3 id with
     |none=>rfl
     |some s=>exact absurd (st.dom id (hf1 id hid) (by rw [e];simp)).2 (by show ¬id<2;exact Nat.not_lt.2 hid)
   have hmu:μ3=μ1:=Uz R3 rfl (LI _ _)
   subst hmu
   refine wpIn_ret ?_
   have hD2:=(Array.getElem?_eq_some_iff.1 hK).1
   have hdf:a1.defers=[]:=R1.dfr
   show LeavesInM _ _ _ _ _ _ ({target:= .collected D,args:= #[]}::a1.defers) _ _
   rw [hdf]
   exact hleave D W3 (-1) hD (by rw [st.ext.bl D hD2 (fun z=>by have:=(hmut _ z).1;omega)];exact hK) st.sim hz
 ·rintro D c pre W2 hD ⟨j,hj,hmap⟩ ⟨rfl,ini,last,rfl,hini,hlast,hs'⟩ hK
  refine wpIn_ret ?_
  have hdf:a1.defers=[]:=R1.dfr
  show LeavesInM _ _ _ _ _ _ ({target:= .collected D,args:= #[]}::a1.defers) _ _
  rw [hdf]
  refine hleave D W2 _ hD hK hs' (Eq.symm (Pa last.2.1 (decide_eq_true hlast) fun i h1 h2=> ?_))
  obtain ⟨j',rfl⟩: ∃j',j=j'+1:=by
   cases j with
   |zero=>simp [back] at hmap
   |succ j'=>exact ⟨j',rfl⟩
  rw [LR,List.map_append] at hmap
  obtain ⟨e1,e2⟩:=List.append_inj' hmap rfl
  have e3:last.1.1=rs.length-1-j':=by simpa using e2
  have hm:i∈ini.map (·.1.1):=by
   rw [e1];simp only [back,List.mem_map,List.mem_range];exact ⟨rs.length-1-i,by omega,by omega⟩
  obtain ⟨x,hx,rfl⟩:=List.mem_map.1 hm
  exact decide_eq_false (hini x hx)
theorem LZ (W:World) {m0:Int} (hW:W.cell? ⟨0,0,none⟩=some (.int .i64 m0)) (s':ByteArray):Ar Go.Proofs.Tryz.prog W 122 [(AV.s s')] (AV.b (Hy s')) []:=by
 refine As (fn:=Go.Proofs.Tryz.f122) Go.Proofs.Tryz.func122 rfl (en122 W) (ts:=[2]) rfl le<|Sq<|Rg<|Aq (AV.b false)<|Ad<|Sq<|Rg<|Aq (AV.s s')<|A4.sc0 (vs:=[(AV.s s')]) (r0:=(AV.tup [(AV.s ((CM s').1)),(AV.i .i64 ((CM s').2))])) kr kr (S8 W hW s') kr le<|Aq (AV.tup [(AV.s ((CM s').1)),(AV.i .i64 ((CM s').2))])<|Aq (AV.s ((CM s').1))<|Aq (AV.i .i64 ((CM s').2))<|Aq (AV.s ((CM s').1))<|Aq (AV.i .i64 ((CM s').2))<|Ad<|Sq<|Rg<|Aq (AV.i .i64 ((CM s').2))<|Aq (AV.b (decide ((CM s').2=(0:Int))))<|Aq (AV.b (decide ((CM s').2=(0:Int)))) ?_
 cases c_1:decide ((CM s').2=(0:Int))
 have k_1:=of_decide_eq_false c_1
 refine An<|An<|An<|Aq (AV.b false)<|Aq (AV.b false)<|Ad<|Rt ?_
 exact Fb rfl (by simp only [Hy,c_1,Bl])
 have k_1:=of_decide_eq_true c_1
 refine Ay<|Aq (AV.s ((CM s').1))<|Ay<|Aq (AV.s s')<|Ay<|Aq (AV.b (decide ((CM s').1=s')))<|Aq (AV.b (decide ((CM s').1=s')))<|Aq (AV.b (decide ((CM s').1=s')))<|Ad<|Rt ?_
 exact Fb rfl (by simp only [Hy,c_1,Bl])
theorem MA (W:World) {m0:Int} (hW:W.cell? ⟨0,0,none⟩=some (.int .i64 m0)) (ss:List ByteArray) (most':Int):Ar Go.Proofs.Tryz.prog W 163 [((AY 1 AV.s) ss),(AV.i .i64 most')] (AV.b (IW ss most')) []:=by
 refine As (fn:=Go.Proofs.Tryz.f163) Go.Proofs.Tryz.func163 rfl (We W) (ts:=[4]) rfl le<|Sq<|Rg<|Aq (AV.b false)<|Ad<|Sq<|Sq<|Rg<|Aq ((AY 1 AV.s) ss)<|Ap (Ai ss.length) (CA (k:=1) (nl:=false) (e:=9) (A:=AV.s) (xs:=ss) kr kr)<|Aq (AV.i .i64 (0:Int))<|Ad<|Ah.block<|Ah.lim 0 (x:=((AY 1 AV.s) ss)) kr fun hlm1=> ?_
 have hB1:ss.length≤281474976710656:=Dj hlm1
 obtain ⟨R1,hR1⟩: ∃R,U1 ss 0=R:=⟨_,rfl⟩
 refine BN (fun (v9:Nat)=>[(0,((AY 1 AV.s) ss)),(1,(AV.i .i64 most')),(7,((AY 1 AV.s) ss)),(8,(Ai ss.length)),(9,(Ai v9))]) (fun (v9:Nat)=>⟨0,[]⟩) (fun (v9:Nat)=>v9≤ss.length∧U1 (ss.drop v9) v9=R1) (fun (v9:Nat)=>ss.length-v9) 0 ?_ ?_ ?_
 exact ⟨[],⟨by decide,rfl,A3.nil,(Ee (Ee (Ee (Ee (Ee AM.nil)))))⟩,B4⟩
 exact ⟨od,hR1⟩
 rintro v9 ⟨hi1,hE1⟩
 try dsimp only
 refine Sq<|Rg<|Aq (AV.b (decide (((v9:Nat):Int)<((ss.length:Nat):Int))))<|Ad<|Sq ?_
 rcases Nat.lt_or_ge v9 ss.length with hl1|hl1
 have hc1:decide (((v9:Nat):Int)<((ss.length:Nat):Int))=true:=decide_eq_true (by omega)
 refine Ah.cond (t:=true) (by rw [←hc1]<;>kernel_rfl) (Ah.skip ?_)
 obtain ⟨x1,hx1⟩: ∃x,ss[v9]? =some x:=⟨_,List.getElem?_eq_getElem hl1⟩
 rw [BO hx1,U1.eq_2] at hE1
 refine Sq<|Ah.block<|Sq<|Rg<|Ap (AV.pt (AV.s x1).cells) (CP (k:=1) (nl:=false) (e:=9) (kk:= .i64) (A:=AV.s) (xs:=ss) (i:=v9) kr kr kr ⟨by kernel_rfl,by decide⟩ hx1)<|Aq (AV.s x1)<|Aq (AV.s x1)<|Ad<|Sq<|Rg<|Aq (AV.s x1)<|A4.sc0 (vs:=[(AV.s x1)]) (r0:=(AV.b (Hy x1))) kr kr (LZ W hW x1) kr le<|Aq (AV.b (!(Hy x1)))<|Ad ?_
 cases c_1:(!(Hy x1))
 refine Cf<|Ah.skip<|Rg<|Ap (Ai (v9+1)) (BH (i:=v9) (m:=1) kr kr sd)<|Aq (Ai (v9+1))<|Ad ?_
 try simp only [c_1,Bl] at hE1
 refine ⟨v9+1,od,⟨od,hE1⟩,?_⟩
 exact ⟨[],⟨by decide,rfl,A3.nil,(Ee (Ee (Ee (Ee (Ee AM.nil)))))⟩,B4⟩
 refine Ct<|Sq<|Rg<|Aq (AV.b false)<|Ad<|Rt ?_
 try simp only [c_1,Bl] at hE1
 subst hE1
 exact Fb rfl (by simp only [IW,hR1,Bl])
 have hc1:decide (((v9:Nat):Int)<((ss.length:Nat):Int))=false:=decide_eq_false (by omega)
 refine Ah.cond (t:=false) (by rw [←hc1]<;>kernel_rfl) (Ah.exit ?_)
 rw [List.drop_eq_nil_of_le (hl1),U1.eq_1] at hE1
 subst hE1
 refine Sq<|Rg<|Aq ((AY 1 AV.s) ss)<|Ap (Ai ss.length) (CA (k:=1) (nl:=false) (e:=9) (A:=AV.s) (xs:=ss) kr kr)<|Aq (AV.i .i64 most')<|Aq (AV.b (decide (((ss.length:Nat):Int)≤most')))<|Aq (AV.b (decide (((ss.length:Nat):Int)≤most')))<|Ad<|Rt ?_
 exact Fb rfl (by simp only [IW,hR1,Bl])
theorem Nf (W:World) (s':ByteArray) (most':Int):Ar Go.Proofs.Tryz.prog W 189 [(AV.s s'),(AV.i .i64 most')] (AV.b (Mt s' most')) []:=by
 refine As (fn:=Go.Proofs.Tryz.f189) Go.Proofs.Tryz.func189 rfl (Wf W) (ts:=[4]) rfl le<|Sq<|Rg<|Aq (AV.b false)<|Ad<|Sq<|Sq<|Rg<|Aq (AV.s s')<|Aq (Ai s'.size)<|Aq (AV.i .i64 (0:Int))<|Ad<|Ah.block<|Ah.lim 0 (x:=(AV.s s')) kr fun hlm1=> ?_
 have hB1:s'.size≤281474976710656:=Wv hlm1
 obtain ⟨R1,hR1⟩: ∃R,SY s'.data.toList 0=R:=⟨_,rfl⟩
 refine BN (fun (v8:Nat)=>[(0,(AV.s s')),(1,(AV.i .i64 most')),(7,(Ai s'.size)),(8,(Ai v8))]) (fun (v8:Nat)=>⟨0,[]⟩) (fun (v8:Nat)=>v8≤s'.size∧SY (s'.data.toList.drop v8) v8=R1) (fun (v8:Nat)=>s'.size-v8) 0 ?_ ?_ ?_
 exact ⟨[],⟨by decide,rfl,A3.nil,(Ee (Ee (Ee (Ee AM.nil))))⟩,B4⟩
 exact ⟨od,hR1⟩
 rintro v8 ⟨hi1,hE1⟩
 try dsimp only
 refine Sq<|Rg<|Aq (AV.b (decide (((v8:Nat):Int)<((s'.size:Nat):Int))))<|Ad<|Sq ?_
 rcases Nat.lt_or_ge v8 s'.size with hl1|hl1
 have hc1:decide (((v8:Nat):Int)<((s'.size:Nat):Int))=true:=decide_eq_true (by omega)
 refine Ah.cond (t:=true) (by rw [←hc1]<;>kernel_rfl) (Ah.skip ?_)
 obtain ⟨x1,hx1,hx1l⟩:=OV hl1
 rw [BO hx1l,SY.eq_2] at hE1
 refine Sq<|Ah.block<|Sq<|Rg<|Aq (Ai v8)<|Aq (Ai v8)<|Ad<|Sq<|Rg<|Aq (AV.s s')<|Aq (Ai v8)<|Ap (AV.i .u8 (x1.toNat:Int)) (MN (kk:= .i64) (s:=s') (i:=v8) (b:=x1) kr kr kr hx1)<|Aq (AV.b (decide ((x1.toNat:Int)<(32:Int))))<|Aq (AV.b (decide ((x1.toNat:Int)<(32:Int)))) ?_
 cases c_1:decide ((x1.toNat:Int)<(32:Int))
 have k_1:=of_decide_eq_false c_1
 refine Ay<|Aq (AV.s s')<|Ay<|Aq (Ai v8)<|Ay<|Ap (AV.i .u8 (x1.toNat:Int)) (MN (kk:= .i64) (s:=s') (i:=v8) (b:=x1) kr kr kr hx1)<|Ay<|Aq (AV.b (decide ((126:Int)<(x1.toNat:Int))))<|Aq (AV.b (decide ((126:Int)<(x1.toNat:Int))))<|Ad ?_
 cases c_2:decide ((126:Int)<(x1.toNat:Int))
 have k_2:=of_decide_eq_false c_2
 refine Cf<|Ah.skip<|Rg<|Ap (Ai (v8+1)) (BH (i:=v8) (m:=1) kr kr sd)<|Aq (Ai (v8+1))<|Ad ?_
 try simp only [c_1,c_2,Bl] at hE1
 refine ⟨v8+1,od,⟨od,hE1⟩,?_⟩
 exact ⟨[],⟨by decide,rfl,A3.nil,(Ee (Ee (Ee (Ee AM.nil))))⟩,B4⟩
 have k_2:=of_decide_eq_true c_2
 refine Ct<|Sq<|Rg<|Aq (AV.b false)<|Ad<|Rt ?_
 try simp only [c_1,c_2,Bl] at hE1
 subst hE1
 exact Fb rfl (by simp only [Mt,hR1,Bl])
 have k_1:=of_decide_eq_true c_1
 refine An<|An<|An<|An<|Aq (AV.b true)<|Ad<|Ct<|Sq<|Rg<|Aq (AV.b false)<|Ad<|Rt ?_
 try simp only [c_1,Bl] at hE1
 subst hE1
 exact Fb rfl (by simp only [Mt,hR1,Bl])
 have hc1:decide (((v8:Nat):Int)<((s'.size:Nat):Int))=false:=decide_eq_false (by omega)
 refine Ah.cond (t:=false) (by rw [←hc1]<;>kernel_rfl) (Ah.exit ?_)
 rw [List.drop_eq_nil_of_le (Sx hl1),SY.eq_1] at hE1
 subst hE1
 refine Sq<|Rg<|Aq (AV.s s')<|Aq (Ai s'.size)<|Aq (AV.i .i64 most')<|Aq (AV.b (decide (((s'.size:Nat):Int)≤most')))<|Aq (AV.b (decide (((s'.size:Nat):Int)≤most')))<|Ad<|Rt ?_
 exact Fb rfl (by simp only [Mt,hR1,Bl])
theorem L1 (W:World) (s':ByteArray):Ar Go.Proofs.Tryz.prog W 162 [(AV.s s')] (AV.b (KQ s')) []:=by
 refine As (fn:=Go.Proofs.Tryz.f162) Go.Proofs.Tryz.func162 rfl (en162 W) (ts:=[2]) rfl le<|Sq<|Rg<|Aq (AV.b false)<|Ad<|Sq<|Rg<|Aq (AV.s s')<|Aq (AV.b (!decide (s'=(⟨#[]⟩:ByteArray))))<|Aq (AV.b (!decide (s'=(⟨#[]⟩:ByteArray)))) ?_
 cases c_1:(!decide (s'=(⟨#[]⟩:ByteArray)))
 refine An<|An<|Aq (AV.b false)<|Aq (AV.b false)<|Ad<|Rt ?_
 exact Fb rfl (by simp only [KQ,c_1,Bl])
 refine Ay<|Aq (AV.s s')<|Ay<|A4.sc0 (vs:=[(AV.s s'),(AV.i .i64 (256:Int))]) (r0:=(AV.b (Mt s' (256:Int)))) kr kr (Nf W s' (256:Int)) kr le<|Aq (AV.b (Mt s' (256:Int)))<|Aq (AV.b (Mt s' (256:Int)))<|Ad<|Rt ?_
 exact Fb rfl (by simp only [KQ,c_1,Bl])
def BV (e:B1):AV:=(AV.pt (B1.av e).cells)
theorem S6 (W:World) {m0:Int} (hW:W.cell? ⟨0,0,none⟩=some (.int .i64 m0)) (e:B1):Ar Go.Proofs.Tryz.prog W 165 [(AV.pt (B1.av e).cells)] (AV.b (Qc e)) []:=by
 refine As (fn:=Go.Proofs.Tryz.f165) Go.Proofs.Tryz.func165 rfl (en165 W) (ts:=[2]) rfl le<|Sq<|Rg<|Aq (AV.b false)<|Ad<|Sq<|Sq<|Ah.drawn A6 E5 19 kr le<|Dq (BV e)<|Dq (BV e)<|Dq (AV.pt ((B1.av e).cells.drop 0))<|Dq ((AY 1 AV.s) e.outs)<|Dq (BV e)<|Dq (BV e)<|Dq (AV.pt ((B1.av e).cells.drop 1))<|Dq ((AY 1 AV.s) e.ins)<|Dq (BV e)<|Dq (BV e)<|Dq (AV.pt ((B1.av e).cells.drop 2))<|Dq ((AY 1 AV.s) e.implicit)<|Dq (BV e)<|Dq (BV e)<|Dq (AV.pt ((B1.av e).cells.drop 3))<|Dq ((AY 1 AV.s) e.order)<|Aw.sn (x:=(AV.own 0 0 4)) (h':=⟨1,[(0,some ⟨24,1,[e.outs,e.ins,e.implicit,e.order].map (AY 1 AV.s)⟩)]⟩) kr le<|Dq (Ai 4)<|Dq (AV.i .i64 (0:Int))<|Aw.fin<|Ah.block ?_
 have hB1:4≤281474976710656:=by first|omega|(simp;done)|(simp;omega)
 obtain ⟨R1,hR1⟩: ∃R,Vi [e.outs,e.ins,e.implicit,e.order] 0=R:=⟨_,rfl⟩
 refine BN (fun (v23:Nat)=>[(0,(BV e)),(21,(AV.own 0 0 4)),(22,(Ai 4)),(23,(Ai v23))]) (fun (v23:Nat)=>⟨1,[(0,some ⟨24,1,[e.outs,e.ins,e.implicit,e.order].map (AY 1 AV.s)⟩)]⟩) (fun (v23:Nat)=>v23≤4∧Vi ([e.outs,e.ins,e.implicit,e.order].drop v23) v23=R1) (fun (v23:Nat)=>4-v23) 0 ?_ ?_ ?_
 exact ⟨[0],⟨by decide,rfl,(A3.cons (BA (fun _=>rfl) (e:=24) (k:=1) (A:=(AY 1 AV.s)) (xs:=[e.outs,e.ins,e.implicit,e.order]) rfl rfl) A3.nil),(Ee (AM.cons (BM.f kr) (Ee (Ee AM.nil))))⟩,B4⟩
 exact ⟨od,hR1⟩
 rintro v23 ⟨hi1,hE1⟩
 try dsimp only
 refine Sq<|Rg<|Aq (AV.b (decide (((v23:Nat):Int)<((4:Nat):Int))))<|Ad<|Sq ?_
 rcases Nat.lt_or_ge v23 4 with hl1|hl1
 have hc1:decide (((v23:Nat):Int)<((4:Nat):Int))=true:=decide_eq_true (by omega)
 refine Ah.cond (t:=true) (by rw [←hc1]<;>kernel_rfl) (Ah.skip ?_)
 obtain ⟨x1,hx1⟩: ∃x,[e.outs,e.ins,e.implicit,e.order][v23]? =some x:=⟨_,List.getElem?_eq_getElem (by first|(simpa using hl1)|omega)⟩
 rw [BO hx1,Vi.eq_2] at hE1
 refine Sq<|Ah.block<|Sq<|Rg<|Ap (AV.loc 0 v23 0) (Ft (e:=24) (id:=0) (len:=4) (kk:= .i64) (ob:=⟨24,1,[e.outs,e.ins,e.implicit,e.order].map (AY 1 AV.s)⟩) (i:=v23) kr kr kr rfl kr sd)<|Ap ((AY 1 AV.s) x1) (D4 (e:=24) (k:=1) (i:=tI_24) (id:=0) (xs:=[e.outs,e.ins,e.implicit,e.order]) (A:=(AY 1 AV.s)) (j:=v23) kr kr rfl hx1 kr)<|Aq ((AY 1 AV.s) x1)<|Ad<|Sq<|Rg<|Aq ((AY 1 AV.s) x1)<|A4.sc0 (vs:=[((AY 1 AV.s) x1),(AV.i .i64 (8:Int))]) (r0:=(AV.b (IW x1 (8:Int)))) kr kr (MA W hW x1 (8:Int)) kr le<|Aq (AV.b (!(IW x1 (8:Int))))<|Ad ?_
 cases c_1:(!(IW x1 (8:Int)))
 refine Cf<|Ah.skip<|Rg<|Ap (Ai (v23+1)) (BH (i:=v23) (m:=1) kr kr sd)<|Aq (Ai (v23+1))<|Ad ?_
 try simp only [c_1,Bl] at hE1
 refine ⟨v23+1,od,⟨od,hE1⟩,?_⟩
 exact ⟨[0],⟨by decide,rfl,(A3.cons (BA (fun _=>rfl) (e:=24) (k:=1) (A:=(AY 1 AV.s)) (xs:=[e.outs,e.ins,e.implicit,e.order]) rfl rfl) A3.nil),(Ee (AM.cons (BM.f kr) (Ee (Ee AM.nil))))⟩,B4⟩
 refine Ct<|Sq<|Rg<|Aq (AV.b false)<|Ad<|Rt ?_
 try simp only [c_1,Bl] at hE1
 subst hE1
 exact Fb rfl (by simp only [Qc,hR1,Bl])
 have hc1:decide (((v23:Nat):Int)<((4:Nat):Int))=false:=decide_eq_false (by omega)
 refine Ah.cond (t:=false) (by rw [←hc1]<;>kernel_rfl) (Ah.exit ?_)
 rw [List.drop_eq_nil_of_le (by first|(simpa using hl1)|omega),Vi.eq_1] at hE1
 subst hE1
 refine Sq<|Rg<|Aq (BV e)<|Aq (BV e)<|Aq (AV.pt ((B1.av e).cells.drop 0))<|Aq ((AY 1 AV.s) e.outs)<|Ap (Ai e.outs.length) (CA (k:=1) (nl:=false) (e:=9) (A:=AV.s) (xs:=e.outs) kr kr)<|Aq (AV.b (decide ((0:Int)<((e.outs.length:Nat):Int))))<|Aq (AV.b (decide ((0:Int)<((e.outs.length:Nat):Int)))) ?_
 cases c_2:decide ((0:Int)<((e.outs.length:Nat):Int))
 have k_2:=of_decide_eq_false c_2
 refine An<|An<|An<|An<|An<|Aq (AV.b false)<|Aq (AV.b false)<|An<|An<|An<|An<|An<|An<|An<|An<|An<|An<|An<|An<|Aq (AV.b false)<|Aq (AV.b false)<|Ad<|Rt ?_
 exact Fb rfl (by simp only [Qc,hR1,c_2,Bl])
 have k_2:=of_decide_eq_true c_2
 refine Ay<|Aq (BV e)<|Ay<|Aq (BV e)<|Ay<|Aq (AV.pt ((B1.av e).cells.drop 4))<|Ay<|Aq (AV.s e.command)<|Ay<|A4.sc0 (vs:=[(AV.s e.command)]) (r0:=(AV.b (KQ e.command))) kr kr (L1 W e.command) kr le<|Aq (AV.b (KQ e.command))<|Aq (AV.b (KQ e.command)) ?_
 cases c_3:(KQ e.command)
 refine An<|An<|An<|An<|An<|An<|An<|An<|An<|An<|An<|An<|Aq (AV.b false)<|Aq (AV.b false)<|Ad<|Rt ?_
 exact Fb rfl (by simp only [Qc,hR1,c_2,c_3,Bl])
 refine Ay<|Aq (BV e)<|Ay<|Aq (BV e)<|Ay<|Aq (AV.pt ((B1.av e).cells.drop 6))<|Ay<|Aq (AV.s e.pool)<|Ay<|Aq (AV.b (decide (e.pool=(⟨#[]⟩:ByteArray))))<|Ay<|Aq (AV.b (decide (e.pool=(⟨#[]⟩:ByteArray)))) ?_
 cases c_4:decide (e.pool=(⟨#[]⟩:ByteArray))
 refine Ay<|Aq (BV e)<|Ay<|Aq (BV e)<|Ay<|Aq (AV.pt ((B1.av e).cells.drop 6))<|Ay<|Aq (AV.s e.pool)<|Ay<|A4.sc0 (vs:=[(AV.s e.pool)]) (r0:=(AV.b (Ix e.pool))) kr kr (Ua W e.pool) kr le<|Ay<|Aq (AV.b (Ix e.pool))<|Aq (AV.b (Ix e.pool))<|Aq (AV.b (Ix e.pool))<|Ad<|Rt ?_
 exact Fb rfl (by simp only [Qc,hR1,c_2,c_3,c_4,Bl])
 refine An<|An<|An<|An<|An<|Ay<|Aq (AV.b true)<|Aq (AV.b true)<|Aq (AV.b true)<|Ad<|Rt ?_
 exact Fb rfl (by simp only [Qc,hR1,c_2,c_3,c_4,Bl])
theorem S9 (W:World) (c:Int):Ar Go.Proofs.Tryz.prog W 198 [(AV.i .u8 c)] (AV.b (NE c)) []:=by
 refine As (fn:=Go.Proofs.Tryz.f198) Go.Proofs.Tryz.func198 rfl (en198 W) (ts:=[2]) rfl le<|Sq<|Rg<|Aq (AV.b false)<|Ad<|Sq<|Rg<|Aq (AV.i .u8 c)<|Aq (AV.b (decide ((97:Int)≤c)))<|Aq (AV.b (decide ((97:Int)≤c))) ?_
 cases c_1:decide ((97:Int)≤c)
 have k_1:=of_decide_eq_false c_1
 refine An<|An<|Aq (AV.b false)<|Aq (AV.b false)<|Ay<|Aq (AV.i .u8 c)<|Ay<|Aq (AV.b (decide ((48:Int)≤c)))<|Ay<|Aq (AV.b (decide ((48:Int)≤c))) ?_
 cases c_2:decide ((48:Int)≤c)
 have k_2:=of_decide_eq_false c_2
 refine An<|An<|Ay<|Aq (AV.b false)<|Aq (AV.b false)<|Aq (AV.b false)<|Ad<|Rt ?_
 exact Fb rfl (by simp only [NE,c_1,c_2,Bl])
 have k_2:=of_decide_eq_true c_2
 refine Ay<|Aq (AV.i .u8 c)<|Ay<|Aq (AV.b (decide (c≤(57:Int))))<|Ay<|Aq (AV.b (decide (c≤(57:Int))))<|Aq (AV.b (decide (c≤(57:Int))))<|Aq (AV.b (decide (c≤(57:Int))))<|Ad<|Rt ?_
 exact Fb rfl (by simp only [NE,c_1,c_2,Bl])
 have k_1:=of_decide_eq_true c_1
 refine Ay<|Aq (AV.i .u8 c)<|Ay<|Aq (AV.b (decide (c≤(122:Int))))<|Aq (AV.b (decide (c≤(122:Int))))<|Aq (AV.b (decide (c≤(122:Int)))) ?_
 cases c_3:decide (c≤(122:Int))
 have k_3:=of_decide_eq_false c_3
 refine Ay<|Aq (AV.i .u8 c)<|Ay<|Aq (AV.b (decide ((48:Int)≤c)))<|Ay<|Aq (AV.b (decide ((48:Int)≤c))) ?_
 cases c_4:decide ((48:Int)≤c)
 have k_4:=of_decide_eq_false c_4
 refine An<|An<|Ay<|Aq (AV.b false)<|Aq (AV.b false)<|Aq (AV.b false)<|Ad<|Rt ?_
 exact Fb rfl (by simp only [NE,c_1,c_3,c_4,Bl])
 have k_4:=of_decide_eq_true c_4
 refine Ay<|Aq (AV.i .u8 c)<|Ay<|Aq (AV.b (decide (c≤(57:Int))))<|Ay<|Aq (AV.b (decide (c≤(57:Int))))<|Aq (AV.b (decide (c≤(57:Int))))<|Aq (AV.b (decide (c≤(57:Int))))<|Ad<|Rt ?_
 exact Fb rfl (by simp only [NE,c_1,c_3,c_4,Bl])
 have k_3:=of_decide_eq_true c_3
 refine An<|An<|An<|An<|An<|An<|Aq (AV.b true)<|Aq (AV.b true)<|Ad<|Rt ?_
 exact Fb rfl (by simp only [NE,c_1,c_3,Bl])
theorem PT (W:World) (s':ByteArray):Ar Go.Proofs.Tryz.prog W 159 [(AV.s s')] (AV.b (Ms s')) []:=by
 refine As (fn:=Go.Proofs.Tryz.f159) Go.Proofs.Tryz.func159 rfl (en159 W) (ts:=[2]) rfl le<|Sq<|Rg<|Aq (AV.b false)<|Ad<|Sq<|Sq<|Rg<|Aq (AV.i .i64 (0:Int))<|Ad<|Ah.block<|Ah.lim 0 (x:=(AV.s s')) kr fun hlm1=> ?_
 have hB1:s'.size≤281474976710656:=Wv hlm1
 obtain ⟨R1,hR1⟩: ∃R,Of s'.data.toList 0=R:=⟨_,rfl⟩
 refine BN (fun (i:Nat)=>[(0,(AV.s s')),(3,(Ai i))]) (fun (i:Nat)=>⟨0,[]⟩) (fun (i:Nat)=>i≤s'.size∧Of (s'.data.toList.drop i) i=R1) (fun (i:Nat)=>s'.size-i) 0 ?_ ?_ ?_
 exact ⟨[],⟨by decide,rfl,A3.nil,(Ee (Ee AM.nil))⟩,B4⟩
 exact ⟨od,hR1⟩
 rintro i ⟨hi1,hE1⟩
 try dsimp only
 refine Sq<|Sq<|Rg<|Aq (Ai i)<|Aq (AV.s s')<|Aq (Ai s'.size)<|Aq (AV.b (decide (((i:Nat):Int)<((s'.size:Nat):Int))))<|Ad ?_
 rcases Nat.lt_or_ge i s'.size with hl1|hl1
 have hc1:decide (((i:Nat):Int)<((s'.size:Nat):Int))=true:=decide_eq_true (by omega)
 refine Ah.cond (t:=true) (by rw [←hc1]<;>kernel_rfl) (Ah.skip ?_)
 obtain ⟨x1,hx1,hx1l⟩:=OV hl1
 rw [BO hx1l,Of.eq_2] at hE1
 refine Sq<|Ah.block<|Sq<|Rg<|Aq (AV.s s')<|Aq (Ai i)<|Ap (AV.i .u8 (x1.toNat:Int)) (MN (kk:= .i64) (s:=s') (i:=i) (b:=x1) kr kr kr hx1)<|A4.sc0 (vs:=[(AV.i .u8 (x1.toNat:Int))]) (r0:=(AV.b (NE (x1.toNat:Int)))) kr kr (S9 W (x1.toNat:Int)) kr le<|Aq (AV.b (!(NE (x1.toNat:Int))))<|Aq (AV.b (!(NE (x1.toNat:Int)))) ?_
 cases c_1:(!(NE (x1.toNat:Int)))
 refine An<|An<|An<|An<|Aq (AV.b false)<|Aq (AV.b false)<|An<|An<|An<|An<|Aq (AV.b false)<|Aq (AV.b false)<|An<|An<|An<|An<|Aq (AV.b false)<|Aq (AV.b false)<|An<|An<|An<|An<|Aq (AV.b false)<|Ad<|Cf<|Ah.skip<|Rg<|Aq (Ai i)<|Ap (Ai (i+1)) (BH (i:=i) (m:=1) kr kr sd)<|Aq (Ai (i+1))<|Ad ?_
 try simp only [c_1,Bl] at hE1
 refine ⟨i+1,od,⟨od,hE1⟩,?_⟩
 exact ⟨[],⟨by decide,rfl,A3.nil,(Ee (Ee AM.nil))⟩,B4⟩
 refine Ay<|Aq (AV.s s')<|Ay<|Aq (Ai i)<|Ay<|Ap (AV.i .u8 (x1.toNat:Int)) (MN (kk:= .i64) (s:=s') (i:=i) (b:=x1) kr kr kr hx1)<|Ay<|Aq (AV.b (!decide ((x1.toNat:Int)=(46:Int))))<|Aq (AV.b (!decide ((x1.toNat:Int)=(46:Int))))<|Aq (AV.b (!decide ((x1.toNat:Int)=(46:Int)))) ?_
 cases c_2:(!decide ((x1.toNat:Int)=(46:Int)))
 have k_2:=nde c_2
 refine An<|An<|An<|An<|Aq (AV.b false)<|Aq (AV.b false)<|An<|An<|An<|An<|Aq (AV.b false)<|Aq (AV.b false)<|An<|An<|An<|An<|Aq (AV.b false)<|Ad<|Cf<|Ah.skip<|Rg<|Aq (Ai i)<|Ap (Ai (i+1)) (BH (i:=i) (m:=1) kr kr sd)<|Aq (Ai (i+1))<|Ad ?_
 try simp only [c_1,c_2,Bl] at hE1
 refine ⟨i+1,od,⟨od,hE1⟩,?_⟩
 exact ⟨[],⟨by decide,rfl,A3.nil,(Ee (Ee AM.nil))⟩,B4⟩
 have k_2:=ndt c_2
 refine Ay<|Aq (AV.s s')<|Ay<|Aq (Ai i)<|Ay<|Ap (AV.i .u8 (x1.toNat:Int)) (MN (kk:= .i64) (s:=s') (i:=i) (b:=x1) kr kr kr hx1)<|Ay<|Aq (AV.b (!decide ((x1.toNat:Int)=(95:Int))))<|Aq (AV.b (!decide ((x1.toNat:Int)=(95:Int))))<|Aq (AV.b (!decide ((x1.toNat:Int)=(95:Int)))) ?_
 cases c_3:(!decide ((x1.toNat:Int)=(95:Int)))
 have k_3:=nde c_3
 refine An<|An<|An<|An<|Aq (AV.b false)<|Aq (AV.b false)<|An<|An<|An<|An<|Aq (AV.b false)<|Ad<|Cf<|Ah.skip<|Rg<|Aq (Ai i)<|Ap (Ai (i+1)) (BH (i:=i) (m:=1) kr kr sd)<|Aq (Ai (i+1))<|Ad ?_
 try simp only [c_1,c_2,c_3,Bl] at hE1
 refine ⟨i+1,od,⟨od,hE1⟩,?_⟩
 exact ⟨[],⟨by decide,rfl,A3.nil,(Ee (Ee AM.nil))⟩,B4⟩
 have k_3:=ndt c_3
 refine Ay<|Aq (AV.s s')<|Ay<|Aq (Ai i)<|Ay<|Ap (AV.i .u8 (x1.toNat:Int)) (MN (kk:= .i64) (s:=s') (i:=i) (b:=x1) kr kr kr hx1)<|Ay<|Aq (AV.b (!decide ((x1.toNat:Int)=(45:Int))))<|Aq (AV.b (!decide ((x1.toNat:Int)=(45:Int))))<|Aq (AV.b (!decide ((x1.toNat:Int)=(45:Int)))) ?_
 cases c_4:(!decide ((x1.toNat:Int)=(45:Int)))
 have k_4:=nde c_4
 refine An<|An<|An<|An<|Aq (AV.b false)<|Ad<|Cf<|Ah.skip<|Rg<|Aq (Ai i)<|Ap (Ai (i+1)) (BH (i:=i) (m:=1) kr kr sd)<|Aq (Ai (i+1))<|Ad ?_
 try simp only [c_1,c_2,c_3,c_4,Bl] at hE1
 refine ⟨i+1,od,⟨od,hE1⟩,?_⟩
 exact ⟨[],⟨by decide,rfl,A3.nil,(Ee (Ee AM.nil))⟩,B4⟩
 have k_4:=ndt c_4
 refine Ay<|Aq (AV.s s')<|Ay<|Aq (Ai i)<|Ay<|Ap (AV.i .u8 (x1.toNat:Int)) (MN (kk:= .i64) (s:=s') (i:=i) (b:=x1) kr kr kr hx1)<|Ay<|Aq (AV.b (!decide ((x1.toNat:Int)=(47:Int))))<|Aq (AV.b (!decide ((x1.toNat:Int)=(47:Int))))<|Ad ?_
 cases c_5:(!decide ((x1.toNat:Int)=(47:Int)))
 have k_5:=nde c_5
 refine Cf<|Ah.skip<|Rg<|Aq (Ai i)<|Ap (Ai (i+1)) (BH (i:=i) (m:=1) kr kr sd)<|Aq (Ai (i+1))<|Ad ?_
 try simp only [c_1,c_2,c_3,c_4,c_5,Bl] at hE1
 refine ⟨i+1,od,⟨od,hE1⟩,?_⟩
 exact ⟨[],⟨by decide,rfl,A3.nil,(Ee (Ee AM.nil))⟩,B4⟩
 have k_5:=ndt c_5
 refine Ct<|Sq<|Rg<|Aq (AV.b false)<|Ad<|Rt ?_
 try simp only [c_1,c_2,c_3,c_4,c_5,Bl] at hE1
 subst hE1
 exact Fb rfl (by simp only [Ms,hR1,Bl])
 have hc1:decide (((i:Nat):Int)<((s'.size:Nat):Int))=false:=decide_eq_false (by omega)
 refine Ah.cond (t:=false) (by rw [←hc1]<;>kernel_rfl) (Ah.exit ?_)
 rw [List.drop_eq_nil_of_le (Sx hl1),Of.eq_1] at hE1
 subst hE1
 refine Sq<|Rg<|Aq (AV.s s')<|Aq (Ai s'.size)<|Aq (AV.b (decide ((1:Int)≤((s'.size:Nat):Int))))<|Aq (AV.b (decide ((1:Int)≤((s'.size:Nat):Int)))) ?_
 cases c_6:decide ((1:Int)≤((s'.size:Nat):Int))
 have k_6:=of_decide_eq_false c_6
 refine An<|An<|An<|Aq (AV.b false)<|Aq (AV.b false)<|Ad<|Rt ?_
 exact Fb rfl (by simp only [Ms,hR1,c_6,Bl])
 have k_6:=of_decide_eq_true c_6
 refine Ay<|Aq (AV.s s')<|Ay<|Aq (Ai s'.size)<|Ay<|Aq (AV.b (decide (((s'.size:Nat):Int)≤(16:Int))))<|Aq (AV.b (decide (((s'.size:Nat):Int)≤(16:Int))))<|Aq (AV.b (decide (((s'.size:Nat):Int)≤(16:Int))))<|Ad<|Rt ?_
 exact Fb rfl (by simp only [Ms,hR1,c_6,Bl])
theorem Tr (W:World) (xs:List ByteArray) (sign:ByteArray) (hz:DW xs sign.size≤281474976710656):Ar Go.Proofs.Tryz.prog W 150 [((AY 1 AV.s) xs),(AV.s sign)] (AV.s (FQ xs sign)) []:=by
 refine As (fn:=Go.Proofs.Tryz.f150) Go.Proofs.Tryz.func150 rfl (en150 W) (ts:=[4]) rfl le<|Sq<|Rg<|Aq (AV.s (⟨#[]⟩:ByteArray))<|Ad<|Sq<|Rg<|Aq (AV.s (⟨#[]⟩:ByteArray))<|Ad<|Sq<|Sq<|Rg<|Aq (AV.i .i64 (0:Int))<|Ad<|Ah.block<|Ah.lim 0 (x:=((AY 1 AV.s) xs)) kr fun hlm1=> ?_
 have hB1:xs.length≤281474976710656:=Dj hlm1
 obtain ⟨R1,hR1⟩: ∃R,Pg sign xs 0 (⟨#[]⟩:ByteArray)=R:=⟨_,rfl⟩
 refine BN (fun ((s',i):ByteArray×Nat)=>[(0,((AY 1 AV.s) xs)),(1,(AV.s sign)),(5,(AV.s s')),(6,(Ai i))]) (fun ((s',i):ByteArray×Nat)=>⟨0,[]⟩) (fun ((s',i):ByteArray×Nat)=>i≤xs.length∧s'.size+DW (xs.drop i) sign.size≤281474976710656∧Pg sign (xs.drop i) i s'=R1) (fun ((s',i):ByteArray×Nat)=>xs.length-i) ((⟨#[]⟩:ByteArray),0) ?_ ?_ ?_
 exact ⟨[],⟨by decide,rfl,A3.nil,(Ee (Ee (Ee (Ee AM.nil))))⟩,B4⟩
 exact ⟨od,by (try dsimp only)<;>(show 0+DW xs sign.size≤_;omega),hR1⟩
 rintro ⟨s',i⟩ ⟨hi1,hj,hE1⟩
 try dsimp only
 refine Sq<|Sq<|Rg<|Aq (Ai i)<|Aq ((AY 1 AV.s) xs)<|Ap (Ai xs.length) (CA (k:=1) (nl:=false) (e:=9) (A:=AV.s) (xs:=xs) kr kr)<|Aq (AV.b (decide (((i:Nat):Int)<((xs.length:Nat):Int))))<|Ad ?_
 rcases Nat.lt_or_ge i xs.length with hl1|hl1
 have hc1:decide (((i:Nat):Int)<((xs.length:Nat):Int))=true:=decide_eq_true (by omega)
 refine Ah.cond (t:=true) (by rw [←hc1]<;>kernel_rfl) (Ah.skip ?_)
 obtain ⟨x1,hx1⟩: ∃x,xs[i]? =some x:=⟨_,List.getElem?_eq_getElem hl1⟩
 rw [BO hx1,Pg.eq_2] at hE1
 rw [BO hx1] at hj
 simp only [DW] at hj
 refine Sq<|Ah.block<|Sq<|Sq<|Rg<|Aq (Ai i)<|Aq (AV.b (decide ((0:Int)<((i:Nat):Int))))<|Ad ?_
 cases c_1:decide ((0:Int)<((i:Nat):Int))
 have k_1:=of_decide_eq_false c_1
 refine Cf<|Ah.skip<|Rg<|Aq (AV.s s')<|Aq ((AY 1 AV.s) xs)<|Aq (Ai i)<|Ap (AV.pt (AV.s x1).cells) (CP (k:=1) (nl:=false) (e:=9) (kk:= .i64) (A:=AV.s) (xs:=xs) (i:=i) kr kr kr ⟨by kernel_rfl,by decide⟩ hx1)<|Aq (AV.s x1)<|Ap (AV.s (s'++x1)) (TQ (a:=s') (b:=x1) kr kr sd)<|Aq (AV.s (s'++x1))<|Ad<|Rg<|Aq (Ai i)<|Ap (Ai (i+1)) (BH (i:=i) (m:=1) kr kr sd)<|Aq (Ai (i+1))<|Ad ?_
 try simp only [c_1,Bl] at hE1
 refine ⟨((s'++x1),i+1),od,⟨od,by (try dsimp only)<;>(first|omega|(simp only [ByteArray.size_append];omega)),hE1⟩,?_⟩
 exact ⟨[],⟨by decide,rfl,A3.nil,(Ee (Ee (Ee (Ee AM.nil))))⟩,B4⟩
 have k_1:=of_decide_eq_true c_1
 refine Ct<|Rg<|Aq (AV.s s')<|Aq (AV.s sign)<|Ap (AV.s (s'++sign)) (TQ (a:=s') (b:=sign) kr kr sd)<|Aq (AV.s (s'++sign))<|Ad<|Rg<|Aq (AV.s (s'++sign))<|Aq ((AY 1 AV.s) xs)<|Aq (Ai i)<|Ap (AV.pt (AV.s x1).cells) (CP (k:=1) (nl:=false) (e:=9) (kk:= .i64) (A:=AV.s) (xs:=xs) (i:=i) kr kr kr ⟨by kernel_rfl,by decide⟩ hx1)<|Aq (AV.s x1)<|Ap (AV.s ((s'++sign)++x1)) (TQ (a:=(s'++sign)) (b:=x1) kr kr sd)<|Aq (AV.s ((s'++sign)++x1))<|Ad<|Rg<|Aq (Ai i)<|Ap (Ai (i+1)) (BH (i:=i) (m:=1) kr kr sd)<|Aq (Ai (i+1))<|Ad ?_
 try simp only [c_1,Bl] at hE1
 refine ⟨(((s'++sign)++x1),i+1),od,⟨od,by (try dsimp only)<;>(first|omega|(simp only [ByteArray.size_append];omega)),hE1⟩,?_⟩
 exact ⟨[],⟨by decide,rfl,A3.nil,(Ee (Ee (Ee (Ee AM.nil))))⟩,B4⟩
 have hc1:decide (((i:Nat):Int)<((xs.length:Nat):Int))=false:=decide_eq_false (by omega)
 refine Ah.cond (t:=false) (by rw [←hc1]<;>kernel_rfl) (Ah.exit ?_)
 rw [List.drop_eq_nil_of_le (hl1),Pg.eq_1] at hE1
 subst hE1
 refine Sq<|Rg<|Aq (AV.s s')<|Aq (AV.s s')<|Ad<|Rt ?_
 exact Fs rfl (by simp only [FQ,hR1,Bl])
theorem Sa (W:World) (s':ByteArray) (sign:Int) (hs:s'.size≤1048576):Ar Go.Proofs.Tryz.prog W 160 [(AV.s s'),(AV.i .u8 sign)] ((AY 1 AV.s) (Lm s' sign)) []:=by
 refine As (fn:=Go.Proofs.Tryz.f160) Go.Proofs.Tryz.func160 rfl (en160 W) (ts:=[4]) rfl le<|Sq<|Rg<|Aq (AV.sl 1 true [])<|Ad<|Sq<|Rg<|Aq (AV.sl 1 true [])<|Ad<|Sq<|Rg<|Aq (AV.i .i64 (0:Int))<|Ad<|Sq<|Sq<|Rg<|Aq (AV.i .i64 (0:Int))<|Ad<|Ah.block<|Ah.lim 0 (x:=(AV.s s')) kr fun hlm12=> ?_
 have hB1_2:s'.size≤281474976710656:=Wv hlm12
 obtain ⟨R1,hR1⟩: ∃R,NA s' sign (s'.size+1-0+1) [] 0 0=R:=⟨_,rfl⟩
 refine BN (fun ((kf1,(out,from',i)):Nat×((List ByteArray)×Nat×Nat))=>[(0,(AV.s s')),(1,(AV.i .u8 sign)),(5,(Ch 0 1 AV.s out)),(6,(Ai from')),(7,(Ai i))]) (fun ((kf1,(out,from',i)):Nat×((List ByteArray)×Nat×Nat))=>⟨1,[(0,L3 9 1 AV.s out)]⟩) (fun ((kf1,(out,from',i)):Nat×((List ByteArray)×Nat×Nat))=>s'.size+1-i<kf1∧from'≤i∧i≤s'.size+1∧out.length≤i∧NA s' sign kf1 out from' i=R1) (fun ((kf1,(out,from',i)):Nat×((List ByteArray)×Nat×Nat))=>kf1) (s'.size+1-0+1,([],0,0)) ?_ ?_ ?_
 exact ⟨[1000000],⟨by decide,rfl,(A3.cons rfl A3.nil),(Ee (Ee (Ee (Ee (Ee AM.nil)))))⟩,B4⟩
 exact ⟨od,Ka,Ka,Ka,hR1⟩
 rintro ⟨kf1,out,from',i⟩ ⟨hi1,hf,hi2,hl,hE1⟩
 try dsimp only
 rcases kf1 with _|kf1
 exact absurd hi1 (Nat.not_lt_zero _)
 rw [NA.eq_2] at hE1
 refine Sq<|Sq<|Rg<|Aq (Ai i)<|Aq (AV.s s')<|Aq (Ai s'.size)<|Aq (AV.b (decide (((i:Nat):Int)≤((s'.size:Nat):Int))))<|Ad ?_
 cases c_1:decide (((i:Nat):Int)≤((s'.size:Nat):Int))
 have k_1:=of_decide_eq_false c_1
 refine Cf<|Ah.exit ?_
 try simp only [c_1,Bl] at hE1
 subst hE1
 refine Sq<|Rg<|Aq (Ch 0 1 AV.s out)<|Aq (Ch 0 1 AV.s out)<|Ad<|Rt ?_
 have hM:Lm s' sign=out:=by simp only [Lm,hR1,Bl]
 refine ⟨Or.inr rfl,?_⟩
 rw [hM]
 exact BM.cast (x':=(Ch 0 1 AV.s out)) (y':=((AY 1 AV.s) out)) kr kr (BM.cast (x':=(Ch 0 1 AV.s out)) (y':=AY 1 AV.s out) kr kr (Rx (fun _=>rfl) (by decide) (by decide) (e:=9) (k:=1) rfl sd))
 have k_1:=of_decide_eq_true c_1
 refine Ct<|Ah.skip<|Sq<|Ah.block ?_
 refine Ra [(0,(AV.s s')),(1,(AV.i .u8 sign)),(5,(Ch 0 1 AV.s out)),(6,(Ai from')),(7,(Ai i)),(24,(AV.b (decide (((i:Nat):Int)=((s'.size:Nat):Int))||decide (((s'.data.getD i 0).toNat:Int)=sign))))] ⟨1,[(0,L3 9 1 AV.s out)]⟩ ?_ ?_
 refine Rg<|Aq (Ai i)<|Aq (AV.s s')<|Aq (Ai s'.size)<|Aq (AV.b (decide (((i:Nat):Int)=((s'.size:Nat):Int))))<|Aq (AV.b (decide (((i:Nat):Int)=((s'.size:Nat):Int)))) ?_
 cases c_2:decide (((i:Nat):Int)=((s'.size:Nat):Int))
 have k_2:=of_decide_eq_false c_2
 refine Ay<|Aq (AV.s s')<|Ay<|Aq (Ai i)<|Ay<|Ap (AV.i .u8 ((s'.data.getD i 0).toNat:Int)) (MN (kk:= .i64) (s:=s') (i:=i) (b:=(s'.data.getD i 0)) kr kr kr (OP sd))<|Ay<|Aq (AV.i .u8 sign)<|Ay<|Aq (AV.b (decide (((s'.data.getD i 0).toNat:Int)=sign)))<|Aq (AV.b (decide (((s'.data.getD i 0).toNat:Int)=sign)))<|Ad ?_
 exact ⟨[0],⟨by decide,rfl,(A3.cons (I2 (fun _=>rfl) (e:=9) (k:=1) (A:=AV.s) (xs:=out) rfl rfl) A3.nil),(Ee (Ee (AM.cons (Kl (by decide)) (Ee (Ee (Ee AM.nil))))))⟩,B4⟩
 have k_2:=of_decide_eq_true c_2
 refine An<|An<|An<|An<|An<|Aq (AV.b true)<|Ad ?_
 exact ⟨[0],⟨by decide,rfl,(A3.cons (I2 (fun _=>rfl) (e:=9) (k:=1) (A:=AV.s) (xs:=out) rfl rfl) A3.nil),(Ee (Ee (AM.cons (Kl (by decide)) (Ee (Ee (Ee AM.nil))))))⟩,B4⟩
 cases c_3:(decide (((i:Nat):Int)=((s'.size:Nat):Int))||decide (((s'.data.getD i 0).toNat:Int)=sign))
 refine Cf<|Ah.skip<|Rg<|Aq (Ai i)<|Ap (Ai (i+1)) (BH (i:=i) (m:=1) kr kr sd)<|Aq (Ai (i+1))<|Ad ?_
 try simp only [c_1,c_3,Bl] at hE1
 refine ⟨(kf1,(out,from',i+1)),od,⟨Ka,Ka,Ka,Ka,hE1⟩,?_⟩
 exact ⟨[0],⟨by decide,rfl,(A3.cons (I2 (fun _=>rfl) (e:=9) (k:=1) (A:=AV.s) (xs:=out) rfl rfl) A3.nil),(Ee (Ee (AM.cons (Kl (by decide)) (Ee (Ee AM.nil)))))⟩,B4⟩
 refine Ct<|Sq<|Rg<|Aq (Ch 0 1 AV.s out)<|Aq (AV.s s')<|Aq (Ai from')<|Aq (Ai i)<|Ap (AV.s (s'.extract from' i)) (g_sub (s:=s') (l:=(some ((from':Nat):Int))) (g:=(some ((i:Nat):Int))) (a:=from') (b:=i) kr kr kr kr rfl rfl sd sd)<|Nn (AV.own 1 0 1) ⟨9,1,[(s'.extract from' i)].map AV.s⟩<|A4.se (x:=(AV.own 2 0 ((out++[(s'.extract from' i)]).length))) (h':=⟨3,[(2,some ⟨9,1,(out++[(s'.extract from' i)]).map AV.s⟩),(1,some ⟨9,1,[(s'.extract from' i)].map AV.s⟩),(0,none)]⟩) (P6 (e:=9) (X:=(AV.own 1 0 1)) (A:=AV.s) (i:=Hz) (p:=0) (xs:=out) (ys:=[(s'.extract from' i)]) kr kr kr (hx:=kr) kr (by simp) ⟨by decide,by kernel_rfl⟩ rfl (by intro q;first|(subst q;rfl)|(rw [q];rfl)|(simp only [q];rfl)) (by show _*16≤140737488355328;first|omega|(simp only [List.length_append,List.length_cons,List.length_nil,List.length_set,List.length_replicate];omega)|(simp;omega)) sd) le<|Aq (AV.own 2 0 ((out++[(s'.extract from' i)]).length))<|Ad<|Rg<|Aq (Ai i)<|Ap (Ai (i+1)) (BH (i:=i) (m:=1) kr kr sd)<|Aq (Ai (i+1))<|Ad<|Rg<|Aq (Ai i)<|Ap (Ai (i+1)) (BH (i:=i) (m:=1) kr kr sd)<|Aq (Ai (i+1))<|Ad ?_
 try simp only [c_1,c_3,Bl] at hE1
 refine ⟨(kf1,((out++[(s'.extract from' i)]),i+1,i+1)),od,⟨Ka,Ka,Ka,Ka,hE1⟩,?_⟩
 exact ⟨[2],⟨by decide,rfl,(A3.cons (Ja (fun _=>rfl) (e:=9) (k:=1) (A:=AV.s) (xs:=(out++[(s'.extract from' i)])) (by simp) rfl rfl) A3.nil),(Ee (Ee (AM.cons (SD (A:=AV.s) (xs:=(out++[(s'.extract from' i)])) (by decide) (by simp) rfl) (Ee (Ee AM.nil)))))⟩,B4⟩
def CX:AV:=(AV.s (⟨#[]⟩:ByteArray))
def Cc (s':ByteArray):AV:=((AY 1 AV.s) (Lm s' (47:Int)))
theorem NV (W:World) (s':ByteArray):Ar Go.Proofs.Tryz.prog W 118 [(AV.s s')] (AV.tup [(AV.s ((MX s').1)),(AV.i .i64 ((MX s').2))]) []:=by
 refine As (fn:=Go.Proofs.Tryz.f118) Go.Proofs.Tryz.func118 rfl (en118 W) (ts:=[2,3]) rfl le<|Sq<|Rg<|Aq CX<|Aq (AV.i .i64 (0:Int))<|Ad<|Sq<|Sq<|Rg<|Aq (AV.s s')<|A4.sc0 (vs:=[(AV.s s')]) (r0:=(AV.b (Ms s'))) kr kr (PT W s') kr le<|Aq (AV.b (!(Ms s')))<|Aq (AV.b (!(Ms s'))) ?_
 cases c_1:(!(Ms s'))
 have q_1:=Oo c_1
 refine Ay<|Aq (AV.s s')<|Ay<|Ap (AV.i .u8 ((s'.data.getD 0 0).toNat:Int)) (MN (kk:= .i64) (s:=s') (i:=0) (b:=(s'.data.getD 0 0)) kr kr kr (OP sd))<|Ay<|Aq (AV.b (decide (((s'.data.getD 0 0).toNat:Int)=(47:Int))))<|Aq (AV.b (decide (((s'.data.getD 0 0).toNat:Int)=(47:Int))))<|Ad ?_
 cases c_2:decide (((s'.data.getD 0 0).toNat:Int)=(47:Int))
 have k_2:=of_decide_eq_false c_2
 refine Cf<|Ah.skip<|Sq<|Rg<|Aq (AV.s s')<|A4.sc0 (vs:=[(AV.s s'),(AV.i .u8 (47:Int))]) (r0:=(Cc s')) kr kr (Sa W s' (47:Int) (by omega)) kr le<|Aq (Cc s')<|Ad<|Sq<|Rg<|Aq (AV.sl 1 true [])<|Ad<|Sq<|Sq<|Rg<|Aq (AV.i .i64 (0:Int))<|Ad<|Ah.block<|Ah.lim 16 (x:=(Cc s')) kr fun hlm1=> ?_
 have hB1:(Lm s' (47:Int)).length≤281474976710656:=Dj hlm1
 obtain ⟨R1,hR1⟩: ∃R,NC (Lm s' (47:Int)) 0 []=R:=⟨_,rfl⟩
 refine BN (fun ((b_kept,kept,i):Bool×(List ByteArray)×Nat)=>[(4,(Cc s')),(5,(VV 0 1 AV.s b_kept kept)),(6,(Ai i))]) (fun ((b_kept,kept,i):Bool×(List ByteArray)×Nat)=>⟨1,[(0,Su 9 1 AV.s b_kept kept)]⟩) (fun ((b_kept,kept,i):Bool×(List ByteArray)×Nat)=>i≤(Lm s' (47:Int)).length∧(b_kept=false→kept=[])∧DW kept 1+DW ((Lm s' (47:Int)).drop i) 1≤DW (Lm s' (47:Int)) 1∧kept.length≤i∧NC ((Lm s' (47:Int)).drop i) i kept=R1) (fun ((b_kept,kept,i):Bool×(List ByteArray)×Nat)=>(Lm s' (47:Int)).length-i) (false,[],0) ?_ ?_ ?_
 exact ⟨[1000000],⟨by decide,rfl,(A3.cons rfl A3.nil),(Ee (Ee (Ee AM.nil)))⟩,B4⟩
 exact ⟨od,(by simp),by (try dsimp only)<;>(simp only [DW,Nat.zero_add];exact Nat.le_refl _),by (try dsimp only)<;>(simp),hR1⟩
 rintro ⟨b_kept,kept,i⟩ ⟨hi1,hn_kept,hk,hl,hE1⟩
 try dsimp only
 cases b_kept
 have hz_kept:=hn_kept rfl
 subst hz_kept
 try dsimp only
 refine Sq<|Sq<|Rg<|Aq (Ai i)<|Aq (Cc s')<|Ap (AV.i .i64 (((Lm s' (47:Int)).length:Nat):Int)) (CA (k:=1) (nl:=false) (e:=9) (A:=AV.s) (xs:=(Lm s' (47:Int))) kr kr)<|Aq (AV.b (decide (((i:Nat):Int)<(((Lm s' (47:Int)).length:Nat):Int))))<|Ad ?_
 rcases Nat.lt_or_ge i (Lm s' (47:Int)).length with hl1|hl1
 have hc1:decide (((i:Nat):Int)<(((Lm s' (47:Int)).length:Nat):Int))=true:=decide_eq_true (by omega)
 refine Ah.cond (t:=true) (by rw [←hc1]<;>kernel_rfl) (Ah.skip ?_)
 obtain ⟨x1,hx1⟩: ∃x,(Lm s' (47:Int))[i]? =some x:=⟨_,List.getElem?_eq_getElem hl1⟩
 rw [BO hx1,NC.eq_2] at hE1
 have hz1:=PG s' 47
 have hz2:=QX []
 rw [BO hx1] at hk
 simp only [DW] at hk
 refine Sq<|Ah.block<|Sq<|Rg<|Aq (Cc s')<|Aq (Ai i)<|Ap (AV.pt (AV.s x1).cells) (CP (k:=1) (nl:=false) (e:=9) (kk:= .i64) (A:=AV.s) (xs:=(Lm s' (47:Int))) (i:=i) kr kr kr ⟨by kernel_rfl,by decide⟩ hx1)<|Aq (AV.s x1)<|Ad<|Ah.block<|Sq<|Sq<|Rg<|Aq (AV.b (decide (x1=(⟨#[]⟩:ByteArray))))<|Aq (AV.b (decide (x1=(⟨#[]⟩:ByteArray))))<|Ad ?_
 cases c_7:decide (x1=(⟨#[]⟩:ByteArray))
 refine Cf<|Rg<|Aq (AV.b (decide (x1=(⟨#[46]⟩:ByteArray))))<|Aq (AV.b (decide (x1=(⟨#[46]⟩:ByteArray))))<|Ad ?_
 cases c_8:decide (x1=(⟨#[46]⟩:ByteArray))
 refine Cf<|Sq<|Rg<|Aq (AV.b (decide (x1=(⟨#[46,46]⟩:ByteArray))))<|Aq (AV.b (decide (x1=(⟨#[46,46]⟩:ByteArray))))<|Ad ?_
 cases c_9:decide (x1=(⟨#[46,46]⟩:ByteArray))
 refine Cf<|Rg<|Aq (AV.sl 1 true [])<|Aq (Cc s')<|Aq (Ai i)<|Ap (AV.pt (AV.s x1).cells) (CP (k:=1) (nl:=false) (e:=9) (kk:= .i64) (A:=AV.s) (xs:=(Lm s' (47:Int))) (i:=i) kr kr kr ⟨by kernel_rfl,by decide⟩ hx1)<|Aq (AV.s x1)<|Nn (AV.own 1 0 1) ⟨9,1,[x1].map AV.s⟩<|A4.se (x:=(AV.own 2 0 1)) (h':=⟨3,[(2,some ⟨9,1,[x1].map AV.s⟩),(1,some ⟨9,1,[x1].map AV.s⟩),(0,none)]⟩) kr le<|Aq (AV.own 2 0 1)<|Ad<|Rg<|Aq (Ai i)<|Ap (Ai (i+1)) (BH (i:=i) (m:=1) kr kr sd)<|Aq (Ai (i+1))<|Ad ?_
 try simp only [c_7,c_8,c_9,Bl] at hE1
 refine ⟨(true,[x1],i+1),od,⟨od,(by simp),by (try dsimp only)<;>(first|omega|(simp only [E7,DW,Nat.add_zero];omega)|(have:=GS kept (kept.length-1) 1;omega)),by (try dsimp only)<;>(first|omega|(simp only [List.length_append,List.length_cons,List.length_nil,List.length_take];omega)),hE1⟩,?_⟩
 exact ⟨[2],⟨by decide,rfl,(A3.cons (BA (fun _=>rfl) (e:=9) (k:=1) (A:=AV.s) (xs:=[x1]) rfl rfl) A3.nil),(Ee (AM.cons (Dz (by decide) (by simp)) (Ee AM.nil)))⟩,B4⟩
 refine Ct<|Sq<|Sq<|Rg<|Aq (AV.sl 1 true [])<|Aq (AV.i .i64 (0:Int))<|Aq (AV.b true)<|Ad<|Ct<|Sq<|Rg<|Aq CX<|Aq (AV.i .i64 (200:Int))<|Ad<|Rt ?_
 try simp only [c_7,c_8,c_9,Bl] at hE1
 subst hE1
 exact Fsi rfl (by simp only [MX,c_1,c_2,hR1,Bl])
 refine Ct<|Ah.skip<|Rg<|Aq (Ai i)<|Ap (Ai (i+1)) (BH (i:=i) (m:=1) kr kr sd)<|Aq (Ai (i+1))<|Ad ?_
 try simp only [c_7,c_8,Bl] at hE1
 refine ⟨(false,[],i+1),od,⟨od,(by simp),by (try dsimp only)<;>(first|omega|(simp only [E7,DW,Nat.add_zero];omega)|(have:=GS kept (kept.length-1) 1;omega)),by (try dsimp only)<;>(first|omega|(simp only [List.length_append,List.length_cons,List.length_nil,List.length_take];omega)),hE1⟩,?_⟩
 exact ⟨[1000000],⟨by decide,rfl,(A3.cons rfl A3.nil),(Ee (Ee (Ee AM.nil)))⟩,B4⟩
 refine Ct<|Ah.skip<|Ct<|Ah.skip<|Rg<|Aq (Ai i)<|Ap (Ai (i+1)) (BH (i:=i) (m:=1) kr kr sd)<|Aq (Ai (i+1))<|Ad ?_
 try simp only [c_7,Bl] at hE1
 refine ⟨(false,[],i+1),od,⟨od,(by simp),by (try dsimp only)<;>(first|omega|(simp only [E7,DW,Nat.add_zero];omega)|(have:=GS kept (kept.length-1) 1;omega)),by (try dsimp only)<;>(first|omega|(simp only [List.length_append,List.length_cons,List.length_nil,List.length_take];omega)),hE1⟩,?_⟩
 exact ⟨[1000000],⟨by decide,rfl,(A3.cons rfl A3.nil),(Ee (Ee (Ee AM.nil)))⟩,B4⟩
 have hc1:decide (((i:Nat):Int)<(((Lm s' (47:Int)).length:Nat):Int))=false:=decide_eq_false (by omega)
 refine Ah.cond (t:=false) (by rw [←hc1]<;>kernel_rfl) (Ah.exit ?_)
 rw [List.drop_eq_nil_of_le (hl1),NC.eq_1] at hE1
 subst hE1
 refine Sq<|Sq<|Rg<|Aq (AV.sl 1 true [])<|Aq (AV.i .i64 (0:Int))<|Aq (AV.b true)<|Ad<|Ct<|Sq<|Rg<|Aq CX<|Aq (AV.i .i64 (200:Int))<|Ad<|Rt ?_
 exact Fsi rfl (by simp only [MX,c_1,c_2,hR1,Bl])
 try dsimp only
 refine Sq<|Sq<|Rg<|Aq (Ai i)<|Aq (Cc s')<|Ap (AV.i .i64 (((Lm s' (47:Int)).length:Nat):Int)) (CA (k:=1) (nl:=false) (e:=9) (A:=AV.s) (xs:=(Lm s' (47:Int))) kr kr)<|Aq (AV.b (decide (((i:Nat):Int)<(((Lm s' (47:Int)).length:Nat):Int))))<|Ad ?_
 rcases Nat.lt_or_ge i (Lm s' (47:Int)).length with hl1|hl1
 have hc1:decide (((i:Nat):Int)<(((Lm s' (47:Int)).length:Nat):Int))=true:=decide_eq_true (by omega)
 refine Ah.cond (t:=true) (by rw [←hc1]<;>kernel_rfl) (Ah.skip ?_)
 obtain ⟨x1,hx1⟩: ∃x,(Lm s' (47:Int))[i]? =some x:=⟨_,List.getElem?_eq_getElem hl1⟩
 rw [BO hx1,NC.eq_2] at hE1
 have hz1:=PG s' 47
 have hz2:=QX kept
 rw [BO hx1] at hk
 simp only [DW] at hk
 refine Sq<|Ah.block<|Sq<|Rg<|Aq (Cc s')<|Aq (Ai i)<|Ap (AV.pt (AV.s x1).cells) (CP (k:=1) (nl:=false) (e:=9) (kk:= .i64) (A:=AV.s) (xs:=(Lm s' (47:Int))) (i:=i) kr kr kr ⟨by kernel_rfl,by decide⟩ hx1)<|Aq (AV.s x1)<|Ad<|Ah.block<|Sq<|Sq<|Rg<|Aq (AV.b (decide (x1=(⟨#[]⟩:ByteArray))))<|Aq (AV.b (decide (x1=(⟨#[]⟩:ByteArray))))<|Ad ?_
 cases c_10:decide (x1=(⟨#[]⟩:ByteArray))
 refine Cf<|Rg<|Aq (AV.b (decide (x1=(⟨#[46]⟩:ByteArray))))<|Aq (AV.b (decide (x1=(⟨#[46]⟩:ByteArray))))<|Ad ?_
 cases c_11:decide (x1=(⟨#[46]⟩:ByteArray))
 refine Cf<|Sq<|Rg<|Aq (AV.b (decide (x1=(⟨#[46,46]⟩:ByteArray))))<|Aq (AV.b (decide (x1=(⟨#[46,46]⟩:ByteArray))))<|Ad ?_
 cases c_12:decide (x1=(⟨#[46,46]⟩:ByteArray))
 refine Cf<|Rg<|Aq (AV.own 0 0 kept.length)<|Aq (Cc s')<|Aq (Ai i)<|Ap (AV.pt (AV.s x1).cells) (CP (k:=1) (nl:=false) (e:=9) (kk:= .i64) (A:=AV.s) (xs:=(Lm s' (47:Int))) (i:=i) kr kr kr ⟨by kernel_rfl,by decide⟩ hx1)<|Aq (AV.s x1)<|Nn (AV.own 1 0 1) ⟨9,1,[x1].map AV.s⟩<|A4.se (x:=(AV.own 2 0 ((kept++[x1]).length))) (h':=⟨3,[(2,some ⟨9,1,(kept++[x1]).map AV.s⟩),(1,some ⟨9,1,[x1].map AV.s⟩),(0,none)]⟩) (KL (len:=kept.length) (e:=9) (X:=(AV.own 1 0 1)) (A:=AV.s) (i:=Hz) (p:=0) (xs:=kept) (ys:=[x1]) kr kr kr (hx:=kr) kr ⟨by decide,by kernel_rfl⟩ rfl rfl (by show _*16≤140737488355328;first|omega|(simp only [List.length_append,List.length_cons,List.length_nil,List.length_set,List.length_replicate];omega)|(simp;omega)) sd) le<|Aq (AV.own 2 0 ((kept++[x1]).length))<|Ad<|Rg<|Aq (Ai i)<|Ap (Ai (i+1)) (BH (i:=i) (m:=1) kr kr sd)<|Aq (Ai (i+1))<|Ad ?_
 try simp only [c_10,c_11,c_12,Bl] at hE1
 refine ⟨(true,(kept++[x1]),i+1),od,⟨od,(by simp),by (try dsimp only)<;>(first|omega|(simp only [E7,DW,Nat.add_zero];omega)|(have:=GS kept (kept.length-1) 1;omega)),by (try dsimp only)<;>(first|omega|(simp only [List.length_append,List.length_cons,List.length_nil,List.length_take];omega)),hE1⟩,?_⟩
 exact ⟨[2],⟨by decide,rfl,(A3.cons (BA (fun _=>rfl) (e:=9) (k:=1) (A:=AV.s) (xs:=(kept++[x1])) rfl rfl) A3.nil),(Ee (AM.cons (Dz (by decide) rfl) (Ee AM.nil)))⟩,B4⟩
 refine Ct<|Sq<|Sq<|Rg<|Aq (AV.own 0 0 kept.length)<|Aq (Ai kept.length)<|Aq (AV.b (decide (((kept.length:Nat):Int)=(0:Int))))<|Ad ?_
 cases c_13:decide (((kept.length:Nat):Int)=(0:Int))
 have k_13:=of_decide_eq_false c_13
 refine Cf<|Ah.skip<|Rg<|Aq (AV.own 0 0 kept.length)<|Aq (AV.own 0 0 kept.length)<|Aq (Ai kept.length)<|Ap (AV.i .i64 ((kept.length-1:Nat):Int)) (RI (i:=kept.length) (m:=1) kr kr sd sd)<|Ap (AV.own 0 0 (kept.length-1)) (Wo (e:=9) (id:=0) (len:=kept.length) (ob:=⟨9,1,kept.map AV.s⟩) (l:=none) (g:=(some ((kept.length-1:Nat):Int))) (b:=kept.length-1) kr kr kr kr kr kr rfl rfl (by simp only [List.length_map,List.length_append,List.length_cons,List.length_nil];omega))<|Aq (AV.own 0 0 (kept.length-1))<|Ad<|Rg<|Aq (Ai i)<|Ap (Ai (i+1)) (BH (i:=i) (m:=1) kr kr sd)<|Aq (Ai (i+1))<|Ad ?_
 try simp only [c_10,c_11,c_12,c_13,Bl] at hE1
 refine ⟨(true,(kept.take (kept.length-1)),i+1),od,⟨od,(by simp),by (try dsimp only)<;>(first|omega|(simp only [E7,DW,Nat.add_zero];omega)|(have:=GS kept (kept.length-1) 1;omega)),by (try dsimp only)<;>(first|omega|(simp only [List.length_append,List.length_cons,List.length_nil,List.length_take];omega)),hE1⟩,?_⟩
 exact ⟨[0],⟨by decide,rfl,(H4 (RR (fun _=>rfl) (fun _=>rfl) (e:=9) (k:=1) (A:=AV.s) (xs:=kept) (ys:=(kept.take (kept.length-1))) (PL _ _) rfl rfl) A3.nil),(Ee (AM.cons (Dz (by decide) (by simp)) (Ee AM.nil)))⟩,B4⟩
 have k_13:=of_decide_eq_true c_13
 refine Ct<|Sq<|Rg<|Aq CX<|Aq (AV.i .i64 (200:Int))<|Ad<|Rt ?_
 try simp only [c_10,c_11,c_12,c_13,Bl] at hE1
 subst hE1
 exact Fsi rfl (by simp only [MX,c_1,c_2,hR1,Bl])
 refine Ct<|Ah.skip<|Rg<|Aq (Ai i)<|Ap (Ai (i+1)) (BH (i:=i) (m:=1) kr kr sd)<|Aq (Ai (i+1))<|Ad ?_
 try simp only [c_10,c_11,Bl] at hE1
 refine ⟨(true,kept,i+1),od,⟨od,(by simp),by (try dsimp only)<;>(first|omega|(simp only [E7,DW,Nat.add_zero];omega)|(have:=GS kept (kept.length-1) 1;omega)),by (try dsimp only)<;>(first|omega|(simp only [List.length_append,List.length_cons,List.length_nil,List.length_take];omega)),hE1⟩,?_⟩
 exact ⟨[0],⟨by decide,rfl,(A3.cons (BA (fun _=>rfl) (e:=9) (k:=1) (A:=AV.s) (xs:=kept) rfl rfl) A3.nil),(Ee (AM.cons (Dz (by decide) rfl) (Ee AM.nil)))⟩,B4⟩
 refine Ct<|Ah.skip<|Ct<|Ah.skip<|Rg<|Aq (Ai i)<|Ap (Ai (i+1)) (BH (i:=i) (m:=1) kr kr sd)<|Aq (Ai (i+1))<|Ad ?_
 try simp only [c_10,Bl] at hE1
 refine ⟨(true,kept,i+1),od,⟨od,(by simp),by (try dsimp only)<;>(first|omega|(simp only [E7,DW,Nat.add_zero];omega)|(have:=GS kept (kept.length-1) 1;omega)),by (try dsimp only)<;>(first|omega|(simp only [List.length_append,List.length_cons,List.length_nil,List.length_take];omega)),hE1⟩,?_⟩
 exact ⟨[0],⟨by decide,rfl,(A3.cons (BA (fun _=>rfl) (e:=9) (k:=1) (A:=AV.s) (xs:=kept) rfl rfl) A3.nil),(Ee (AM.cons (Dz (by decide) rfl) (Ee AM.nil)))⟩,B4⟩
 have hc1:decide (((i:Nat):Int)<(((Lm s' (47:Int)).length:Nat):Int))=false:=decide_eq_false (by omega)
 refine Ah.cond (t:=false) (by rw [←hc1]<;>kernel_rfl) (Ah.exit ?_)
 rw [List.drop_eq_nil_of_le (hl1),NC.eq_1] at hE1
 subst hE1
 refine Sq<|Sq<|Rg<|Aq (AV.own 0 0 kept.length)<|Aq (Ai kept.length)<|Aq (AV.b (decide (((kept.length:Nat):Int)=(0:Int))))<|Ad ?_
 cases c_14:decide (((kept.length:Nat):Int)=(0:Int))
 have k_14:=of_decide_eq_false c_14
 refine Cf<|Ah.skip<|Sq<|Rg<|Aq (AV.own 0 0 kept.length)<|A4.sfw (vs:=[(AV.own 0 0 kept.length),(AV.s (⟨#[47]⟩:ByteArray))]) (ss:=[((AY 1 AV.s) kept),(AV.s (⟨#[47]⟩:ByteArray))]) (r0:=(AV.s (FQ kept (⟨#[47]⟩:ByteArray)))) kr (show BP _ _ _ from ⟨(A1.w (A1.cast (x':=(AV.own 0 0 kept.length)) kr kr (A1.row (fun _=>rfl) (A:=AV.s) (id:=0) (e:=9) (k:=1) (xs:=kept) rfl rfl rfl sd))),⟨(BP.e kr),trivial⟩⟩) (Tr W kept (⟨#[47]⟩:ByteArray) (U6 (by omega) hk)) rfl kr le<|Aq (AV.s (FQ kept (⟨#[47]⟩:ByteArray)))<|Aq (AV.i .i64 (0:Int))<|Ad<|Rt ?_
 exact Fsi rfl (by simp only [MX,c_1,c_2,hR1,c_14,Bl])
 have k_14:=of_decide_eq_true c_14
 refine Ct<|Sq<|Rg<|Aq CX<|Aq (AV.i .i64 (200:Int))<|Ad<|Rt ?_
 exact Fsi rfl (by simp only [MX,c_1,c_2,hR1,c_14,Bl])
 have k_2:=of_decide_eq_true c_2
 refine Ct<|Sq<|Rg<|Aq CX<|Aq (AV.i .i64 (200:Int))<|Ad<|Rt ?_
 exact Fsi rfl (by simp only [MX,c_1,c_2,Bl])
 refine An<|An<|An<|Aq (AV.b true)<|Ad<|Ct<|Sq<|Rg<|Aq CX<|Aq (AV.i .i64 (200:Int))<|Ad<|Rt ?_
 exact Fsi rfl (by simp only [MX,c_1,Bl])
theorem LL (W:World) (s':ByteArray):Ar Go.Proofs.Tryz.prog W 70 [(AV.s s')] (AV.b (Kp s')) []:=by
 refine As (fn:=Go.Proofs.Tryz.f70) Go.Proofs.Tryz.func70 rfl (en70 W) (ts:=[2]) rfl le<|Sq<|Rg<|Aq (AV.b false)<|Ad<|Sq<|Rg<|Aq (AV.s s')<|A4.sc0 (vs:=[(AV.s s')]) (r0:=(AV.tup [(AV.s ((MX s').1)),(AV.i .i64 ((MX s').2))])) kr kr (NV W s') kr le<|Aq (AV.tup [(AV.s ((MX s').1)),(AV.i .i64 ((MX s').2))])<|Aq (AV.s ((MX s').1))<|Aq (AV.i .i64 ((MX s').2))<|Aq (AV.s ((MX s').1))<|Aq (AV.i .i64 ((MX s').2))<|Ad<|Sq<|Rg<|Aq (AV.i .i64 ((MX s').2))<|Aq (AV.b (decide ((MX s').2=(0:Int))))<|Aq (AV.b (decide ((MX s').2=(0:Int)))) ?_
 cases c_1:decide ((MX s').2=(0:Int))
 have k_1:=of_decide_eq_false c_1
 refine An<|An<|An<|Aq (AV.b false)<|Aq (AV.b false)<|Ad<|Rt ?_
 exact Fb rfl (by simp only [Kp,c_1,Bl])
 have k_1:=of_decide_eq_true c_1
 refine Ay<|Aq (AV.s ((MX s').1))<|Ay<|Aq (AV.s s')<|Ay<|Aq (AV.b (decide ((MX s').1=s')))<|Aq (AV.b (decide ((MX s').1=s')))<|Aq (AV.b (decide ((MX s').1=s')))<|Ad<|Rt ?_
 exact Fb rfl (by simp only [Kp,c_1,Bl])
theorem NU (W:World) (a:List Bool) (b:List Bool):Ar Go.Proofs.Tryz.prog W 22 [((AY 1 AV.b) a),((AY 1 AV.b) b)] (AV.b (RN a b)) []:=by
 refine As (fn:=Go.Proofs.Tryz.f22) Go.Proofs.Tryz.func22 rfl (en22 W) (ts:=[4]) rfl le<|Sq<|Rg<|Aq (AV.b false)<|Ad<|Sq<|Sq<|Rg<|Aq ((AY 1 AV.b) a)<|Ap (Ai a.length) (CA (k:=1) (nl:=false) (e:=4) (A:=AV.b) (xs:=a) kr kr)<|Aq ((AY 1 AV.b) b)<|Ap (Ai b.length) (CA (k:=1) (nl:=false) (e:=4) (A:=AV.b) (xs:=b) kr kr)<|Aq (AV.b (!decide (((a.length:Nat):Int)=((b.length:Nat):Int))))<|Ad ?_
 cases c_1:(!decide (((a.length:Nat):Int)=((b.length:Nat):Int)))
 have k_1:=nde c_1
 refine Cf<|Ah.skip<|Sq<|Sq<|Rg<|Aq (AV.i .i64 (0:Int))<|Ad<|Ah.block<|Ah.lim 0 (x:=((AY 1 AV.b) a)) kr fun hlm1=> ?_
 have hB1:a.length≤281474976710656:=Dj hlm1
 obtain ⟨R1,hR1⟩: ∃R,Vg b a 0=R:=⟨_,rfl⟩
 refine BN (fun (i:Nat)=>[(0,((AY 1 AV.b) a)),(1,((AY 1 AV.b) b)),(5,(Ai i))]) (fun (i:Nat)=>⟨0,[]⟩) (fun (i:Nat)=>i≤a.length∧Vg b (a.drop i) i=R1) (fun (i:Nat)=>a.length-i) 0 ?_ ?_ ?_
 exact ⟨[],⟨by decide,rfl,A3.nil,(Ee (Ee (Ee AM.nil)))⟩,B4⟩
 exact ⟨od,hR1⟩
 rintro i ⟨hi1,hE1⟩
 try dsimp only
 refine Sq<|Sq<|Rg<|Aq (Ai i)<|Aq ((AY 1 AV.b) a)<|Ap (Ai a.length) (CA (k:=1) (nl:=false) (e:=4) (A:=AV.b) (xs:=a) kr kr)<|Aq (AV.b (decide (((i:Nat):Int)<((a.length:Nat):Int))))<|Ad ?_
 rcases Nat.lt_or_ge i a.length with hl1|hl1
 have hc1:decide (((i:Nat):Int)<((a.length:Nat):Int))=true:=decide_eq_true (by omega)
 refine Ah.cond (t:=true) (by rw [←hc1]<;>kernel_rfl) (Ah.skip ?_)
 obtain ⟨x1,hx1⟩: ∃x,a[i]? =some x:=⟨_,List.getElem?_eq_getElem hl1⟩
 rw [BO hx1,Vg.eq_2] at hE1
 refine Sq<|Ah.block<|Sq<|Ah.drawn A6 E5 8 kr le<|Dq ((AY 1 AV.b) a)<|Dq (Ai i)<|Dp (AV.pt (AV.b x1).cells) (CP (k:=1) (nl:=false) (e:=4) (kk:= .i64) (A:=AV.b) (xs:=a) (i:=i) kr kr kr ⟨by kernel_rfl,by decide⟩ hx1)<|Dq (AV.b x1)<|Dq ((AY 1 AV.b) b)<|Dq (Ai i)<|Dp (AV.pt (AV.b (b.getD i default)).cells) (CP (k:=1) (nl:=false) (e:=4) (kk:= .i64) (A:=AV.b) (xs:=b) (i:=i) kr kr kr ⟨by kernel_rfl,by decide⟩ (getD_some sd))<|Dq (AV.b (b.getD i default))<|Dq (AV.b (!(x1==(b.getD i default))))<|Aw.fin ?_
 cases c_2:(!(x1==(b.getD i default)))
 refine Cf<|Ah.skip<|Rg<|Aq (Ai i)<|Ap (Ai (i+1)) (BH (i:=i) (m:=1) kr kr sd)<|Aq (Ai (i+1))<|Ad ?_
 try simp only [c_2,Bl] at hE1
 refine ⟨i+1,od,⟨od,hE1⟩,?_⟩
 exact ⟨[],⟨by decide,rfl,A3.nil,(Ee (Ee (Ee AM.nil)))⟩,B4⟩
 refine Ct<|Sq<|Rg<|Aq (AV.b false)<|Ad<|Rt ?_
 try simp only [c_2,Bl] at hE1
 subst hE1
 exact Fb rfl (by simp only [RN,c_1,hR1,Bl])
 have hc1:decide (((i:Nat):Int)<((a.length:Nat):Int))=false:=decide_eq_false (by omega)
 refine Ah.cond (t:=false) (by rw [←hc1]<;>kernel_rfl) (Ah.exit ?_)
 rw [List.drop_eq_nil_of_le (hl1),Vg.eq_1] at hE1
 subst hE1
 refine Sq<|Rg<|Aq (AV.b true)<|Ad<|Rt ?_
 exact Fb rfl (by simp only [RN,c_1,hR1,Bl])
 have k_1:=ndt c_1
 refine Ct<|Sq<|Rg<|Aq (AV.b false)<|Ad<|Rt ?_
 exact Fb rfl (by simp only [RN,c_1,Bl])
theorem KU (W:World) (s':List Int) (v:Int):Ar Go.Proofs.Tryz.prog W 155 [((AY 1 (AV.i .i64)) s'),(AV.i .i64 v)] (AV.i .i64 (SV s' v)) []:=by
 refine As (fn:=Go.Proofs.Tryz.f155) Go.Proofs.Tryz.func155 rfl (en155 W) (ts:=[4]) rfl le<|Sq<|Rg<|Aq (AV.i .i64 (0:Int))<|Ad<|Sq<|Sq<|Rg<|Aq ((AY 1 (AV.i .i64)) s')<|Ap (Ai s'.length) (CA (k:=1) (nl:=false) (e:=3) (A:=(AV.i .i64)) (xs:=s') kr kr)<|Aq (AV.i .i64 (0:Int))<|Ad<|Ah.block<|Ah.lim 0 (x:=((AY 1 (AV.i .i64)) s')) kr fun hlm1=> ?_
 have hB1:s'.length≤281474976710656:=Dj hlm1
 obtain ⟨R1,hR1⟩: ∃R,V5 v s' 0=R:=⟨_,rfl⟩
 refine BN (fun (v8:Nat)=>[(0,((AY 1 (AV.i .i64)) s')),(1,(AV.i .i64 v)),(7,(Ai s'.length)),(8,(Ai v8))]) (fun (v8:Nat)=>⟨0,[]⟩) (fun (v8:Nat)=>v8≤s'.length∧V5 v (s'.drop v8) v8=R1) (fun (v8:Nat)=>s'.length-v8) 0 ?_ ?_ ?_
 exact ⟨[],⟨by decide,rfl,A3.nil,(Ee (Ee (Ee (Ee AM.nil))))⟩,B4⟩
 exact ⟨od,hR1⟩
 rintro v8 ⟨hi1,hE1⟩
 try dsimp only
 refine Sq<|Rg<|Aq (AV.b (decide (((v8:Nat):Int)<((s'.length:Nat):Int))))<|Ad<|Sq ?_
 rcases Nat.lt_or_ge v8 s'.length with hl1|hl1
 have hc1:decide (((v8:Nat):Int)<((s'.length:Nat):Int))=true:=decide_eq_true (by omega)
 refine Ah.cond (t:=true) (by rw [←hc1]<;>kernel_rfl) (Ah.skip ?_)
 obtain ⟨x1,hx1⟩: ∃x,s'[v8]? =some x:=⟨_,List.getElem?_eq_getElem hl1⟩
 rw [BO hx1,V5.eq_2] at hE1
 refine Sq<|Ah.block<|Sq<|Rg<|Aq (Ai v8)<|Aq (Ai v8)<|Ad<|Sq<|Rg<|Aq (AV.i .i64 v)<|Aq ((AY 1 (AV.i .i64)) s')<|Aq (Ai v8)<|Ap (AV.pt ((AV.i .i64) x1).cells) (CP (k:=1) (nl:=false) (e:=3) (kk:= .i64) (A:=(AV.i .i64)) (xs:=s') (i:=v8) kr kr kr ⟨by kernel_rfl,by decide⟩ hx1)<|Aq (AV.i .i64 x1)<|Aq (AV.b (decide (v=x1)))<|Ad ?_
 cases c_1:decide (v=x1)
 have k_1:=of_decide_eq_false c_1
 refine Cf<|Ah.skip<|Rg<|Ap (Ai (v8+1)) (BH (i:=v8) (m:=1) kr kr sd)<|Aq (Ai (v8+1))<|Ad ?_
 try simp only [c_1,Bl] at hE1
 refine ⟨v8+1,od,⟨od,hE1⟩,?_⟩
 exact ⟨[],⟨by decide,rfl,A3.nil,(Ee (Ee (Ee (Ee AM.nil))))⟩,B4⟩
 have k_1:=of_decide_eq_true c_1
 refine Ct<|Sq<|Rg<|Aq (Ai v8)<|Aq (Ai v8)<|Ad<|Rt ?_
 try simp only [c_1,Bl] at hE1
 subst hE1
 exact Fi rfl (by simp only [SV,hR1,Bl])
 have hc1:decide (((v8:Nat):Int)<((s'.length:Nat):Int))=false:=decide_eq_false (by omega)
 refine Ah.cond (t:=false) (by rw [←hc1]<;>kernel_rfl) (Ah.exit ?_)
 rw [List.drop_eq_nil_of_le (hl1),V5.eq_1] at hE1
 subst hE1
 refine Sq<|Rg<|Aq (AV.i .i64 (-1:Int))<|Ad<|Rt ?_
 exact Fi rfl (by simp only [SV,hR1,Bl])
theorem Gj (W:World) (s':List Int) (v:Int):Ar Go.Proofs.Tryz.prog W 107 [((AY 1 (AV.i .i64)) s'),(AV.i .i64 v)] (AV.b (VF s' v)) []:=by
 refine As (fn:=Go.Proofs.Tryz.f107) Go.Proofs.Tryz.func107 rfl (en107 W) (ts:=[4]) rfl le<|Sq<|Rg<|Aq (AV.b false)<|Ad<|Sq<|Rg<|Aq ((AY 1 (AV.i .i64)) s')<|Aq (AV.i .i64 v)<|A4.sc0 (vs:=[((AY 1 (AV.i .i64)) s'),(AV.i .i64 v)]) (r0:=(AV.i .i64 (SV s' v))) kr kr (KU W s' v) kr le<|Aq (AV.b (decide ((0:Int)≤(SV s' v))))<|Aq (AV.b (decide ((0:Int)≤(SV s' v))))<|Ad<|Rt ?_
 exact Fb rfl (by simp only [VF,Bl])
theorem IC (W:World) (s':List ByteArray) (v:ByteArray):Ar Go.Proofs.Tryz.prog W 157 [((AY 1 AV.s) s'),(AV.s v)] (AV.i .i64 (ST s' v)) []:=by
 refine As (fn:=Go.Proofs.Tryz.f157) Go.Proofs.Tryz.func157 rfl (en157 W) (ts:=[4]) rfl le<|Sq<|Rg<|Aq (AV.i .i64 (0:Int))<|Ad<|Sq<|Sq<|Rg<|Aq ((AY 1 AV.s) s')<|Ap (Ai s'.length) (CA (k:=1) (nl:=false) (e:=9) (A:=AV.s) (xs:=s') kr kr)<|Aq (AV.i .i64 (0:Int))<|Ad<|Ah.block<|Ah.lim 0 (x:=((AY 1 AV.s) s')) kr fun hlm1=> ?_
 have hB1:s'.length≤281474976710656:=Dj hlm1
 obtain ⟨R1,hR1⟩: ∃R,V8 v s' 0=R:=⟨_,rfl⟩
 refine BN (fun (v8:Nat)=>[(0,((AY 1 AV.s) s')),(1,(AV.s v)),(7,(Ai s'.length)),(8,(Ai v8))]) (fun (v8:Nat)=>⟨0,[]⟩) (fun (v8:Nat)=>v8≤s'.length∧V8 v (s'.drop v8) v8=R1) (fun (v8:Nat)=>s'.length-v8) 0 ?_ ?_ ?_
 exact ⟨[],⟨by decide,rfl,A3.nil,(Ee (Ee (Ee (Ee AM.nil))))⟩,B4⟩
 exact ⟨od,hR1⟩
 rintro v8 ⟨hi1,hE1⟩
 try dsimp only
 refine Sq<|Rg<|Aq (AV.b (decide (((v8:Nat):Int)<((s'.length:Nat):Int))))<|Ad<|Sq ?_
 rcases Nat.lt_or_ge v8 s'.length with hl1|hl1
 have hc1:decide (((v8:Nat):Int)<((s'.length:Nat):Int))=true:=decide_eq_true (by omega)
 refine Ah.cond (t:=true) (by rw [←hc1]<;>kernel_rfl) (Ah.skip ?_)
 obtain ⟨x1,hx1⟩: ∃x,s'[v8]? =some x:=⟨_,List.getElem?_eq_getElem hl1⟩
 rw [BO hx1,V8.eq_2] at hE1
 refine Sq<|Ah.block<|Sq<|Rg<|Aq (Ai v8)<|Aq (Ai v8)<|Ad<|Sq<|Rg<|Aq (AV.s v)<|Aq ((AY 1 AV.s) s')<|Aq (Ai v8)<|Ap (AV.pt (AV.s x1).cells) (CP (k:=1) (nl:=false) (e:=9) (kk:= .i64) (A:=AV.s) (xs:=s') (i:=v8) kr kr kr ⟨by kernel_rfl,by decide⟩ hx1)<|Aq (AV.s x1)<|Aq (AV.b (decide (v=x1)))<|Ad ?_
 cases c_1:decide (v=x1)
 have k_1:=of_decide_eq_false c_1
 refine Cf<|Ah.skip<|Rg<|Ap (Ai (v8+1)) (BH (i:=v8) (m:=1) kr kr sd)<|Aq (Ai (v8+1))<|Ad ?_
 try simp only [c_1,Bl] at hE1
 refine ⟨v8+1,od,⟨od,hE1⟩,?_⟩
 exact ⟨[],⟨by decide,rfl,A3.nil,(Ee (Ee (Ee (Ee AM.nil))))⟩,B4⟩
 have k_1:=of_decide_eq_true c_1
 refine Ct<|Sq<|Rg<|Aq (Ai v8)<|Aq (Ai v8)<|Ad<|Rt ?_
 try simp only [c_1,Bl] at hE1
 subst hE1
 exact Fi rfl (by simp only [ST,hR1,Bl])
 have hc1:decide (((v8:Nat):Int)<((s'.length:Nat):Int))=false:=decide_eq_false (by omega)
 refine Ah.cond (t:=false) (by rw [←hc1]<;>kernel_rfl) (Ah.exit ?_)
 rw [List.drop_eq_nil_of_le (hl1),V8.eq_1] at hE1
 subst hE1
 refine Sq<|Rg<|Aq (AV.i .i64 (-1:Int))<|Ad<|Rt ?_
 exact Fi rfl (by simp only [ST,hR1,Bl])
theorem HA (W:World) (s':List ByteArray) (v:ByteArray):Ar Go.Proofs.Tryz.prog W 112 [((AY 1 AV.s) s'),(AV.s v)] (AV.b (U0 s' v)) []:=by
 refine As (fn:=Go.Proofs.Tryz.f112) Go.Proofs.Tryz.func112 rfl (en112 W) (ts:=[4]) rfl le<|Sq<|Rg<|Aq (AV.b false)<|Ad<|Sq<|Rg<|Aq ((AY 1 AV.s) s')<|Aq (AV.s v)<|A4.sc0 (vs:=[((AY 1 AV.s) s'),(AV.s v)]) (r0:=(AV.i .i64 (ST s' v))) kr kr (IC W s' v) kr le<|Aq (AV.b (decide ((0:Int)≤(ST s' v))))<|Aq (AV.b (decide ((0:Int)≤(ST s' v))))<|Ad<|Rt ?_
 exact Fb rfl (by simp only [U0,Bl])
theorem Gq (W:World) (s':List B1) (f_f:FuncId) (c_f:List AV) (f:B1→Bool) (hcl_f:Ab c_f=true) (hp_f: ∀(z0:B1),Ar Go.Proofs.Tryz.prog W f_f ((B1.av z0)::c_f) (AV.b (f z0)) []):Ar Go.Proofs.Tryz.prog W 110 [((AY 7 B1.av) s'),(AV.fn f_f c_f)] (AV.i .i64 (m_4 s' f)) []:=by
 refine As (fn:=Go.Proofs.Tryz.f110) Go.Proofs.Tryz.func110 rfl (en110 W) (ts:=[4]) rfl le<|Sq<|Rg<|Aq (AV.i .i64 (0:Int))<|Ad<|Sq<|Sq<|Rg<|Aq ((AY 7 B1.av) s')<|Ap (Ai s'.length) (CA (k:=7) (nl:=false) (e:=65) (A:=B1.av) (xs:=s') kr kr)<|Aq (AV.i .i64 (0:Int))<|Ad<|Ah.block<|Ah.lim 0 (x:=((AY 7 B1.av) s')) kr fun hlm1=> ?_
 have hB1:s'.length≤281474976710656:=Dj hlm1
 obtain ⟨R1,hR1⟩: ∃R,m_s f s' 0=R:=⟨_,rfl⟩
 refine BN (fun (v8:Nat)=>[(0,((AY 7 B1.av) s')),(1,(AV.fn f_f c_f)),(7,(Ai s'.length)),(8,(Ai v8))]) (fun (v8:Nat)=>⟨0,[]⟩) (fun (v8:Nat)=>v8≤s'.length∧m_s f (s'.drop v8) v8=R1) (fun (v8:Nat)=>s'.length-v8) 0 ?_ ?_ ?_
 exact ⟨[],⟨by decide,rfl,A3.nil,(Ee (AM.cons (BM.c kr hcl_f) (Ee (Ee AM.nil))))⟩,B4⟩
 exact ⟨od,hR1⟩
 rintro v8 ⟨hi1,hE1⟩
 try dsimp only
 refine Sq<|Rg<|Aq (AV.b (decide (((v8:Nat):Int)<((s'.length:Nat):Int))))<|Ad<|Sq ?_
 rcases Nat.lt_or_ge v8 s'.length with hl1|hl1
 have hc1:decide (((v8:Nat):Int)<((s'.length:Nat):Int))=true:=decide_eq_true (by omega)
 refine Ah.cond (t:=true) (by rw [←hc1]<;>kernel_rfl) (Ah.skip ?_)
 obtain ⟨x1,hx1⟩: ∃x,s'[v8]? =some x:=⟨_,List.getElem?_eq_getElem hl1⟩
 rw [BO hx1,m_s.eq_2] at hE1
 refine Sq<|Ah.block<|Sq<|Rg<|Aq (Ai v8)<|Aq (Ai v8)<|Ad<|Sq<|Rg<|Aq (AV.fn f_f c_f)<|Aq ((AY 7 B1.av) s')<|Aq (Ai v8)<|Ap (AV.pt (B1.av x1).cells) (CP (k:=7) (nl:=false) (e:=65) (kk:= .i64) (A:=B1.av) (xs:=s') (i:=v8) kr kr kr ⟨by kernel_rfl,by decide⟩ hx1)<|Aq (B1.av x1)<|A4.sc0 (vs:=((B1.av x1)::c_f)) (r0:=(AV.b (f x1))) kr (by simp only [Ab,Bool.and_eq_true];exact ⟨by kernel_rfl,hcl_f⟩) (hp_f x1) kr le<|Ad ?_
 cases c_1:(f x1)
 refine Cf<|Ah.skip<|Rg<|Ap (Ai (v8+1)) (BH (i:=v8) (m:=1) kr kr sd)<|Aq (Ai (v8+1))<|Ad ?_
 try simp only [c_1,Bl] at hE1
 refine ⟨v8+1,od,⟨od,hE1⟩,?_⟩
 exact ⟨[],⟨by decide,rfl,A3.nil,(Ee (AM.cons (BM.c kr hcl_f) (Ee (Ee AM.nil))))⟩,B4⟩
 refine Ct<|Sq<|Rg<|Aq (Ai v8)<|Aq (Ai v8)<|Ad<|Rt ?_
 try simp only [c_1,Bl] at hE1
 subst hE1
 exact Fi rfl (by simp only [m_4,hR1,Bl])
 have hc1:decide (((v8:Nat):Int)<((s'.length:Nat):Int))=false:=decide_eq_false (by omega)
 refine Ah.cond (t:=false) (by rw [←hc1]<;>kernel_rfl) (Ah.exit ?_)
 rw [List.drop_eq_nil_of_le (hl1),m_s.eq_1] at hE1
 subst hE1
 refine Sq<|Rg<|Aq (AV.i .i64 (-1:Int))<|Ad<|Rt ?_
 exact Fi rfl (by simp only [m_4,hR1,Bl])
theorem Ot (W:World) (e:B1) (name:ByteArray):Ar Go.Proofs.Tryz.prog W 111 [(B1.av e),(AV.pt (AV.s name).cells)] (AV.b (SX e name)) []:=by
 refine As (fn:=Go.Proofs.Tryz.f111) Go.Proofs.Tryz.func111 rfl (en111 W) (ts:=[3]) rfl le<|Sq<|Rg<|Nn (AV.loc 0 0 0) ⟨65,7,[(B1.av e)]⟩<|Aq (AV.b false)<|Ad<|Sq<|Rg<|Aq (AV.loc 0 0 0)<|Aq ((AY 1 AV.s) e.outs)<|Aq (AV.s name)<|A4.sc0 (vs:=[((AY 1 AV.s) e.outs),(AV.s name)]) (r0:=(AV.b (U0 e.outs name))) kr kr (HA W e.outs name) kr le<|Aq (AV.b (U0 e.outs name))<|Ad<|Rt ?_
 exact Fb rfl (by simp only [SX,Bl])
theorem I6 (W:World) (g:AL) (s':ByteArray):Ar Go.Proofs.Tryz.prog W 63 [(AV.pt (AL.av g).cells),(AV.s s')] (AV.i .i64 (Gp g s')) []:=by
 refine As (fn:=Go.Proofs.Tryz.f63) Go.Proofs.Tryz.func63 rfl (en63 W) (ts:=[4]) rfl le<|Sq<|Rg<|Nn (AV.loc 0 0 0) ⟨9,1,[(AV.s s')]⟩<|Aq (AV.i .i64 (0:Int))<|Ad<|Sq<|Rg<|Aq (AV.pt (AL.av g).cells)<|Aq (AV.pt (AL.av g).cells)<|Aq (AV.pt ((AL.av g).cells.drop 0))<|Aq ((AY 7 B1.av) g.edges)<|Aq (AV.fn 111 [(AV.loc 0 0 0)])<|A4.sfw (vs:=[((AY 7 B1.av) g.edges),(AV.fn 111 [(AV.loc 0 0 0)])]) (ss:=[((AY 7 B1.av) g.edges),(AV.fn 111 [(AV.pt (AV.s s').cells)])]) (r0:=(AV.i .i64 (m_4 g.edges (fun z0=>SX z0 s')))) kr (show BP _ _ _ from ⟨(BP.e kr),⟨(A1.w (A1.cast (x':=(AV.fn 111 [(AV.loc 0 0 0)])) kr kr (A1.fn (A0.cons (Kd (id:=0) (j:=0) (ob:=⟨9,1,[(AV.s s')]⟩) (x:=(AV.s s')) rfl rfl rfl rfl (A2 (x:=(AV.s s')) kr)) A0.nil)))),trivial⟩⟩) (Gq W g.edges 111 [(AV.pt (AV.s s').cells)] (fun z0=>SX z0 s') kr (fun z0=>(Ot W z0 s'))) rfl kr le<|Aq (AV.i .i64 (m_4 g.edges (fun z0=>SX z0 s')))<|Ad<|Rt ?_
 exact Fi rfl (by simp only [Gp,Bl])
theorem Jn (W:World) (s':List Int) (f_f:FuncId) (c_f:List AV) (f:Int→Bool) (hcl_f:Ab c_f=true) (hp_f: ∀(z0:Int),Ar Go.Proofs.Tryz.prog W f_f ((AV.i .i64 z0)::c_f) (AV.b (f z0)) []):Ar Go.Proofs.Tryz.prog W 156 [((AY 1 (AV.i .i64)) s'),(AV.fn f_f c_f)] (AV.i .i64 (SU s' f)) []:=by
 refine As (fn:=Go.Proofs.Tryz.f156) Go.Proofs.Tryz.func156 rfl (en156 W) (ts:=[4]) rfl le<|Sq<|Rg<|Aq (AV.i .i64 (0:Int))<|Ad<|Sq<|Sq<|Rg<|Aq ((AY 1 (AV.i .i64)) s')<|Ap (Ai s'.length) (CA (k:=1) (nl:=false) (e:=3) (A:=(AV.i .i64)) (xs:=s') kr kr)<|Aq (AV.i .i64 (0:Int))<|Ad<|Ah.block<|Ah.lim 0 (x:=((AY 1 (AV.i .i64)) s')) kr fun hlm1=> ?_
 have hB1:s'.length≤281474976710656:=Dj hlm1
 obtain ⟨R1,hR1⟩: ∃R,V9 f s' 0=R:=⟨_,rfl⟩
 refine BN (fun (v8:Nat)=>[(0,((AY 1 (AV.i .i64)) s')),(1,(AV.fn f_f c_f)),(7,(Ai s'.length)),(8,(Ai v8))]) (fun (v8:Nat)=>⟨0,[]⟩) (fun (v8:Nat)=>v8≤s'.length∧V9 f (s'.drop v8) v8=R1) (fun (v8:Nat)=>s'.length-v8) 0 ?_ ?_ ?_
 exact ⟨[],⟨by decide,rfl,A3.nil,(Ee (AM.cons (BM.c kr hcl_f) (Ee (Ee AM.nil))))⟩,B4⟩
 exact ⟨od,hR1⟩
 rintro v8 ⟨hi1,hE1⟩
 try dsimp only
 refine Sq<|Rg<|Aq (AV.b (decide (((v8:Nat):Int)<((s'.length:Nat):Int))))<|Ad<|Sq ?_
 rcases Nat.lt_or_ge v8 s'.length with hl1|hl1
 have hc1:decide (((v8:Nat):Int)<((s'.length:Nat):Int))=true:=decide_eq_true (by omega)
 refine Ah.cond (t:=true) (by rw [←hc1]<;>kernel_rfl) (Ah.skip ?_)
 obtain ⟨x1,hx1⟩: ∃x,s'[v8]? =some x:=⟨_,List.getElem?_eq_getElem hl1⟩
 rw [BO hx1,V9.eq_2] at hE1
 refine Sq<|Ah.block<|Sq<|Rg<|Aq (Ai v8)<|Aq (Ai v8)<|Ad<|Sq<|Rg<|Aq (AV.fn f_f c_f)<|Aq ((AY 1 (AV.i .i64)) s')<|Aq (Ai v8)<|Ap (AV.pt ((AV.i .i64) x1).cells) (CP (k:=1) (nl:=false) (e:=3) (kk:= .i64) (A:=(AV.i .i64)) (xs:=s') (i:=v8) kr kr kr ⟨by kernel_rfl,by decide⟩ hx1)<|Aq (AV.i .i64 x1)<|A4.sc0 (vs:=((AV.i .i64 x1)::c_f)) (r0:=(AV.b (f x1))) kr (by simp only [Ab,Bool.and_eq_true];exact ⟨by kernel_rfl,hcl_f⟩) (hp_f x1) kr le<|Ad ?_
 cases c_1:(f x1)
 refine Cf<|Ah.skip<|Rg<|Ap (Ai (v8+1)) (BH (i:=v8) (m:=1) kr kr sd)<|Aq (Ai (v8+1))<|Ad ?_
 try simp only [c_1,Bl] at hE1
 refine ⟨v8+1,od,⟨od,hE1⟩,?_⟩
 exact ⟨[],⟨by decide,rfl,A3.nil,(Ee (AM.cons (BM.c kr hcl_f) (Ee (Ee AM.nil))))⟩,B4⟩
 refine Ct<|Sq<|Rg<|Aq (Ai v8)<|Aq (Ai v8)<|Ad<|Rt ?_
 try simp only [c_1,Bl] at hE1
 subst hE1
 exact Fi rfl (by simp only [SU,hR1,Bl])
 have hc1:decide (((v8:Nat):Int)<((s'.length:Nat):Int))=false:=decide_eq_false (by omega)
 refine Ah.cond (t:=false) (by rw [←hc1]<;>kernel_rfl) (Ah.exit ?_)
 rw [List.drop_eq_nil_of_le (hl1),V9.eq_1] at hE1
 subst hE1
 refine Sq<|Rg<|Aq (AV.i .i64 (-1:Int))<|Ad<|Rt ?_
 exact Fi rfl (by simp only [SU,hR1,Bl])
theorem Is (W:World) (s':List Int) (f_f:FuncId) (c_f:List AV) (f:Int→Bool) (hcl_f:Ab c_f=true) (hp_f: ∀(z0:Int),Ar Go.Proofs.Tryz.prog W f_f ((AV.i .i64 z0)::c_f) (AV.b (f z0)) []):Ar Go.Proofs.Tryz.prog W 109 [((AY 1 (AV.i .i64)) s'),(AV.fn f_f c_f)] (AV.b (VG s' f)) []:=by
 refine As (fn:=Go.Proofs.Tryz.f109) Go.Proofs.Tryz.func109 rfl (en109 W) (ts:=[4]) rfl le<|Sq<|Rg<|Aq (AV.b false)<|Ad<|Sq<|Rg<|Aq ((AY 1 (AV.i .i64)) s')<|Aq (AV.fn f_f c_f)<|A4.sc0 (vs:=[((AY 1 (AV.i .i64)) s'),(AV.fn f_f c_f)]) (r0:=(AV.i .i64 (SU s' f))) kr (by simp only [Ab,Bool.and_eq_true];exact ⟨by kernel_rfl,hcl_f,trivial⟩) (Jn W s' f_f c_f f hcl_f hp_f) kr le<|Aq (AV.b (decide ((0:Int)≤(SU s' f))))<|Aq (AV.b (decide ((0:Int)≤(SU s' f))))<|Ad<|Rt ?_
 exact Fb rfl (by simp only [VG,Bl])
theorem UH (W:World):Ar Go.Proofs.Tryz.prog W 96 [(AV.sl 1 true []),(AV.i .i64 (0:Int))] (AV.sl 1 true []) []:=by
 refine As (fn:=Go.Proofs.Tryz.f96) Go.Proofs.Tryz.func96 rfl (en96 W) (ts:=[4]) rfl le<|Sq<|Rg<|Aq (AV.sl 1 true [])<|Ad<|Sq<|Sq<|Rg<|Aq (AV.i .i64 (0:Int))<|Aq (AV.b false)<|Ad<|Cf<|Ah.skip<|Sq<|Sq<|Rg<|Aq (AV.i .i64 (0:Int))<|Aq (AV.sl 1 true [])<|Aq (AV.i .i64 (0:Int))<|Aq (AV.sl 1 true [])<|Aq (AV.i .i64 (0:Int))<|Aq (AV.i .i64 (0:Int))<|Aq (AV.i .i64 (0:Int))<|Aq (AV.i .i64 (0:Int))<|Ad<|Sq<|Rg<|Aq (AV.i .i64 (0:Int))<|Aq (AV.b false)<|Ad<|Cf<|Ah.skip<|Sq<|Rg<|Aq (AV.sl 1 true [])<|Aq (AV.sl 1 true [])<|Ad<|Rt ?_
 exact ⟨Or.inr rfl,BM.c kr kr⟩
theorem LM (W:World) (n':Nat) (hn:0<n') (hz:n'≤1048576):Ar Go.Proofs.Tryz.prog W 96 [(AV.sl 1 true []),(Ai n')] (.own 0 0 0) [⟨9,1,(List.replicate n' (⟨#[]⟩:ByteArray)).map AV.s⟩]:=by
 refine M8 (fn:=Go.Proofs.Tryz.f96) Go.Proofs.Tryz.func96 rfl (en96 W) (ts:=[4]) rfl le (fun _=>rfl)<|Sq<|Rg<|Aq (AV.sl 1 true [])<|Ad<|Sq<|Sq<|Rg<|Aq (Ai n')<|Aq (AV.b (decide (((n':Nat):Int)<(0:Int))))<|Ad ?_
 cases c_1:decide (((n':Nat):Int)<(0:Int))
 have k_1:=of_decide_eq_false c_1
 refine Cf<|Ah.skip<|Sq<|Sq<|Rg<|Aq (Ai n')<|Aq (AV.sl 1 true [])<|Aq (AV.i .i64 (0:Int))<|Aq (AV.sl 1 true [])<|Aq (AV.i .i64 (0:Int))<|Aq (AV.i .i64 (0:Int))<|Ap (Ai n') (RI (i:=n') (m:=0) kr kr sd sd)<|Aq (Ai n')<|Ad<|Sq<|Rg<|Aq (Ai n')<|Aq (AV.b (decide ((0:Int)<((n':Nat):Int))))<|Ad ?_
 cases c_2:decide ((0:Int)<((n':Nat):Int))
 have k_2:=of_decide_eq_false c_2
 refine Cf<|Ah.skip<|Sq<|Rg<|Aq (AV.sl 1 true [])<|Aq (AV.sl 1 true [])<|Ad<|Rt ?_
 have hM:I0 n'=[]:=by simp only [I0,c_1,c_2,Bl]
 exfalso
 omega
 have k_2:=of_decide_eq_true c_2
 refine Ct<|Rg<|Aq (AV.sl 1 true [])<|Aq (AV.sl 1 true [])<|Aq (AV.i .i64 (0:Int))<|Aq (AV.sl 1 true [])<|Aq (Ai n')<|A4.se (x:=(AV.own 0 0 n')) (h':=⟨1,[(0,some ⟨9,1,(List.replicate n' (⟨#[]⟩:ByteArray)).map AV.s⟩)]⟩) (g_appZ (kn:= .i64) (kk:= .i64) (e:=9) (A:=AV.s) (i:=Hz) (k:=1) (z:=(⟨#[]⟩:ByteArray)) (n:=n') (by decide) kr kr kr kr kr sd ⟨by decide,by kernel_rfl⟩ kr (by show _*16≤140737488355328;first|omega|(simp only [List.length_append,List.length_cons,List.length_nil,List.length_set,List.length_replicate];omega)|(simp;omega)) sd) le<|Aq (AV.sl 1 true [])<|Aq (AV.i .i64 (0:Int))<|Ap (AV.own 0 0 0) (Wo (e:=9) (id:=0) (len:=n') (ob:=⟨9,1,(List.replicate n' (⟨#[]⟩:ByteArray)).map AV.s⟩) (l:=none) (g:=(some (0:Int))) (b:=0) kr kr kr kr kr kr rfl rfl (by simp only [List.length_map,List.length_append,List.length_cons,List.length_nil];omega))<|Aq (AV.own 0 0 0)<|Ad<|Sq<|Rg<|Aq (AV.own 0 0 0)<|Aq (AV.own 0 0 0)<|Ad<|Rt ?_
 have hM:I0 n'=((List.replicate n' (⟨#[]⟩:ByteArray)).take 0):=by simp only [I0,c_1,c_2,Bl]
 refine ⟨Or.inr rfl,0,?_,rfl⟩
 first|rfl|(show AV.own _ _ _=AV.own _ _ _;congr 1;simp)
 have k_1:=of_decide_eq_true c_1
 refine Ct<|Rg ?_
 exfalso
 omega
def Bm (slices:List (List ByteArray)):AV:=((AY 1 (AY 1 AV.s)) slices)
theorem DX (W:World) (slices:List (List ByteArray)) (hz:(slices.flatten).length≤1048576):Ar Go.Proofs.Tryz.prog W 55 [((AY 1 (AY 1 AV.s)) slices)] ((AY 1 AV.s) (EO slices)) []:=by
 refine As (fn:=Go.Proofs.Tryz.f55) Go.Proofs.Tryz.func55 rfl (en55 W) (ts:=[2]) rfl le<|Sq<|Rg<|Aq (AV.sl 1 true [])<|Ad<|Sq<|Rg<|Aq (AV.i .i64 (0:Int))<|Ad<|Sq<|Sq<|Rg<|Aq (Bm slices)<|Ap (Ai slices.length) (CA (k:=1) (nl:=false) (e:=24) (A:=(AY 1 AV.s)) (xs:=slices) kr kr)<|Aq (AV.i .i64 (0:Int))<|Ad<|Ah.block<|Ah.lim 0 (x:=(Bm slices)) kr fun hlm1=> ?_
 have hB1:slices.length≤281474976710656:=Dj hlm1
 obtain ⟨R1,hR1⟩: ∃R,Vj slices 0 0=R:=⟨_,rfl⟩
 refine BN (fun ((size,v11):Nat×Nat)=>[(0,(Bm slices)),(9,(Bm slices)),(10,(Ai slices.length)),(3,(Ai size)),(11,(Ai v11))]) (fun ((size,v11):Nat×Nat)=>⟨0,[]⟩) (fun ((size,v11):Nat×Nat)=>v11≤slices.length∧size+((slices.drop v11).flatten).length=(slices.flatten).length∧Vj (slices.drop v11) v11 size=R1) (fun ((size,v11):Nat×Nat)=>slices.length-v11) (0,0) ?_ ?_ ?_
 exact ⟨[],⟨by decide,rfl,A3.nil,(Ee (Ee (Ee (Ee (Ee AM.nil)))))⟩,B4⟩
 exact ⟨od,by (try dsimp only)<;>(simp),hR1⟩
 rintro ⟨size,v11⟩ ⟨hi1,hs,hE1⟩
 try dsimp only
 refine Sq<|Rg<|Aq (AV.b (decide (((v11:Nat):Int)<((slices.length:Nat):Int))))<|Ad<|Sq ?_
 rcases Nat.lt_or_ge v11 slices.length with hl1|hl1
 have hc1:decide (((v11:Nat):Int)<((slices.length:Nat):Int))=true:=decide_eq_true (by omega)
 refine Ah.cond (t:=true) (by rw [←hc1]<;>kernel_rfl) (Ah.skip ?_)
 obtain ⟨x1,hx1⟩: ∃x,slices[v11]? =some x:=⟨_,List.getElem?_eq_getElem hl1⟩
 rw [BO hx1,Vj.eq_2] at hE1
 rw [BO hx1] at hs
 simp only [List.flatten_cons,List.length_append] at hs
 refine Sq<|Ah.block<|Sq<|Rg<|Ap (AV.pt ((AY 1 AV.s) x1).cells) (CP (k:=1) (nl:=false) (e:=24) (kk:= .i64) (A:=(AY 1 AV.s)) (xs:=slices) (i:=v11) kr kr kr ⟨by kernel_rfl,by decide⟩ hx1)<|Aq ((AY 1 AV.s) x1)<|Aq ((AY 1 AV.s) x1)<|Ad<|Sq<|Rg<|Aq (Ai size)<|Aq ((AY 1 AV.s) x1)<|Ap (Ai x1.length) (CA (k:=1) (nl:=false) (e:=9) (A:=AV.s) (xs:=x1) kr kr)<|Ap (Ai (size+x1.length)) (BH (i:=size) (m:=x1.length) kr kr sd)<|Aq (Ai (size+x1.length))<|Ad<|Sq<|Rg<|Aq (Ai (size+x1.length))<|Aq (AV.b (decide (((size+x1.length:Nat):Int)<(0:Int))))<|Ad ?_
 cases c_1:decide (((size+x1.length:Nat):Int)<(0:Int))
 have k_1:=of_decide_eq_false c_1
 refine Cf<|Ah.skip<|Rg<|Ap (Ai (v11+1)) (BH (i:=v11) (m:=1) kr kr sd)<|Aq (Ai (v11+1))<|Ad ?_
 try simp only [c_1,Bl] at hE1
 refine ⟨(size+x1.length,v11+1),od,⟨od,by (try dsimp only)<;>(omega),hE1⟩,?_⟩
 exact ⟨[],⟨by decide,rfl,A3.nil,(Ee (Ee (Ee (Ee (Ee AM.nil)))))⟩,B4⟩
 have k_1:=of_decide_eq_true c_1
 refine Ct<|Rg ?_
 exfalso
 omega
 have hc1:decide (((v11:Nat):Int)<((slices.length:Nat):Int))=false:=decide_eq_false (by omega)
 refine Ah.cond (t:=false) (by rw [←hc1]<;>kernel_rfl) (Ah.exit ?_)
 rw [List.drop_eq_nil_of_le (hl1),Vj.eq_1] at hE1
 subst hE1
 refine Sq<|Rg<|Aq (Ai size) ?_
 by_cases z_2:(List.replicate size (⟨#[]⟩:ByteArray))=[]
 have hzz_2:size=0:=by simpa using z_2
 refine A4.sc0 (vs:=[(AV.sl 1 true []),(Ai size)]) (r0:=(AV.sl 1 true [])) kr kr (by rw [hzz_2];exact UH W) kr le<|Aq (AV.sl 1 true [])<|Ad<|Sq<|Sq<|Rg<|Aq (Bm slices)<|Ap (Ai slices.length) (CA (k:=1) (nl:=false) (e:=24) (A:=(AY 1 AV.s)) (xs:=slices) kr kr)<|Aq (AV.i .i64 (0:Int))<|Ad<|Ah.block<|Ah.lim 0 (x:=(Bm slices)) kr fun hlm2=> ?_
 have hB2:slices.length≤281474976710656:=Dj hlm2
 obtain ⟨R2,hR2⟩: ∃R,MV slices 0 []=R:=⟨_,rfl⟩
 refine BN (fun ((b_newslice,newslice,v27):Bool×(List ByteArray)×Nat)=>[(25,(Bm slices)),(26,(Ai slices.length)),(6,(VV 0 1 AV.s b_newslice newslice)),(27,(Ai v27))]) (fun ((b_newslice,newslice,v27):Bool×(List ByteArray)×Nat)=>⟨1,[(0,Su 9 1 AV.s b_newslice newslice)]⟩) (fun ((b_newslice,newslice,v27):Bool×(List ByteArray)×Nat)=>v27≤slices.length∧(b_newslice=false→newslice=[])∧newslice.length+((slices.drop v27).flatten).length≤(slices.flatten).length∧MV (slices.drop v27) v27 newslice=R2) (fun ((b_newslice,newslice,v27):Bool×(List ByteArray)×Nat)=>slices.length-v27) (false,[],0) ?_ ?_ ?_
 exact ⟨[1000000],⟨by decide,rfl,(A3.cons rfl A3.nil),(Ee (Ee (Ee (Ee AM.nil))))⟩,B4⟩
 exact ⟨od,(by simp),by (try dsimp only)<;>(simp),hR2⟩
 rintro ⟨b_newslice,newslice,v27⟩ ⟨hi2,hn_newslice,ha,hE2⟩
 try dsimp only
 cases b_newslice
 have hz_newslice:=hn_newslice rfl
 subst hz_newslice
 try dsimp only
 refine Sq<|Rg<|Aq (AV.b (decide (((v27:Nat):Int)<((slices.length:Nat):Int))))<|Ad<|Sq ?_
 rcases Nat.lt_or_ge v27 slices.length with hl2|hl2
 have hc2:decide (((v27:Nat):Int)<((slices.length:Nat):Int))=true:=decide_eq_true (by omega)
 refine Ah.cond (t:=true) (by rw [←hc2]<;>kernel_rfl) (Ah.skip ?_)
 obtain ⟨x2,hx2⟩: ∃x,slices[v27]? =some x:=⟨_,List.getElem?_eq_getElem hl2⟩
 rw [BO hx2,MV.eq_2] at hE2
 rw [BO hx2] at ha
 simp only [List.flatten_cons,List.length_append] at ha
 refine Sq<|Ah.block<|Sq<|Rg<|Ap (AV.pt ((AY 1 AV.s) x2).cells) (CP (k:=1) (nl:=false) (e:=24) (kk:= .i64) (A:=(AY 1 AV.s)) (xs:=slices) (i:=v27) kr kr kr ⟨by kernel_rfl,by decide⟩ hx2)<|Aq ((AY 1 AV.s) x2)<|Aq ((AY 1 AV.s) x2)<|Ad<|Rg<|Aq (AV.sl 1 true [])<|Aq ((AY 1 AV.s) x2) ?_
 by_cases z_3:x2=[]
 refine A4.se (x:=(AV.sl 1 true [])) (h':=⟨1,[(0,none)]⟩) (RE (e:=9) (X:=((AY 1 AV.s) x2)) (A:=AV.s) (i:=Hz) (k:=1) (ys:=x2) kr kr kr (hx:=kr) rfl z_3 ⟨by decide,by kernel_rfl⟩) le<|Aq (AV.sl 1 true [])<|Ad<|Rg<|Ap (Ai (v27+1)) (BH (i:=v27) (m:=1) kr kr sd)<|Aq (Ai (v27+1))<|Ad ?_
 try simp only [z_3,Bl] at hE2
 refine ⟨(false,[],v27+1),od,⟨od,(by simp),by (try dsimp only)<;>(first|omega|(simp only [List.length_append];omega)),hE2⟩,?_⟩
 exact ⟨[1000000],⟨by decide,rfl,(A3.cons rfl A3.nil),(Ee (Ee (Ee (Ee AM.nil))))⟩,B4⟩
 refine A4.se (x:=(AV.own 1 0 x2.length)) (h':=⟨2,[(1,some ⟨9,1,x2.map AV.s⟩),(0,none)]⟩) (RF (e:=9) (X:=((AY 1 AV.s) x2)) (A:=AV.s) (i:=Hz) (k:=1) (ys:=x2) kr kr kr (hx:=kr) rfl z_3 ⟨by decide,by kernel_rfl⟩ (by show _*16≤140737488355328;first|omega|(simp only [List.length_append,List.length_cons,List.length_nil,List.length_set,List.length_replicate];omega)|(simp;omega)) sd) le<|Aq (AV.own 1 0 x2.length)<|Ad<|Rg<|Ap (Ai (v27+1)) (BH (i:=v27) (m:=1) kr kr sd)<|Aq (Ai (v27+1))<|Ad ?_
 refine ⟨(true,x2,v27+1),od,⟨od,(by simp),by (try dsimp only)<;>(first|omega|(simp only [List.length_append];omega)),hE2⟩,?_⟩
 exact ⟨[1],⟨by decide,rfl,(A3.cons (BA (fun _=>rfl) (e:=9) (k:=1) (A:=AV.s) (xs:=x2) rfl rfl) A3.nil),(Ee (Ee (AM.cons (Dz (by decide) rfl) (Ee AM.nil))))⟩,B4⟩
 have hc2:decide (((v27:Nat):Int)<((slices.length:Nat):Int))=false:=decide_eq_false (by omega)
 refine Ah.cond (t:=false) (by rw [←hc2]<;>kernel_rfl) (Ah.exit ?_)
 rw [List.drop_eq_nil_of_le (hl2),MV.eq_1] at hE2
 subst hE2
 refine Sq<|Rg<|Aq (AV.sl 1 true [])<|Aq (AV.sl 1 true [])<|Ad<|Rt ?_
 have hM:EO slices=[]:=by simp only [EO,hR1,z_2,hR2,Bl]
 refine ⟨Or.inr rfl,?_⟩
 rw [hM]
 exact BM.cast (x':=(AV.sl 1 true [])) (y':=((AY 1 AV.s) [])) kr kr (BM.w rfl (AH.nil 1))
 try dsimp only
 refine Sq<|Rg<|Aq (AV.b (decide (((v27:Nat):Int)<((slices.length:Nat):Int))))<|Ad<|Sq ?_
 rcases Nat.lt_or_ge v27 slices.length with hl2|hl2
 have hc2:decide (((v27:Nat):Int)<((slices.length:Nat):Int))=true:=decide_eq_true (by omega)
 refine Ah.cond (t:=true) (by rw [←hc2]<;>kernel_rfl) (Ah.skip ?_)
 obtain ⟨x2,hx2⟩: ∃x,slices[v27]? =some x:=⟨_,List.getElem?_eq_getElem hl2⟩
 rw [BO hx2,MV.eq_2] at hE2
 rw [BO hx2] at ha
 simp only [List.flatten_cons,List.length_append] at ha
 refine Sq<|Ah.block<|Sq<|Rg<|Ap (AV.pt ((AY 1 AV.s) x2).cells) (CP (k:=1) (nl:=false) (e:=24) (kk:= .i64) (A:=(AY 1 AV.s)) (xs:=slices) (i:=v27) kr kr kr ⟨by kernel_rfl,by decide⟩ hx2)<|Aq ((AY 1 AV.s) x2)<|Aq ((AY 1 AV.s) x2)<|Ad<|Rg<|Aq (AV.own 0 0 newslice.length)<|Aq ((AY 1 AV.s) x2)<|A4.se (x:=(AV.own 1 0 ((newslice++x2).length))) (h':=⟨2,[(1,some ⟨9,1,(newslice++x2).map AV.s⟩),(0,none)]⟩) (KL (len:=newslice.length) (e:=9) (X:=((AY 1 AV.s) x2)) (A:=AV.s) (i:=Hz) (p:=0) (xs:=newslice) (ys:=x2) kr kr kr (hx:=kr) kr ⟨by decide,by kernel_rfl⟩ rfl rfl (by show _*16≤140737488355328;first|omega|(simp only [List.length_append,List.length_cons,List.length_nil,List.length_set,List.length_replicate];omega)|(simp;omega)) sd) le<|Aq (AV.own 1 0 ((newslice++x2).length))<|Ad<|Rg<|Ap (Ai (v27+1)) (BH (i:=v27) (m:=1) kr kr sd)<|Aq (Ai (v27+1))<|Ad ?_
 refine ⟨(true,(newslice++x2),v27+1),od,⟨od,(by simp),by (try dsimp only)<;>(first|omega|(simp only [List.length_append];omega)),hE2⟩,?_⟩
 exact ⟨[1],⟨by decide,rfl,(A3.cons (BA (fun _=>rfl) (e:=9) (k:=1) (A:=AV.s) (xs:=(newslice++x2)) rfl rfl) A3.nil),(Ee (Ee (AM.cons (Dz (by decide) rfl) (Ee AM.nil))))⟩,B4⟩
 have hc2:decide (((v27:Nat):Int)<((slices.length:Nat):Int))=false:=decide_eq_false (by omega)
 refine Ah.cond (t:=false) (by rw [←hc2]<;>kernel_rfl) (Ah.exit ?_)
 rw [List.drop_eq_nil_of_le (hl2),MV.eq_1] at hE2
 subst hE2
 refine Sq<|Rg<|Aq (AV.own 0 0 newslice.length)<|Aq (AV.own 0 0 newslice.length)<|Ad<|Rt ?_
 have hM:EO slices=newslice:=by simp only [EO,hR1,z_2,hR2,Bl]
 refine ⟨Or.inr rfl,?_⟩
 rw [hM]
 exact BM.cast (x':=(AV.own 0 0 newslice.length)) (y':=((AY 1 AV.s) newslice)) kr kr (Cz.kk (x':=(AV.own 0 0 newslice.length)) kr kr rfl (A1.row (fun _=>rfl) (A:=AV.s) (id:=0) (e:=9) (k:=1) (xs:=newslice) rfl rfl rfl sd))
 have hzz_2:0<size:=by have:=z_2;simp only [ne_eq,List.replicate_eq_nil_iff] at this;omega
 refine Sb (A:=AV.s) (xs:=(List.replicate size (⟨#[]⟩:ByteArray))) (vs:=[(AV.sl 1 true []),(Ai size)]) kr kr (LM W size hzz_2 sd) (fun _=>rfl) le<|Aq (AV.own 0 0 0)<|Ad<|Sq<|Sq<|Rg<|Aq (Bm slices)<|Ap (Ai slices.length) (CA (k:=1) (nl:=false) (e:=24) (A:=(AY 1 AV.s)) (xs:=slices) kr kr)<|Aq (AV.i .i64 (0:Int))<|Ad<|Ah.block<|Ah.lim 0 (x:=(Bm slices)) kr fun hlm2=> ?_
 have hB2:slices.length≤281474976710656:=Dj hlm2
 obtain ⟨R2,hR2⟩: ∃R,MV slices 0 ((List.replicate size (⟨#[]⟩:ByteArray)).take 0)=R:=⟨_,rfl⟩
 refine BN (fun ((b_newslice2,newslice2,v272):Bool×(List ByteArray)×Nat)=>[(25,(Bm slices)),(26,(Ai slices.length)),(6,(VV 0 1 AV.s b_newslice2 newslice2)),(27,(Ai v272))]) (fun ((b_newslice2,newslice2,v272):Bool×(List ByteArray)×Nat)=>⟨1,[(0,Su 9 1 AV.s b_newslice2 newslice2)]⟩) (fun ((b_newslice2,newslice2,v272):Bool×(List ByteArray)×Nat)=>v272≤slices.length∧(b_newslice2=false→newslice2=[])∧newslice2.length+((slices.drop v272).flatten).length≤(slices.flatten).length∧MV (slices.drop v272) v272 newslice2=R2) (fun ((b_newslice2,newslice2,v272):Bool×(List ByteArray)×Nat)=>slices.length-v272) (true,((List.replicate size (⟨#[]⟩:ByteArray)).take 0),0) ?_ ?_ ?_
 exact ⟨[0],⟨by decide,rfl,(H4 (RR (fun _=>rfl) (fun _=>rfl) (e:=9) (k:=1) (A:=AV.s) (xs:=(List.replicate size (⟨#[]⟩:ByteArray))) (ys:=((List.replicate size (⟨#[]⟩:ByteArray)).take 0)) (PL _ _) rfl rfl) A3.nil),(Ee (Ee (AM.cons (Dz (by decide) (by simp)) (Ee AM.nil))))⟩,B4⟩
 exact ⟨od,(by simp),by (try dsimp only)<;>(simp),hR2⟩
 rintro ⟨b_newslice2,newslice2,v272⟩ ⟨hi2,hn_newslice2,ha,hE2⟩
 try dsimp only
 cases b_newslice2
 have hz_newslice2:=hn_newslice2 rfl
 subst hz_newslice2
 try dsimp only
 refine Sq<|Rg<|Aq (AV.b (decide (((v272:Nat):Int)<((slices.length:Nat):Int))))<|Ad<|Sq ?_
 rcases Nat.lt_or_ge v272 slices.length with hl2|hl2
 have hc2:decide (((v272:Nat):Int)<((slices.length:Nat):Int))=true:=decide_eq_true (by omega)
 refine Ah.cond (t:=true) (by rw [←hc2]<;>kernel_rfl) (Ah.skip ?_)
 obtain ⟨x22,hx2⟩: ∃x,slices[v272]? =some x:=⟨_,List.getElem?_eq_getElem hl2⟩
 rw [BO hx2,MV.eq_2] at hE2
 rw [BO hx2] at ha
 simp only [List.flatten_cons,List.length_append] at ha
 refine Sq<|Ah.block<|Sq<|Rg<|Ap (AV.pt ((AY 1 AV.s) x22).cells) (CP (k:=1) (nl:=false) (e:=24) (kk:= .i64) (A:=(AY 1 AV.s)) (xs:=slices) (i:=v272) kr kr kr ⟨by kernel_rfl,by decide⟩ hx2)<|Aq ((AY 1 AV.s) x22)<|Aq ((AY 1 AV.s) x22)<|Ad<|Rg<|Aq (AV.sl 1 true [])<|Aq ((AY 1 AV.s) x22) ?_
 by_cases z_4:x22=[]
 refine A4.se (x:=(AV.sl 1 true [])) (h':=⟨1,[(0,none)]⟩) (RE (e:=9) (X:=((AY 1 AV.s) x22)) (A:=AV.s) (i:=Hz) (k:=1) (ys:=x22) kr kr kr (hx:=kr) rfl z_4 ⟨by decide,by kernel_rfl⟩) le<|Aq (AV.sl 1 true [])<|Ad<|Rg<|Ap (Ai (v272+1)) (BH (i:=v272) (m:=1) kr kr sd)<|Aq (Ai (v272+1))<|Ad ?_
 try simp only [z_4,Bl] at hE2
 refine ⟨(false,[],v272+1),od,⟨od,(by simp),by (try dsimp only)<;>(first|omega|(simp only [List.length_append];omega)),hE2⟩,?_⟩
 exact ⟨[1000000],⟨by decide,rfl,(A3.cons rfl A3.nil),(Ee (Ee (Ee (Ee AM.nil))))⟩,B4⟩
 refine A4.se (x:=(AV.own 1 0 x22.length)) (h':=⟨2,[(1,some ⟨9,1,x22.map AV.s⟩),(0,none)]⟩) (RF (e:=9) (X:=((AY 1 AV.s) x22)) (A:=AV.s) (i:=Hz) (k:=1) (ys:=x22) kr kr kr (hx:=kr) rfl z_4 ⟨by decide,by kernel_rfl⟩ (by show _*16≤140737488355328;first|omega|(simp only [List.length_append,List.length_cons,List.length_nil,List.length_set,List.length_replicate];omega)|(simp;omega)) sd) le<|Aq (AV.own 1 0 x22.length)<|Ad<|Rg<|Ap (Ai (v272+1)) (BH (i:=v272) (m:=1) kr kr sd)<|Aq (Ai (v272+1))<|Ad ?_
 refine ⟨(true,x22,v272+1),od,⟨od,(by simp),by (try dsimp only)<;>(first|omega|(simp only [List.length_append];omega)),hE2⟩,?_⟩
 exact ⟨[1],⟨by decide,rfl,(A3.cons (BA (fun _=>rfl) (e:=9) (k:=1) (A:=AV.s) (xs:=x22) rfl rfl) A3.nil),(Ee (Ee (AM.cons (Dz (by decide) rfl) (Ee AM.nil))))⟩,B4⟩
 have hc2:decide (((v272:Nat):Int)<((slices.length:Nat):Int))=false:=decide_eq_false (by omega)
 refine Ah.cond (t:=false) (by rw [←hc2]<;>kernel_rfl) (Ah.exit ?_)
 rw [List.drop_eq_nil_of_le (hl2),MV.eq_1] at hE2
 subst hE2
 refine Sq<|Rg<|Aq (AV.sl 1 true [])<|Aq (AV.sl 1 true [])<|Ad<|Rt ?_
 have hM:EO slices=[]:=by simp only [EO,hR1,hR2,Bl]
 refine ⟨Or.inr rfl,?_⟩
 rw [hM]
 exact BM.cast (x':=(AV.sl 1 true [])) (y':=((AY 1 AV.s) [])) kr kr (BM.w rfl (AH.nil 1))
 try dsimp only
 refine Sq<|Rg<|Aq (AV.b (decide (((v272:Nat):Int)<((slices.length:Nat):Int))))<|Ad<|Sq ?_
 rcases Nat.lt_or_ge v272 slices.length with hl2|hl2
 have hc2:decide (((v272:Nat):Int)<((slices.length:Nat):Int))=true:=decide_eq_true (by omega)
 refine Ah.cond (t:=true) (by rw [←hc2]<;>kernel_rfl) (Ah.skip ?_)
 obtain ⟨x22,hx2⟩: ∃x,slices[v272]? =some x:=⟨_,List.getElem?_eq_getElem hl2⟩
 rw [BO hx2,MV.eq_2] at hE2
 rw [BO hx2] at ha
 simp only [List.flatten_cons,List.length_append] at ha
 refine Sq<|Ah.block<|Sq<|Rg<|Ap (AV.pt ((AY 1 AV.s) x22).cells) (CP (k:=1) (nl:=false) (e:=24) (kk:= .i64) (A:=(AY 1 AV.s)) (xs:=slices) (i:=v272) kr kr kr ⟨by kernel_rfl,by decide⟩ hx2)<|Aq ((AY 1 AV.s) x22)<|Aq ((AY 1 AV.s) x22)<|Ad<|Rg<|Aq (AV.own 0 0 newslice2.length)<|Aq ((AY 1 AV.s) x22)<|A4.se (x:=(AV.own 1 0 ((newslice2++x22).length))) (h':=⟨2,[(1,some ⟨9,1,(newslice2++x22).map AV.s⟩),(0,none)]⟩) (KL (len:=newslice2.length) (e:=9) (X:=((AY 1 AV.s) x22)) (A:=AV.s) (i:=Hz) (p:=0) (xs:=newslice2) (ys:=x22) kr kr kr (hx:=kr) kr ⟨by decide,by kernel_rfl⟩ rfl rfl (by show _*16≤140737488355328;first|omega|(simp only [List.length_append,List.length_cons,List.length_nil,List.length_set,List.length_replicate];omega)|(simp;omega)) sd) le<|Aq (AV.own 1 0 ((newslice2++x22).length))<|Ad<|Rg<|Ap (Ai (v272+1)) (BH (i:=v272) (m:=1) kr kr sd)<|Aq (Ai (v272+1))<|Ad ?_
 refine ⟨(true,(newslice2++x22),v272+1),od,⟨od,(by simp),by (try dsimp only)<;>(first|omega|(simp only [List.length_append];omega)),hE2⟩,?_⟩
 exact ⟨[1],⟨by decide,rfl,(A3.cons (BA (fun _=>rfl) (e:=9) (k:=1) (A:=AV.s) (xs:=(newslice2++x22)) rfl rfl) A3.nil),(Ee (Ee (AM.cons (Dz (by decide) rfl) (Ee AM.nil))))⟩,B4⟩
 have hc2:decide (((v272:Nat):Int)<((slices.length:Nat):Int))=false:=decide_eq_false (by omega)
 refine Ah.cond (t:=false) (by rw [←hc2]<;>kernel_rfl) (Ah.exit ?_)
 rw [List.drop_eq_nil_of_le (hl2),MV.eq_1] at hE2
 subst hE2
 refine Sq<|Rg<|Aq (AV.own 0 0 newslice2.length)<|Aq (AV.own 0 0 newslice2.length)<|Ad<|Rt ?_
 have hM:EO slices=newslice2:=by simp only [EO,hR1,hR2,Bl]
 refine ⟨Or.inr rfl,?_⟩
 rw [hM]
 exact BM.cast (x':=(AV.own 0 0 newslice2.length)) (y':=((AY 1 AV.s) newslice2)) kr kr (Cz.kk (x':=(AV.own 0 0 newslice2.length)) kr kr rfl (A1.row (fun _=>rfl) (A:=AV.s) (id:=0) (e:=9) (k:=1) (xs:=newslice2) rfl rfl rfl sd))
def Bk (slices:List (List ByteArray)):AV:=((AY 1 (AY 1 AV.s)) slices)
theorem DC (W:World) (slices:List (List ByteArray)) (hz:(slices.flatten).length≤1048576) (hne:EO slices≠ []):Ar Go.Proofs.Tryz.prog W 55 [((AY 1 (AY 1 AV.s)) slices)] (.own 0 0 (EO slices).length) [⟨9,1,(EO slices).map AV.s⟩]:=by
 refine M8 (fn:=Go.Proofs.Tryz.f55) Go.Proofs.Tryz.func55 rfl (en55 W) (ts:=[2]) rfl le (fun _=>rfl)<|Sq<|Rg<|Aq (AV.sl 1 true [])<|Ad<|Sq<|Rg<|Aq (AV.i .i64 (0:Int))<|Ad<|Sq<|Sq<|Rg<|Aq (Bk slices)<|Ap (Ai slices.length) (CA (k:=1) (nl:=false) (e:=24) (A:=(AY 1 AV.s)) (xs:=slices) kr kr)<|Aq (AV.i .i64 (0:Int))<|Ad<|Ah.block<|Ah.lim 0 (x:=(Bk slices)) kr fun hlm1=> ?_
 have hB1:slices.length≤281474976710656:=Dj hlm1
 obtain ⟨R1,hR1⟩: ∃R,Vj slices 0 0=R:=⟨_,rfl⟩
 refine BN (fun ((size,v11):Nat×Nat)=>[(0,(Bk slices)),(9,(Bk slices)),(10,(Ai slices.length)),(3,(Ai size)),(11,(Ai v11))]) (fun ((size,v11):Nat×Nat)=>⟨0,[]⟩) (fun ((size,v11):Nat×Nat)=>v11≤slices.length∧size+((slices.drop v11).flatten).length=(slices.flatten).length∧Vj (slices.drop v11) v11 size=R1) (fun ((size,v11):Nat×Nat)=>slices.length-v11) (0,0) ?_ ?_ ?_
 exact ⟨[],⟨by decide,rfl,A3.nil,(Ee (Ee (Ee (Ee (Ee AM.nil)))))⟩,B4⟩
 exact ⟨od,by (try dsimp only)<;>(simp),hR1⟩
 rintro ⟨size,v11⟩ ⟨hi1,hs,hE1⟩
 try dsimp only
 refine Sq<|Rg<|Aq (AV.b (decide (((v11:Nat):Int)<((slices.length:Nat):Int))))<|Ad<|Sq ?_
 rcases Nat.lt_or_ge v11 slices.length with hl1|hl1
 have hc1:decide (((v11:Nat):Int)<((slices.length:Nat):Int))=true:=decide_eq_true (by omega)
 refine Ah.cond (t:=true) (by rw [←hc1]<;>kernel_rfl) (Ah.skip ?_)
 obtain ⟨x1,hx1⟩: ∃x,slices[v11]? =some x:=⟨_,List.getElem?_eq_getElem hl1⟩
 rw [BO hx1,Vj.eq_2] at hE1
 rw [BO hx1] at hs
 simp only [List.flatten_cons,List.length_append] at hs
 refine Sq<|Ah.block<|Sq<|Rg<|Ap (AV.pt ((AY 1 AV.s) x1).cells) (CP (k:=1) (nl:=false) (e:=24) (kk:= .i64) (A:=(AY 1 AV.s)) (xs:=slices) (i:=v11) kr kr kr ⟨by kernel_rfl,by decide⟩ hx1)<|Aq ((AY 1 AV.s) x1)<|Aq ((AY 1 AV.s) x1)<|Ad<|Sq<|Rg<|Aq (Ai size)<|Aq ((AY 1 AV.s) x1)<|Ap (Ai x1.length) (CA (k:=1) (nl:=false) (e:=9) (A:=AV.s) (xs:=x1) kr kr)<|Ap (Ai (size+x1.length)) (BH (i:=size) (m:=x1.length) kr kr sd)<|Aq (Ai (size+x1.length))<|Ad<|Sq<|Rg<|Aq (Ai (size+x1.length))<|Aq (AV.b (decide (((size+x1.length:Nat):Int)<(0:Int))))<|Ad ?_
 cases c_1:decide (((size+x1.length:Nat):Int)<(0:Int))
 have k_1:=of_decide_eq_false c_1
 refine Cf<|Ah.skip<|Rg<|Ap (Ai (v11+1)) (BH (i:=v11) (m:=1) kr kr sd)<|Aq (Ai (v11+1))<|Ad ?_
 try simp only [c_1,Bl] at hE1
 refine ⟨(size+x1.length,v11+1),od,⟨od,by (try dsimp only)<;>(omega),hE1⟩,?_⟩
 exact ⟨[],⟨by decide,rfl,A3.nil,(Ee (Ee (Ee (Ee (Ee AM.nil)))))⟩,B4⟩
 have k_1:=of_decide_eq_true c_1
 refine Ct<|Rg ?_
 exfalso
 omega
 have hc1:decide (((v11:Nat):Int)<((slices.length:Nat):Int))=false:=decide_eq_false (by omega)
 refine Ah.cond (t:=false) (by rw [←hc1]<;>kernel_rfl) (Ah.exit ?_)
 rw [List.drop_eq_nil_of_le (hl1),Vj.eq_1] at hE1
 subst hE1
 refine Sq<|Rg<|Aq (Ai size) ?_
 by_cases z_2:(List.replicate size (⟨#[]⟩:ByteArray))=[]
 have hzz_2:size=0:=by simpa using z_2
 refine A4.sc0 (vs:=[(AV.sl 1 true []),(Ai size)]) (r0:=(AV.sl 1 true [])) kr kr (by rw [hzz_2];exact UH W) kr le<|Aq (AV.sl 1 true [])<|Ad<|Sq<|Sq<|Rg<|Aq (Bk slices)<|Ap (Ai slices.length) (CA (k:=1) (nl:=false) (e:=24) (A:=(AY 1 AV.s)) (xs:=slices) kr kr)<|Aq (AV.i .i64 (0:Int))<|Ad<|Ah.block<|Ah.lim 0 (x:=(Bk slices)) kr fun hlm2=> ?_
 have hB2:slices.length≤281474976710656:=Dj hlm2
 obtain ⟨R2,hR2⟩: ∃R,MV slices 0 []=R:=⟨_,rfl⟩
 refine BN (fun ((b_newslice,newslice,v27):Bool×(List ByteArray)×Nat)=>[(25,(Bk slices)),(26,(Ai slices.length)),(6,(VV 0 1 AV.s b_newslice newslice)),(27,(Ai v27))]) (fun ((b_newslice,newslice,v27):Bool×(List ByteArray)×Nat)=>⟨1,[(0,Su 9 1 AV.s b_newslice newslice)]⟩) (fun ((b_newslice,newslice,v27):Bool×(List ByteArray)×Nat)=>v27≤slices.length∧(b_newslice=false→newslice=[])∧newslice.length+((slices.drop v27).flatten).length≤(slices.flatten).length∧MV (slices.drop v27) v27 newslice=R2) (fun ((b_newslice,newslice,v27):Bool×(List ByteArray)×Nat)=>slices.length-v27) (false,[],0) ?_ ?_ ?_
 exact ⟨[1000000],⟨by decide,rfl,(A3.cons rfl A3.nil),(Ee (Ee (Ee (Ee AM.nil))))⟩,B4⟩
 exact ⟨od,(by simp),by (try dsimp only)<;>(simp),hR2⟩
 rintro ⟨b_newslice,newslice,v27⟩ ⟨hi2,hn_newslice,ha,hE2⟩
 try dsimp only
 cases b_newslice
 have hz_newslice:=hn_newslice rfl
 subst hz_newslice
 try dsimp only
 refine Sq<|Rg<|Aq (AV.b (decide (((v27:Nat):Int)<((slices.length:Nat):Int))))<|Ad<|Sq ?_
 rcases Nat.lt_or_ge v27 slices.length with hl2|hl2
 have hc2:decide (((v27:Nat):Int)<((slices.length:Nat):Int))=true:=decide_eq_true (by omega)
 refine Ah.cond (t:=true) (by rw [←hc2]<;>kernel_rfl) (Ah.skip ?_)
 obtain ⟨x2,hx2⟩: ∃x,slices[v27]? =some x:=⟨_,List.getElem?_eq_getElem hl2⟩
 rw [BO hx2,MV.eq_2] at hE2
 rw [BO hx2] at ha
 simp only [List.flatten_cons,List.length_append] at ha
 refine Sq<|Ah.block<|Sq<|Rg<|Ap (AV.pt ((AY 1 AV.s) x2).cells) (CP (k:=1) (nl:=false) (e:=24) (kk:= .i64) (A:=(AY 1 AV.s)) (xs:=slices) (i:=v27) kr kr kr ⟨by kernel_rfl,by decide⟩ hx2)<|Aq ((AY 1 AV.s) x2)<|Aq ((AY 1 AV.s) x2)<|Ad<|Rg<|Aq (AV.sl 1 true [])<|Aq ((AY 1 AV.s) x2) ?_
 by_cases z_3:x2=[]
 refine A4.se (x:=(AV.sl 1 true [])) (h':=⟨1,[(0,none)]⟩) (RE (e:=9) (X:=((AY 1 AV.s) x2)) (A:=AV.s) (i:=Hz) (k:=1) (ys:=x2) kr kr kr (hx:=kr) rfl z_3 ⟨by decide,by kernel_rfl⟩) le<|Aq (AV.sl 1 true [])<|Ad<|Rg<|Ap (Ai (v27+1)) (BH (i:=v27) (m:=1) kr kr sd)<|Aq (Ai (v27+1))<|Ad ?_
 try simp only [z_3,Bl] at hE2
 refine ⟨(false,[],v27+1),od,⟨od,(by simp),by (try dsimp only)<;>(first|omega|(simp only [List.length_append];omega)),hE2⟩,?_⟩
 exact ⟨[1000000],⟨by decide,rfl,(A3.cons rfl A3.nil),(Ee (Ee (Ee (Ee AM.nil))))⟩,B4⟩
 refine A4.se (x:=(AV.own 1 0 x2.length)) (h':=⟨2,[(1,some ⟨9,1,x2.map AV.s⟩),(0,none)]⟩) (RF (e:=9) (X:=((AY 1 AV.s) x2)) (A:=AV.s) (i:=Hz) (k:=1) (ys:=x2) kr kr kr (hx:=kr) rfl z_3 ⟨by decide,by kernel_rfl⟩ (by show _*16≤140737488355328;first|omega|(simp only [List.length_append,List.length_cons,List.length_nil,List.length_set,List.length_replicate];omega)|(simp;omega)) sd) le<|Aq (AV.own 1 0 x2.length)<|Ad<|Rg<|Ap (Ai (v27+1)) (BH (i:=v27) (m:=1) kr kr sd)<|Aq (Ai (v27+1))<|Ad ?_
 refine ⟨(true,x2,v27+1),od,⟨od,(by simp),by (try dsimp only)<;>(first|omega|(simp only [List.length_append];omega)),hE2⟩,?_⟩
 exact ⟨[1],⟨by decide,rfl,(A3.cons (BA (fun _=>rfl) (e:=9) (k:=1) (A:=AV.s) (xs:=x2) rfl rfl) A3.nil),(Ee (Ee (AM.cons (Dz (by decide) rfl) (Ee AM.nil))))⟩,B4⟩
 have hc2:decide (((v27:Nat):Int)<((slices.length:Nat):Int))=false:=decide_eq_false (by omega)
 refine Ah.cond (t:=false) (by rw [←hc2]<;>kernel_rfl) (Ah.exit ?_)
 rw [List.drop_eq_nil_of_le (hl2),MV.eq_1] at hE2
 subst hE2
 refine Sq<|Rg<|Aq (AV.sl 1 true [])<|Aq (AV.sl 1 true [])<|Ad<|Rt ?_
 have hM:EO slices=[]:=by simp only [EO,hR1,z_2,hR2,Bl]
 exact absurd hM hne
 try dsimp only
 refine Sq<|Rg<|Aq (AV.b (decide (((v27:Nat):Int)<((slices.length:Nat):Int))))<|Ad<|Sq ?_
 rcases Nat.lt_or_ge v27 slices.length with hl2|hl2
 have hc2:decide (((v27:Nat):Int)<((slices.length:Nat):Int))=true:=decide_eq_true (by omega)
 refine Ah.cond (t:=true) (by rw [←hc2]<;>kernel_rfl) (Ah.skip ?_)
 obtain ⟨x2,hx2⟩: ∃x,slices[v27]? =some x:=⟨_,List.getElem?_eq_getElem hl2⟩
 rw [BO hx2,MV.eq_2] at hE2
 rw [BO hx2] at ha
 simp only [List.flatten_cons,List.length_append] at ha
 refine Sq<|Ah.block<|Sq<|Rg<|Ap (AV.pt ((AY 1 AV.s) x2).cells) (CP (k:=1) (nl:=false) (e:=24) (kk:= .i64) (A:=(AY 1 AV.s)) (xs:=slices) (i:=v27) kr kr kr ⟨by kernel_rfl,by decide⟩ hx2)<|Aq ((AY 1 AV.s) x2)<|Aq ((AY 1 AV.s) x2)<|Ad<|Rg<|Aq (AV.own 0 0 newslice.length)<|Aq ((AY 1 AV.s) x2)<|A4.se (x:=(AV.own 1 0 ((newslice++x2).length))) (h':=⟨2,[(1,some ⟨9,1,(newslice++x2).map AV.s⟩),(0,none)]⟩) (KL (len:=newslice.length) (e:=9) (X:=((AY 1 AV.s) x2)) (A:=AV.s) (i:=Hz) (p:=0) (xs:=newslice) (ys:=x2) kr kr kr (hx:=kr) kr ⟨by decide,by kernel_rfl⟩ rfl rfl (by show _*16≤140737488355328;first|omega|(simp only [List.length_append,List.length_cons,List.length_nil,List.length_set,List.length_replicate];omega)|(simp;omega)) sd) le<|Aq (AV.own 1 0 ((newslice++x2).length))<|Ad<|Rg<|Ap (Ai (v27+1)) (BH (i:=v27) (m:=1) kr kr sd)<|Aq (Ai (v27+1))<|Ad ?_
 refine ⟨(true,(newslice++x2),v27+1),od,⟨od,(by simp),by (try dsimp only)<;>(first|omega|(simp only [List.length_append];omega)),hE2⟩,?_⟩
 exact ⟨[1],⟨by decide,rfl,(A3.cons (BA (fun _=>rfl) (e:=9) (k:=1) (A:=AV.s) (xs:=(newslice++x2)) rfl rfl) A3.nil),(Ee (Ee (AM.cons (Dz (by decide) rfl) (Ee AM.nil))))⟩,B4⟩
 have hc2:decide (((v27:Nat):Int)<((slices.length:Nat):Int))=false:=decide_eq_false (by omega)
 refine Ah.cond (t:=false) (by rw [←hc2]<;>kernel_rfl) (Ah.exit ?_)
 rw [List.drop_eq_nil_of_le (hl2),MV.eq_1] at hE2
 subst hE2
 refine Sq<|Rg<|Aq (AV.own 0 0 newslice.length)<|Aq (AV.own 0 0 newslice.length)<|Ad<|Rt ?_
 have hM:EO slices=newslice:=by simp only [EO,hR1,z_2,hR2,Bl]
 rw [hM]
 refine ⟨Or.inr rfl,0,?_,rfl⟩
 first|rfl|(show AV.own _ _ _=AV.own _ _ _;congr 1;simp)
 have hzz_2:0<size:=by have:=z_2;simp only [ne_eq,List.replicate_eq_nil_iff] at this;omega
 refine Sb (A:=AV.s) (xs:=(List.replicate size (⟨#[]⟩:ByteArray))) (vs:=[(AV.sl 1 true []),(Ai size)]) kr kr (LM W size hzz_2 sd) (fun _=>rfl) le<|Aq (AV.own 0 0 0)<|Ad<|Sq<|Sq<|Rg<|Aq (Bk slices)<|Ap (Ai slices.length) (CA (k:=1) (nl:=false) (e:=24) (A:=(AY 1 AV.s)) (xs:=slices) kr kr)<|Aq (AV.i .i64 (0:Int))<|Ad<|Ah.block<|Ah.lim 0 (x:=(Bk slices)) kr fun hlm2=> ?_
 have hB2:slices.length≤281474976710656:=Dj hlm2
 obtain ⟨R2,hR2⟩: ∃R,MV slices 0 ((List.replicate size (⟨#[]⟩:ByteArray)).take 0)=R:=⟨_,rfl⟩
 refine BN (fun ((b_newslice2,newslice2,v272):Bool×(List ByteArray)×Nat)=>[(25,(Bk slices)),(26,(Ai slices.length)),(6,(VV 0 1 AV.s b_newslice2 newslice2)),(27,(Ai v272))]) (fun ((b_newslice2,newslice2,v272):Bool×(List ByteArray)×Nat)=>⟨1,[(0,Su 9 1 AV.s b_newslice2 newslice2)]⟩) (fun ((b_newslice2,newslice2,v272):Bool×(List ByteArray)×Nat)=>v272≤slices.length∧(b_newslice2=false→newslice2=[])∧newslice2.length+((slices.drop v272).flatten).length≤(slices.flatten).length∧MV (slices.drop v272) v272 newslice2=R2) (fun ((b_newslice2,newslice2,v272):Bool×(List ByteArray)×Nat)=>slices.length-v272) (true,((List.replicate size (⟨#[]⟩:ByteArray)).take 0),0) ?_ ?_ ?_
 exact ⟨[0],⟨by decide,rfl,(H4 (RR (fun _=>rfl) (fun _=>rfl) (e:=9) (k:=1) (A:=AV.s) (xs:=(List.replicate size (⟨#[]⟩:ByteArray))) (ys:=((List.replicate size (⟨#[]⟩:ByteArray)).take 0)) (PL _ _) rfl rfl) A3.nil),(Ee (Ee (AM.cons (Dz (by decide) (by simp)) (Ee AM.nil))))⟩,B4⟩
 exact ⟨od,(by simp),by (try dsimp only)<;>(simp),hR2⟩
 rintro ⟨b_newslice2,newslice2,v272⟩ ⟨hi2,hn_newslice2,ha,hE2⟩
 try dsimp only
 cases b_newslice2
 have hz_newslice2:=hn_newslice2 rfl
 subst hz_newslice2
 try dsimp only
 refine Sq<|Rg<|Aq (AV.b (decide (((v272:Nat):Int)<((slices.length:Nat):Int))))<|Ad<|Sq ?_
 rcases Nat.lt_or_ge v272 slices.length with hl2|hl2
 have hc2:decide (((v272:Nat):Int)<((slices.length:Nat):Int))=true:=decide_eq_true (by omega)
 refine Ah.cond (t:=true) (by rw [←hc2]<;>kernel_rfl) (Ah.skip ?_)
 obtain ⟨x22,hx2⟩: ∃x,slices[v272]? =some x:=⟨_,List.getElem?_eq_getElem hl2⟩
 rw [BO hx2,MV.eq_2] at hE2
 rw [BO hx2] at ha
 simp only [List.flatten_cons,List.length_append] at ha
 refine Sq<|Ah.block<|Sq<|Rg<|Ap (AV.pt ((AY 1 AV.s) x22).cells) (CP (k:=1) (nl:=false) (e:=24) (kk:= .i64) (A:=(AY 1 AV.s)) (xs:=slices) (i:=v272) kr kr kr ⟨by kernel_rfl,by decide⟩ hx2)<|Aq ((AY 1 AV.s) x22)<|Aq ((AY 1 AV.s) x22)<|Ad<|Rg<|Aq (AV.sl 1 true [])<|Aq ((AY 1 AV.s) x22) ?_
 by_cases z_4:x22=[]
 refine A4.se (x:=(AV.sl 1 true [])) (h':=⟨1,[(0,none)]⟩) (RE (e:=9) (X:=((AY 1 AV.s) x22)) (A:=AV.s) (i:=Hz) (k:=1) (ys:=x22) kr kr kr (hx:=kr) rfl z_4 ⟨by decide,by kernel_rfl⟩) le<|Aq (AV.sl 1 true [])<|Ad<|Rg<|Ap (Ai (v272+1)) (BH (i:=v272) (m:=1) kr kr sd)<|Aq (Ai (v272+1))<|Ad ?_
 try simp only [z_4,Bl] at hE2
 refine ⟨(false,[],v272+1),od,⟨od,(by simp),by (try dsimp only)<;>(first|omega|(simp only [List.length_append];omega)),hE2⟩,?_⟩
 exact ⟨[1000000],⟨by decide,rfl,(A3.cons rfl A3.nil),(Ee (Ee (Ee (Ee AM.nil))))⟩,B4⟩
 refine A4.se (x:=(AV.own 1 0 x22.length)) (h':=⟨2,[(1,some ⟨9,1,x22.map AV.s⟩),(0,none)]⟩) (RF (e:=9) (X:=((AY 1 AV.s) x22)) (A:=AV.s) (i:=Hz) (k:=1) (ys:=x22) kr kr kr (hx:=kr) rfl z_4 ⟨by decide,by kernel_rfl⟩ (by show _*16≤140737488355328;first|omega|(simp only [List.length_append,List.length_cons,List.length_nil,List.length_set,List.length_replicate];omega)|(simp;omega)) sd) le<|Aq (AV.own 1 0 x22.length)<|Ad<|Rg<|Ap (Ai (v272+1)) (BH (i:=v272) (m:=1) kr kr sd)<|Aq (Ai (v272+1))<|Ad ?_
 refine ⟨(true,x22,v272+1),od,⟨od,(by simp),by (try dsimp only)<;>(first|omega|(simp only [List.length_append];omega)),hE2⟩,?_⟩
 exact ⟨[1],⟨by decide,rfl,(A3.cons (BA (fun _=>rfl) (e:=9) (k:=1) (A:=AV.s) (xs:=x22) rfl rfl) A3.nil),(Ee (Ee (AM.cons (Dz (by decide) rfl) (Ee AM.nil))))⟩,B4⟩
 have hc2:decide (((v272:Nat):Int)<((slices.length:Nat):Int))=false:=decide_eq_false (by omega)
 refine Ah.cond (t:=false) (by rw [←hc2]<;>kernel_rfl) (Ah.exit ?_)
 rw [List.drop_eq_nil_of_le (hl2),MV.eq_1] at hE2
 subst hE2
 refine Sq<|Rg<|Aq (AV.sl 1 true [])<|Aq (AV.sl 1 true [])<|Ad<|Rt ?_
 have hM:EO slices=[]:=by simp only [EO,hR1,hR2,Bl]
 exact absurd hM hne
 try dsimp only
 refine Sq<|Rg<|Aq (AV.b (decide (((v272:Nat):Int)<((slices.length:Nat):Int))))<|Ad<|Sq ?_
 rcases Nat.lt_or_ge v272 slices.length with hl2|hl2
 have hc2:decide (((v272:Nat):Int)<((slices.length:Nat):Int))=true:=decide_eq_true (by omega)
 refine Ah.cond (t:=true) (by rw [←hc2]<;>kernel_rfl) (Ah.skip ?_)
 obtain ⟨x22,hx2⟩: ∃x,slices[v272]? =some x:=⟨_,List.getElem?_eq_getElem hl2⟩
 rw [BO hx2,MV.eq_2] at hE2
 rw [BO hx2] at ha
 simp only [List.flatten_cons,List.length_append] at ha
 refine Sq<|Ah.block<|Sq<|Rg<|Ap (AV.pt ((AY 1 AV.s) x22).cells) (CP (k:=1) (nl:=false) (e:=24) (kk:= .i64) (A:=(AY 1 AV.s)) (xs:=slices) (i:=v272) kr kr kr ⟨by kernel_rfl,by decide⟩ hx2)<|Aq ((AY 1 AV.s) x22)<|Aq ((AY 1 AV.s) x22)<|Ad<|Rg<|Aq (AV.own 0 0 newslice2.length)<|Aq ((AY 1 AV.s) x22)<|A4.se (x:=(AV.own 1 0 ((newslice2++x22).length))) (h':=⟨2,[(1,some ⟨9,1,(newslice2++x22).map AV.s⟩),(0,none)]⟩) (KL (len:=newslice2.length) (e:=9) (X:=((AY 1 AV.s) x22)) (A:=AV.s) (i:=Hz) (p:=0) (xs:=newslice2) (ys:=x22) kr kr kr (hx:=kr) kr ⟨by decide,by kernel_rfl⟩ rfl rfl (by show _*16≤140737488355328;first|omega|(simp only [List.length_append,List.length_cons,List.length_nil,List.length_set,List.length_replicate];omega)|(simp;omega)) sd) le<|Aq (AV.own 1 0 ((newslice2++x22).length))<|Ad<|Rg<|Ap (Ai (v272+1)) (BH (i:=v272) (m:=1) kr kr sd)<|Aq (Ai (v272+1))<|Ad ?_
 refine ⟨(true,(newslice2++x22),v272+1),od,⟨od,(by simp),by (try dsimp only)<;>(first|omega|(simp only [List.length_append];omega)),hE2⟩,?_⟩
 exact ⟨[1],⟨by decide,rfl,(A3.cons (BA (fun _=>rfl) (e:=9) (k:=1) (A:=AV.s) (xs:=(newslice2++x22)) rfl rfl) A3.nil),(Ee (Ee (AM.cons (Dz (by decide) rfl) (Ee AM.nil))))⟩,B4⟩
 have hc2:decide (((v272:Nat):Int)<((slices.length:Nat):Int))=false:=decide_eq_false (by omega)
 refine Ah.cond (t:=false) (by rw [←hc2]<;>kernel_rfl) (Ah.exit ?_)
 rw [List.drop_eq_nil_of_le (hl2),MV.eq_1] at hE2
 subst hE2
 refine Sq<|Rg<|Aq (AV.own 0 0 newslice2.length)<|Aq (AV.own 0 0 newslice2.length)<|Ad<|Rt ?_
 have hM:EO slices=newslice2:=by simp only [EO,hR1,hR2,Bl]
 rw [hM]
 refine ⟨Or.inr rfl,0,?_,rfl⟩
 first|rfl|(show AV.own _ _ _=AV.own _ _ _;congr 1;simp)
theorem Qt (W:World) (g:AL) (edge:Int) (he:edge.toNat<g.edges.length∧0≤edge) (hz:Pn g edge≤1048576):Ar Go.Proofs.Tryz.prog W 105 [(AV.pt (AL.av g).cells),(AV.i .i64 edge)] ((AY 1 (AV.i .i64)) (Jp g edge)) []:=by
 have hfl:([(g.edges.getD edge.toNat default).ins,(g.edges.getD edge.toNat default).implicit,(g.edges.getD edge.toNat default).order].flatten).length≤1048576:=by have hz':=hz;unfold Pn at hz';simp only [List.flatten_cons,List.flatten_nil,List.append_nil,List.length_append];omega
 have hlen:(EO [(g.edges.getD edge.toNat default).ins,(g.edges.getD edge.toNat default).implicit,(g.edges.getD edge.toNat default).order]).length≤1048576:=by rw [LT];exact hfl
 refine As (fn:=Go.Proofs.Tryz.f105) Go.Proofs.Tryz.func105 rfl (en105 W) (ts:=[4]) rfl le<|Sq<|Rg<|Aq (AV.sl 1 true [])<|Ad<|Sq<|Rg<|Aq (AV.sl 1 true [])<|Ad<|Sq<|Rg<|Aq (AV.pt (AL.av g).cells)<|Aq (AV.pt (AL.av g).cells)<|Aq (AV.pt ((AL.av g).cells.drop 0))<|Aq ((AY 7 B1.av) g.edges)<|Aq (AV.i .i64 edge)<|Ap (AV.pt (B1.av (g.edges.getD edge.toNat default)).cells) (Li (k:=7) (nl:=false) (e:=65) (kk:= .i64) (A:=B1.av) (xs:=g.edges) (n:=edge) kr kr kr ⟨by kernel_rfl,by decide⟩ sd (getD_some sd))<|Aq (AV.pt (B1.av (g.edges.getD edge.toNat default)).cells)<|Ad<|Sq ?_
 refine Ra [(0,(AV.pt (AL.av g).cells)),(5,(AV.sl 1 true [])),(29,((AY 1 AV.s) (EO [(g.edges.getD edge.toNat default).ins,(g.edges.getD edge.toNat default).implicit,(g.edges.getD edge.toNat default).order]))),(30,(AV.i .i64 (((EO [(g.edges.getD edge.toNat default).ins,(g.edges.getD edge.toNat default).implicit,(g.edges.getD edge.toNat default).order]).length:Nat):Int))),(31,(AV.i .i64 (0:Int)))] ⟨0,[]⟩ ?_ ?_
 refine Ah.drawn A6 E5 16 kr le<|Dq (AV.pt (B1.av (g.edges.getD edge.toNat default)).cells)<|Dq (AV.pt (B1.av (g.edges.getD edge.toNat default)).cells)<|Dq (AV.pt ((B1.av (g.edges.getD edge.toNat default)).cells.drop 1))<|Dq ((AY 1 AV.s) ((g.edges.getD edge.toNat default).ins))<|Dq (AV.pt (B1.av (g.edges.getD edge.toNat default)).cells)<|Dq (AV.pt (B1.av (g.edges.getD edge.toNat default)).cells)<|Dq (AV.pt ((B1.av (g.edges.getD edge.toNat default)).cells.drop 2))<|Dq ((AY 1 AV.s) ((g.edges.getD edge.toNat default).implicit))<|Dq (AV.pt (B1.av (g.edges.getD edge.toNat default)).cells)<|Dq (AV.pt (B1.av (g.edges.getD edge.toNat default)).cells)<|Dq (AV.pt ((B1.av (g.edges.getD edge.toNat default)).cells.drop 3))<|Dq ((AY 1 AV.s) ((g.edges.getD edge.toNat default).order))<|Aw.sn (x:=(AV.own 0 0 3)) (h':=⟨1,[(0,some ⟨24,1,[(g.edges.getD edge.toNat default).ins,(g.edges.getD edge.toNat default).implicit,(g.edges.getD edge.toNat default).order].map (AY 1 AV.s)⟩)]⟩) kr le ?_
 by_cases z_1:(EO [(g.edges.getD edge.toNat default).ins,(g.edges.getD edge.toNat default).implicit,(g.edges.getD edge.toNat default).order])=[]
 refine Aw.sfw (vs:=[(AV.own 0 0 3)]) (ss:=[((AY 1 (AY 1 AV.s)) [(g.edges.getD edge.toNat default).ins,(g.edges.getD edge.toNat default).implicit,(g.edges.getD edge.toNat default).order])]) (r0:=((AY 1 AV.s) ([]:List ByteArray))) kr (show BP _ _ _ from ⟨(A1.w (A1.cast (x':=(AV.own 0 0 3)) kr kr (A1.row (fun _=>rfl) (A:=(AY 1 AV.s)) (id:=0) (e:=24) (k:=1) (xs:=[(g.edges.getD edge.toNat default).ins,(g.edges.getD edge.toNat default).implicit,(g.edges.getD edge.toNat default).order]) rfl rfl sd sd))),trivial⟩) (by rw [←show (EO [(g.edges.getD edge.toNat default).ins,(g.edges.getD edge.toNat default).implicit,(g.edges.getD edge.toNat default).order])=[] from z_1];exact (DX W [(g.edges.getD edge.toNat default).ins,(g.edges.getD edge.toNat default).implicit,(g.edges.getD edge.toNat default).order] hfl)) rfl kr le<|Dp (AV.i .i64 ((([]:List ByteArray).length:Nat):Int)) (CA (k:=1) (nl:=false) (e:=9) (A:=AV.s) (xs:=([]:List ByteArray)) kr kr)<|Dq (AV.i .i64 (0:Int))<|Aw.fin ?_
 rw [z_1]
 exact ⟨[],⟨by decide,rfl,A3.nil,(Ee (Ee (Ee (Ee (Ee AM.nil)))))⟩,B4⟩
 refine Ni (A:=AV.s) (xs:=(EO [(g.edges.getD edge.toNat default).ins,(g.edges.getD edge.toNat default).implicit,(g.edges.getD edge.toNat default).order])) (vs:=[(AV.own 0 0 3)]) (ss:=[((AY 1 (AY 1 AV.s)) [(g.edges.getD edge.toNat default).ins,(g.edges.getD edge.toNat default).implicit,(g.edges.getD edge.toNat default).order])]) kr (show BP _ _ _ from ⟨(A1.w (A1.cast (x':=(AV.own 0 0 3)) kr kr (A1.row (fun _=>rfl) (A:=(AY 1 AV.s)) (id:=0) (e:=24) (k:=1) (xs:=[(g.edges.getD edge.toNat default).ins,(g.edges.getD edge.toNat default).implicit,(g.edges.getD edge.toNat default).order]) rfl rfl sd sd))),trivial⟩) (DC W [(g.edges.getD edge.toNat default).ins,(g.edges.getD edge.toNat default).implicit,(g.edges.getD edge.toNat default).order] hfl z_1) (fun _=>rfl) (fun _=>rfl) le<|Dq (AV.i .i64 (((EO [(g.edges.getD edge.toNat default).ins,(g.edges.getD edge.toNat default).implicit,(g.edges.getD edge.toNat default).order]).length:Nat):Int))<|Dq (AV.i .i64 (0:Int))<|Aw.fin ?_
 exact ⟨[],⟨by decide,rfl,A3.nil,(Ee (Ee (AM.cons (Cz.kk (x':=(AV.own 1 0 ((EO [(g.edges.getD edge.toNat default).ins,(g.edges.getD edge.toNat default).implicit,(g.edges.getD edge.toNat default).order]).length))) kr kr rfl (A1.row (fun _=>rfl) (A:=AV.s) (id:=1) (e:=9) (k:=1) (xs:=(EO [(g.edges.getD edge.toNat default).ins,(g.edges.getD edge.toNat default).implicit,(g.edges.getD edge.toNat default).order])) rfl rfl rfl sd)) (Ee (Ee AM.nil)))))⟩,B4⟩
 refine Ah.block<|Ah.lim 29 (x:=((AY 1 AV.s) (EO [(g.edges.getD edge.toNat default).ins,(g.edges.getD edge.toNat default).implicit,(g.edges.getD edge.toNat default).order]))) kr fun hlm1=> ?_
 have hB1:(EO [(g.edges.getD edge.toNat default).ins,(g.edges.getD edge.toNat default).implicit,(g.edges.getD edge.toNat default).order]).length≤281474976710656:=Dj hlm1
 obtain ⟨R1,hR1⟩: ∃R,Q5 g (EO [(g.edges.getD edge.toNat default).ins,(g.edges.getD edge.toNat default).implicit,(g.edges.getD edge.toNat default).order]) 0 []=R:=⟨_,rfl⟩
 refine BN (fun ((out,v31):(List Int)×Nat)=>[(0,(AV.pt (AL.av g).cells)),(29,((AY 1 AV.s) (EO [(g.edges.getD edge.toNat default).ins,(g.edges.getD edge.toNat default).implicit,(g.edges.getD edge.toNat default).order]))),(30,(AV.i .i64 (((EO [(g.edges.getD edge.toNat default).ins,(g.edges.getD edge.toNat default).implicit,(g.edges.getD edge.toNat default).order]).length:Nat):Int))),(5,(Ch 0 1 (AV.i .i64) out)),(31,(Ai v31))]) (fun ((out,v31):(List Int)×Nat)=>⟨1,[(0,L3 3 1 (AV.i .i64) out)]⟩) (fun ((out,v31):(List Int)×Nat)=>v31≤(EO [(g.edges.getD edge.toNat default).ins,(g.edges.getD edge.toNat default).implicit,(g.edges.getD edge.toNat default).order]).length∧out.length≤v31∧Q5 g ((EO [(g.edges.getD edge.toNat default).ins,(g.edges.getD edge.toNat default).implicit,(g.edges.getD edge.toNat default).order]).drop v31) v31 out=R1) (fun ((out,v31):(List Int)×Nat)=>(EO [(g.edges.getD edge.toNat default).ins,(g.edges.getD edge.toNat default).implicit,(g.edges.getD edge.toNat default).order]).length-v31) ([],0) ?_ ?_ ?_
 exact ⟨[1000000],⟨by decide,rfl,(A3.cons rfl A3.nil),(Ee (Ee (Ee (Ee (Ee AM.nil)))))⟩,B4⟩
 exact ⟨od,Ka,hR1⟩
 rintro ⟨out,v31⟩ ⟨hi1,hl,hE1⟩
 try dsimp only
 refine Sq<|Rg<|Aq (AV.b (decide (((v31:Nat):Int)<(((EO [(g.edges.getD edge.toNat default).ins,(g.edges.getD edge.toNat default).implicit,(g.edges.getD edge.toNat default).order]).length:Nat):Int))))<|Ad<|Sq ?_
 rcases Nat.lt_or_ge v31 (EO [(g.edges.getD edge.toNat default).ins,(g.edges.getD edge.toNat default).implicit,(g.edges.getD edge.toNat default).order]).length with hl1|hl1
 have hc1:decide (((v31:Nat):Int)<(((EO [(g.edges.getD edge.toNat default).ins,(g.edges.getD edge.toNat default).implicit,(g.edges.getD edge.toNat default).order]).length:Nat):Int))=true:=decide_eq_true (by omega)
 refine Ah.cond (t:=true) (by rw [←hc1]<;>kernel_rfl) (Ah.skip ?_)
 obtain ⟨x1,hx1⟩: ∃x,(EO [(g.edges.getD edge.toNat default).ins,(g.edges.getD edge.toNat default).implicit,(g.edges.getD edge.toNat default).order])[v31]? =some x:=⟨_,List.getElem?_eq_getElem hl1⟩
 rw [BO hx1,Q5.eq_2] at hE1
 refine Sq<|Ah.block<|Sq<|Rg<|Ap (AV.pt (AV.s x1).cells) (CP (k:=1) (nl:=false) (e:=9) (kk:= .i64) (A:=AV.s) (xs:=(EO [(g.edges.getD edge.toNat default).ins,(g.edges.getD edge.toNat default).implicit,(g.edges.getD edge.toNat default).order])) (i:=v31) kr kr kr ⟨by kernel_rfl,by decide⟩ hx1)<|Aq (AV.s x1)<|Aq (AV.s x1)<|Ad<|Sq<|Rg<|Aq (AV.pt (AL.av g).cells)<|Aq (AV.s x1)<|A4.sc0 (vs:=[(AV.pt (AL.av g).cells),(AV.s x1)]) (r0:=(AV.i .i64 (Gp g x1))) kr kr (I6 W g x1) kr le<|Aq (AV.i .i64 (Gp g x1))<|Ad<|Sq<|Rg<|Aq (AV.i .i64 (Gp g x1))<|Aq (AV.b (decide ((0:Int)≤(Gp g x1))))<|Aq (AV.b (decide ((0:Int)≤(Gp g x1)))) ?_
 cases c_2:decide ((0:Int)≤(Gp g x1))
 have k_2:=of_decide_eq_false c_2
 refine An<|An<|An<|An<|Aq (AV.b false)<|Ad<|Cf<|Ah.skip<|Rg<|Ap (Ai (v31+1)) (BH (i:=v31) (m:=1) kr kr sd)<|Aq (Ai (v31+1))<|Ad ?_
 try simp only [c_2,Bl] at hE1
 refine ⟨(out,v31+1),od,⟨od,Ka,hE1⟩,?_⟩
 exact ⟨[0],⟨by decide,rfl,(A3.cons (I2 (fun _=>rfl) (e:=3) (k:=1) (A:=(AV.i .i64)) (xs:=out) rfl rfl) A3.nil),(Ee (Ee (Ee (AM.cons (Kl (by decide)) (Ee AM.nil)))))⟩,B4⟩
 have k_2:=of_decide_eq_true c_2
 refine Ay<|Aq (Ch 0 1 (AV.i .i64) out)<|Ay<|Aq (AV.i .i64 (Gp g x1))<|Ay<|A4.sfw (vs:=[(Ch 0 1 (AV.i .i64) out),(AV.i .i64 (Gp g x1))]) (ss:=[((AY 1 (AV.i .i64)) out),(AV.i .i64 (Gp g x1))]) (r0:=(AV.b (VF out (Gp g x1)))) kr (show BP _ _ _ from ⟨(A1.w (A1.cast (x':=(Ch 0 1 (AV.i .i64) out)) kr kr (A1.acc (fun _=>rfl) (A:=(AV.i .i64)) (e:=3) (k:=1) (id:=0) (xs:=out) rfl rfl sd))),⟨(BP.e kr),trivial⟩⟩) (Gj W out (Gp g x1)) rfl kr le<|Ay<|Aq (AV.b (!(VF out (Gp g x1))))<|Aq (AV.b (!(VF out (Gp g x1))))<|Ad ?_
 cases c_3:(!(VF out (Gp g x1)))
 refine Cf<|Ah.skip<|Rg<|Ap (Ai (v31+1)) (BH (i:=v31) (m:=1) kr kr sd)<|Aq (Ai (v31+1))<|Ad ?_
 try simp only [c_2,c_3,Bl] at hE1
 refine ⟨(out,v31+1),od,⟨od,Ka,hE1⟩,?_⟩
 exact ⟨[0],⟨by decide,rfl,(A3.cons (I2 (fun _=>rfl) (e:=3) (k:=1) (A:=(AV.i .i64)) (xs:=out) rfl rfl) A3.nil),(Ee (Ee (Ee (AM.cons (Kl (by decide)) (Ee AM.nil)))))⟩,B4⟩
 refine Ct<|Rg<|Aq (Ch 0 1 (AV.i .i64) out)<|Aq (AV.i .i64 (Gp g x1))<|Nn (AV.own 1 0 1) ⟨3,1,[(Gp g x1)].map (AV.i .i64)⟩<|A4.se (x:=(AV.own 2 0 ((out++[(Gp g x1)]).length))) (h':=⟨3,[(2,some ⟨3,1,(out++[(Gp g x1)]).map (AV.i .i64)⟩),(1,some ⟨3,1,[(Gp g x1)].map (AV.i .i64)⟩),(0,none)]⟩) (P6 (e:=3) (X:=(AV.own 1 0 1)) (A:=(AV.i .i64)) (i:=PI) (p:=0) (xs:=out) (ys:=[(Gp g x1)]) kr kr kr (hx:=kr) kr (by simp) ⟨by decide,by kernel_rfl⟩ rfl (by intro q;first|(subst q;rfl)|(rw [q];rfl)|(simp only [q];rfl)) (by show _*8≤140737488355328;first|omega|(simp only [List.length_append,List.length_cons,List.length_nil,List.length_set,List.length_replicate];omega)|(simp;omega)) sd) le<|Aq (AV.own 2 0 ((out++[(Gp g x1)]).length))<|Ad<|Rg<|Ap (Ai (v31+1)) (BH (i:=v31) (m:=1) kr kr sd)<|Aq (Ai (v31+1))<|Ad ?_
 try simp only [c_2,c_3,Bl] at hE1
 refine ⟨((out++[(Gp g x1)]),v31+1),od,⟨od,Ka,hE1⟩,?_⟩
 exact ⟨[2],⟨by decide,rfl,(A3.cons (Ja (fun _=>rfl) (e:=3) (k:=1) (A:=(AV.i .i64)) (xs:=(out++[(Gp g x1)])) (by simp) rfl rfl) A3.nil),(Ee (Ee (Ee (AM.cons (SD (A:=(AV.i .i64)) (xs:=(out++[(Gp g x1)])) (by decide) (by simp) rfl) (Ee AM.nil)))))⟩,B4⟩
 have hc1:decide (((v31:Nat):Int)<(((EO [(g.edges.getD edge.toNat default).ins,(g.edges.getD edge.toNat default).implicit,(g.edges.getD edge.toNat default).order]).length:Nat):Int))=false:=decide_eq_false (by omega)
 refine Ah.cond (t:=false) (by rw [←hc1]<;>kernel_rfl) (Ah.exit ?_)
 rw [List.drop_eq_nil_of_le (hl1),Q5.eq_1] at hE1
 subst hE1
 refine Sq<|Rg<|Aq (Ch 0 1 (AV.i .i64) out)<|Aq (Ch 0 1 (AV.i .i64) out)<|Ad<|Rt ?_
 have hM:Jp g edge=out:=by simp only [Jp,hR1,Bl]
 refine ⟨Or.inr rfl,?_⟩
 rw [hM]
 exact BM.cast (x':=(Ch 0 1 (AV.i .i64) out)) (y':=((AY 1 (AV.i .i64)) out)) kr kr (BM.cast (x':=(Ch 0 1 (AV.i .i64) out)) (y':=AY 1 (AV.i .i64) out) kr kr (Rx (fun _=>rfl) (by decide) (by decide) (e:=3) (k:=1) rfl sd))
theorem Ng (W:World) (edge:Int) (out:List Int):Ar Go.Proofs.Tryz.prog W 106 [(AV.i .i64 edge),(AV.pt ((AY 1 (AV.i .i64)) out).cells)] (AV.b (K4 edge out)) []:=by
 refine As (fn:=Go.Proofs.Tryz.f106) Go.Proofs.Tryz.func106 rfl (en106 W) (ts:=[3]) rfl le<|Sq<|Rg<|Aq (AV.b false)<|Ad<|Sq<|Rg<|Aq ((AY 1 (AV.i .i64)) out)<|Aq (AV.i .i64 edge)<|A4.sc0 (vs:=[((AY 1 (AV.i .i64)) out),(AV.i .i64 edge)]) (r0:=(AV.b (VF out edge))) kr kr (Gj W out edge) kr le<|Aq (AV.b (VF out edge))<|Ad<|Rt ?_
 exact Fb rfl (by simp only [K4,Bl])
theorem S7 (W:World) (edge:Int) (f_told:FuncId) (c_told:List AV) (told:Int→Bool) (hcl_told:Ab c_told=true) (hp_told: ∀(z0:Int),Ar Go.Proofs.Tryz.prog W f_told ((AV.i .i64 z0)::c_told) (AV.b (told z0)) []):Ar Go.Proofs.Tryz.prog W 108 [(AV.i .i64 edge),(AV.pt [(AV.fn f_told c_told)])] (AV.b (Oh edge told)) []:=by
 refine As (fn:=Go.Proofs.Tryz.f108) Go.Proofs.Tryz.func108 rfl (en108 W) (ts:=[3]) rfl le<|Sq<|Rg<|Aq (AV.b false)<|Ad<|Sq<|Rg<|Aq (AV.fn f_told c_told)<|Aq (AV.i .i64 edge)<|A4.sc0 (vs:=((AV.i .i64 edge)::c_told)) (r0:=(AV.b (told edge))) kr (by simp only [Ab,Bool.and_eq_true];exact ⟨by kernel_rfl,hcl_told⟩) (hp_told edge) kr le<|Aq (AV.b (!(told edge)))<|Aq (AV.b (!(told edge)))<|Ad<|Rt ?_
 exact Fb rfl (by simp only [Oh,Bl])
def Fp:Obj:=⟨153,1,[(AV.fn 106 [(AV.loc 0 0 0)])]⟩
theorem PS (W:World) {m0:Int} (hW:W.cell? ⟨0,0,none⟩=some (.int .i64 m0)) (g:AL) (hz0:g.sz≤1048576):Ar Go.Proofs.Tryz.prog W 62 [(AL.av g)] (AV.tup [((AY 1 (AV.i .i64)) ((J6 g).1)),(AV.i .i64 ((J6 g).2))]) []:=by
 have hz: ∀i,Pn g i≤1048576:=fun i=>Nat.le_trans (Vo g i) hz0
 have hzo:T9 g.edges≤1048576:=Nat.le_trans (WK g) hz0
 refine As (fn:=Go.Proofs.Tryz.f62) Go.Proofs.Tryz.func62 rfl (en62 W) (ts:=[2,3]) rfl le<|Sq<|Rg<|Nn (AV.loc 0 0 0) ⟨26,3,[(AL.av g)]⟩<|Aq (AV.sl 1 true [])<|Aq (AV.i .i64 (0:Int))<|Ad<|Qu [] (env':=[(0,(AL.av g)),(1,(AV.pt (AL.av g).cells)),(2,(AV.sl 1 true [])),(3,(AV.i .i64 (0:Int)))]) (h':=⟨0,[]⟩) ⟨by decide,rfl,A3.nil,(Ee (AM.cons (Cz.kk (x':=(AV.loc 0 0 0)) kr kr rfl (E9 AL.av g (id:=0) rfl rfl kr)) (Ee (Ee AM.nil))))⟩ B4<|Tv<|Sq<|Sq<|Rg<|Aq (AL.av g)<|A4.sc0 (vs:=[(AL.av g)]) (r0:=(AV.i .i64 (K3 g))) kr kr (Qq W hW g) kr le<|Aq (AV.b (!decide ((K3 g)=(0:Int))))<|Ad ?_
 cases c_1:(!decide ((K3 g)=(0:Int)))
 have k_1:=nde c_1
 have q_1:=UO c_1
 refine Cf<|Ah.skip<|Sq<|Rg<|Nn (AV.loc 0 0 0) ⟨33,1,[(AV.sl 1 true [])]⟩<|Ad<|Sq<|Rg<|Aq (AV.pt ((AL.av g).cells.drop 0))<|Aq ((AY 7 B1.av) g.edges)<|Ap (Ai g.edges.length) (CA (k:=7) (nl:=false) (e:=65) (A:=B1.av) (xs:=g.edges) kr kr)<|A4.sn (x:=(AV.own 1 0 g.edges.length)) (h':=⟨2,[(1,some ⟨33,1,(List.replicate g.edges.length ([]:List Int)).map (fun (_:List Int)=>AV.sl 1 true [])⟩),(0,some ⟨33,1,[(AV.sl 1 true [])]⟩)]⟩) (Wp (e:=33) (i:=PJ) (A:=(fun (_:List Int)=>AV.sl 1 true [])) (z:=([]:List Int)) (n:=g.edges.length) kr kr kr kr ⟨by decide,by kernel_rfl⟩ kr (by show _*24≤140737488355328;first|omega|(simp only [List.length_append,List.length_cons,List.length_nil,List.length_set,List.length_replicate];omega)|(simp;omega)) sd) le<|Aq (AV.own 1 0 g.edges.length)<|Ad<|Sq<|Sq<|Rg<|Aq (AV.own 1 0 g.edges.length)<|Aq (Ai g.edges.length)<|Aq (AV.i .i64 (0:Int))<|Ad<|Ah.block ?_
 have hB1:g.edges.length≤281474976710656:=by first|omega|(simp;done)|(simp;omega)
 obtain ⟨R1,hR1⟩: ∃R,Pi g (List.replicate g.edges.length ([]:List Int)) 0 (List.replicate g.edges.length ([]:List Int))=R:=⟨_,rfl⟩
 refine BN (fun ((v20,row):Nat×(List (List Int)))=>[(1,(AV.pt (AL.av g).cells)),(4,(AV.loc 0 0 0)),(5,(AV.own 1 0 g.edges.length)),(19,(Ai g.edges.length)),(20,(Ai v20))]) (fun ((v20,row):Nat×(List (List Int)))=>⟨2,[(0,some ⟨33,1,[(AV.sl 1 true [])]⟩),(1,some ⟨33,1,row.map (AY 1 (AV.i .i64))⟩)]⟩) (fun ((v20,row):Nat×(List (List Int)))=>v20≤g.edges.length∧row.length=g.edges.length∧Pi g ((List.replicate g.edges.length ([]:List Int)).drop v20) v20 row=R1) (fun ((v20,row):Nat×(List (List Int)))=>g.edges.length-v20) (0,(List.replicate g.edges.length ([]:List Int))) ?_ ?_ ?_
 exact ⟨[0,1],⟨by decide,rfl,(A3.cons kr (H4 (WC rfl rfl) A3.nil)),(Ee (AM.cons (BM.f kr) (AM.cons (BM.f kr) (Ee (Ee AM.nil)))))⟩,B4⟩
 exact ⟨od,Ka,hR1⟩
 rintro ⟨v20,row⟩ ⟨hi1,hr,hE1⟩
 try dsimp only
 refine Sq<|Rg<|Aq (AV.b (decide (((v20:Nat):Int)<((g.edges.length:Nat):Int))))<|Ad<|Sq ?_
 rcases Nat.lt_or_ge v20 g.edges.length with hl1|hl1
 have hc1:decide (((v20:Nat):Int)<((g.edges.length:Nat):Int))=true:=decide_eq_true (by omega)
 refine Ah.cond (t:=true) (by rw [←hc1]<;>kernel_rfl) (Ah.skip ?_)
 obtain ⟨x1,hx1⟩: ∃x,(List.replicate g.edges.length ([]:List Int))[v20]? =some x:=⟨_,List.getElem?_eq_getElem (by first|(simpa using hl1)|omega)⟩
 rw [BO hx1,Pi.eq_2] at hE1
 refine Sq<|Ah.block<|Sq<|Rg<|Aq (Ai v20)<|Aq (Ai v20)<|Ad<|Rg<|Aq (AV.own 1 0 g.edges.length)<|Aq (Ai v20)<|Aq (Ai v20)<|A4.sc0 (vs:=[(AV.pt (AL.av g).cells),(Ai v20)]) (r0:=((AY 1 (AV.i .i64)) (Jp g ((v20:Nat):Int)))) kr kr (Qt W g ((v20:Nat):Int) ⟨by simp;omega,by omega⟩ (hz _)) kr le<|Ap (AV.loc 1 v20 0) (Ft (e:=33) (id:=1) (len:=g.edges.length) (kk:= .i64) (ob:=⟨33,1,row.map (AY 1 (AV.i .i64))⟩) (i:=v20) kr kr kr rfl kr sd)<|A4.st (x:=AV.und) (h':=⟨2,[(0,some ⟨33,1,[(AV.sl 1 true [])]⟩),(1,some ⟨33,1,(row.set v20 (Jp g ((v20:Nat):Int))).map (AY 1 (AV.i .i64))⟩)]⟩) (Ut (e:=33) (k:=1) (i:=PJ) (id:=1) (A:=(AY 1 (AV.i .i64))) (xs:=row) (y:=(Jp g ((v20:Nat):Int))) (j:=v20) kr kr kr rfl sd (fun _=>rfl) kr (fun _=>rfl) (fun _=>rfl))<|Ad<|Rg<|Ap (Ai (v20+1)) (BH (i:=v20) (m:=1) kr kr sd)<|Aq (Ai (v20+1))<|Ad ?_
 refine ⟨(v20+1,(row.set v20 (Jp g ((v20:Nat):Int)))),od,⟨od,Ka,hE1⟩,?_⟩
 exact ⟨[0,1],⟨by decide,rfl,(A3.cons kr (A3.cons (BA (fun _=>rfl) (e:=33) (k:=1) (A:=(AY 1 (AV.i .i64))) (xs:=(row.set v20 (Jp g ((v20:Nat):Int)))) rfl rfl) A3.nil)),(Ee (AM.cons (BM.f kr) (AM.cons (BM.f kr) (Ee (Ee AM.nil)))))⟩,B4⟩
 have hc1:decide (((v20:Nat):Int)<((g.edges.length:Nat):Int))=false:=decide_eq_false (by omega)
 refine Ah.cond (t:=false) (by rw [←hc1]<;>kernel_rfl) (Ah.exit ?_)
 rw [List.drop_eq_nil_of_le (by first|(simpa using hl1)|omega),Pi.eq_1] at hE1
 subst hE1
 refine Sq<|Rg<|Aq (AV.fn 106 [(AV.loc 0 0 0)])<|Nn (AV.loc 2 0 0) ⟨153,1,[AV.nilf]⟩<|Sp 2 Fp<|Ad<|Sq<|Rg<|Aq (AV.fn 108 [(AV.loc 2 0 0)])<|Aq (AV.fn 108 [(AV.loc 2 0 0)])<|Ad<|Sq<|Ah.label<|Sq<|Ah.block ?_
 obtain ⟨R2,hR2⟩: ∃R,Qb g row (g.edges.length-0+1) []=R:=⟨_,rfl⟩
 refine BN (fun ((kf2,cell):Nat×(List Int))=>[(4,(AV.loc 0 0 0)),(5,(AV.own 2 0 g.edges.length)),(7,(AV.loc 3 0 0)),(8,(AV.fn 108 [(AV.loc 3 0 0)]))]) (fun ((kf2,cell):Nat×(List Int))=>⟨4,[(1,L3 3 1 (AV.i .i64) cell),(0,some ⟨33,1,[(Ch 1 1 (AV.i .i64) cell)]⟩),(2,some ⟨33,1,row.map (AY 1 (AV.i .i64))⟩),(3,some Fp)]⟩) (fun ((kf2,cell):Nat×(List Int))=>g.edges.length-cell.length<kf2∧cell.length≤g.edges.length∧Qb g row kf2 cell=R2) (fun ((kf2,cell):Nat×(List Int))=>kf2) (g.edges.length-0+1,[]) ?_ ?_ ?_
 exact ⟨[0,1000001,1,2],⟨by decide,rfl,(A3.cons rfl (A3.cons rfl (A3.cons (BA (fun _=>rfl) (e:=33) (k:=1) (A:=(AY 1 (AV.i .i64))) (xs:=row) rfl rfl) (A3.cons kr A3.nil)))),(AM.cons (BM.f kr) (AM.cons (BM.f kr) (AM.cons (BM.f kr) (AM.cons (BM.f kr) AM.nil))))⟩,B4⟩
 exact ⟨od,Ka,hR2⟩
 rintro ⟨kf2,cell⟩ ⟨hi2,hcl,hE2⟩
 try dsimp only
 rcases kf2 with _|kf2
 exact absurd hi2 (Nat.not_lt_zero _)
 rw [Qb.eq_2] at hE2
 refine Sq<|Sq<|Rg<|Ap (Ch 1 1 (AV.i .i64) cell) (RG (i:=PJ) (id:=0) (j:=0) (ob:=⟨33,1,[(Ch 1 1 (AV.i .i64) cell)]⟩) (x:=(Ch 1 1 (AV.i .i64) cell)) kr kr kr kr Kf rfl)<|Ap (Ai cell.length) (SG (e:=3) (A:=(AV.i .i64)) (xs:=cell) (p:=1) (k:=1) kr kr (fun q=>Sv (e:=3) (k:=1) (A:=(AV.i .i64)) q rfl))<|Aq (AV.own 2 0 g.edges.length)<|Aq (Ai g.edges.length)<|Aq (AV.b (decide (((cell.length:Nat):Int)<((g.edges.length:Nat):Int))))<|Ad ?_
 cases c_2:decide (((cell.length:Nat):Int)<((g.edges.length:Nat):Int))
 have k_2:=of_decide_eq_false c_2
 refine Cf<|Ah.exit ?_
 try simp only [c_2,Bl] at hE2
 subst hE2
 refine Sq<|Rg<|Ap (Ch 1 1 (AV.i .i64) cell) (RG (i:=PJ) (id:=0) (j:=0) (ob:=⟨33,1,[(Ch 1 1 (AV.i .i64) cell)]⟩) (x:=(Ch 1 1 (AV.i .i64) cell)) kr kr kr kr Kf rfl)<|Aq (Ch 1 1 (AV.i .i64) cell)<|Aq (AV.i .i64 (0:Int))<|Ad<|Rt ?_
 have hM:J6 g=(cell,(0:Int)):=by simp only [J6,c_1,hR1,hR2,Bl]
 refine ⟨Or.inr rfl,?_⟩
 rw [hM]
 exact BM.cast (x':=(AV.tup [(Ch 1 1 (AV.i .i64) cell),(AV.i .i64 (0:Int))])) (y':=(AV.tup [((AY 1 (AV.i .i64)) ((cell,(0:Int)).1)),(AV.i .i64 ((cell,(0:Int)).2))])) kr kr (BM.tup ⟨(BM.cast (x':=(Ch 1 1 (AV.i .i64) cell)) (y':=AY 1 (AV.i .i64) cell) kr kr (Rx (fun _=>rfl) (by decide) (by decide) (e:=3) (k:=1) rfl sd)),⟨Ec,trivial⟩⟩ kr)
 have k_2:=of_decide_eq_true c_2
 refine Ct<|Ah.skip<|Ah.block<|Sq<|Sq<|Rg<|Aq (AV.own 2 0 g.edges.length)<|Aq (Ai g.edges.length)<|Aq (AV.i .i64 (0:Int))<|Ad<|Ah.block ?_
 have hB3:g.edges.length≤281474976710656:=by first|omega|(simp;done)|(simp;omega)
 obtain ⟨R3,hR3⟩: ∃R,Pj row 0 cell=R:=⟨_,rfl⟩
 refine BN (fun ((v38,cell2):Nat×(List Int))=>[(4,(AV.loc 0 0 0)),(5,(AV.own 2 0 g.edges.length)),(7,(AV.loc 3 0 0)),(8,(AV.fn 108 [(AV.loc 3 0 0)])),(36,(AV.own 2 0 g.edges.length)),(37,(Ai g.edges.length)),(38,(Ai v38))]) (fun ((v38,cell2):Nat×(List Int))=>⟨4,[(1,L3 3 1 (AV.i .i64) cell2),(0,some ⟨33,1,[(Ch 1 1 (AV.i .i64) cell2)]⟩),(2,some ⟨33,1,row.map (AY 1 (AV.i .i64))⟩),(3,some Fp)]⟩) (fun ((v38,cell2):Nat×(List Int))=>v38≤g.edges.length∧cell2.length=cell.length∧Pj (row.drop v38) v38 cell2=R3) (fun ((v38,cell2):Nat×(List Int))=>g.edges.length-v38) (0,cell) ?_ ?_ ?_
 exact ⟨[0,1,2,3],⟨by decide,rfl,(A3.cons (VY (A:=(AV.i .i64)) (e:=33) (k:=1) (ek:=1) (xs:=cell) rfl (by decide) rfl) (A3.cons (I2 (fun _=>rfl) (e:=3) (k:=1) (A:=(AV.i .i64)) (xs:=cell) rfl rfl) (A3.cons (BA (fun _=>rfl) (e:=33) (k:=1) (A:=(AY 1 (AV.i .i64))) (xs:=row) rfl rfl) (A3.cons kr A3.nil)))),(AM.cons (BM.f kr) (AM.cons (BM.f kr) (AM.cons (BM.f kr) (AM.cons (BM.f kr) (AM.cons (BM.f kr) (Ee (Ee AM.nil)))))))⟩,B4⟩
 exact ⟨od,Ka,hR3⟩
 rintro ⟨v38,cell2⟩ ⟨hi3,hcm,hE3⟩
 try dsimp only
 refine Sq<|Rg<|Aq (AV.b (decide (((v38:Nat):Int)<((g.edges.length:Nat):Int))))<|Ad<|Sq ?_
 rcases Nat.lt_or_ge v38 g.edges.length with hl3|hl3
 have hc3:decide (((v38:Nat):Int)<((g.edges.length:Nat):Int))=true:=decide_eq_true (by omega)
 refine Ah.cond (t:=true) (by rw [←hc3]<;>kernel_rfl) (Ah.skip ?_)
 obtain ⟨x3,hx3⟩: ∃x,row[v38]? =some x:=⟨_,List.getElem?_eq_getElem (by first|(simpa using hl3)|omega)⟩
 rw [BO hx3,Pj.eq_2] at hE3
 refine Sq<|Ah.block<|Sq<|Rg<|Aq (Ai v38)<|Ap (AV.loc 2 v38 0) (Ft (e:=33) (id:=2) (len:=g.edges.length) (kk:= .i64) (ob:=⟨33,1,row.map (AY 1 (AV.i .i64))⟩) (i:=v38) kr kr kr rfl kr sd)<|Ap ((AY 1 (AV.i .i64)) x3) (D4 (e:=33) (k:=1) (i:=PJ) (id:=2) (xs:=row) (A:=(AY 1 (AV.i .i64))) (j:=v38) kr kr rfl hx3 kr)<|Aq (Ai v38)<|Aq ((AY 1 (AV.i .i64)) x3)<|Ad<|Sq<|Rg<|Aq (AV.fn 106 [(AV.loc 0 0 0)])<|Aq (Ai v38)<|A4.sfw (vs:=[(Ai v38),(AV.loc 0 0 0)]) (ss:=[(Ai v38),(AV.pt ((AY 1 (AV.i .i64)) cell2).cells)]) (r0:=(AV.b (K4 ((v38:Nat):Int) cell2))) kr (show BP _ _ _ from ⟨(BP.e kr),⟨(A1.w (A1.cast (x':=(AV.loc 0 0 0)) kr kr (Kd (id:=0) (j:=0) (ob:=⟨33,1,[(Ch 1 1 (AV.i .i64) cell2)]⟩) (x:=(Ch 1 1 (AV.i .i64) cell2)) rfl rfl rfl Kf (A1.acc (fun _=>rfl) (A:=(AV.i .i64)) (e:=3) (k:=1) (id:=1) (xs:=cell2) rfl rfl sd)))),trivial⟩⟩) (Ng W ((v38:Nat):Int) cell2) rfl kr le<|Aq (AV.b (!(K4 ((v38:Nat):Int) cell2)))<|Aq (AV.b (!(K4 ((v38:Nat):Int) cell2))) ?_
 cases c_3:(!(K4 ((v38:Nat):Int) cell2))
 refine An<|An<|An<|An<|Aq (AV.b false)<|Ad<|Cf<|Ah.skip<|Rg<|Ap (Ai (v38+1)) (BH (i:=v38) (m:=1) kr kr sd)<|Aq (Ai (v38+1))<|Ad ?_
 try simp only [c_3,Bl] at hE3
 refine ⟨(v38+1,cell2),od,⟨od,Ka,hE3⟩,?_⟩
 exact ⟨[0,1,2,3],⟨by decide,rfl,(A3.cons (VY (A:=(AV.i .i64)) (e:=33) (k:=1) (ek:=1) (xs:=cell2) rfl (by decide) rfl) (A3.cons (I2 (fun _=>rfl) (e:=3) (k:=1) (A:=(AV.i .i64)) (xs:=cell2) rfl rfl) (A3.cons (BA (fun _=>rfl) (e:=33) (k:=1) (A:=(AY 1 (AV.i .i64))) (xs:=row) rfl rfl) (A3.cons kr A3.nil)))),(AM.cons (BM.f kr) (AM.cons (BM.f kr) (AM.cons (BM.f kr) (AM.cons (BM.f kr) (AM.cons (BM.f kr) (Ee (Ee AM.nil)))))))⟩,B4⟩
 refine Ay<|Aq ((AY 1 (AV.i .i64)) x3)<|Ay<|Aq (AV.fn 108 [(AV.loc 3 0 0)])<|Ay<|A4.sfw (vs:=[((AY 1 (AV.i .i64)) x3),(AV.fn 108 [(AV.loc 3 0 0)])]) (ss:=[((AY 1 (AV.i .i64)) x3),(AV.fn 108 [(AV.pt [AV.fn 106 [(AV.pt ((AY 1 (AV.i .i64)) cell2).cells)]])])]) (r0:=(AV.b (VG x3 (fun z0=>Oh z0 (fun z0=>K4 z0 cell2))))) kr (show BP _ _ _ from ⟨(BP.e kr),⟨(A1.w (A1.cast (x':=(AV.fn 108 [(AV.loc 3 0 0)])) kr kr (A1.fn (A0.cons (Kd (id:=3) (j:=0) (ob:=Fp) (x:=(AV.fn 106 [(AV.loc 0 0 0)])) rfl rfl rfl rfl (A1.fn (A0.cons (Kd (id:=0) (j:=0) (ob:=⟨33,1,[(Ch 1 1 (AV.i .i64) cell2)]⟩) (x:=(Ch 1 1 (AV.i .i64) cell2)) rfl rfl rfl Kf (A1.acc (fun _=>rfl) (A:=(AV.i .i64)) (e:=3) (k:=1) (id:=1) (xs:=cell2) rfl rfl sd)) A0.nil))) A0.nil)))),trivial⟩⟩) (Is W x3 108 [(AV.pt [AV.fn 106 [(AV.pt ((AY 1 (AV.i .i64)) cell2).cells)]])] (fun z0=>Oh z0 (fun z0=>K4 z0 cell2)) kr (fun z0=>(S7 W z0 106 [(AV.pt ((AY 1 (AV.i .i64)) cell2).cells)] (fun z0=>K4 z0 cell2) kr (fun z0=>(Ng W z0 cell2))))) rfl kr le<|Ay<|Aq (AV.b (!(VG x3 (fun z0=>Oh z0 (fun z0=>K4 z0 cell2)))))<|Aq (AV.b (!(VG x3 (fun z0=>Oh z0 (fun z0=>K4 z0 cell2))))) ?_
 refine Ad ?_
 cases c_4:(!(VG x3 (fun z0=>Oh z0 (fun z0=>K4 z0 cell2))))
 refine Cf<|Ah.skip<|Rg<|Ap (Ai (v38+1)) (BH (i:=v38) (m:=1) kr kr sd)<|Aq (Ai (v38+1))<|Ad ?_
 try simp only [c_3,c_4,Bl] at hE3
 refine ⟨(v38+1,cell2),od,⟨od,Ka,hE3⟩,?_⟩
 exact ⟨[0,1,2,3],⟨by decide,rfl,(A3.cons (VY (A:=(AV.i .i64)) (e:=33) (k:=1) (ek:=1) (xs:=cell2) rfl (by decide) rfl) (A3.cons (I2 (fun _=>rfl) (e:=3) (k:=1) (A:=(AV.i .i64)) (xs:=cell2) rfl rfl) (A3.cons (BA (fun _=>rfl) (e:=33) (k:=1) (A:=(AY 1 (AV.i .i64))) (xs:=row) rfl rfl) (A3.cons kr A3.nil)))),(AM.cons (BM.f kr) (AM.cons (BM.f kr) (AM.cons (BM.f kr) (AM.cons (BM.f kr) (AM.cons (BM.f kr) (Ee (Ee AM.nil)))))))⟩,B4⟩
 refine Ct<|Sq<|Rg<|Ap (Ch 1 1 (AV.i .i64) cell2) (RG (i:=PJ) (id:=0) (j:=0) (ob:=⟨33,1,[(Ch 1 1 (AV.i .i64) cell2)]⟩) (x:=(Ch 1 1 (AV.i .i64) cell2)) kr kr kr kr Kf rfl)<|Aq (Ai v38)<|Nn (AV.own 4 0 1) ⟨3,1,[((v38:Nat):Int)].map (AV.i .i64)⟩<|A4.se (x:=(AV.own 5 0 ((cell2++[((v38:Nat):Int)]).length))) (h':=⟨6,[(5,some ⟨3,1,(cell2++[((v38:Nat):Int)]).map (AV.i .i64)⟩),(4,some ⟨3,1,[((v38:Nat):Int)].map (AV.i .i64)⟩),(1,none),(0,some ⟨33,1,[(Ch 1 1 (AV.i .i64) cell2)]⟩),(2,some ⟨33,1,row.map (AY 1 (AV.i .i64))⟩),(3,some Fp)]⟩) (P6 (e:=3) (X:=(AV.own 4 0 1)) (A:=(AV.i .i64)) (i:=PI) (p:=1) (xs:=cell2) (ys:=[((v38:Nat):Int)]) kr kr kr (hx:=kr) kr (by simp) ⟨by decide,by kernel_rfl⟩ rfl (by intro q;first|(subst q;rfl)|(rw [q];rfl)|(simp only [q];rfl)) (by show _*8≤140737488355328;first|omega|(simp only [List.length_append,List.length_cons,List.length_nil,List.length_set,List.length_replicate];omega)|(simp;omega)) sd) le<|A4.st (x:=AV.und) (h':=⟨6,[(5,some ⟨3,1,(cell2++[((v38:Nat):Int)]).map (AV.i .i64)⟩),(4,some ⟨3,1,[((v38:Nat):Int)].map (AV.i .i64)⟩),(1,none),(0,some ⟨33,1,[(AV.own 5 0 ((cell2++[((v38:Nat):Int)]).length))]⟩),(2,some ⟨33,1,row.map (AY 1 (AV.i .i64))⟩),(3,some Fp)]⟩) (g_setC (i:=PJ) (id:=0) (j:=0) (e:=33) (k:=1) (els:=[(Ch 1 1 (AV.i .i64) cell2)]) (x:=(Ch 1 1 (AV.i .i64) cell2)) (y:=(AV.own 5 0 ((cell2++[((v38:Nat):Int)]).length))) kr kr kr kr kr Rf.acc rfl (by intro fs hh;cases hh) kr kr) ?_
 refine Ad<|Ah.exit ?_
 try simp only [c_3,c_4,Bl] at hE3
 subst hE3
 try simp only [c_2,hR3,Bl] at hE2
 refine ⟨(kf2,(cell2++[((v38:Nat):Int)])),od,⟨Ka,Ka,hE2⟩,?_⟩
 exact ⟨[0,5,2,3],⟨by decide,rfl,(A3.cons (boxA (A:=(AV.i .i64)) (e:=33) (k:=1) (ek:=1) (xs:=(cell2++[((v38:Nat):Int)])) (by simp) rfl (by decide) (by simp) rfl) (A3.cons (Ja (fun _=>rfl) (e:=3) (k:=1) (A:=(AV.i .i64)) (xs:=(cell2++[((v38:Nat):Int)])) (by simp) rfl rfl) (A3.cons (BA (fun _=>rfl) (e:=33) (k:=1) (A:=(AY 1 (AV.i .i64))) (xs:=row) rfl rfl) (A3.cons kr A3.nil)))),(AM.cons (BM.f kr) (AM.cons (BM.f kr) (AM.cons (BM.f kr) (AM.cons (BM.f kr) AM.nil))))⟩,B4⟩
 have hc3:decide (((v38:Nat):Int)<((g.edges.length:Nat):Int))=false:=decide_eq_false (by omega)
 refine Ah.cond (t:=false) (by rw [←hc3]<;>kernel_rfl) (Ah.exit ?_)
 rw [List.drop_eq_nil_of_le (by first|(simpa using hl3)|omega),Pj.eq_1] at hE3
 subst hE3
 refine Sq<|Rg<|Aq (AV.sl 1 true [])<|Aq (AV.i .i64 (1001:Int))<|Ad<|Rt ?_
 try simp only [c_2,hR3,Bl] at hE2
 subst hE2
 have hM:J6 g=(([]:List Int),(1001:Int)):=by simp only [J6,c_1,hR1,hR2,Bl]
 refine ⟨Or.inr rfl,?_⟩
 rw [hM]
 exact BM.cast (x':=(AV.tup [(AV.sl 1 true []),(AV.i .i64 (1001:Int))])) (y':=(AV.tup [((AY 1 (AV.i .i64)) ((([]:List Int),(1001:Int)).1)),(AV.i .i64 ((([]:List Int),(1001:Int)).2))])) kr kr (BM.tup ⟨(BM.w rfl (AH.nil 1)),⟨Ec,trivial⟩⟩ kr)
 have k_1:=ndt c_1
 refine Ct<|Sq<|Rg<|Aq (AV.sl 1 true [])<|Aq (AV.i .i64 (1000:Int))<|Ad<|Rt ?_
 have hM:J6 g=(([]:List Int),(1000:Int)):=by simp only [J6,c_1,Bl]
 refine ⟨Or.inr rfl,?_⟩
 rw [hM]
 exact BM.cast (x':=(AV.tup [(AV.sl 1 true []),(AV.i .i64 (1000:Int))])) (y':=(AV.tup [((AY 1 (AV.i .i64)) ((([]:List Int),(1000:Int)).1)),(AV.i .i64 ((([]:List Int),(1000:Int)).2))])) kr kr (BM.tup ⟨(BM.w rfl (AH.nil 1)),⟨Ec,trivial⟩⟩ kr)
theorem BT (W:World) (e:Int):Ar Go.Proofs.Tryz.prog W 21 [(AV.i .i64 e)] (AV.i .i64 (Cn e)) []:=by
 refine As (fn:=Go.Proofs.Tryz.f21) Go.Proofs.Tryz.func21 rfl (en21 W) (ts:=[2]) rfl le<|Sq<|Rg<|Aq (AV.i .i64 (0:Int))<|Ad<|Sq<|Rg<|Aq (AV.i .i64 e)<|Aq (AV.i .i64 e)<|Ad<|Rt ?_
 exact Fi rfl (by simp only [Cn,Bl])
theorem Qm (W:World) {m0:Int} (hW:W.cell? ⟨0,0,none⟩=some (.int .i64 m0)) (a:Bz):Ar Go.Proofs.Tryz.prog W 121 [(Bz.av a)] (AV.b (Ph a)) []:=by
 refine As (fn:=Go.Proofs.Tryz.f121) Go.Proofs.Tryz.func121 rfl (en121 W) (ts:=[2]) rfl le<|Sq<|Rg<|Nn (AV.loc 0 0 0) ⟨67,3,[(Bz.av a)]⟩<|Aq (AV.b false)<|Ad<|Sq<|Rg<|Aq (AV.loc 0 0 0)<|Aq (AV.s a.command)<|A4.sc0 (vs:=[(AV.s a.command)]) (r0:=(AV.b (KQ a.command))) kr kr (L1 W a.command) kr le<|Aq (AV.b (!(KQ a.command)))<|Aq (AV.b (!(KQ a.command))) ?_
 cases c_1:(!(KQ a.command))
 refine Ay<|Aq (AV.loc 0 0 1)<|Ay<|Aq ((AY 1 AV.s) a.reads)<|Ay<|A4.sc0 (vs:=[((AY 1 AV.s) a.reads),(AV.i .i64 (8:Int))]) (r0:=(AV.b (IW a.reads (8:Int)))) kr kr (MA W hW a.reads (8:Int)) kr le<|Ay<|Aq (AV.b (!(IW a.reads (8:Int))))<|Aq (AV.b (!(IW a.reads (8:Int))))<|Aq (AV.b (!(IW a.reads (8:Int))))<|Ad<|Rt ?_
 exact Fb rfl (by simp only [Ph,c_1,Bl])
 refine An<|An<|An<|An<|Aq (AV.b true)<|Aq (AV.b true)<|Ad<|Rt ?_
 exact Fb rfl (by simp only [Ph,c_1,Bl])
theorem Fv (W:World) (s':List Bz) (f_f:FuncId) (c_f:List AV) (f:Bz→Bool) (hcl_f:Ab c_f=true) (hp_f: ∀(z0:Bz),Ar Go.Proofs.Tryz.prog W f_f ((Bz.av z0)::c_f) (AV.b (f z0)) []):Ar Go.Proofs.Tryz.prog W 161 [((AY 3 Bz.av) s'),(AV.fn f_f c_f)] (AV.i .i64 (m_w s' f)) []:=by
 refine As (fn:=Go.Proofs.Tryz.f161) Go.Proofs.Tryz.func161 rfl (en161 W) (ts:=[4]) rfl le<|Sq<|Rg<|Aq (AV.i .i64 (0:Int))<|Ad<|Sq<|Sq<|Rg<|Aq ((AY 3 Bz.av) s')<|Ap (Ai s'.length) (CA (k:=3) (nl:=false) (e:=67) (A:=Bz.av) (xs:=s') kr kr)<|Aq (AV.i .i64 (0:Int))<|Ad<|Ah.block<|Ah.lim 0 (x:=((AY 3 Bz.av) s')) kr fun hlm1=> ?_
 have hB1:s'.length≤281474976710656:=Dj hlm1
 obtain ⟨R1,hR1⟩: ∃R,m_q f s' 0=R:=⟨_,rfl⟩
 refine BN (fun (v8:Nat)=>[(0,((AY 3 Bz.av) s')),(1,(AV.fn f_f c_f)),(7,(Ai s'.length)),(8,(Ai v8))]) (fun (v8:Nat)=>⟨0,[]⟩) (fun (v8:Nat)=>v8≤s'.length∧m_q f (s'.drop v8) v8=R1) (fun (v8:Nat)=>s'.length-v8) 0 ?_ ?_ ?_
 exact ⟨[],⟨by decide,rfl,A3.nil,(Ee (AM.cons (BM.c kr hcl_f) (Ee (Ee AM.nil))))⟩,B4⟩
 exact ⟨od,hR1⟩
 rintro v8 ⟨hi1,hE1⟩
 try dsimp only
 refine Sq<|Rg<|Aq (AV.b (decide (((v8:Nat):Int)<((s'.length:Nat):Int))))<|Ad<|Sq ?_
 rcases Nat.lt_or_ge v8 s'.length with hl1|hl1
 have hc1:decide (((v8:Nat):Int)<((s'.length:Nat):Int))=true:=decide_eq_true (by omega)
 refine Ah.cond (t:=true) (by rw [←hc1]<;>kernel_rfl) (Ah.skip ?_)
 obtain ⟨x1,hx1⟩: ∃x,s'[v8]? =some x:=⟨_,List.getElem?_eq_getElem hl1⟩
 rw [BO hx1,m_q.eq_2] at hE1
 refine Sq<|Ah.block<|Sq<|Rg<|Aq (Ai v8)<|Aq (Ai v8)<|Ad<|Sq<|Rg<|Aq (AV.fn f_f c_f)<|Aq ((AY 3 Bz.av) s')<|Aq (Ai v8)<|Ap (AV.pt (Bz.av x1).cells) (CP (k:=3) (nl:=false) (e:=67) (kk:= .i64) (A:=Bz.av) (xs:=s') (i:=v8) kr kr kr ⟨by kernel_rfl,by decide⟩ hx1)<|Aq (Bz.av x1)<|A4.sc0 (vs:=((Bz.av x1)::c_f)) (r0:=(AV.b (f x1))) kr (by simp only [Ab,Bool.and_eq_true];exact ⟨by kernel_rfl,hcl_f⟩) (hp_f x1) kr le<|Ad ?_
 cases c_1:(f x1)
 refine Cf<|Ah.skip<|Rg<|Ap (Ai (v8+1)) (BH (i:=v8) (m:=1) kr kr sd)<|Aq (Ai (v8+1))<|Ad ?_
 try simp only [c_1,Bl] at hE1
 refine ⟨v8+1,od,⟨od,hE1⟩,?_⟩
 exact ⟨[],⟨by decide,rfl,A3.nil,(Ee (AM.cons (BM.c kr hcl_f) (Ee (Ee AM.nil))))⟩,B4⟩
 refine Ct<|Sq<|Rg<|Aq (Ai v8)<|Aq (Ai v8)<|Ad<|Rt ?_
 try simp only [c_1,Bl] at hE1
 subst hE1
 exact Fi rfl (by simp only [m_w,hR1,Bl])
 have hc1:decide (((v8:Nat):Int)<((s'.length:Nat):Int))=false:=decide_eq_false (by omega)
 refine Ah.cond (t:=false) (by rw [←hc1]<;>kernel_rfl) (Ah.exit ?_)
 rw [List.drop_eq_nil_of_le (hl1),m_q.eq_1] at hE1
 subst hE1
 refine Sq<|Rg<|Aq (AV.i .i64 (-1:Int))<|Ad<|Rt ?_
 exact Fi rfl (by simp only [m_w,hR1,Bl])
theorem Fa (W:World) (s':List Bz) (f_f:FuncId) (c_f:List AV) (f:Bz→Bool) (hcl_f:Ab c_f=true) (hp_f: ∀(z0:Bz),Ar Go.Proofs.Tryz.prog W f_f ((Bz.av z0)::c_f) (AV.b (f z0)) []):Ar Go.Proofs.Tryz.prog W 120 [((AY 3 Bz.av) s'),(AV.fn f_f c_f)] (AV.b (m_m s' f)) []:=by
 refine As (fn:=Go.Proofs.Tryz.f120) Go.Proofs.Tryz.func120 rfl (en120 W) (ts:=[4]) rfl le<|Sq<|Rg<|Aq (AV.b false)<|Ad<|Sq<|Rg<|Aq ((AY 3 Bz.av) s')<|Aq (AV.fn f_f c_f)<|A4.sc0 (vs:=[((AY 3 Bz.av) s'),(AV.fn f_f c_f)]) (r0:=(AV.i .i64 (m_w s' f))) kr (by simp only [Ab,Bool.and_eq_true];exact ⟨by kernel_rfl,hcl_f,trivial⟩) (Fv W s' f_f c_f f hcl_f hp_f) kr le<|Aq (AV.b (decide ((0:Int)≤(m_w s' f))))<|Aq (AV.b (decide ((0:Int)≤(m_w s' f))))<|Ad<|Rt ?_
 exact Fb rfl (by simp only [m_m,Bl])
theorem Ql (W:World) {m0:Int} (hW:W.cell? ⟨0,0,none⟩=some (.int .i64 m0)) (as':List Bz):Ar Go.Proofs.Tryz.prog W 73 [((AY 3 Bz.av) as')] (AV.b (Qa as')) []:=by
 refine As (fn:=Go.Proofs.Tryz.f73) Go.Proofs.Tryz.func73 rfl (en73 W) (ts:=[2]) rfl le<|Sq<|Rg<|Aq (AV.b false)<|Ad<|Sq<|Rg<|Aq ((AY 3 Bz.av) as')<|Ap (Ai as'.length) (CA (k:=3) (nl:=false) (e:=67) (A:=Bz.av) (xs:=as') kr kr)<|Aq (AV.b (decide (((as'.length:Nat):Int)≤(16:Int))))<|Aq (AV.b (decide (((as'.length:Nat):Int)≤(16:Int)))) ?_
 cases c_1:decide (((as'.length:Nat):Int)≤(16:Int))
 have k_1:=of_decide_eq_false c_1
 refine An<|An<|An<|Aq (AV.b false)<|Aq (AV.b false)<|Ad<|Rt ?_
 exact Fb rfl (by simp only [Qa,c_1,Bl])
 have k_1:=of_decide_eq_true c_1
 refine Ay<|Aq ((AY 3 Bz.av) as')<|Ay<|A4.sc0 (vs:=[((AY 3 Bz.av) as'),(AV.fn 121 [])]) (r0:=(AV.b (m_m as' (fun z0=>Ph z0)))) kr (by simp only [Ab,Bool.and_eq_true];exact ⟨by kernel_rfl,kr,trivial⟩) (Fa W as' 121 [] (fun z0=>Ph z0) kr (fun z0=>(Qm W hW z0))) kr le<|Ay<|Aq (AV.b (!(m_m as' (fun z0=>Ph z0))))<|Aq (AV.b (!(m_m as' (fun z0=>Ph z0))))<|Aq (AV.b (!(m_m as' (fun z0=>Ph z0))))<|Ad<|Rt ?_
 exact Fb rfl (by simp only [Qa,c_1,Bl])
theorem LK (W:World) (x':Int):Ar Go.Proofs.Tryz.prog W 188 [(AV.i .i64 x')] (AV.b (MR x')) []:=by
 refine As (fn:=Go.Proofs.Tryz.f188) Go.Proofs.Tryz.func188 rfl (en188 W) (ts:=[2]) rfl le<|Sq<|Rg<|Aq (AV.b false)<|Ad<|Sq<|Rg<|Aq (AV.i .i64 x')<|Aq (AV.b (decide ((1:Int)≤x')))<|Aq (AV.b (decide ((1:Int)≤x'))) ?_
 cases c_1:decide ((1:Int)≤x')
 have k_1:=of_decide_eq_false c_1
 refine An<|An<|Aq (AV.b false)<|Aq (AV.b false)<|Ad<|Rt ?_
 exact Fb rfl (by simp only [MR,c_1,Bl])
 have k_1:=of_decide_eq_true c_1
 refine Ay<|Aq (AV.i .i64 x')<|Ay<|Aq (AV.b (decide (x'≤(1048576:Int))))<|Aq (AV.b (decide (x'≤(1048576:Int))))<|Aq (AV.b (decide (x'≤(1048576:Int))))<|Ad<|Rt ?_
 exact Fb rfl (by simp only [MR,c_1,Bl])
theorem Qs (W:World) {m0:Int} (hW:W.cell? ⟨0,0,none⟩=some (.int .i64 m0)) (r:Aa):Ar Go.Proofs.Tryz.prog W 139 [(Aa.av r)] (AV.b (M0 r)) []:=by
 refine As (fn:=Go.Proofs.Tryz.f139) Go.Proofs.Tryz.func139 rfl (en139 W) (ts:=[2]) rfl le<|Sq<|Rg<|Nn (AV.loc 0 0 0) ⟨56,3,[(Aa.av r)]⟩<|Aq (AV.b false)<|Ad<|Sq<|Rg<|Aq (AV.loc 0 0 0)<|Aq (AV.s r.out)<|A4.sc0 (vs:=[(AV.s r.out)]) (r0:=(AV.b (Hy r.out))) kr kr (LZ W hW r.out) kr le<|Aq (AV.b (Hy r.out)) ?_
 cases c_1:(Hy r.out)
 refine An<|An<|An<|Aq (AV.b false)<|Aq (AV.b false)<|An<|An<|An<|Aq (AV.b false)<|Aq (AV.b false)<|An<|An<|An<|Aq (AV.b false)<|Aq (AV.b false)<|Ad<|Rt ?_
 exact Fb rfl (by simp only [M0,c_1,Bl])
 refine Ay<|Aq (AV.loc 0 0 1)<|Ay<|Aq (AV.i .i64 r.time)<|Ay<|A4.sc0 (vs:=[(AV.i .i64 r.time)]) (r0:=(AV.b (MR r.time))) kr kr (LK W r.time) kr le<|Aq (AV.b (MR r.time))<|Aq (AV.b (MR r.time)) ?_
 cases c_2:(MR r.time)
 refine An<|An<|An<|Aq (AV.b false)<|Aq (AV.b false)<|An<|An<|An<|Aq (AV.b false)<|Aq (AV.b false)<|Ad<|Rt ?_
 exact Fb rfl (by simp only [M0,c_1,c_2,Bl])
 refine Ay<|Aq (AV.loc 0 0 2)<|Ay<|Aq (AV.s r.sign)<|Ay<|Aq (AV.b (!decide (r.sign=(⟨#[]⟩:ByteArray))))<|Aq (AV.b (!decide (r.sign=(⟨#[]⟩:ByteArray))))<|Aq (AV.b (!decide (r.sign=(⟨#[]⟩:ByteArray)))) ?_
 cases c_3:(!decide (r.sign=(⟨#[]⟩:ByteArray)))
 refine An<|An<|An<|Aq (AV.b false)<|Aq (AV.b false)<|Ad<|Rt ?_
 exact Fb rfl (by simp only [M0,c_1,c_2,c_3,Bl])
 refine Ay<|Aq (AV.loc 0 0 2)<|Ay<|Aq (AV.s r.sign)<|Ay<|A4.sc0 (vs:=[(AV.s r.sign),(AV.i .i64 (2048:Int))]) (r0:=(AV.b (Mt r.sign (2048:Int)))) kr kr (Nf W r.sign (2048:Int)) kr le<|Aq (AV.b (Mt r.sign (2048:Int)))<|Aq (AV.b (Mt r.sign (2048:Int)))<|Ad<|Rt ?_
 exact Fb rfl (by simp only [M0,c_1,c_2,c_3,Bl])
theorem Tq (W:World) {m0:Int} (hW:W.cell? ⟨0,0,none⟩=some (.int .i64 m0)) (r:Aa):Ar Go.Proofs.Tryz.prog W 138 [(Aa.av r)] (AV.b (Qd r)) []:=by
 refine As (fn:=Go.Proofs.Tryz.f138) Go.Proofs.Tryz.func138 rfl (en138 W) (ts:=[2]) rfl le<|Sq<|Rg<|Nn (AV.loc 0 0 0) ⟨56,3,[(Aa.av r)]⟩<|Aq (AV.b false)<|Ad<|Sq<|Rg<|Aq (Aa.av r)<|A4.sc0 (vs:=[(Aa.av r)]) (r0:=(AV.b (M0 r))) kr kr (Qs W hW r) kr le<|Aq (AV.b (!(M0 r)))<|Aq (AV.b (!(M0 r)))<|Ad<|Rt ?_
 exact Fb rfl (by simp only [Qd,Bl])
theorem Fw (W:World) (s':List Aa) (f_f:FuncId) (c_f:List AV) (f:Aa→Bool) (hcl_f:Ab c_f=true) (hp_f: ∀(z0:Aa),Ar Go.Proofs.Tryz.prog W f_f ((Aa.av z0)::c_f) (AV.b (f z0)) []):Ar Go.Proofs.Tryz.prog W 190 [((AY 3 Aa.av) s'),(AV.fn f_f c_f)] (AV.i .i64 (m_x s' f)) []:=by
 refine As (fn:=Go.Proofs.Tryz.f190) Go.Proofs.Tryz.func190 rfl (en190 W) (ts:=[4]) rfl le<|Sq<|Rg<|Aq (AV.i .i64 (0:Int))<|Ad<|Sq<|Sq<|Rg<|Aq ((AY 3 Aa.av) s')<|Ap (Ai s'.length) (CA (k:=3) (nl:=false) (e:=56) (A:=Aa.av) (xs:=s') kr kr)<|Aq (AV.i .i64 (0:Int))<|Ad<|Ah.block<|Ah.lim 0 (x:=((AY 3 Aa.av) s')) kr fun hlm1=> ?_
 have hB1:s'.length≤281474976710656:=Dj hlm1
 obtain ⟨R1,hR1⟩: ∃R,m_r f s' 0=R:=⟨_,rfl⟩
 refine BN (fun (v8:Nat)=>[(0,((AY 3 Aa.av) s')),(1,(AV.fn f_f c_f)),(7,(Ai s'.length)),(8,(Ai v8))]) (fun (v8:Nat)=>⟨0,[]⟩) (fun (v8:Nat)=>v8≤s'.length∧m_r f (s'.drop v8) v8=R1) (fun (v8:Nat)=>s'.length-v8) 0 ?_ ?_ ?_
 exact ⟨[],⟨by decide,rfl,A3.nil,(Ee (AM.cons (BM.c kr hcl_f) (Ee (Ee AM.nil))))⟩,B4⟩
 exact ⟨od,hR1⟩
 rintro v8 ⟨hi1,hE1⟩
 try dsimp only
 refine Sq<|Rg<|Aq (AV.b (decide (((v8:Nat):Int)<((s'.length:Nat):Int))))<|Ad<|Sq ?_
 rcases Nat.lt_or_ge v8 s'.length with hl1|hl1
 have hc1:decide (((v8:Nat):Int)<((s'.length:Nat):Int))=true:=decide_eq_true (by omega)
 refine Ah.cond (t:=true) (by rw [←hc1]<;>kernel_rfl) (Ah.skip ?_)
 obtain ⟨x1,hx1⟩: ∃x,s'[v8]? =some x:=⟨_,List.getElem?_eq_getElem hl1⟩
 rw [BO hx1,m_r.eq_2] at hE1
 refine Sq<|Ah.block<|Sq<|Rg<|Aq (Ai v8)<|Aq (Ai v8)<|Ad<|Sq<|Rg<|Aq (AV.fn f_f c_f)<|Aq ((AY 3 Aa.av) s')<|Aq (Ai v8)<|Ap (AV.pt (Aa.av x1).cells) (CP (k:=3) (nl:=false) (e:=56) (kk:= .i64) (A:=Aa.av) (xs:=s') (i:=v8) kr kr kr ⟨by kernel_rfl,by decide⟩ hx1)<|Aq (Aa.av x1)<|A4.sc0 (vs:=((Aa.av x1)::c_f)) (r0:=(AV.b (f x1))) kr (by simp only [Ab,Bool.and_eq_true];exact ⟨by kernel_rfl,hcl_f⟩) (hp_f x1) kr le<|Ad ?_
 cases c_1:(f x1)
 refine Cf<|Ah.skip<|Rg<|Ap (Ai (v8+1)) (BH (i:=v8) (m:=1) kr kr sd)<|Aq (Ai (v8+1))<|Ad ?_
 try simp only [c_1,Bl] at hE1
 refine ⟨v8+1,od,⟨od,hE1⟩,?_⟩
 exact ⟨[],⟨by decide,rfl,A3.nil,(Ee (AM.cons (BM.c kr hcl_f) (Ee (Ee AM.nil))))⟩,B4⟩
 refine Ct<|Sq<|Rg<|Aq (Ai v8)<|Aq (Ai v8)<|Ad<|Rt ?_
 try simp only [c_1,Bl] at hE1
 subst hE1
 exact Fi rfl (by simp only [m_x,hR1,Bl])
 have hc1:decide (((v8:Nat):Int)<((s'.length:Nat):Int))=false:=decide_eq_false (by omega)
 refine Ah.cond (t:=false) (by rw [←hc1]<;>kernel_rfl) (Ah.exit ?_)
 rw [List.drop_eq_nil_of_le (hl1),m_r.eq_1] at hE1
 subst hE1
 refine Sq<|Rg<|Aq (AV.i .i64 (-1:Int))<|Ad<|Rt ?_
 exact Fi rfl (by simp only [m_x,hR1,Bl])
theorem Fc (W:World) (s':List Aa) (f_f:FuncId) (c_f:List AV) (f:Aa→Bool) (hcl_f:Ab c_f=true) (hp_f: ∀(z0:Aa),Ar Go.Proofs.Tryz.prog W f_f ((Aa.av z0)::c_f) (AV.b (f z0)) []):Ar Go.Proofs.Tryz.prog W 140 [((AY 3 Aa.av) s'),(AV.fn f_f c_f)] (AV.b (m_n s' f)) []:=by
 refine As (fn:=Go.Proofs.Tryz.f140) Go.Proofs.Tryz.func140 rfl (en140 W) (ts:=[4]) rfl le<|Sq<|Rg<|Aq (AV.b false)<|Ad<|Sq<|Rg<|Aq ((AY 3 Aa.av) s')<|Aq (AV.fn f_f c_f)<|A4.sc0 (vs:=[((AY 3 Aa.av) s'),(AV.fn f_f c_f)]) (r0:=(AV.i .i64 (m_x s' f))) kr (by simp only [Ab,Bool.and_eq_true];exact ⟨by kernel_rfl,hcl_f,trivial⟩) (Fw W s' f_f c_f f hcl_f hp_f) kr le<|Aq (AV.b (decide ((0:Int)≤(m_x s' f))))<|Aq (AV.b (decide ((0:Int)≤(m_x s' f))))<|Ad<|Rt ?_
 exact Fb rfl (by simp only [m_n,Bl])
theorem R8 (W:World) {m0:Int} (hW:W.cell? ⟨0,0,none⟩=some (.int .i64 m0)) (rs:List Aa):Ar Go.Proofs.Tryz.prog W 93 [((AY 3 Aa.av) rs)] (AV.b (Ln rs)) []:=by
 refine As (fn:=Go.Proofs.Tryz.f93) Go.Proofs.Tryz.func93 rfl (en93 W) (ts:=[2]) rfl le<|Sq<|Rg<|Aq (AV.b false)<|Ad<|Sq<|Rg<|Aq (AV.fn 138 [])<|Ad<|Sq<|Rg<|Aq ((AY 3 Aa.av) rs)<|Ap (Ai rs.length) (CA (k:=3) (nl:=false) (e:=56) (A:=Aa.av) (xs:=rs) kr kr)<|Aq (AV.b (decide (((rs.length:Nat):Int)≤(256:Int))))<|Aq (AV.b (decide (((rs.length:Nat):Int)≤(256:Int)))) ?_
 cases c_1:decide (((rs.length:Nat):Int)≤(256:Int))
 have k_1:=of_decide_eq_false c_1
 refine An<|An<|An<|An<|Aq (AV.b false)<|Aq (AV.b false)<|Ad<|Rt ?_
 exact Fb rfl (by simp only [Ln,c_1,Bl])
 have k_1:=of_decide_eq_true c_1
 refine Ay<|Aq ((AY 3 Aa.av) rs)<|Ay<|Aq (AV.fn 138 [])<|Ay<|A4.sc0 (vs:=[((AY 3 Aa.av) rs),(AV.fn 138 [])]) (r0:=(AV.b (m_n rs (fun z0=>Qd z0)))) kr (by simp only [Ab,Bool.and_eq_true];exact ⟨by kernel_rfl,kr,trivial⟩) (Fc W rs 138 [] (fun z0=>Qd z0) kr (fun z0=>(Tq W hW z0))) kr le<|Ay<|Aq (AV.b (!(m_n rs (fun z0=>Qd z0))))<|Aq (AV.b (!(m_n rs (fun z0=>Qd z0))))<|Aq (AV.b (!(m_n rs (fun z0=>Qd z0))))<|Ad<|Rt ?_
 exact Fb rfl (by simp only [Ln,c_1,Bl])
theorem S4 (W:World) {m0:Int} (hW:W.cell? ⟨0,0,none⟩=some (.int .i64 m0)) (f:AG):Ar Go.Proofs.Tryz.prog W 142 [(AG.av f)] (AV.b (ND f)) []:=by
 refine As (fn:=Go.Proofs.Tryz.f142) Go.Proofs.Tryz.func142 rfl (en142 W) (ts:=[2]) rfl le<|Sq<|Rg<|Nn (AV.loc 0 0 0) ⟨61,3,[(AG.av f)]⟩<|Aq (AV.b false)<|Ad<|Sq<|Rg<|Aq (AV.loc 0 0 0)<|Aq (AV.s f.out)<|A4.sc0 (vs:=[(AV.s f.out)]) (r0:=(AV.b (Hy f.out))) kr kr (LZ W hW f.out) kr le<|Aq (AV.b (Hy f.out)) ?_
 cases c_1:(Hy f.out)
 refine An<|An<|An<|Aq (AV.b false)<|Aq (AV.b false)<|An<|An<|An<|Aq (AV.b false)<|Aq (AV.b false)<|Ad<|Rt ?_
 exact Fb rfl (by simp only [ND,c_1,Bl])
 refine Ay<|Aq (AV.loc 0 0 1)<|Ay<|Aq (AV.i .i64 f.time)<|Ay<|A4.sc0 (vs:=[(AV.i .i64 f.time)]) (r0:=(AV.b (MR f.time))) kr kr (LK W f.time) kr le<|Aq (AV.b (MR f.time))<|Aq (AV.b (MR f.time)) ?_
 cases c_2:(MR f.time)
 refine An<|An<|An<|Aq (AV.b false)<|Aq (AV.b false)<|Ad<|Rt ?_
 exact Fb rfl (by simp only [ND,c_1,c_2,Bl])
 refine Ay<|Aq (AV.loc 0 0 2)<|Ay<|Aq ((AY 1 AV.s) f.ins)<|Ay<|A4.sc0 (vs:=[((AY 1 AV.s) f.ins),(AV.i .i64 (8:Int))]) (r0:=(AV.b (IW f.ins (8:Int)))) kr kr (MA W hW f.ins (8:Int)) kr le<|Aq (AV.b (IW f.ins (8:Int)))<|Aq (AV.b (IW f.ins (8:Int)))<|Ad<|Rt ?_
 exact Fb rfl (by simp only [ND,c_1,c_2,Bl])
theorem PO (W:World) {m0:Int} (hW:W.cell? ⟨0,0,none⟩=some (.int .i64 m0)) (f:AG):Ar Go.Proofs.Tryz.prog W 141 [(AG.av f)] (AV.b (RO f)) []:=by
 refine As (fn:=Go.Proofs.Tryz.f141) Go.Proofs.Tryz.func141 rfl (en141 W) (ts:=[2]) rfl le<|Sq<|Rg<|Nn (AV.loc 0 0 0) ⟨61,3,[(AG.av f)]⟩<|Aq (AV.b false)<|Ad<|Sq<|Rg<|Aq (AG.av f)<|A4.sc0 (vs:=[(AG.av f)]) (r0:=(AV.b (ND f))) kr kr (S4 W hW f) kr le<|Aq (AV.b (!(ND f)))<|Aq (AV.b (!(ND f)))<|Ad<|Rt ?_
 exact Fb rfl (by simp only [RO,Bl])
theorem G7 (W:World) (s':List AG) (f_f:FuncId) (c_f:List AV) (f:AG→Bool) (hcl_f:Ab c_f=true) (hp_f: ∀(z0:AG),Ar Go.Proofs.Tryz.prog W f_f ((AG.av z0)::c_f) (AV.b (f z0)) []):Ar Go.Proofs.Tryz.prog W 191 [((AY 3 AG.av) s'),(AV.fn f_f c_f)] (AV.i .i64 (m_y s' f)) []:=by
 refine As (fn:=Go.Proofs.Tryz.f191) Go.Proofs.Tryz.func191 rfl (en191 W) (ts:=[4]) rfl le<|Sq<|Rg<|Aq (AV.i .i64 (0:Int))<|Ad<|Sq<|Sq<|Rg<|Aq ((AY 3 AG.av) s')<|Ap (Ai s'.length) (CA (k:=3) (nl:=false) (e:=61) (A:=AG.av) (xs:=s') kr kr)<|Aq (AV.i .i64 (0:Int))<|Ad<|Ah.block<|Ah.lim 0 (x:=((AY 3 AG.av) s')) kr fun hlm1=> ?_
 have hB1:s'.length≤281474976710656:=Dj hlm1
 obtain ⟨R1,hR1⟩: ∃R,m_u f s' 0=R:=⟨_,rfl⟩
 refine BN (fun (v8:Nat)=>[(0,((AY 3 AG.av) s')),(1,(AV.fn f_f c_f)),(7,(Ai s'.length)),(8,(Ai v8))]) (fun (v8:Nat)=>⟨0,[]⟩) (fun (v8:Nat)=>v8≤s'.length∧m_u f (s'.drop v8) v8=R1) (fun (v8:Nat)=>s'.length-v8) 0 ?_ ?_ ?_
 exact ⟨[],⟨by decide,rfl,A3.nil,(Ee (AM.cons (BM.c kr hcl_f) (Ee (Ee AM.nil))))⟩,B4⟩
 exact ⟨od,hR1⟩
 rintro v8 ⟨hi1,hE1⟩
 try dsimp only
 refine Sq<|Rg<|Aq (AV.b (decide (((v8:Nat):Int)<((s'.length:Nat):Int))))<|Ad<|Sq ?_
 rcases Nat.lt_or_ge v8 s'.length with hl1|hl1
 have hc1:decide (((v8:Nat):Int)<((s'.length:Nat):Int))=true:=decide_eq_true (by omega)
 refine Ah.cond (t:=true) (by rw [←hc1]<;>kernel_rfl) (Ah.skip ?_)
 obtain ⟨x1,hx1⟩: ∃x,s'[v8]? =some x:=⟨_,List.getElem?_eq_getElem hl1⟩
 rw [BO hx1,m_u.eq_2] at hE1
 refine Sq<|Ah.block<|Sq<|Rg<|Aq (Ai v8)<|Aq (Ai v8)<|Ad<|Sq<|Rg<|Aq (AV.fn f_f c_f)<|Aq ((AY 3 AG.av) s')<|Aq (Ai v8)<|Ap (AV.pt (AG.av x1).cells) (CP (k:=3) (nl:=false) (e:=61) (kk:= .i64) (A:=AG.av) (xs:=s') (i:=v8) kr kr kr ⟨by kernel_rfl,by decide⟩ hx1)<|Aq (AG.av x1)<|A4.sc0 (vs:=((AG.av x1)::c_f)) (r0:=(AV.b (f x1))) kr (by simp only [Ab,Bool.and_eq_true];exact ⟨by kernel_rfl,hcl_f⟩) (hp_f x1) kr le<|Ad ?_
 cases c_1:(f x1)
 refine Cf<|Ah.skip<|Rg<|Ap (Ai (v8+1)) (BH (i:=v8) (m:=1) kr kr sd)<|Aq (Ai (v8+1))<|Ad ?_
 try simp only [c_1,Bl] at hE1
 refine ⟨v8+1,od,⟨od,hE1⟩,?_⟩
 exact ⟨[],⟨by decide,rfl,A3.nil,(Ee (AM.cons (BM.c kr hcl_f) (Ee (Ee AM.nil))))⟩,B4⟩
 refine Ct<|Sq<|Rg<|Aq (Ai v8)<|Aq (Ai v8)<|Ad<|Rt ?_
 try simp only [c_1,Bl] at hE1
 subst hE1
 exact Fi rfl (by simp only [m_y,hR1,Bl])
 have hc1:decide (((v8:Nat):Int)<((s'.length:Nat):Int))=false:=decide_eq_false (by omega)
 refine Ah.cond (t:=false) (by rw [←hc1]<;>kernel_rfl) (Ah.exit ?_)
 rw [List.drop_eq_nil_of_le (hl1),m_u.eq_1] at hE1
 subst hE1
 refine Sq<|Rg<|Aq (AV.i .i64 (-1:Int))<|Ad<|Rt ?_
 exact Fi rfl (by simp only [m_y,hR1,Bl])
theorem Fn (W:World) (s':List AG) (f_f:FuncId) (c_f:List AV) (f:AG→Bool) (hcl_f:Ab c_f=true) (hp_f: ∀(z0:AG),Ar Go.Proofs.Tryz.prog W f_f ((AG.av z0)::c_f) (AV.b (f z0)) []):Ar Go.Proofs.Tryz.prog W 143 [((AY 3 AG.av) s'),(AV.fn f_f c_f)] (AV.b (m_o s' f)) []:=by
 refine As (fn:=Go.Proofs.Tryz.f143) Go.Proofs.Tryz.func143 rfl (en143 W) (ts:=[4]) rfl le<|Sq<|Rg<|Aq (AV.b false)<|Ad<|Sq<|Rg<|Aq ((AY 3 AG.av) s')<|Aq (AV.fn f_f c_f)<|A4.sc0 (vs:=[((AY 3 AG.av) s'),(AV.fn f_f c_f)]) (r0:=(AV.i .i64 (m_y s' f))) kr (by simp only [Ab,Bool.and_eq_true];exact ⟨by kernel_rfl,hcl_f,trivial⟩) (G7 W s' f_f c_f f hcl_f hp_f) kr le<|Aq (AV.b (decide ((0:Int)≤(m_y s' f))))<|Aq (AV.b (decide ((0:Int)≤(m_y s' f))))<|Ad<|Rt ?_
 exact Fb rfl (by simp only [m_o,Bl])
theorem Ne (W:World) {m0:Int} (hW:W.cell? ⟨0,0,none⟩=some (.int .i64 m0)) (fs:List AG):Ar Go.Proofs.Tryz.prog W 94 [((AY 3 AG.av) fs)] (AV.b (MU fs)) []:=by
 refine As (fn:=Go.Proofs.Tryz.f94) Go.Proofs.Tryz.func94 rfl (en94 W) (ts:=[2]) rfl le<|Sq<|Rg<|Aq (AV.b false)<|Ad<|Sq<|Rg<|Aq (AV.fn 141 [])<|Ad<|Sq<|Rg<|Aq ((AY 3 AG.av) fs)<|Ap (Ai fs.length) (CA (k:=3) (nl:=false) (e:=61) (A:=AG.av) (xs:=fs) kr kr)<|Aq (AV.b (decide (((fs.length:Nat):Int)≤(256:Int))))<|Aq (AV.b (decide (((fs.length:Nat):Int)≤(256:Int)))) ?_
 cases c_1:decide (((fs.length:Nat):Int)≤(256:Int))
 have k_1:=of_decide_eq_false c_1
 refine An<|An<|An<|An<|Aq (AV.b false)<|Aq (AV.b false)<|Ad<|Rt ?_
 exact Fb rfl (by simp only [MU,c_1,Bl])
 have k_1:=of_decide_eq_true c_1
 refine Ay<|Aq ((AY 3 AG.av) fs)<|Ay<|Aq (AV.fn 141 [])<|Ay<|A4.sc0 (vs:=[((AY 3 AG.av) fs),(AV.fn 141 [])]) (r0:=(AV.b (m_o fs (fun z0=>RO z0)))) kr (by simp only [Ab,Bool.and_eq_true];exact ⟨by kernel_rfl,kr,trivial⟩) (Fn W fs 141 [] (fun z0=>RO z0) kr (fun z0=>(PO W hW z0))) kr le<|Ay<|Aq (AV.b (!(m_o fs (fun z0=>RO z0))))<|Aq (AV.b (!(m_o fs (fun z0=>RO z0))))<|Aq (AV.b (!(m_o fs (fun z0=>RO z0))))<|Ad<|Rt ?_
 exact Fb rfl (by simp only [MU,c_1,Bl])
theorem PQ (W:World) (x':Int):Ar Go.Proofs.Tryz.prog W 123 [(AV.i .i64 x')] (AV.b (Q9 x')) []:=by
 refine As (fn:=Go.Proofs.Tryz.f123) Go.Proofs.Tryz.func123 rfl (en123 W) (ts:=[2]) rfl le<|Sq<|Rg<|Aq (AV.b false)<|Ad<|Sq<|Rg<|Aq (AV.i .i64 x')<|Aq (AV.b (decide ((0:Int)≤x')))<|Aq (AV.b (decide ((0:Int)≤x'))) ?_
 cases c_1:decide ((0:Int)≤x')
 have k_1:=of_decide_eq_false c_1
 refine An<|An<|Aq (AV.b false)<|Aq (AV.b false)<|Ad<|Rt ?_
 exact Fb rfl (by simp only [Q9,c_1,Bl])
 have k_1:=of_decide_eq_true c_1
 refine Ay<|Aq (AV.i .i64 x')<|Ay<|Aq (AV.b (decide (x'≤(2147483647:Int))))<|Aq (AV.b (decide (x'≤(2147483647:Int))))<|Aq (AV.b (decide (x'≤(2147483647:Int))))<|Ad<|Rt ?_
 exact Fb rfl (by simp only [Q9,c_1,Bl])
theorem PP (W:World) {m0:Int} (hW:W.cell? ⟨0,0,none⟩=some (.int .i64 m0)) (d:AN):Ar Go.Proofs.Tryz.prog W 74 [AN.av d] (.b (Ha Hy d)) [] where
 enters:=en74 W
 calls:=fun w Y vs hG hY hvs=>by
  refine calls_of_wp Go.Proofs.Tryz.func74 rfl ?_
  have F0:=VK (P:=Go.Proofs.Tryz.prog) (n:=77) hG hY rfl hvs (by simp)
  refine wp_seq (wp_mono (F0.run (Q:=fun e env=>e= .normal∧env=[(1,(AV.pt (AN.av d).cells))]) ?_) ?_)
  ·refine Rg ?_
   refine Nn (AV.loc 0 0 0) ⟨30,2,[(AN.av d)]⟩<|Aq (AV.b false)<|Ad ?_
   exact ⟨[],[(1,(AV.pt (AN.av d).cells))],⟨0,[]⟩,⟨by decide,rfl,A3.nil,(AM.cons (Cz.kk (x':=(AV.loc 0 0 0)) kr kr rfl (E9 AN.av d (id:=0) rfl rfl kr)) AM.nil)⟩,rfl,rfl,⟨rfl,rfl⟩⟩
  rintro e a1 w1 ⟨env1,⟨rfl,rfl⟩,F1,hb1⟩
  have hr0:w.heap.size≤w1.heap.size:=hb1.size
  have hrW:W.heap.size≤w1.heap.size:=Nat.le_trans hG.size hr0
  refine wp_seq (wp_region ?_)
  show wpOps _ _ _ [0,1] _ _
  refine R9 rfl rfl (v:= .map (some w1.heap.size)) (w':=w1.alloc (.map #[] 0)) rfl ?_
  have F2:=(F1.made (.map #[] 0)).put (t:=6) (x:= .raw (.map (some w1.heap.size))) (v:= .map (some w1.heap.size)) (by decide) (by simp only [CR])
  refine R9 rfl rfl (v:=(a1.put (some 6) (.map (some w1.heap.size))).eval (.tmp 6)) (w':=w1.alloc (.map #[] 0)) rfl ?_
  have F3:=F2.put (t:=3) (by decide) (F2.env 6)
  have hr3:(w1.alloc (.map #[] 0)).heap[w1.heap.size]? =some (.map #[] 0):=K2 _ _
  obtain ⟨r,hrr⟩: ∃r,w1.heap.size=r:=⟨_,rfl⟩
  rw [hrr] at hr0 hrW hr3 F3
  simp only [hrr]
  refine wp_seq (wp_seq (wp_mono (F3.run (Q:=fun e env=>e= .normal∧env=[(1,(AV.pt (AN.av d).cells)),(3,(AV.raw (Value.map (some r)))),(8,((AY 3 Ae.av) d.files)),(9,(Ai d.files.length)),(10,(AV.i .i64 (0:Int)))]) ?_) ?_))
  ·refine Rg ?_
   refine Aq (AV.pt ((AN.av d).cells.drop 1))<|Aq ((AY 3 Ae.av) d.files)<|Ap (Ai d.files.length) (CA (k:=3) (nl:=false) (e:=85) (A:=Ae.av) (xs:=d.files) kr kr)<|Aq (AV.i .i64 (0:Int))<|Ad ?_
   exact ⟨[],[(1,(AV.pt (AN.av d).cells)),(3,(AV.raw (Value.map (some r)))),(8,((AY 3 Ae.av) d.files)),(9,(Ai d.files.length)),(10,(AV.i .i64 (0:Int)))],⟨0,[]⟩,⟨by decide,rfl,A3.nil,(Ee (Ee (Ee (Ee (Ee AM.nil)))))⟩,rfl,rfl,⟨rfl,rfl⟩⟩
  rintro e a2 w2 ⟨env2,⟨rfl,rfl⟩,F4,hb2⟩
  have hr4:=Below.blk hb2 hr3
  have hB:d.files.length≤281474976710656:=F4.len (t:=8) rfl
  obtain ⟨R,hR0⟩: ∃R,IE Hy d.clock d.files [] none=R:=⟨_,rfl⟩
  refine wp_block<|J4 (fun k a w'=> ∃(i:Nat) (es:Array MapEntry) (clock:Nat),k=d.files.length-i∧i≤d.files.length∧CF 77 W w Y [(1,(AV.pt (AN.av d).cells)),(3,(AV.raw (Value.map (some r)))),(8,((AY 3 Ae.av) d.files)),(9,(Ai d.files.length)),(10,(Ai i))] a w'∧w'.heap[r]? =some (.map es clock)∧OE es ((d.files.take i).map Ae.time)∧IE Hy d.clock (d.files.drop i) ((d.files.take i).map Ae.time) (d.files.take i).getLast? =R) (k0:=d.files.length) ⟨0,#[],0,rfl,Nat.zero_le _,F4,hr4,OE.nil,hR0⟩ ?_
  rintro k a3 w3 ⟨i,es,clock,hk,hi,F5,hr5,hes,hR⟩
  refine wp_seq (wp_mono (F5.run (Q:=fun e env=>e= .normal∧env=[(1,(AV.pt (AN.av d).cells)),(3,(AV.raw (Value.map (some r)))),(8,((AY 3 Ae.av) d.files)),(9,(Ai d.files.length)),(10,(Ai i)),(11,(AV.b (decide (((i:Nat):Int)<((d.files.length:Nat):Int)))))]) ?_) ?_)
  ·refine Rg ?_
   refine Aq (AV.b (decide (((i:Nat):Int)<((d.files.length:Nat):Int))))<|Ad ?_
   exact ⟨[],[(1,(AV.pt (AN.av d).cells)),(3,(AV.raw (Value.map (some r)))),(8,((AY 3 Ae.av) d.files)),(9,(Ai d.files.length)),(10,(Ai i)),(11,(AV.b (decide (((i:Nat):Int)<((d.files.length:Nat):Int)))))],⟨0,[]⟩,⟨by decide,rfl,A3.nil,(Ee (Ee (Ee (Ee (Ee (Ee AM.nil))))))⟩,rfl,rfl,⟨rfl,rfl⟩⟩
  rintro e a4 w4 ⟨env4,⟨rfl,rfl⟩,F6,hb4⟩
  have hr6:=Below.blk hb4 hr5
  refine wp_seq ?_
  rcases Nat.lt_or_ge i d.files.length with hl|hl
  ·refine wp_cond (t:=true) ((F6.bool (t:=11) rfl).trans (congrArg Value.bool (decide_eq_true (by omega)))) (wp_skip ?_)
   obtain ⟨x,hx⟩: ∃x,d.files[i]? =some x:=⟨_,List.getElem?_eq_getElem hl⟩
   have hst:=UR (d:=d) hx
   obtain ⟨ts,hts⟩: ∃ts,(d.files.take i).map Ae.time=ts:=⟨_,rfl⟩
   rw [hts] at hes hR hst
   refine wp_seq (wp_block (wp_seq (wp_mono (F6.run (Q:=fun e env=>e= .normal∧env=[(1,(AV.pt (AN.av d).cells)),(3,(AV.raw (Value.map (some r)))),(4,(Ai i)),(5,(AV.pt (Ae.av x).cells)),(8,((AY 3 Ae.av) d.files)),(9,(Ai d.files.length)),(10,(Ai i))]) ?_) ?_)))
   ·refine Rg ?_
    refine Aq (Ai i)<|Ap (AV.pt (Ae.av x).cells) (CP (k:=3) (nl:=false) (e:=85) (kk:= .i64) (A:=Ae.av) (xs:=d.files) (i:=i) kr kr kr ⟨by kernel_rfl,by decide⟩ hx)<|Aq (Ae.av x)<|Nn (AV.loc 0 0 0) ⟨85,3,[(AV.st [(AV.s (⟨#[]⟩:ByteArray)),(AV.i .i64 (0:Int)),(AV.i .i64 (0:Int))])]⟩<|Aq (Ai i)<|Sp 0 ⟨85,3,[(AV.st [(AV.s x.name),(AV.i .i64 x.content),(AV.i .i64 x.time)])]⟩<|Ad ?_
    exact ⟨[],[(1,(AV.pt (AN.av d).cells)),(3,(AV.raw (Value.map (some r)))),(4,(Ai i)),(5,(AV.pt (Ae.av x).cells)),(8,((AY 3 Ae.av) d.files)),(9,(Ai d.files.length)),(10,(Ai i))],⟨0,[]⟩,⟨by decide,rfl,A3.nil,(Ee (Ee (Ee (AM.cons (Cz.kk (x':=(AV.loc 0 0 0)) kr kr rfl (A1.loc (id:=0) (j:=0) (o:=0) (ob:=⟨85,3,[(AV.st [(AV.s x.name),(AV.i .i64 x.content),(AV.i .i64 x.time)])]⟩) (x:=(AV.st [(AV.s x.name),(AV.i .i64 x.content),(AV.i .i64 x.time)])) rfl rfl rfl (A0.cons (A2 (x:=(AV.s x.name)) kr) (A0.cons (A2 (x:=(AV.i .i64 x.content)) kr) (A0.cons (A2 (x:=(AV.i .i64 x.time)) kr) A0.nil))))) (Ee (Ee (Ee AM.nil)))))))⟩,rfl,rfl,⟨rfl,rfl⟩⟩
   rintro e a5 w5 ⟨env5,⟨rfl,rfl⟩,F7,hb5⟩
   have hr:=Below.blk hb5 hr6
   have hWw5:=F7.glob.cell hW
   refine wp_seq (wp_mono (F7.run (Q:=fun e env=>(e= .ret∧env=[(2,(AV.b false))]∧FN d ts x i=false)∨(e= .normal∧env=[(1,(AV.pt (AN.av d).cells)),(3,(AV.raw (Value.map (some r)))),(5,(AV.pt (Ae.av x).cells)),(8,((AY 3 Ae.av) d.files)),(9,(Ai d.files.length)),(10,(Ai i))]∧FN d ts x i=true)) ?_) ?_)
   ·refine Sq ?_
    refine Ah.drawn A6 E5 41 kr le<|Dq (AV.pt ((Ae.av x).cells.drop 0))<|Dq (AV.s x.name)<|Aw.sc0 (vs:=[(AV.s x.name)]) (r0:=(AV.b (Hy x.name))) kr kr (LZ w5 hWw5 x.name) kr le<|Dq (AV.b (!(Hy x.name)))<|Dq (AV.b (!(Hy x.name))) ?_
    cases c_1:(!(Hy x.name))
    refine Dy<|Dq (AV.pt ((Ae.av x).cells.drop 1))<|Dy<|Dq (AV.i .i64 x.content)<|Dy<|Aw.sc0 (vs:=[(AV.i .i64 x.content)]) (r0:=(AV.b (Q9 x.content))) kr kr (PQ w5 x.content) kr le<|Dy<|Dq (AV.b (!(Q9 x.content)))<|Dq (AV.b (!(Q9 x.content)))<|Dq (AV.b (!(Q9 x.content))) ?_
    cases c_2:(!(Q9 x.content))
    refine Dy<|Dq (AV.pt ((Ae.av x).cells.drop 2))<|Dy<|Dq (AV.i .i64 x.time)<|Dy<|Dq (AV.b (decide (x.time<(1:Int))))<|Dq (AV.b (decide (x.time<(1:Int))))<|Dq (AV.b (decide (x.time<(1:Int)))) ?_
    cases c_3:decide (x.time<(1:Int))
    have k_3:=of_decide_eq_false c_3
    refine Dy<|Dq (AV.pt ((Ae.av x).cells.drop 2))<|Dy<|Dq (AV.i .i64 x.time)<|Dy<|Dq (AV.pt ((AN.av d).cells.drop 0))<|Dy<|Dq (AV.i .i64 d.clock)<|Dy<|Dq (AV.b (decide (d.clock<x.time)))<|Dq (AV.b (decide (d.clock<x.time)))<|Dq (AV.b (decide (d.clock<x.time))) ?_
    cases c_4:decide (d.clock<x.time)
    have k_4:=of_decide_eq_false c_4
    refine Dy<|Dq (AV.raw (Value.map (some r)))<|Dy<|Dq (AV.pt ((Ae.av x).cells.drop 2))<|Dy<|Dq (AV.i .i64 x.time)<|Dy<|VJ (x:=(AV.b (ts.any (fun t=>decide (t=x.time))))) (V4 (vt:=4) Go.Proofs.Tryz.underlying166 Go.Proofs.Tryz.underlying3 (fun _=>by kernel_rfl) hr hes rfl rfl) le<|Dq (AV.b (ts.any (fun t=>decide (t=x.time))))<|Dq (AV.b (ts.any (fun t=>decide (t=x.time)))) ?_
    cases c_5:(ts.any (fun t=>decide (t=x.time)))
    refine Dy<|Dq (Ai i)<|Dy<|Dq (AV.b (decide ((0:Int)<((i:Nat):Int))))<|Dy<|Dq (AV.b (decide ((0:Int)<((i:Nat):Int)))) ?_
    cases c_6:decide ((0:Int)<((i:Nat):Int))
    have k_6:=of_decide_eq_false c_6
    refine Dn<|Dn<|Dn<|Dn<|Dn<|Dn<|Dn<|Dn<|Dn<|Dn<|Dy<|Dq (AV.b false)<|Dq (AV.b false)<|Aw.fin<|Cf<|Ah.skip ?_
    have hM:FN d ts x i=true:=by simp only [FN,c_1,c_2,c_3,c_4,c_5,c_6,Bl]
    exact ⟨[],[(1,(AV.pt (AN.av d).cells)),(3,(AV.raw (Value.map (some r)))),(5,(AV.pt (Ae.av x).cells)),(8,((AY 3 Ae.av) d.files)),(9,(Ai d.files.length)),(10,(Ai i))],⟨0,[]⟩,⟨by decide,rfl,A3.nil,(Ee (Ee (Ee (Ee (Ee (Ee AM.nil))))))⟩,rfl,rfl,Or.inr ⟨rfl,rfl,hM⟩⟩
    have k_6:=of_decide_eq_true c_6
    refine Dy<|Dq (AV.pt ((AN.av d).cells.drop 1))<|Dy<|Dq ((AY 3 Ae.av) d.files)<|Dy<|Dq (Ai i)<|Dy<|Dp (AV.i .i64 ((i-1:Nat):Int)) (RI (i:=i) (m:=1) kr kr sd sd)<|Dy<|Dp (AV.pt (Ae.av (d.files.getD (i-1) default)).cells) (CP (k:=3) (nl:=false) (e:=85) (kk:= .i64) (A:=Ae.av) (xs:=d.files) (i:=i-1) kr kr kr ⟨by kernel_rfl,by decide⟩ (getD_some sd))<|Dy<|Dq (AV.pt ((Ae.av (d.files.getD (i-1) default)).cells.drop 0))<|Dy<|Dq (AV.s ((d.files.getD (i-1) default).name))<|Dy<|Dq (AV.pt ((Ae.av x).cells.drop 0))<|Dy<|Dq (AV.s x.name)<|Dy<|Dq (AV.b (!Op.bytesLess ((d.files.getD (i-1) default).name).toList x.name.toList))<|Dy<|Dq (AV.b (!Op.bytesLess ((d.files.getD (i-1) default).name).toList x.name.toList))<|Dq (AV.b (!Op.bytesLess ((d.files.getD (i-1) default).name).toList x.name.toList))<|Aw.fin ?_
    cases c_7:(!Op.bytesLess ((d.files.getD (i-1) default).name).toList x.name.toList)
    refine Cf<|Ah.skip ?_
    have hM:FN d ts x i=true:=by simp only [FN,c_1,c_2,c_3,c_4,c_5,c_6,c_7,Bl]
    exact ⟨[],[(1,(AV.pt (AN.av d).cells)),(3,(AV.raw (Value.map (some r)))),(5,(AV.pt (Ae.av x).cells)),(8,((AY 3 Ae.av) d.files)),(9,(Ai d.files.length)),(10,(Ai i))],⟨0,[]⟩,⟨by decide,rfl,A3.nil,(Ee (Ee (Ee (Ee (Ee (Ee AM.nil))))))⟩,rfl,rfl,Or.inr ⟨rfl,rfl,hM⟩⟩
    refine Ct<|Sq<|Rg<|Aq (AV.b false)<|Ad<|Rt ?_
    have hM:FN d ts x i=false:=by simp only [FN,c_1,c_2,c_3,c_4,c_5,c_6,c_7,Bl]
    exact ⟨[],[(2,(AV.b false))],⟨0,[]⟩,⟨by decide,rfl,A3.nil,(Ee AM.nil)⟩,rfl,rfl,Or.inl ⟨rfl,rfl,hM⟩⟩
    refine Dn<|Dn<|Dn<|Dn<|Dn<|Dn<|Dn<|Dn<|Dn<|Dn<|Dn<|Dn<|Dn<|Dn<|Dq (AV.b true)<|Aw.fin<|Ct<|Sq<|Rg<|Aq (AV.b false)<|Ad<|Rt ?_
    have hM:FN d ts x i=false:=by simp only [FN,c_1,c_2,c_3,c_4,c_5,Bl]
    exact ⟨[],[(2,(AV.b false))],⟨0,[]⟩,⟨by decide,rfl,A3.nil,(Ee AM.nil)⟩,rfl,rfl,Or.inl ⟨rfl,rfl,hM⟩⟩
    have k_4:=of_decide_eq_true c_4
    refine Dn<|Dn<|Dn<|Dn<|Dq (AV.b true)<|Dq (AV.b true)<|Dn<|Dn<|Dn<|Dn<|Dn<|Dn<|Dn<|Dn<|Dn<|Dn<|Dn<|Dn<|Dn<|Dn<|Dq (AV.b true)<|Aw.fin<|Ct<|Sq<|Rg<|Aq (AV.b false)<|Ad<|Rt ?_
    have hM:FN d ts x i=false:=by simp only [FN,c_1,c_2,c_3,c_4,Bl]
    exact ⟨[],[(2,(AV.b false))],⟨0,[]⟩,⟨by decide,rfl,A3.nil,(Ee AM.nil)⟩,rfl,rfl,Or.inl ⟨rfl,rfl,hM⟩⟩
    have k_3:=of_decide_eq_true c_3
    refine Dn<|Dn<|Dn<|Dn<|Dn<|Dq (AV.b true)<|Dq (AV.b true)<|Dn<|Dn<|Dn<|Dn<|Dq (AV.b true)<|Dq (AV.b true)<|Dn<|Dn<|Dn<|Dn<|Dn<|Dn<|Dn<|Dn<|Dn<|Dn<|Dn<|Dn<|Dn<|Dn<|Dq (AV.b true)<|Aw.fin<|Ct<|Sq<|Rg<|Aq (AV.b false)<|Ad<|Rt ?_
    have hM:FN d ts x i=false:=by simp only [FN,c_1,c_2,c_3,Bl]
    exact ⟨[],[(2,(AV.b false))],⟨0,[]⟩,⟨by decide,rfl,A3.nil,(Ee AM.nil)⟩,rfl,rfl,Or.inl ⟨rfl,rfl,hM⟩⟩
    refine Dn<|Dn<|Dn<|Dq (AV.b true)<|Dq (AV.b true)<|Dn<|Dn<|Dn<|Dn<|Dn<|Dq (AV.b true)<|Dq (AV.b true)<|Dn<|Dn<|Dn<|Dn<|Dq (AV.b true)<|Dq (AV.b true)<|Dn<|Dn<|Dn<|Dn<|Dn<|Dn<|Dn<|Dn<|Dn<|Dn<|Dn<|Dn<|Dn<|Dn<|Dq (AV.b true)<|Aw.fin<|Ct<|Sq<|Rg<|Aq (AV.b false)<|Ad<|Rt ?_
    have hM:FN d ts x i=false:=by simp only [FN,c_1,c_2,Bl]
    exact ⟨[],[(2,(AV.b false))],⟨0,[]⟩,⟨by decide,rfl,A3.nil,(Ee AM.nil)⟩,rfl,rfl,Or.inl ⟨rfl,rfl,hM⟩⟩
    refine Dn<|Dn<|Dn<|Dn<|Dq (AV.b true)<|Dq (AV.b true)<|Dn<|Dn<|Dn<|Dq (AV.b true)<|Dq (AV.b true)<|Dn<|Dn<|Dn<|Dn<|Dn<|Dq (AV.b true)<|Dq (AV.b true)<|Dn<|Dn<|Dn<|Dn<|Dq (AV.b true)<|Dq (AV.b true)<|Dn<|Dn<|Dn<|Dn<|Dn<|Dn<|Dn<|Dn<|Dn<|Dn<|Dn<|Dn<|Dn<|Dn<|Dq (AV.b true)<|Aw.fin<|Ct<|Sq<|Rg<|Aq (AV.b false)<|Ad<|Rt ?_
    have hM:FN d ts x i=false:=by simp only [FN,c_1,Bl]
    exact ⟨[],[(2,(AV.b false))],⟨0,[]⟩,⟨by decide,rfl,A3.nil,(Ee AM.nil)⟩,rfl,rfl,Or.inl ⟨rfl,rfl,hM⟩⟩
   rintro e a6 w6 ⟨env6,hq,F8,hb6⟩
   rcases hq with ⟨rfl,rfl,hC⟩|⟨rfl,rfl,hC⟩
   ·show a6.defers=[]∧ ∃v,_
    have hD:Ha Hy d=false:=by
     unfold Ha
     rw [hR0,←hR,hst,hC];rfl
    rw [hD]
    exact F8.done (t:=2) rfl rfl rfl
   ·have hr8:=Below.blk hb6 hr
    rw [hC,Bool.true_and] at hst
    refine wp_region ?_
    show wpOps _ _ _ (List.range 3++[3]) _ _
    refine RZ A6 3 [3] (by decide) (R:=fun env h=>CQ (fun e env=>e= .normal∧env=[(1,(AV.pt (AN.av d).cells)),(3,(AV.raw (Value.map (some r)))),(8,((AY 3 Ae.av) d.files)),(9,(Ai d.files.length)),(10,(Ai i)),(59,(AV.raw (Value.map (some r)))),(61,(AV.i .i64 x.time))]) .normal env h) ?_ rfl F8.rel ?_
    ·refine Aq (AV.raw (Value.map (some r))) ?_
     refine Aq (AV.pt ((Ae.av x).cells.drop 2))<|Aq (AV.i .i64 x.time)<|Ad ?_
     exact ⟨[],[(1,(AV.pt (AN.av d).cells)),(3,(AV.raw (Value.map (some r)))),(8,((AY 3 Ae.av) d.files)),(9,(Ai d.files.length)),(10,(Ai i)),(59,(AV.raw (Value.map (some r)))),(61,(AV.i .i64 x.time))],⟨0,[]⟩,⟨by decide,rfl,A3.nil,(Ee (Ee (Ee (Ee (Ee (Ee (Ee AM.nil)))))))⟩,rfl,rfl,⟨rfl,rfl⟩⟩
    rintro env' h' μ' a7 w7 ⟨keep,env7,h7,hf,hn,hc,_,rfl⟩ R7
    obtain ⟨F9,hb7⟩:=F8.of_rel hn hc (Jg R7 hf (fun i hi=>by simp at hi))
    have hr9:=Below.blk hb7 hr8
    have hnk:ts.any (fun t=>decide (t=x.time))=false:=UQ hC
    refine Ub rfl rfl (w':={w7 with heap:=w7.heap.setIfInBounds r (.map (es.push ⟨.int .i64 x.time,.bool true,clock⟩) (clock+1))}) ?_ ?_
    ·unfold execOp
     refine run_uu ?_
     rw [F9.raw (t:=59) rfl,F9.int (t:=61) rfl]
     exact N9 Go.Proofs.Tryz.underlying166 Go.Proofs.Tryz.underlying3 hr9 hes hnk
    obtain ⟨F10,hr10⟩:=F9.turn (es':=es.push ⟨.int .i64 x.time,.bool true,clock⟩) (c':=clock+1) hr9 hr0 hrW
    refine wp_mono (F10.run (Q:=fun e env=>e= .normal∧env=[(1,(AV.pt (AN.av d).cells)),(3,(AV.raw (Value.map (some r)))),(8,((AY 3 Ae.av) d.files)),(9,(Ai d.files.length)),(10,(Ai (i+1)))]) ?_) ?_
    ·refine Rg ?_
     refine Ap (Ai (i+1)) (BH (i:=i) (m:=1) kr kr sd)<|Aq (Ai (i+1))<|Ad ?_
     exact ⟨[],[(1,(AV.pt (AN.av d).cells)),(3,(AV.raw (Value.map (some r)))),(8,((AY 3 Ae.av) d.files)),(9,(Ai d.files.length)),(10,(Ai (i+1)))],⟨0,[]⟩,⟨by decide,rfl,A3.nil,(Ee (Ee (Ee (Ee (Ee AM.nil)))))⟩,rfl,rfl,⟨rfl,rfl⟩⟩
    rintro e a8 w8 ⟨env8,⟨rfl,rfl⟩,F11,hb8⟩
    refine ⟨d.files.length-(i+1),by omega,i+1,_,_,rfl,by omega,F11,Below.blk hb8 hr10,?_,by rw [←hst];exact hR⟩
    have:=hes.push x.time clock
    rw [←hts] at this
    rw [NT hx,List.map_append]
    exact this
  ·refine wp_cond (t:=false) ((F6.bool (t:=11) rfl).trans (congrArg Value.bool (decide_eq_false (by omega)))) (wp_exit ?_)
   show (Code.seq _ _).wp _ _ _ _
   have hD:Ha Hy d=M5 d:=by
    have e:R=true:=by rw [←hR,List.drop_eq_nil_of_le hl];rfl
    unfold Ha
    rw [hR0,e]
    exact Wb d
   rw [hD]
   refine wp_seq (wp_mono (F6.run (Q:=fun e env=>e= .normal∧env=[(2,(AV.b (M5 d)))]) ?_) ?_)
   ·refine Rg ?_
    refine Aq (AV.pt ((AN.av d).cells.drop 0))<|Aq (AV.i .i64 d.clock)<|Aq (AV.b (decide ((0:Int)≤d.clock)))<|Aq (AV.b (decide ((0:Int)≤d.clock))) ?_
    cases c_1:decide ((0:Int)≤d.clock)
    have k_1:=of_decide_eq_false c_1
    refine An<|An<|An<|Aq (AV.b false)<|Aq (AV.b false)<|An<|An<|An<|An<|Aq (AV.b false)<|Aq (AV.b false)<|Ad ?_
    have hM:M5 d=false:=by simp only [M5,c_1,Bl]
    rw [hM]
    exact ⟨[],[(2,(AV.b false))],⟨0,[]⟩,⟨by decide,rfl,A3.nil,(Ee AM.nil)⟩,rfl,rfl,⟨rfl,rfl⟩⟩
    have k_1:=of_decide_eq_true c_1
    refine Ay<|Aq (AV.pt ((AN.av d).cells.drop 0))<|Ay<|Aq (AV.i .i64 d.clock)<|Ay<|Aq (AV.b (decide (d.clock≤(1048576:Int))))<|Aq (AV.b (decide (d.clock≤(1048576:Int))))<|Aq (AV.b (decide (d.clock≤(1048576:Int)))) ?_
    cases c_2:decide (d.clock≤(1048576:Int))
    have k_2:=of_decide_eq_false c_2
    refine An<|An<|An<|An<|Aq (AV.b false)<|Aq (AV.b false)<|Ad ?_
    have hM:M5 d=false:=by simp only [M5,c_1,c_2,Bl]
    rw [hM]
    exact ⟨[],[(2,(AV.b false))],⟨0,[]⟩,⟨by decide,rfl,A3.nil,(Ee AM.nil)⟩,rfl,rfl,⟨rfl,rfl⟩⟩
    have k_2:=of_decide_eq_true c_2
    refine Ay<|Aq (AV.pt ((AN.av d).cells.drop 1))<|Ay<|Aq ((AY 3 Ae.av) d.files)<|Ay<|Ap (Ai d.files.length) (CA (k:=3) (nl:=false) (e:=85) (A:=Ae.av) (xs:=d.files) kr kr)<|Ay<|Aq (AV.b (decide (((d.files.length:Nat):Int)≤(64:Int))))<|Aq (AV.b (decide (((d.files.length:Nat):Int)≤(64:Int))))<|Aq (AV.b (decide (((d.files.length:Nat):Int)≤(64:Int))))<|Ad ?_
    have hM:M5 d=decide (((d.files.length:Nat):Int)≤(64:Int)):=by simp only [M5,c_1,c_2,Bl]
    rw [hM]
    exact ⟨[],[(2,(AV.b (decide (((d.files.length:Nat):Int)≤(64:Int)))))],⟨0,[]⟩,⟨by decide,rfl,A3.nil,(Ee AM.nil)⟩,rfl,rfl,⟨rfl,rfl⟩⟩
   rintro e a9 w9 ⟨env9,⟨rfl,rfl⟩,F12,hb9⟩
   refine wp_ret ?_
   show a9.defers=[]∧ ∃v,_
   exact F12.done (t:=2) rfl rfl rfl
theorem O8 (W:World) {m0:Int} (hW:W.cell? ⟨0,0,none⟩=some (.int .i64 m0)) (s':Av) (hz:s'.sz≤1048576):Ar Go.Proofs.Tryz.prog W 53 [(AV.pt (Av.av s').cells)] (AV.b (GN s')) []:=by
 have hzg:=s'.sz_graph
 refine As (fn:=Go.Proofs.Tryz.f53) Go.Proofs.Tryz.func53 rfl (en53 W) (ts:=[2]) rfl le<|Sq<|Rg<|Aq (AV.b false)<|Ad<|Sq<|Rg<|Aq (AV.pt (Av.av s').cells)<|Aq (AV.pt (Av.av s').cells)<|Aq (AV.pt ((Av.av s').cells.drop 0))<|Aq (AL.av s'.graph)<|A4.sc0 (vs:=[(AL.av s'.graph)]) (r0:=(AV.tup [((AY 1 (AV.i .i64)) ((J6 s'.graph).1)),(AV.i .i64 ((J6 s'.graph).2))])) kr kr (PS W hW s'.graph sd) kr le<|Aq (AV.tup [((AY 1 (AV.i .i64)) ((J6 s'.graph).1)),(AV.i .i64 ((J6 s'.graph).2))])<|Aq ((AY 1 (AV.i .i64)) ((J6 s'.graph).1))<|Aq (AV.i .i64 ((J6 s'.graph).2))<|Aq ((AY 1 (AV.i .i64)) ((J6 s'.graph).1))<|Aq (AV.i .i64 ((J6 s'.graph).2))<|Ad<|Sq<|Rg<|Aq (AV.i .i64 ((J6 s'.graph).2))<|Aq (AV.b (decide ((J6 s'.graph).2=(0:Int))))<|Aq (AV.b (decide ((J6 s'.graph).2=(0:Int)))) ?_
 cases c_1:decide ((J6 s'.graph).2=(0:Int))
 have k_1:=of_decide_eq_false c_1
 refine An<|An<|An<|An<|An<|Aq (AV.b false)<|Aq (AV.b false)<|An<|An<|An<|An<|An<|Aq (AV.b false)<|Aq (AV.b false)<|An<|An<|An<|An<|An<|Aq (AV.b false)<|Aq (AV.b false)<|An<|An<|An<|An<|An<|Aq (AV.b false)<|Aq (AV.b false)<|Ad<|Rt ?_
 exact Fb rfl (by simp only [GN,c_1,Bl])
 have k_1:=of_decide_eq_true c_1
 refine Ay<|Aq (AV.pt (Av.av s').cells)<|Ay<|Aq (AV.pt (Av.av s').cells)<|Ay<|Aq (AV.pt ((Av.av s').cells.drop 3))<|Ay<|Aq ((AY 3 Bz.av) s'.actions)<|Ay<|A4.sc0 (vs:=[((AY 3 Bz.av) s'.actions)]) (r0:=(AV.b (Qa s'.actions))) kr kr (Ql W hW s'.actions) kr le<|Aq (AV.b (Qa s'.actions))<|Aq (AV.b (Qa s'.actions)) ?_
 cases c_2:(Qa s'.actions)
 refine An<|An<|An<|An<|An<|Aq (AV.b false)<|Aq (AV.b false)<|An<|An<|An<|An<|An<|Aq (AV.b false)<|Aq (AV.b false)<|An<|An<|An<|An<|An<|Aq (AV.b false)<|Aq (AV.b false)<|Ad<|Rt ?_
 exact Fb rfl (by simp only [GN,c_1,c_2,Bl])
 refine Ay<|Aq (AV.pt (Av.av s').cells)<|Ay<|Aq (AV.pt (Av.av s').cells)<|Ay<|Aq (AV.pt ((Av.av s').cells.drop 4))<|Ay<|Aq (AN.av s'.disk)<|Ay<|A4.sc0 (vs:=[(AN.av s'.disk)]) (r0:=(AV.b (Ha Hy s'.disk))) kr kr (PP W hW s'.disk) kr le<|Aq (AV.b (Ha Hy s'.disk))<|Aq (AV.b (Ha Hy s'.disk)) ?_
 cases c_3:(Ha Hy s'.disk)
 refine An<|An<|An<|An<|An<|Aq (AV.b false)<|Aq (AV.b false)<|An<|An<|An<|An<|An<|Aq (AV.b false)<|Aq (AV.b false)<|Ad<|Rt ?_
 exact Fb rfl (by simp only [GN,c_1,c_2,c_3,Bl])
 refine Ay<|Aq (AV.pt (Av.av s').cells)<|Ay<|Aq (AV.pt (Av.av s').cells)<|Ay<|Aq (AV.pt ((Av.av s').cells.drop 6))<|Ay<|Aq ((AY 3 Aa.av) s'.log)<|Ay<|A4.sc0 (vs:=[((AY 3 Aa.av) s'.log)]) (r0:=(AV.b (Ln s'.log))) kr kr (R8 W hW s'.log) kr le<|Aq (AV.b (Ln s'.log))<|Aq (AV.b (Ln s'.log)) ?_
 cases c_4:(Ln s'.log)
 refine An<|An<|An<|An<|An<|Aq (AV.b false)<|Aq (AV.b false)<|Ad<|Rt ?_
 exact Fb rfl (by simp only [GN,c_1,c_2,c_3,c_4,Bl])
 refine Ay<|Aq (AV.pt (Av.av s').cells)<|Ay<|Aq (AV.pt (Av.av s').cells)<|Ay<|Aq (AV.pt ((Av.av s').cells.drop 7))<|Ay<|Aq ((AY 3 AG.av) s'.deps)<|Ay<|A4.sc0 (vs:=[((AY 3 AG.av) s'.deps)]) (r0:=(AV.b (MU s'.deps))) kr kr (Ne W hW s'.deps) kr le<|Aq (AV.b (MU s'.deps))<|Aq (AV.b (MU s'.deps))<|Ad<|Rt ?_
 exact Fb rfl (by simp only [GN,c_1,c_2,c_3,c_4,Bl])
theorem IZ (W:World) (x':Int) (least:Int) (most':Int):Ar Go.Proofs.Tryz.prog W 59 [(AV.i .i64 x'),(AV.i .i64 least),(AV.i .i64 most')] (AV.b (Mq x' least most')) []:=by
 refine As (fn:=Go.Proofs.Tryz.f59) Go.Proofs.Tryz.func59 rfl (en59 W) (ts:=[6]) rfl le<|Sq<|Rg<|Aq (AV.b false)<|Ad<|Sq<|Rg<|Aq (AV.i .i64 x')<|Aq (AV.i .i64 least)<|Aq (AV.b (decide (least≤x')))<|Aq (AV.b (decide (least≤x'))) ?_
 cases c_1:decide (least≤x')
 have k_1:=of_decide_eq_false c_1
 refine An<|An<|An<|Aq (AV.b false)<|Aq (AV.b false)<|Ad<|Rt ?_
 exact Fb rfl (by simp only [Mq,c_1,Bl])
 have k_1:=of_decide_eq_true c_1
 refine Ay<|Aq (AV.i .i64 x')<|Ay<|Aq (AV.i .i64 most')<|Ay<|Aq (AV.b (decide (x'≤most')))<|Aq (AV.b (decide (x'≤most')))<|Aq (AV.b (decide (x'≤most')))<|Ad<|Rt ?_
 exact Fb rfl (by simp only [Mq,c_1,Bl])
theorem Ou (W:World) (d:AN):Ar Go.Proofs.Tryz.prog W 41 [(AN.av d)] (AV.b (L5 d)) []:=by
 refine As (fn:=Go.Proofs.Tryz.f41) Go.Proofs.Tryz.func41 rfl (en41 W) (ts:=[2]) rfl le<|Sq<|Rg<|Nn (AV.loc 0 0 0) ⟨30,2,[(AN.av d)]⟩<|Aq (AV.b false)<|Ad<|Sq<|Sq<|Rg<|Aq (AV.i .i64 (0:Int))<|Ad<|Ah.block<|Ah.lim 0 (x:=(AN.av d)) kr fun hlm1=> ?_
 have hB1:d.files.length≤281474976710656:=Dj (KX hlm1)
 obtain ⟨R1,hR1⟩: ∃R,Q4 d d.files 0=R:=⟨_,rfl⟩
 refine BN (fun (i:Nat)=>[(1,(AV.loc 0 0 0)),(3,(Ai i))]) (fun (i:Nat)=>⟨1,[(0,some ⟨30,2,[(AN.av d)]⟩)]⟩) (fun (i:Nat)=>i≤d.files.length∧Q4 d (d.files.drop i) i=R1) (fun (i:Nat)=>d.files.length-i) 0 ?_ ?_ ?_
 exact ⟨[0],⟨by decide,rfl,(A3.cons kr A3.nil),(AM.cons (BM.f kr) (Ee AM.nil))⟩,B4⟩
 exact ⟨od,hR1⟩
 rintro i ⟨hi1,hE1⟩
 try dsimp only
 refine Sq<|Sq<|Rg<|Aq (Ai i)<|Aq (AV.loc 0 0 1)<|Aq ((AY 3 Ae.av) d.files)<|Ap (Ai d.files.length) (CA (k:=3) (nl:=false) (e:=85) (A:=Ae.av) (xs:=d.files) kr kr)<|Aq (AV.b (decide (((i:Nat):Int)<((d.files.length:Nat):Int))))<|Ad ?_
 rcases Nat.lt_or_ge i d.files.length with hl1|hl1
 have hc1:decide (((i:Nat):Int)<((d.files.length:Nat):Int))=true:=decide_eq_true (by omega)
 refine Ah.cond (t:=true) (by rw [←hc1]<;>kernel_rfl) (Ah.skip ?_)
 obtain ⟨x1,hx1⟩: ∃x,d.files[i]? =some x:=⟨_,List.getElem?_eq_getElem hl1⟩
 rw [BO hx1,Q4.eq_2] at hE1
 refine Sq<|Ah.block<|Sq<|Rg<|Aq (AV.loc 0 0 1)<|Aq ((AY 3 Ae.av) d.files)<|Aq (Ai i)<|Ap (AV.pt (Ae.av x1).cells) (CP (k:=3) (nl:=false) (e:=85) (kk:= .i64) (A:=Ae.av) (xs:=d.files) (i:=i) kr kr kr ⟨by kernel_rfl,by decide⟩ hx1)<|Aq (Ae.av x1)<|Nn (AV.loc 1 0 0) ⟨85,3,[(AV.st [(AV.s (⟨#[]⟩:ByteArray)),(AV.i .i64 (0:Int)),(AV.i .i64 (0:Int))])]⟩<|Sp 1 ⟨85,3,[(AV.st [(AV.s x1.name),(AV.i .i64 x1.content),(AV.i .i64 x1.time)])]⟩<|Ad<|Sq<|Sq<|Ah.drawn A6 E5 31 kr le<|Dq (AV.loc 1 0 0)<|Dq (AV.s x1.name)<|Aw.sc0 (vs:=[(AV.s x1.name)]) (r0:=(AV.b (Kp x1.name))) kr kr (LL W x1.name) kr le<|Dq (AV.b (!(Kp x1.name)))<|Dq (AV.b (!(Kp x1.name))) ?_
 cases c_1:(!(Kp x1.name))
 refine Dy<|Dq (AV.loc 1 0 1)<|Dy<|Dq (AV.i .i64 x1.content)<|Dy<|Aw.sc0 (vs:=[(AV.i .i64 x1.content),(AV.i .i64 (0:Int)),(AV.i .i64 (2147483647:Int))]) (r0:=(AV.b (Mq x1.content (0:Int) (2147483647:Int)))) kr kr (IZ W x1.content (0:Int) (2147483647:Int)) kr le<|Dy<|Dq (AV.b (!(Mq x1.content (0:Int) (2147483647:Int))))<|Dq (AV.b (!(Mq x1.content (0:Int) (2147483647:Int))))<|Dq (AV.b (!(Mq x1.content (0:Int) (2147483647:Int)))) ?_
 cases c_2:(!(Mq x1.content (0:Int) (2147483647:Int)))
 refine Dy<|Dq (AV.loc 1 0 2)<|Dy<|Dq (AV.i .i64 x1.time)<|Dy<|Dq (AV.loc 0 0 0)<|Dy<|Dq (AV.i .i64 d.clock)<|Dy<|Aw.sc0 (vs:=[(AV.i .i64 x1.time),(AV.i .i64 (1:Int)),(AV.i .i64 d.clock)]) (r0:=(AV.b (Mq x1.time (1:Int) d.clock))) kr kr (IZ W x1.time (1:Int) d.clock) kr le<|Dy<|Dq (AV.b (!(Mq x1.time (1:Int) d.clock)))<|Dq (AV.b (!(Mq x1.time (1:Int) d.clock)))<|Dq (AV.b (!(Mq x1.time (1:Int) d.clock))) ?_
 cases c_3:(!(Mq x1.time (1:Int) d.clock))
 refine Dy<|Dq (Ai i)<|Dy<|Dq (AV.b (decide ((0:Int)<((i:Nat):Int))))<|Dy<|Dq (AV.b (decide ((0:Int)<((i:Nat):Int)))) ?_
 cases c_4:decide ((0:Int)<((i:Nat):Int))
 have k_4:=of_decide_eq_false c_4
 refine Dn<|Dn<|Dn<|Dn<|Dn<|Dn<|Dn<|Dn<|Dn<|Dn<|Dy<|Dq (AV.b false)<|Dq (AV.b false)<|Aw.fin<|Cf<|Ah.skip<|Sq<|Rg<|Aq (AV.i .i64 (0:Int))<|Ad<|Ah.block ?_
 obtain ⟨R2,hR2⟩: ∃R,Oe i d x1 (i-0+1) 0=R:=⟨_,rfl⟩
 refine BN (fun ((kf2,k):Nat×Nat)=>[(1,(AV.loc 0 0 0)),(3,(Ai i)),(4,(AV.loc 1 0 0)),(5,(Ai k))]) (fun ((kf2,k):Nat×Nat)=>⟨2,[(0,some ⟨30,2,[(AN.av d)]⟩),(1,some ⟨85,3,[(AV.st [(AV.s x1.name),(AV.i .i64 x1.content),(AV.i .i64 x1.time)])]⟩)]⟩) (fun ((kf2,k):Nat×Nat)=>i-k<kf2∧Oe i d x1 kf2 k=R2) (fun ((kf2,k):Nat×Nat)=>kf2) (i-0+1,0) ?_ ?_ ?_
 exact ⟨[0,1],⟨by decide,rfl,(A3.cons kr (A3.cons kr A3.nil)),(AM.cons (BM.f kr) (Ee (AM.cons (BM.f kr) (Ee AM.nil))))⟩,B4⟩
 exact ⟨od,hR2⟩
 rintro ⟨kf2,k⟩ ⟨hi2,hE2⟩
 try dsimp only
 rcases kf2 with _|kf2
 exact absurd hi2 (Nat.not_lt_zero _)
 rw [Oe.eq_2] at hE2
 refine Sq<|Sq<|Rg<|Aq (Ai k)<|Aq (Ai i)<|Aq (AV.b (decide (((k:Nat):Int)<((i:Nat):Int))))<|Ad ?_
 cases c_5:decide (((k:Nat):Int)<((i:Nat):Int))
 have k_5:=of_decide_eq_false c_5
 refine Cf<|Ah.exit ?_
 try simp only [c_5,Bl] at hE2
 subst hE2
 refine Rg<|Aq (Ai i)<|Ap (Ai (i+1)) (BH (i:=i) (m:=1) kr kr sd)<|Aq (Ai (i+1))<|Ad ?_
 try simp only [c_1,c_2,c_3,c_4,hR2,Bl] at hE1
 refine ⟨i+1,od,⟨od,hE1⟩,?_⟩
 exact ⟨[0],⟨by decide,rfl,(A3.cons kr A3.nil),(AM.cons (BM.f kr) (Ee AM.nil))⟩,B4⟩
 have k_5:=of_decide_eq_true c_5
 refine Ct<|Ah.skip<|Sq<|Ah.block<|Sq<|Ah.drawn A6 E5 8 kr le<|Dq (AV.loc 0 0 1)<|Dq ((AY 3 Ae.av) d.files)<|Dq (Ai k)<|Dp (AV.pt (Ae.av (d.files.getD k default)).cells) (CP (k:=3) (nl:=false) (e:=85) (kk:= .i64) (A:=Ae.av) (xs:=d.files) (i:=k) kr kr kr ⟨by kernel_rfl,by decide⟩ (getD_some sd))<|Dq (AV.pt ((Ae.av (d.files.getD k default)).cells.drop 2))<|Dq (AV.i .i64 ((d.files.getD k default).time))<|Dq (AV.loc 1 0 2)<|Dq (AV.i .i64 x1.time)<|Dq (AV.b (decide ((d.files.getD k default).time=x1.time)))<|Aw.fin ?_
 cases c_6:decide ((d.files.getD k default).time=x1.time)
 have k_6:=of_decide_eq_false c_6
 refine Cf<|Ah.skip<|Rg<|Aq (Ai k)<|Ap (Ai (k+1)) (BH (i:=k) (m:=1) kr kr sd)<|Aq (Ai (k+1))<|Ad ?_
 try simp only [c_5,c_6,Bl] at hE2
 refine ⟨(kf2,k+1),od,⟨Ka,hE2⟩,?_⟩
 exact ⟨[0,1],⟨by decide,rfl,(A3.cons kr (A3.cons kr A3.nil)),(AM.cons (BM.f kr) (Ee (AM.cons (BM.f kr) (Ee AM.nil))))⟩,B4⟩
 have k_6:=of_decide_eq_true c_6
 refine Ct<|Sq<|Rg<|Aq (AV.b false)<|Ad<|Rt ?_
 try simp only [c_5,c_6,Bl] at hE2
 subst hE2
 try simp only [c_1,c_2,c_3,c_4,hR2,Bl] at hE1
 subst hE1
 exact Fb rfl (by simp only [L5,hR1,Bl])
 have k_4:=of_decide_eq_true c_4
 refine Dy<|Dq (AV.loc 0 0 1)<|Dy<|Dq ((AY 3 Ae.av) d.files)<|Dy<|Dq (Ai i)<|Dy<|Dp (AV.i .i64 ((i-1:Nat):Int)) (RI (i:=i) (m:=1) kr kr sd sd)<|Dy<|Dp (AV.pt (Ae.av (d.files.getD (i-1) default)).cells) (CP (k:=3) (nl:=false) (e:=85) (kk:= .i64) (A:=Ae.av) (xs:=d.files) (i:=i-1) kr kr kr ⟨by kernel_rfl,by decide⟩ (getD_some sd))<|Dy<|Dq (AV.pt ((Ae.av (d.files.getD (i-1) default)).cells.drop 0))<|Dy<|Dq (AV.s ((d.files.getD (i-1) default).name))<|Dy<|Dq (AV.loc 1 0 0)<|Dy<|Dq (AV.s x1.name)<|Dy<|Dq (AV.b (!Op.bytesLess ((d.files.getD (i-1) default).name).toList x1.name.toList))<|Dy<|Dq (AV.b (!Op.bytesLess ((d.files.getD (i-1) default).name).toList x1.name.toList))<|Dq (AV.b (!Op.bytesLess ((d.files.getD (i-1) default).name).toList x1.name.toList))<|Aw.fin ?_
 cases c_7:(!Op.bytesLess ((d.files.getD (i-1) default).name).toList x1.name.toList)
 refine Cf<|Ah.skip<|Sq<|Rg<|Aq (AV.i .i64 (0:Int))<|Ad<|Ah.block ?_
 obtain ⟨R2,hR2⟩: ∃R,Oe i d x1 (i-0+1) 0=R:=⟨_,rfl⟩
 refine BN (fun ((kf2,k2):Nat×Nat)=>[(1,(AV.loc 0 0 0)),(3,(Ai i)),(4,(AV.loc 1 0 0)),(5,(Ai k2))]) (fun ((kf2,k2):Nat×Nat)=>⟨2,[(0,some ⟨30,2,[(AN.av d)]⟩),(1,some ⟨85,3,[(AV.st [(AV.s x1.name),(AV.i .i64 x1.content),(AV.i .i64 x1.time)])]⟩)]⟩) (fun ((kf2,k2):Nat×Nat)=>i-k2<kf2∧Oe i d x1 kf2 k2=R2) (fun ((kf2,k2):Nat×Nat)=>kf2) (i-0+1,0) ?_ ?_ ?_
 exact ⟨[0,1],⟨by decide,rfl,(A3.cons kr (A3.cons kr A3.nil)),(AM.cons (BM.f kr) (Ee (AM.cons (BM.f kr) (Ee AM.nil))))⟩,B4⟩
 exact ⟨od,hR2⟩
 rintro ⟨kf2,k2⟩ ⟨hi2,hE2⟩
 try dsimp only
 rcases kf2 with _|kf2
 exact absurd hi2 (Nat.not_lt_zero _)
 rw [Oe.eq_2] at hE2
 refine Sq<|Sq<|Rg<|Aq (Ai k2)<|Aq (Ai i)<|Aq (AV.b (decide (((k2:Nat):Int)<((i:Nat):Int))))<|Ad ?_
 cases c_8:decide (((k2:Nat):Int)<((i:Nat):Int))
 have k_8:=of_decide_eq_false c_8
 refine Cf<|Ah.exit ?_
 try simp only [c_8,Bl] at hE2
 subst hE2
 refine Rg<|Aq (Ai i)<|Ap (Ai (i+1)) (BH (i:=i) (m:=1) kr kr sd)<|Aq (Ai (i+1))<|Ad ?_
 try simp only [c_1,c_2,c_3,c_4,c_7,hR2,Bl] at hE1
 refine ⟨i+1,od,⟨od,hE1⟩,?_⟩
 exact ⟨[0],⟨by decide,rfl,(A3.cons kr A3.nil),(AM.cons (BM.f kr) (Ee AM.nil))⟩,B4⟩
 have k_8:=of_decide_eq_true c_8
 refine Ct<|Ah.skip<|Sq<|Ah.block<|Sq<|Ah.drawn A6 E5 8 kr le<|Dq (AV.loc 0 0 1)<|Dq ((AY 3 Ae.av) d.files)<|Dq (Ai k2)<|Dp (AV.pt (Ae.av (d.files.getD k2 default)).cells) (CP (k:=3) (nl:=false) (e:=85) (kk:= .i64) (A:=Ae.av) (xs:=d.files) (i:=k2) kr kr kr ⟨by kernel_rfl,by decide⟩ (getD_some sd))<|Dq (AV.pt ((Ae.av (d.files.getD k2 default)).cells.drop 2))<|Dq (AV.i .i64 ((d.files.getD k2 default).time))<|Dq (AV.loc 1 0 2)<|Dq (AV.i .i64 x1.time)<|Dq (AV.b (decide ((d.files.getD k2 default).time=x1.time)))<|Aw.fin ?_
 cases c_9:decide ((d.files.getD k2 default).time=x1.time)
 have k_9:=of_decide_eq_false c_9
 refine Cf<|Ah.skip<|Rg<|Aq (Ai k2)<|Ap (Ai (k2+1)) (BH (i:=k2) (m:=1) kr kr sd)<|Aq (Ai (k2+1))<|Ad ?_
 try simp only [c_8,c_9,Bl] at hE2
 refine ⟨(kf2,k2+1),od,⟨Ka,hE2⟩,?_⟩
 exact ⟨[0,1],⟨by decide,rfl,(A3.cons kr (A3.cons kr A3.nil)),(AM.cons (BM.f kr) (Ee (AM.cons (BM.f kr) (Ee AM.nil))))⟩,B4⟩
 have k_9:=of_decide_eq_true c_9
 refine Ct<|Sq<|Rg<|Aq (AV.b false)<|Ad<|Rt ?_
 try simp only [c_8,c_9,Bl] at hE2
 subst hE2
 try simp only [c_1,c_2,c_3,c_4,c_7,hR2,Bl] at hE1
 subst hE1
 exact Fb rfl (by simp only [L5,hR1,Bl])
 refine Ct<|Sq<|Rg<|Aq (AV.b false)<|Ad<|Rt ?_
 try simp only [c_1,c_2,c_3,c_4,c_7,Bl] at hE1
 subst hE1
 exact Fb rfl (by simp only [L5,hR1,Bl])
 refine Dn<|Dn<|Dn<|Dn<|Dn<|Dn<|Dn<|Dn<|Dn<|Dn<|Dn<|Dn<|Dn<|Dn<|Dq (AV.b true)<|Aw.fin<|Ct<|Sq<|Rg<|Aq (AV.b false)<|Ad<|Rt ?_
 try simp only [c_1,c_2,c_3,Bl] at hE1
 subst hE1
 exact Fb rfl (by simp only [L5,hR1,Bl])
 refine Dn<|Dn<|Dn<|Dn<|Dn<|Dn<|Dq (AV.b true)<|Dq (AV.b true)<|Dn<|Dn<|Dn<|Dn<|Dn<|Dn<|Dn<|Dn<|Dn<|Dn<|Dn<|Dn<|Dn<|Dn<|Dq (AV.b true)<|Aw.fin<|Ct<|Sq<|Rg<|Aq (AV.b false)<|Ad<|Rt ?_
 try simp only [c_1,c_2,Bl] at hE1
 subst hE1
 exact Fb rfl (by simp only [L5,hR1,Bl])
 refine Dn<|Dn<|Dn<|Dn<|Dq (AV.b true)<|Dq (AV.b true)<|Dn<|Dn<|Dn<|Dn<|Dn<|Dn<|Dq (AV.b true)<|Dq (AV.b true)<|Dn<|Dn<|Dn<|Dn<|Dn<|Dn<|Dn<|Dn<|Dn<|Dn<|Dn<|Dn<|Dn<|Dn<|Dq (AV.b true)<|Aw.fin<|Ct<|Sq<|Rg<|Aq (AV.b false)<|Ad<|Rt ?_
 try simp only [c_1,Bl] at hE1
 subst hE1
 exact Fb rfl (by simp only [L5,hR1,Bl])
 have hc1:decide (((i:Nat):Int)<((d.files.length:Nat):Int))=false:=decide_eq_false (by omega)
 refine Ah.cond (t:=false) (by rw [←hc1]<;>kernel_rfl) (Ah.exit ?_)
 rw [List.drop_eq_nil_of_le (hl1),Q4.eq_1] at hE1
 subst hE1
 refine Sq<|Rg<|Aq (AV.loc 0 0 0)<|Aq (AV.i .i64 d.clock)<|A4.sc0 (vs:=[(AV.i .i64 d.clock),(AV.i .i64 (0:Int)),(AV.i .i64 (1048576:Int))]) (r0:=(AV.b (Mq d.clock (0:Int) (1048576:Int)))) kr kr (IZ W d.clock (0:Int) (1048576:Int)) kr le<|Aq (AV.b (Mq d.clock (0:Int) (1048576:Int))) ?_
 cases c_10:(Mq d.clock (0:Int) (1048576:Int))
 refine An<|An<|An<|An<|Aq (AV.b false)<|Aq (AV.b false)<|Ad<|Rt ?_
 exact Fb rfl (by simp only [L5,hR1,c_10,Bl])
 refine Ay<|Aq (AV.loc 0 0 1)<|Ay<|Aq ((AY 3 Ae.av) d.files)<|Ay<|Ap (Ai d.files.length) (CA (k:=3) (nl:=false) (e:=85) (A:=Ae.av) (xs:=d.files) kr kr)<|Ay<|Aq (AV.b (decide (((d.files.length:Nat):Int)≤(64:Int))))<|Aq (AV.b (decide (((d.files.length:Nat):Int)≤(64:Int))))<|Aq (AV.b (decide (((d.files.length:Nat):Int)≤(64:Int))))<|Ad<|Rt ?_
 exact Fb rfl (by simp only [L5,hR1,c_10,Bl])
end
end Go.Lift
