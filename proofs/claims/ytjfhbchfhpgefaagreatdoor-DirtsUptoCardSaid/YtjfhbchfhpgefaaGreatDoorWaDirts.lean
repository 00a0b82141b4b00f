/-
  Lemmas of this claim: a layer over the kit's calls, contracts of the functions that the law reaches, and the law's row. No condition of its own.
-/
import Derived.Test.YtjfhbchfhpgefaaGreatDoorSaDirts
import Derived.Test.YtjfhbchfhpgefaaGreatDoorLbDirts
import Derived.Test.YtjfhbchfhpgefaaGreatDoorScDirts
set_option linter.unusedSimpArgs false
set_option linter.unusedVariables false
set_option linter.unusedSectionVars false
set_option maxRecDepth 20000
namespace Go.Lift
noncomputable section
open Go Go.RowKit
theorem gOf_av (g:A3):(MZ g).av=A3.av g:=by
 have h1:CP.av∘S8=A8.av:=rfl
 have h2:DG.av∘pOf=AD.av:=rfl
 simp only [B2.av,MZ,A3.av,Ag,List.map_map,h1,h2,Strs.av]
theorem Rg {W:World} {n N:Nat} {env:Ba} {h:Aa} {Q:DC} {id:Nat} {ops:Array Oper} (k:A1 Go.Proofs.Tryz.prog W Au n ops ops.toList env h (Q .normal)):A4 Go.Proofs.Tryz.prog W n N (.region id ops false) env h Q:=A4.region A5 k
theorem Vp (W:World) (s:ByteArray):Ah Go.Proofs.Tryz.prog W 199 [.s s] (.b (GU s)) []:=ER W s
theorem SR (W:World) {m0:Int} (hW:W.cell? ⟨0,0,none⟩=some (.int .i64 m0)) (s:ByteArray):Ah Go.Proofs.Tryz.prog W 164 [.s s] (.tup [.s (BA s).1,.i .i64 (BA s).2]) []:=PK W hW s
theorem QS (W:World) {m0:Int} (hW:W.cell? ⟨0,0,none⟩=some (.int .i64 m0)) (g:A3):Ah Go.Proofs.Tryz.prog W 104 [A3.av g] (.i .i64 (H9 g)) []:=by
 rw [←gOf_av];exact Tt W hW (MZ g)
theorem FV (W:World) (xs:List ByteArray) (sep:ByteArray) (hl:(C2 xs sep).size≤140737488355328) (hn:xs.length≤140737488355328):Ah Go.Proofs.Tryz.prog W 192 [Ag 1 AV.s xs,.s sep] (.s (C2 xs sep)) []:=
 TC W false xs sep (by have:(C2 xs sep).size=(Lib.join (xs.map (·.data.toList)) sep.data.toList).length:=by show (Lib.join (xs.map (·.data.toList)) sep.data.toList).toArray.size=_;rw [List.size_toArray]
                       omega) hn
theorem H0 (W:World) (xs:List ByteArray) (hn:xs.length≤1048576):Ah Go.Proofs.Tryz.prog W 154 [Ag 1 AV.s xs] (Ag 1 AV.s (Ik xs)) []:=by
 cases xs with
 |nil=>
  refine Cs (Xp W) fun w Y vs hG hvs=> ?_
  simp only [Ag,List.map_nil,Fx,H3,QW] at hvs
  obtain ⟨v1,r1,rfl,h1,rfl⟩:=hvs
  rcases h1 with ⟨_,rfl⟩|⟨_,a,c,rfl,_⟩
  ·refine (Go.Proofs.Tryz.slices_Clone_string_nil 0 0 w).mono ?_
   rintro e w' ⟨rfl,rfl⟩
   exact ⟨_,rfl,by simp only [Ik,Ag,List.map_nil,VR,CR];exact Or.inl ⟨trivial,trivial⟩,Below.refl _ _⟩
  ·refine (Go.Proofs.Tryz.slices_Clone_string_zero a c w).mono ?_
   rintro e w' ⟨v',rfl,⟨_,e2|⟨g,cap,cur,rfl,_⟩⟩,e3,e4⟩
   ·exact absurd e2.1 e3
   ·exact ⟨_,rfl,by simp only [Ik,Ag,List.map_nil,VR,CR];exact Or.inr ⟨trivial,_,_,rfl,Nat.zero_le _,by simp,trivial⟩,e4⟩
 |cons x r=>
  exact (Rj W (x::r) (by simp) (by omega)).freeze (AE.cast (x':=AV.own 0 0 (x::r).length) (y':=Ag 1 AV.s (x::r)) kr kr (VG (fun _=>rfl) (by decide) (by decide) (e:=9) (k:=1) (A:=AV.s) (xs:=x::r) (by rw [D4];rfl) rfl (by show (x::r).length≤281474976710656;omega)))
theorem KK {α:Type} [Inhabited α] {p:α→Bool}: ∀ {xs:List α},(∀i,i<xs.length→p (xs.getD i default)=false)→Ek p xs= -1
 | [],_=>rfl
 |x::xs,h=>by
  have ih:=KK (p:=p) (xs:=xs) (fun i hi=>by have:=h (i+1) (by simp;omega);simpa using this)
  have h0:=h 0 (by simp)
  simp only [List.getD_cons_zero] at h0
  simp only [Ek,ih,h0];rfl
theorem Pp {α:Type} [Inhabited α] {p:α→Bool}: ∀ {xs:List α} {m:Nat},m<xs.length→p (xs.getD m default)=true→(∀i,m<i→i<xs.length→p (xs.getD i default)=false)→Ek p xs=((m:Nat):Int)
 | [],m,hm,_,_=>by simp at hm
 |x::xs,0,hm,h0,h=>by
  have ih:=KK (p:=p) (xs:=xs) (fun i hi=>by have:=h (i+1) (by omega) (by simp;omega);simpa using this)
  simp only [List.getD_cons_zero] at h0
  simp only [Ek,ih,h0];rfl
 |x::xs,m+1,hm,h0,h=>by
  have ih:=Pp (p:=p) (xs:=xs) (m:=m) (by simpa using hm) (by simpa using h0) (fun i h1 h2=>by have:=h (i+1) (by omega) (by simp;omega);simpa using this)
  simp only [Ek,ih]
  rw [if_pos (by omega)]
  simp
theorem L5 (W:World) (rs:List A6) (hn:rs.length≤1048576):Ah Go.Proofs.Tryz.prog W 219 [(Ag 3 A6.av) rs] (.fn 236 [.pt [(Ag 3 A6.av) rs]]) []:=by
 refine A9 (fn:=Go.Proofs.Tryz.f219) Go.Proofs.Tryz.func219 rfl (en219 W) (ts:=[2]) rfl le<|Sq<|Rg<|Nn (AV.loc 0 0 0) ⟨31,1,[(Ag 3 A6.av) rs]⟩<|Aq AV.nilf<|Ad<|Sq<|Rg<|Aq (.fn 236 [.loc 0 0 0])<|Aq (.fn 236 [.loc 0 0 0])<|Ad<|Rt ?_
 exact ⟨Or.inr rfl,AE.f kr⟩
abbrev RS (rs:List A6):={x:Nat×Value // x.1<rs.length∧QX (rs.getD x.1 default).out x.2}
theorem RX {w1:World} {μ1:Mu} {n₀:Nat} (hn0:n₀≤w1.heap.size) (p:Addr) (rs:List A6) (hn:rs.length≤1048576) (hp:CR w1 μ1 (.pt [(Ag 3 A6.av) rs]) (.pointer (some p))):
  SeqStopsK Fence.wide 2 Go.Proofs.Tryz.prog 236 #[.pointer (some p)] (fun x:RS rs=> #[.int .i64 (x.1.1:Int),x.1.2]) (JT n₀ w1 μ1)
   (fun ys=>ys.map (·.1.1)=back rs.length rs.length) (fun pre=> ∃j,j≤rs.length∧pre.map (·.1.1)=back rs.length j) rs.length w1:=by
 intro l J Jx W hW hJ hJx hY h0
 have hS:EI w1 μ1 W:=EI.below hW
 refine callsIn_of_wp Go.Proofs.Tryz.func236 rfl trivial ?_ rfl
 have hcl:CR W (CT (Yb w1 μ1 W)) (.pt [(Ag 3 A6.av) rs]) (.pointer (some p)):=Cj hS.rd _ _ hp
 have hvs:Cy W (CT (Yb w1 μ1 W)) [.raw (.func (.yield l) #[] #[]),.pt [(Ag 3 A6.av) rs]] [Value.func (.yield l) #[] #[],.pointer (some p)]:=by
  simp only [Cy]
  exact ⟨_,_,rfl,by simp only [CR],_,_,rfl,hcl,rfl⟩
 have R0:Df 19 ⟨W,W,CT (Yb w1 μ1 W),0⟩ W (CT (Yb w1 μ1 W)) (BL 0 [.raw (.func (.yield l) #[] #[]),.pt [(Ag 3 A6.av) rs]]) ⟨0,[]⟩ {tmps:=[Value.func (.yield l) #[] #[],.pointer (some p)].toArray++Array.replicate 17 undef,defers:=[]} W:=
  DY (Eu.refl W) (fun g q=>q.2) (DA (Bx _ _ hvs) _) (by simp) rfl
 show Code.wpIn Fence.wide 2 _ _ _ {tmps:=[Value.func (.yield l) #[] #[],.pointer (some p)].toArray++Array.replicate 17 undef,defers:=[]} W
 refine wpIn_seq (Fp (Or.inl rfl) A5 kr (BJ.q ((Ag 3 A6.av) rs)<|BJ.p (Ai rs.length) (AN (k:=3) (nl:=false) (e:=56) (A:=A6.av) (xs:=rs) kr kr)<|BJ.p (AV.i .i64 (((rs.length:Nat):Int)-1)) (Hl (a:=((rs.length:Nat):Int)) (b:=1) kr kr (by omega) (by omega))<|BJ.q (AV.i .i64 (((rs.length:Nat):Int)-1))<|BJ.done (Q:=fun env=>env=[(3,AV.i .i64 (((rs.length:Nat):Int)-1)),(6,AV.i .i64 (((rs.length:Nat):Int)-1)),(5,Ai rs.length),(4,(Ag 3 A6.av) rs)]++BL 0 [.raw (.func (.yield l) #[] #[]),.pt [(Ag 3 A6.av) rs]]) rfl) R0 ?_)
 rintro env1 a1 rfl R1
 refine wpIn_block (wpIn_wide.2 (J8 (fun (k:Nat) (a:Act) (W2:World)=> ∃(pre:List (RS rs)) (j:Nat),j+k=rs.length∧pre.map (·.1.1)=back rs.length j∧J pre W2∧
  Df 19 ⟨W2,W2,CT (Yb w1 μ1 W2),0⟩ W2 (CT (Yb w1 μ1 W2)) [(3,AV.i .i64 (((rs.length:Nat):Int)-1-((j:Nat):Int))),(1,.pt [(Ag 3 A6.av) rs]),(0,.raw (.func (.yield l) #[] #[]))] ⟨0,[]⟩ a W2) (k0:=rs.length) ?_ ?_))
 ·refine ⟨[],0,by omega,rfl,h0,R1.sub ⟨?_,rfl,rfl,trivial⟩⟩
  show AV.i .i64 (((rs.length:Nat):Int)-1)=_
  rw [show (((rs.length:Nat):Int)-1-((0:Nat):Int))=(((rs.length:Nat):Int)-1) from by omega]
 rintro k a W2 ⟨pre,j,hjk,hpre,hJp,R⟩
 refine (wpIn_wide (n:=2)).1 ?_
 refine wpIn_seq (wpIn_seq (Fp (Or.inl rfl) A5 kr (BJ.q (AV.i .i64 (((rs.length:Nat):Int)-1-((j:Nat):Int)))<|BJ.q (AV.b (decide ((0:Int)≤(((rs.length:Nat):Int)-1-((j:Nat):Int)))))<|BJ.done (Q:=fun env=>env=[(8,(AV.b (decide ((0:Int)≤(((rs.length:Nat):Int)-1-((j:Nat):Int)))))),(7,AV.i .i64 (((rs.length:Nat):Int)-1-((j:Nat):Int))),(3,AV.i .i64 (((rs.length:Nat):Int)-1-((j:Nat):Int))),(1,.pt [(Ag 3 A6.av) rs]),(0,.raw (.func (.yield l) #[] #[]))]) rfl) R ?_))
 rintro env2 a2 rfl R2
 have h8:=R2.env 8
 change VR _ _ (AV.b _) (a2.eval (.tmp 8)) at h8
 simp only [VR,CR] at h8
 rcases Nat.eq_zero_or_pos k with hk0|hk0
 ·refine wpIn_cond (t:=false) (by rw [h8];congr 1;exact decide_eq_false (by omega)) (wpIn_exit ?_)
  refine ⟨R2.dfr,_,results_none rfl _ _ _,⟨_,rfl⟩,Or.inl ⟨pre,?_,hJp⟩⟩
  show pre.map (·.1.1)=_
  rw [hpre,show j=rs.length by omega]
 refine wpIn_cond (t:=true) (by rw [h8];congr 1;exact decide_eq_true (by omega)) (wpIn_skip ?_)
 obtain ⟨m,hm⟩: ∃m:Nat,m=rs.length-1-j:=⟨_,rfl⟩
 have hme:((rs.length:Nat):Int)-1-((j:Nat):Int)=((m:Nat):Int):=by omega
 have hml:m<rs.length:=by omega
 rw [hme] at R2
 refine wpIn_seq (wpIn_block (wpIn_seq (wpIn_region ?_)))
 show wpOpsIn _ _ _ _ _ ([0,1,2,3,4,5]++[6,7]) _ _
 refine GJ (os:=_) (Or.inl rfl) A5 kr [0,1,2,3,4,5] rfl (BJ.q (.raw (.func (.yield l) #[] #[]))<|BJ.q (Ai m)<|BJ.q ((Ag 3 A6.av) rs)<|BJ.q (Ai m)<|BJ.p (AV.pt (A6.av (rs.getD m default)).cells) (AQ (k:=3) (nl:=false) (e:=56) (kk:= .i64) (A:=A6.av) (xs:=rs) (i:=m) kr kr kr ⟨by kernel_rfl,by decide⟩ (getD_some hml))<|BJ.q (A6.av (rs.getD m default))<|BJ.done (Q:=fun env=>env=[(16,A6.av (rs.getD m default)),(15,AV.pt (A6.av (rs.getD m default)).cells),(14,Ai m),(13,(Ag 3 A6.av) rs),(12,Ai m),(11,.raw (.func (.yield l) #[] #[])),(8,(AV.b (decide ((0:Int)≤((m:Nat):Int))))),(7,Ai m),(3,Ai m),(1,.pt [(Ag 3 A6.av) rs]),(0,.raw (.func (.yield l) #[] #[]))]) rfl) R2 ?_
 rintro env3 a3 rfl R3
 have g0:=R3.env 11
 change VR _ _ (AV.raw _) (a3.eval (.tmp 11)) at g0
 simp only [VR] at g0
 have g1:=R3.env 12
 change VR _ _ (Ai m) (a3.eval (.tmp 12)) at g1
 simp only [VR,CR] at g1
 have g2:=R3.env 16
 change VR _ _ (A6.av (rs.getD m default)) (a3.eval (.tmp 16)) at g2
 generalize hv:a3.eval (.tmp 16)=v at g2
 have hgood:QX (rs.getD m default).out v:=by
  simp only [A6.av,Ag,VR,BO,CR] at g2
  obtain ⟨cs,rfl,v1,r1,e1,⟨rfl,hs1⟩,v2,r2,rfl,rfl,v3,r3,rfl,⟨rfl,_⟩,rfl⟩:=g2
  exact ⟨_,_,congrArg Value.agg (Array.ext' e1),hs1,Or.inl ⟨_,rfl⟩⟩
 have hpl:pre.length=j:=by have:=congrArg List.length hpre;simpa [back] using this
 obtain ⟨fn,tm,asg,bd,hy,hR⟩:=hY pre ⟨(m,v),hml,hgood⟩ W2 hJp (by omega)
 dsimp only at hy
 have hpre':(pre++[(⟨(m,v),hml,hgood⟩:RS rs)]).map (·.1.1)=back rs.length (j+1):=by
  rw [List.map_append,hpre,KH]
  show _++[m]=_
  rw [show m=rs.length-1-j by omega]
 have hrun: ∀(c:Operand→Value) (ty:TypeId) (pos:String) (af:Array Edge),c (.tmp 11)= .func (.yield l) #[] #[]→c (.tmp 12)= .int .i64 ((m:Nat):Int)→c (.tmp 16)=v→ ∀at':Array TypeId,
   (execOp c ⟨some 17,.call {callee:= .value (.tmp 11),args:= #[.tmp 12,.tmp 16],argTypes:=at'},ty,pos,af,none⟩).run Go.Proofs.Tryz.prog W2= .ok (.round l fn tm asg bd) W2:=by
  intro c ty pos af e1 e2 e3 at'
  unfold execOp
  simp only [resolve,e1,e2,e3,Deferred.ofValue,Sem.run_bind,Sem.run_pure,Result.andThen_ok,invoke,Array.empty_append,List.map_toArray,List.map_cons,List.map_nil,Array.append_empty]
  exact hy
 refine Hf rfl rfl (Qe (Or.inl rfl) kr (hrun _ _ _ _ g0 g1 hv _) hR ?_)
 rintro e W3 (⟨rfl,hJ3,hk3⟩|⟨rfl,hJx3⟩)
 ·refine ⟨_,rfl,?_⟩
  have R4:Df 19 ⟨W3,W3,CT (Yb w1 μ1 W3),0⟩ W3 (CT (Yb w1 μ1 W3)) [(17,.b true),(3,Ai m),(1,.pt [(Ag 3 A6.av) rs]),(0,.raw (.func (.yield l) #[] #[]))] ⟨0,[]⟩ (a3.put (some 17) (.bool true)) W3:=by
   have R3':=(R3.sub (env':=[(3,Ai m),(1,.pt [(Ag 3 A6.av) rs]),(0,.raw (.func (.yield l) #[] #[]))]) ⟨rfl,rfl,rfl,trivial⟩)
   have R5:Df 19 ⟨W3,W3,CT (Yb w1 μ1 W3),0⟩ W3 (CT (Yb w1 μ1 W3)) [(3,Ai m),(1,.pt [(Ag 3 A6.av) rs]),(0,.raw (.func (.yield l) #[] #[]))] ⟨0,[]⟩ a3 W3:=
    DY (Eu.refl W3) (fun g q=>q.2) (Re hk3 R3' kr) R3.sz R3.dfr
   exact E8 A5 R5 (G0.refl R5.sim).step (d:=some 17) (fun t ht=>by cases ht;decide) (x:= .b true) (by simp only [VR,CR])
  show wpOpsIn _ _ _ _ _ ([7]++[]) _ _
  refine GJ (os:=_) (Or.inl rfl) A5 kr [7] rfl (BJ.q (.b false)<|BJ.done (Q:=fun env=>env=[(18,.b false),(17,.b true),(3,Ai m),(1,.pt [(Ag 3 A6.av) rs]),(0,.raw (.func (.yield l) #[] #[]))]) rfl) R4 ?_
  rintro env5 a5 rfl R5
  have h18:=R5.env 18
  change VR _ _ (AV.b false) (a5.eval (.tmp 18)) at h18
  simp only [VR,CR] at h18
  refine wpIn_cond (t:=false) h18 (wpIn_skip ?_)
  refine Fp (Or.inl rfl) A5 kr (BJ.q (Ai m)<|BJ.p (AV.i .i64 (((m:Nat):Int)-1)) (Hl (a:=((m:Nat):Int)) (b:=1) kr kr (by omega) (by omega))<|BJ.q (AV.i .i64 (((m:Nat):Int)-1))<|BJ.done (Q:=fun env=>env=[(3,AV.i .i64 (((m:Nat):Int)-1)),(10,AV.i .i64 (((m:Nat):Int)-1)),(9,Ai m),(18,.b false),(17,.b true),(3,Ai m),(1,.pt [(Ag 3 A6.av) rs]),(0,.raw (.func (.yield l) #[] #[]))]) rfl) R5 ?_
  rintro env6 a6 rfl R6
  refine ⟨k-1,by omega,pre++[⟨(m,v),hml,hgood⟩],j+1,by omega,hpre',hJ3,R6.sub ⟨?_,rfl,rfl,trivial⟩⟩
  show AV.i .i64 (((m:Nat):Int)-1)=_
  rw [show ((rs.length:Nat):Int)-1-(((j+1:Nat):Nat):Int)=((m:Nat):Int)-1 from by omega]
 ·refine ⟨_,rfl,?_⟩
  have R5:Df 19 ⟨W3,W3,CT (fun _=>False),0⟩ W3 (CT (fun _=>False)) [(17,.b false)] ⟨0,[]⟩ (a3.put (some 17) (.bool false)) W3:=by
   have R5:Df 19 ⟨W3,W3,CT (fun _=>False),0⟩ W3 (CT (fun _=>False)) [] ⟨0,[]⟩ a3 W3:=
    DY (Eu.refl W3) (fun g q=>q.elim) (fun t=>by show VR _ _ .und _;simp only [VR]) R3.sz R3.dfr
   exact E8 A5 R5 (G0.refl R5.sim).step (d:=some 17) (fun t ht=>by cases ht;decide) (x:= .b false) (by simp only [VR,CR])
  show wpOpsIn _ _ _ _ _ ([7]++[]) _ _
  refine GJ (os:=_) (Or.inl rfl) A5 kr [7] rfl (BJ.q (.b true)<|BJ.done (Q:=fun env=>env=[(18,.b true),(17,.b false)]) rfl) R5 ?_
  rintro env5 a5 rfl R5
  have h18:=R5.env 18
  change VR _ _ (AV.b true) (a5.eval (.tmp 18)) at h18
  simp only [VR,CR] at h18
  refine wpIn_cond (t:=true) h18 (wpIn_ret ?_)
  exact ⟨R5.dfr,_,results_none rfl _ _ _,⟨_,rfl⟩,Or.inr ⟨_,⟨j+1,by omega,hpre'⟩,hJx3⟩⟩
theorem Vo (W:World) (rs:List A6) (out:ByteArray) (hn:rs.length≤1048576):Ah Go.Proofs.Tryz.prog W 193 [(Ag 3 A6.av) rs,.s out] (.i .i64 (AU rs out)) []:=by
 refine Cs (en193 W) fun w Y vs hG hvs=> ?_
 have hvs':Cy w (CT fun _=>False) [(Ag 3 A6.av) rs,.s out] vs:=Hg (fun a u ⟨h1,h2,h3⟩=>⟨h1,(fun q=>by rcases q with q|⟨_,_,q,_⟩;exact q;cases q),h3⟩) _ _ hvs
 have hvl:=Fd hvs'
 match vs,hvl,hvs' with
 | [v1,v2],_,hvs'=>
 refine (callsIn_wide (n:=3)).1 (callsIn_of_wp_marks Go.Proofs.Tryz.func193 rfl trivial ?_ rfl)
 have R0:Df 16 ⟨W,w,CT fun _=>False,0⟩ w (CT fun _=>False) (BL 0 [(Ag 3 A6.av) rs,.s out]) ⟨0,[]⟩ {tmps:=[v1,v2].toArray++Array.replicate 14 undef,defers:=[]} w:=
  DY hG (fun g q=>q.elim) (DA (Bx _ _ hvs') _) (by simp) rfl
 show Code.wpIn Fence.wide 3 _ _ _ {tmps:=[v1,v2].toArray++Array.replicate 14 undef,defers:=[]} w
 refine wpIn_seq (wpIn_mono (JI.region (N:=0) (W:=W) (Or.inl rfl) A5 kr (Q:=fun e env' h'=>e= .normal∧env'=[(4,AV.loc 1 0 0),(3,AV.loc 0 0 0)]++BL 0 [(Ag 3 A6.av) rs,.s out]∧h'=ON ⟨9,1,[AV.s out]⟩ ⟨3,1,[AV.i .i64 0]⟩)
  (Nn (AV.loc 0 0 0) ⟨9,1,[AV.s out]⟩<|Nn (AV.loc 1 0 0) ⟨3,1,[AV.i .i64 0]⟩<|Ad ⟨rfl,rfl,rfl⟩) _ _ _ _ _ rfl rfl R0) ?_)
 rintro e a1 w1 ⟨env1,h1,μ1,⟨rfl,rfl,rfl⟩,R1⟩
 refine wpIn_seq (wpIn_seq (wpIn_mono (JI.region (N:=0) (W:=W) (Or.inl rfl) A5 kr (Q:=fun e env' h'=>e= .normal∧env'=[(8,.fn 236 [.pt [(Ag 3 A6.av) rs]]),(7,(Ag 3 A6.av) rs),(4,AV.loc 1 0 0),(3,AV.loc 0 0 0)]++BL 0 [(Ag 3 A6.av) rs,.s out]∧h'=ON ⟨9,1,[AV.s out]⟩ ⟨3,1,[AV.i .i64 0]⟩)
  (Aq ((Ag 3 A6.av) rs)<|A1.sc0 (vs:=[(Ag 3 A6.av) rs]) (r0:= .fn 236 [.pt [(Ag 3 A6.av) rs]]) kr kr (L5 W rs hn) kr le<|Ad ⟨rfl,rfl,rfl⟩) _ _ _ _ _ rfl rfl R1) ?_))
 clear R1
 rintro e a1 w1 ⟨env1,h1,μ1,⟨rfl,rfl,rfl⟩,R1⟩
 have hs1:=R1.sim
 have hy1:μ1.Y=fun _=>False:=R1.snc.y
 have hf1:=R1.fresh
 have hown:=Ib (a:=⟨9,1,[AV.s out]⟩) (b:=⟨3,1,[AV.i .i64 0]⟩) hf1
 have hmut: ∀g,μ1.mut g→g<w1.heap.size∧w.heap.size≤g:=by
  rintro g (q|⟨id,sl,q,rfl⟩)
  ·rw [hy1] at q;exact q.elim
  ·exact ⟨(hs1.lt id sl q).2,(hs1.lt id sl q).1⟩
 have hn0:w.heap.size≤w1.heap.size:=hs1.below.size
 have hfn:=R1.env 8
 change VR w1 μ1 (.fn 236 [.pt [(Ag 3 A6.av) rs]]) (a1.tmps.getD 8 undef) at hfn
 simp only [VR,BO] at hfn
 obtain ⟨cs,hV,v8,r8,he8,hp8,rfl⟩:=hfn
 have hp8':=hp8
 simp only [CR] at hp8'
 obtain ⟨p,rfl,_⟩:=hp8'
 have hcs:cs= #[.pointer (some p)]:=Array.ext' he8
 subst hcs
 have hV8:a1.tmps.getD 8 undef= .func (.func 236) #[] #[.pointer (some p)]:=by
  rcases hV with ⟨_,h⟩|⟨h,_⟩
  ·exact h
  ·exact absurd h (by decide)
 have hl3:=R1.env 3
 change VR w1 μ1 (.loc 0 0 0) (a1.tmps.getD 3 undef) at hl3
 have hl4:=R1.env 4
 change VR w1 μ1 (.loc 1 0 0) (a1.tmps.getD 4 undef) at hl4
 have hloc: ∀(W:World) (id:Nat) (v:Value),VR w1 μ1 (.loc id 0 0) v→VR W μ1 (.loc id 0 0) v:=fun W id v h=>by simp only [VR] at h ⊢;exact h
 have hleave: ∀(D:Nat) (W3:World) (z:Int),w1.heap.size≤D→W3.heap[D]? =some (.deferred (some []))→E9 w μ1 W3 (ON ⟨9,1,[AV.s out]⟩ ⟨3,1,[AV.i .i64 z]⟩)→z=AU rs out→
   LeavesInM Fence.wide 3 Go.Proofs.Tryz.prog Go.Proofs.Tryz.f193 a1.tmps (fun e w'=> ∃v,e= .returned v∧VR w' (CT Y) (.i .i64 (AU rs out)) v∧Below w.heap.size w w') [{target:= .collected D,args:= #[]}] .returning W3:=by
  intro D W3 z hD hK hs hz
  refine TA (m:=16) A5 (env:=[(4,AV.loc 1 0 0)]) (x:= .i .i64 z) hK hs (Fr rfl rfl) (Ib hf1) hf1 (Nat.le_trans hn0 hD) (fun W t=> ?_) R1.sz kr (fun v W4 hv hb=>⟨v,rfl,?_,hb⟩)
  ·by_cases e:t=4
   ·subst e;exact hloc W 1 _ hl4
   ·unfold Ba.get;rw [Bk,if_neg e];show VR W μ1 .und _;simp only [VR]
  ·simp only [VR,CR] at hv ⊢;rw [←hz];exact hv
 refine wpIn_block (wpIn_rangeFunc_ownH (α:=RS rs) (F:=Fence.wide) rfl (by decide) (gf:=236) (lb:= #[.pointer (some p)]) hV8 trivial (fun args w=>en236 W args w)
  (RX (n₀:=w.heap.size) hn0 p rs hn hp8) JT.trans (JT.put hn0) (Below.refl _ _) (fun _=>rfl)
  (fun pre W2=>(∀x∈pre,(rs.getD x.1.1 default).out≠out)∧EI w1 μ1 W2∧E9 w μ1 W2 (ON ⟨9,1,[AV.s out]⟩ ⟨3,1,[AV.i .i64 0]⟩))
  (fun c pre W2=>c= .ret∧ ∃ini last,pre=ini++[last]∧(∀x∈ini,(rs.getD x.1.1 default).out≠out)∧(rs.getD last.1.1 default).out=out∧E9 w μ1 W2 (ON ⟨9,1,[AV.s out]⟩ ⟨3,1,[AV.i .i64 ((last.1.1:Nat):Int)]⟩))
  ?_ ?_ ⟨by simp,⟨Nat.le_refl _,fun _ _ _=>rfl⟩,hs1⟩
  (fun x a' W2=>a'.tmps.size=16∧a'.defers=[]∧a'.tmps.getD 3 undef=a1.tmps.getD 3 undef∧a'.tmps.getD 4 undef=a1.tmps.getD 4 undef∧a'.tmps.getD 5 undef= .int .i64 ((x.1.1:Nat):Int)∧
    ∃q,a'.tmps.getD 6 undef= .pointer (some q)∧w1.heap.size≤q.block∧AR W2 (CT fun _=>False) [.s (rs.getD x.1.1 default).out,.und,.und] q) ?_ ?_ ?_ ?_ ?_)
 ·
  rintro pre A A' row ⟨h1,h2,h3⟩ hg hr
  exact ⟨h1,h2.grown hg (fun r e=>(hr r e).1),h3.grown (Fr rfl rfl) (Ib hf1) hg (fun r e=>⟨Nat.le_trans hn0 (hr r e).1,(hr r e).2⟩)⟩
 ·rintro c pre A A' row ⟨h1,ini,last,h2,h3,h4,h5⟩ hg hr
  exact ⟨h1,ini,last,h2,h3,h4,h5.grown (Fr rfl rfl) (Ib hf1) hg (fun r e=>⟨Nat.le_trans hn0 (hr r e).1,(hr r e).2⟩)⟩
 ·rintro x a' _ A A' row ⟨h1,h2,h3,h4,h5,q,h6,h7,h8⟩ hg hr
  refine ⟨h1,h2,h3,h4,h5,q,h6,h7,EN (fun ad u ⟨k1,k2,k3⟩=>⟨?_,k2,k3⟩) _ _ h8⟩
  rw [DH (hg.block _ (HQ k1) (fun e=> ?_))]
  ·exact k1
  ·obtain ⟨_,o,ho,hc⟩:=hr _ e.symm
   unfold World.cell? at k1;rw [ho] at k1;cases o<;>simp_all [Go.Obj.isCells]
 ·
  rintro l pre ⟨⟨k,v⟩,hk,hgood⟩ W2 K ⟨hne,hS,hs⟩ hK
  have hgood':QX (rs.getD k default).out v:=hgood
  obtain ⟨t,y,rfl,hso,hy⟩:=hgood'
  have RA:Df 16 ⟨W2,W2,CT fun _=>False,0⟩ W2 (CT fun _=>False) [(10,.st [.s (rs.getD k default).out,.i .i64 t,.raw y]),(9,Ai k),(4,.raw (a1.tmps.getD 4 undef)),(3,.raw (a1.tmps.getD 3 undef))] ⟨0,[]⟩
    {tmps:=(a1.tmps.setIfInBounds 9 (.int .i64 ((k:Nat):Int))).setIfInBounds 10 (.agg #[.string (rs.getD k default).out,.int .i64 t,y]),defers:=[]} W2:=by
   have h16:=R1.sz
   change a1.tmps.size=16 at h16
   refine DY (Eu.refl W2) (fun g q=>q.elim) (fun q=> ?_) (by simpa using h16) rfl
   unfold Ba.get
   simp only [Bk]
   by_cases e10:q=10
   ·subst e10
    simp only [if_true,Option.getD_some,Array.getD_eq_getD_getElem?,Array.getElem?_setIfInBounds]
    rw [if_pos (by simp;omega)]
    simp only [Option.getD_some,VR,BO,CR]
    exact ⟨_,rfl,_,_,rfl,⟨rfl,hso⟩,_,_,rfl,rfl,_,_,rfl,rfl,rfl⟩
   ·by_cases e9:q=9
    ·subst e9
     rw [if_neg e10,if_pos rfl]
     simp only [Option.getD_some,Array.getD_eq_getD_getElem?,Array.getElem?_setIfInBounds]
     rw [if_neg (by decide),if_pos trivial,if_pos (by omega)]
     simp only [Option.getD_some,VR,CR]
    ·rw [if_neg e10,if_neg e9]
     have hq:((a1.tmps.setIfInBounds 9 (.int .i64 ((k:Nat):Int))).setIfInBounds 10 (.agg #[.string (rs.getD k default).out,.int .i64 t,y])).getD q undef=a1.tmps.getD q undef:=by
      simp only [Array.getD_eq_getD_getElem?,Array.getElem?_setIfInBounds]
      rw [if_neg (fun e=>e10 e.symm),if_neg (fun e=>e9 e.symm)]
     show VR _ _ _ (((a1.tmps.setIfInBounds 9 (.int .i64 ((k:Nat):Int))).setIfInBounds 10 (.agg #[.string (rs.getD k default).out,.int .i64 t,y])).getD q undef)
     rw [hq]
     by_cases e4:q=4
     ·subst e4;rw [if_pos rfl];simp only [Option.getD_some,VR]
     ·by_cases e3:q=3
      ·subst e3;rw [if_neg e4,if_pos rfl];simp only [Option.getD_some,VR]
      ·rw [if_neg e4,if_neg e3];show VR _ _ .und _;simp only [VR]
  refine (fun (hg: ∀tm':Array Value,tm'=(a1.tmps.setIfInBounds 9 (.int .i64 ((k:Nat):Int))).setIfInBounds 10 (.agg #[.string (rs.getD k default).out,.int .i64 t,y])→Code.wpIn _ _ _ _ _ {tmps:=tm',defers:=[]} W2)=>hg _ (by simp)) ?_
  rintro tm' rfl
  refine wpIn_mono (Q:=fun e a' w'=> ∃env' h' μ',(e= .normal∧env'=[(6,AV.loc 0 0 0),(5,Ai k),(10,.st [.s (rs.getD k default).out,.i .i64 t,.raw y]),(9,Ai k),(4,.raw (a1.tmps.getD 4 undef)),(3,.raw (a1.tmps.getD 3 undef))]∧h'=⟨1,[(0,some ⟨56,3,[.st [.s (rs.getD k default).out,.i .i64 t,.raw y]]⟩)]⟩)∧
   Df 16 ⟨W2,W2,CT fun _=>False,0⟩ W2 μ' env' h' a' w') ?_ ?_
  ·rcases hy with ⟨s,rfl⟩|⟨p',n',c',rfl⟩
   all_goals
    exact JI.seq (N:=0) (W:=W2) (Q:=fun e env' h'=>e= .normal∧env'=_∧h'=_) (JI.region (Or.inr ⟨l,rfl⟩) A5 kr (Aq (Ai k)<|Ad (JI.region (Or.inr ⟨l,rfl⟩) A5 kr
     (Nn (AV.loc 0 0 0) ⟨56,3,[.st [AV.s (⟨#[]⟩:ByteArray),.i .i64 0,AV.s (⟨#[]⟩:ByteArray)]]⟩<|Sp 0 ⟨56,3,[.st [.s (rs.getD k default).out,.i .i64 t,.raw _]]⟩<|Ad ⟨rfl,rfl,rfl⟩)))) _ _ _ _ _ rfl rfl RA
  ·rintro e a' W3 ⟨env',h',μ',⟨rfl,rfl,rfl⟩,RB⟩
   have hb:=RB.sim.below
   have hbn:Below w.heap.size W2 W3:=hb.mono (Nat.le_trans hn0 hS.1)
   have hkp:JT w.heap.size w1 μ1 W2 W3:=⟨hbn,fun g hg _=>hb.block g (Nat.lt_of_lt_of_le hg hS.1)⟩
   refine hK a' W3 ⟨hb.size,fun q o _ hq _=>(hb.block q (Array.getElem?_eq_some_iff.1 hq).1).trans hq⟩ hkp ⟨hne,hS.step hkp,hs.keep (Fr rfl rfl) hbn fun id sl e=>hb.block _ (hs.lt id sl e).2⟩ ?_
   have q3:=RB.env 3
   have q4:=RB.env 4
   have q5:=RB.env 5
   have q6:=RB.env 6
   change VR _ _ (.raw _) _ at q3
   change VR _ _ (.raw _) _ at q4
   change VR _ _ (Ai k) _ at q5
   change VR _ _ (AV.loc 0 0 0) _ at q6
   simp only [VR] at q3 q4
   simp only [VR,CR] at q5
   obtain ⟨q,e1,e2,e3⟩:=Us RB.sim (id:=0) rfl q6 (rs.getD k default).out _ rfl rfl
   exact ⟨RB.sz,RB.dfr,q3,q4,q5,q,e1,Nat.le_trans hS.1 e2,e3⟩
 ·
  rintro l pre x a' W2 hl hr ⟨hne,hS,hs⟩ ⟨h1,h2,h3,h4,h5,q,h6,h7,h8⟩ hlen
  have h8':CR W2 μ1 (.pt [.s (rs.getD x.1.1 default).out,.und,.und]) (.pointer (some q)):=by
   simp only [CR]
   refine ⟨q,rfl,?_⟩
   simp only [AR] at h8 ⊢
   obtain ⟨⟨u0,⟨k1,_,k3⟩,k4⟩,⟨u1,⟨k5,_,k7⟩,_⟩,⟨u2,⟨k9,_,k11⟩,_⟩,_⟩:=h8
   have hm: ¬μ1.mut q.block:=fun z=>by have:=(hmut _ z).1;omega
   exact ⟨⟨u0,⟨k1,hm,k3⟩,by simp only [CR] at k4 ⊢;exact k4⟩,⟨u1,⟨k5,by rw [Ga];exact hm,k7⟩,trivial⟩,⟨u2,⟨k9,by rw [Ga,Ga];exact hm,k11⟩,trivial⟩,trivial⟩
  have RB:Df 16 ⟨W,W2,μ1,2⟩ w μ1 [(6,.pt [.s (rs.getD x.1.1 default).out,.und,.und]),(5,Ai x.1.1),(4,AV.loc 1 0 0),(3,AV.loc 0 0 0)] (ON ⟨9,1,[AV.s out]⟩ ⟨3,1,[AV.i .i64 0]⟩) a' W2:=by
   refine ⟨R1.glob,⟨Gp.refl _ _,rfl,fun _ _ h=>h,hf1⟩,Nat.le_refl _,hs,fun t=> ?_,h1,h2,hf1⟩
   unfold Ba.get
   simp only [Bk]
   by_cases e6:t=6
   ·subst e6;rw [if_pos rfl,h6];exact CS _ _ h8'
   ·by_cases e5:t=5
    ·subst e5;rw [if_neg e6,if_pos rfl,h5];simp only [Option.getD_some,VR,CR]
    ·by_cases e4:t=4
     ·subst e4;rw [if_neg e6,if_neg e5,if_pos rfl,h4];exact hloc _ _ _ hl4
     ·by_cases e3:t=3
      ·subst e3;rw [if_neg e6,if_neg e5,if_neg e4,if_pos rfl,h3];exact hloc _ _ _ hl3
      ·rw [if_neg e6,if_neg e5,if_neg e4,if_neg e3];show VR _ _ .und _;simp only [VR]
  refine wpIn_block (wpIn_seq (Fp (Or.inr ⟨l,rfl⟩) A5 kr (BJ.q (.pt ([AV.s (rs.getD x.1.1 default).out,.und,.und].drop 0))<|BJ.q (.s (rs.getD x.1.1 default).out)<|BJ.q (.s out)<|BJ.q (.b (decide ((rs.getD x.1.1 default).out=out)))<|BJ.done (Q:=fun env=>env=[(14,.b (decide ((rs.getD x.1.1 default).out=out))),(13,.s out),(12,.s (rs.getD x.1.1 default).out),(11,.pt ([AV.s (rs.getD x.1.1 default).out,.und,.und].drop 0)),(6,.pt [.s (rs.getD x.1.1 default).out,.und,.und]),(5,Ai x.1.1),(4,AV.loc 1 0 0),(3,AV.loc 0 0 0)]) rfl) RB ?_))
  rintro env2 a2 rfl R2
  have h14:=R2.env 14
  change VR _ _ (AV.b _) (a2.eval (.tmp 14)) at h14
  simp only [VR,CR] at h14
  by_cases heq:(rs.getD x.1.1 default).out=out
  ·refine wpIn_cond (t:=true) (by rw [h14,decide_eq_true heq]) (wpIn_seq (wpIn_mono (JI.region (N:=2) (W:=W) (Or.inr ⟨l,rfl⟩) A5 kr (Q:=fun e env' h'=>e= .normal∧h'=ON ⟨9,1,[AV.s out]⟩ ⟨3,1,[AV.i .i64 ((x.1.1:Nat):Int)]⟩)
     (Aq (Ai x.1.1)<|Sp 1 ⟨3,1,[AV.i .i64 ((x.1.1:Nat):Int)]⟩<|Ad ⟨rfl,rfl⟩) _ _ _ _ _ rfl rfl R2) ?_))
   rintro e a3 W3 ⟨env3,h3,μ3,⟨rfl,rfl⟩,R3⟩
   have hmu:μ3=μ1:=VT R3 rfl (Kt _ _)
   subst hmu
   refine wpIn_ret ⟨⟨Q0 R3.snc.ext hs R3.sim fun _ _ e=>e,fun g o hg ho hc=> ?_⟩,rfl,pre,x,rfl,hne,heq,R3.sim⟩
   rw [R3.snc.ext.bl g (Array.getElem?_eq_some_iff.1 ho).1 (fun z=>by have:=(hmut _ z).1;omega)];exact ho
  ·refine wpIn_cond (t:=false) (by rw [h14,decide_eq_false heq]) (wpIn_skip ?_)
   refine ⟨KeepsFrom.refl _ _,⟨Below.refl _ _,fun _ _ _=>rfl⟩,fun z hz=> ?_,hS,hs⟩
   rcases List.mem_append.1 hz with hz|hz
   ·exact hne z hz
   ·simp only [List.mem_singleton] at hz;subst hz;exact heq
 ·
  rintro D xs W2 hD hxs ⟨hne,hS,hs⟩ hK
  have hz:(-1:Int)=AU rs out:=by
   refine (KK fun i hi=> ?_).symm
   have hm:i∈xs.map (·.1.1):=by
    have hxs':xs.map (·.1.1)=back rs.length rs.length:=hxs
    rw [hxs'];simp only [back,List.mem_map,List.mem_range];exact ⟨rs.length-1-i,by omega,by omega⟩
   obtain ⟨x,hx,rfl⟩:=List.mem_map.1 hm
   exact decide_eq_false (hne x hx)
  refine wpIn_seq (wpIn_region ?_)
  refine Hf rfl rfl (UD (env:=[(4,AV.loc 1 0 0)]) (h:=ON ⟨9,1,[AV.s out]⟩ ⟨3,1,[AV.i .i64 0]⟩) (h':=ON ⟨9,1,[AV.s out]⟩ ⟨3,1,[AV.i .i64 (-1)]⟩) (x:= .und) (Or.inl rfl) A5 kr kr rfl hs hf1 (fun t=> ?_) (fun W3 μ3 st=> ?_))
  ·by_cases e:t=4
   ·subst e;exact hloc _ _ _ hl4
   ·unfold Ba.get;rw [Bk,if_neg e];show VR _ _ .und _;simp only [VR]
  ·have R3:Df 16 ⟨W,W2,μ1,2⟩ w μ3 [] (ON ⟨9,1,[AV.s out]⟩ ⟨3,1,[AV.i .i64 (-1)]⟩) {tmps:=a1.tmps,defers:=[]} W3:=by
     have s0:OU ⟨W,W2,μ1,2⟩ μ1 W2:=⟨Gp.refl _ _,rfl,fun _ _ h=>h,hf1⟩
     refine ⟨R1.glob,s0.step st (Nat.le_refl _),Nat.le_refl _,st.sim,fun t=>by show VR _ _ .und _;simp only [VR],R1.sz,rfl,fun id hid=> ?_⟩
     cases e:μ3 id with
     |none=>rfl
     |some s=>exact absurd (st.dom id (hf1 id hid) (by rw [e];simp)).2 (by show ¬id<2;exact Nat.not_lt.2 hid)
   have hmu:μ3=μ1:=VT R3 rfl (Kt _ _)
   subst hmu
   refine wpIn_ret ?_
   have hD2:=(Array.getElem?_eq_some_iff.1 hK).1
   have hdf:a1.defers=[]:=R1.dfr
   show LeavesInM _ _ _ _ _ _ ({target:= .collected D,args:= #[]}::a1.defers) _ _
   rw [hdf]
   exact hleave D W3 (-1) hD (by rw [st.ext.bl D hD2 (fun z=>by have:=(hmut _ z).1;omega)];exact hK) st.sim hz
 ·rintro D c pre W2 hD ⟨j,hj,hmap⟩ ⟨rfl,ini,last,rfl,hini,hlast,hs'⟩ hK
  refine wpIn_ret ?_
  have hdf:a1.defers=[]:=R1.dfr
  show LeavesInM _ _ _ _ _ _ ({target:= .collected D,args:= #[]}::a1.defers) _ _
  rw [hdf]
  refine hleave D W2 _ hD hK hs' (Eq.symm (Pp last.2.1 (decide_eq_true hlast) fun i h1 h2=> ?_))
  obtain ⟨j',rfl⟩: ∃j',j=j'+1:=by
   cases j with
   |zero=>simp [back] at hmap
   |succ j'=>exact ⟨j',rfl⟩
  rw [KH,List.map_append] at hmap
  obtain ⟨e1,e2⟩:=List.append_inj' hmap rfl
  have e3:last.1.1=rs.length-1-j':=by simpa using e2
  have hm:i∈ini.map (·.1.1):=by
   rw [e1];simp only [back,List.mem_map,List.mem_range];exact ⟨rs.length-1-i,by omega,by omega⟩
  obtain ⟨x,hx,rfl⟩:=List.mem_map.1 hm
  exact decide_eq_false (hini x hx)
theorem L4 (W:World) (rs:List A2) (hn:rs.length≤1048576):Ah Go.Proofs.Tryz.prog W 194 [(Ag 3 A2.av) rs] (.fn 220 [.pt [(Ag 3 A2.av) rs]]) []:=by
 refine A9 (fn:=Go.Proofs.Tryz.f194) Go.Proofs.Tryz.func194 rfl (en194 W) (ts:=[2]) rfl le<|Sq<|Rg<|Nn (AV.loc 0 0 0) ⟨32,1,[(Ag 3 A2.av) rs]⟩<|Aq AV.nilf<|Ad<|Sq<|Rg<|Aq (.fn 220 [.loc 0 0 0])<|Aq (.fn 220 [.loc 0 0 0])<|Ad<|Rt ?_
 exact ⟨Or.inr rfl,AE.f kr⟩
abbrev RR (rs:List A2):={x:Nat×Value // x.1<rs.length∧QX (rs.getD x.1 default).out x.2}
theorem RW {w1:World} {μ1:Mu} {n₀:Nat} (hn0:n₀≤w1.heap.size) (p:Addr) (rs:List A2) (hn:rs.length≤1048576) (hp:CR w1 μ1 (.pt [(Ag 3 A2.av) rs]) (.pointer (some p))):
  SeqStopsK Fence.wide 2 Go.Proofs.Tryz.prog 220 #[.pointer (some p)] (fun x:RR rs=> #[.int .i64 (x.1.1:Int),x.1.2]) (JT n₀ w1 μ1)
   (fun ys=>ys.map (·.1.1)=back rs.length rs.length) (fun pre=> ∃j,j≤rs.length∧pre.map (·.1.1)=back rs.length j) rs.length w1:=by
 intro l J Jx W hW hJ hJx hY h0
 have hS:EI w1 μ1 W:=EI.below hW
 refine callsIn_of_wp Go.Proofs.Tryz.func220 rfl trivial ?_ rfl
 have hcl:CR W (CT (Yb w1 μ1 W)) (.pt [(Ag 3 A2.av) rs]) (.pointer (some p)):=Cj hS.rd _ _ hp
 have hvs:Cy W (CT (Yb w1 μ1 W)) [.raw (.func (.yield l) #[] #[]),.pt [(Ag 3 A2.av) rs]] [Value.func (.yield l) #[] #[],.pointer (some p)]:=by
  simp only [Cy]
  exact ⟨_,_,rfl,by simp only [CR],_,_,rfl,hcl,rfl⟩
 have R0:Df 19 ⟨W,W,CT (Yb w1 μ1 W),0⟩ W (CT (Yb w1 μ1 W)) (BL 0 [.raw (.func (.yield l) #[] #[]),.pt [(Ag 3 A2.av) rs]]) ⟨0,[]⟩ {tmps:=[Value.func (.yield l) #[] #[],.pointer (some p)].toArray++Array.replicate 17 undef,defers:=[]} W:=
  DY (Eu.refl W) (fun g q=>q.2) (DA (Bx _ _ hvs) _) (by simp) rfl
 show Code.wpIn Fence.wide 2 _ _ _ {tmps:=[Value.func (.yield l) #[] #[],.pointer (some p)].toArray++Array.replicate 17 undef,defers:=[]} W
 refine wpIn_seq (Fp (Or.inl rfl) A5 kr (BJ.q ((Ag 3 A2.av) rs)<|BJ.p (Ai rs.length) (AN (k:=3) (nl:=false) (e:=61) (A:=A2.av) (xs:=rs) kr kr)<|BJ.p (AV.i .i64 (((rs.length:Nat):Int)-1)) (Hl (a:=((rs.length:Nat):Int)) (b:=1) kr kr (by omega) (by omega))<|BJ.q (AV.i .i64 (((rs.length:Nat):Int)-1))<|BJ.done (Q:=fun env=>env=[(3,AV.i .i64 (((rs.length:Nat):Int)-1)),(6,AV.i .i64 (((rs.length:Nat):Int)-1)),(5,Ai rs.length),(4,(Ag 3 A2.av) rs)]++BL 0 [.raw (.func (.yield l) #[] #[]),.pt [(Ag 3 A2.av) rs]]) rfl) R0 ?_)
 rintro env1 a1 rfl R1
 refine wpIn_block (wpIn_wide.2 (J8 (fun (k:Nat) (a:Act) (W2:World)=> ∃(pre:List (RR rs)) (j:Nat),j+k=rs.length∧pre.map (·.1.1)=back rs.length j∧J pre W2∧
  Df 19 ⟨W2,W2,CT (Yb w1 μ1 W2),0⟩ W2 (CT (Yb w1 μ1 W2)) [(3,AV.i .i64 (((rs.length:Nat):Int)-1-((j:Nat):Int))),(1,.pt [(Ag 3 A2.av) rs]),(0,.raw (.func (.yield l) #[] #[]))] ⟨0,[]⟩ a W2) (k0:=rs.length) ?_ ?_))
 ·refine ⟨[],0,by omega,rfl,h0,R1.sub ⟨?_,rfl,rfl,trivial⟩⟩
  show AV.i .i64 (((rs.length:Nat):Int)-1)=_
  rw [show (((rs.length:Nat):Int)-1-((0:Nat):Int))=(((rs.length:Nat):Int)-1) from by omega]
 rintro k a W2 ⟨pre,j,hjk,hpre,hJp,R⟩
 refine (wpIn_wide (n:=2)).1 ?_
 refine wpIn_seq (wpIn_seq (Fp (Or.inl rfl) A5 kr (BJ.q (AV.i .i64 (((rs.length:Nat):Int)-1-((j:Nat):Int)))<|BJ.q (AV.b (decide ((0:Int)≤(((rs.length:Nat):Int)-1-((j:Nat):Int)))))<|BJ.done (Q:=fun env=>env=[(8,(AV.b (decide ((0:Int)≤(((rs.length:Nat):Int)-1-((j:Nat):Int)))))),(7,AV.i .i64 (((rs.length:Nat):Int)-1-((j:Nat):Int))),(3,AV.i .i64 (((rs.length:Nat):Int)-1-((j:Nat):Int))),(1,.pt [(Ag 3 A2.av) rs]),(0,.raw (.func (.yield l) #[] #[]))]) rfl) R ?_))
 rintro env2 a2 rfl R2
 have h8:=R2.env 8
 change VR _ _ (AV.b _) (a2.eval (.tmp 8)) at h8
 simp only [VR,CR] at h8
 rcases Nat.eq_zero_or_pos k with hk0|hk0
 ·refine wpIn_cond (t:=false) (by rw [h8];congr 1;exact decide_eq_false (by omega)) (wpIn_exit ?_)
  refine ⟨R2.dfr,_,results_none rfl _ _ _,⟨_,rfl⟩,Or.inl ⟨pre,?_,hJp⟩⟩
  show pre.map (·.1.1)=_
  rw [hpre,show j=rs.length by omega]
 refine wpIn_cond (t:=true) (by rw [h8];congr 1;exact decide_eq_true (by omega)) (wpIn_skip ?_)
 obtain ⟨m,hm⟩: ∃m:Nat,m=rs.length-1-j:=⟨_,rfl⟩
 have hme:((rs.length:Nat):Int)-1-((j:Nat):Int)=((m:Nat):Int):=by omega
 have hml:m<rs.length:=by omega
 rw [hme] at R2
 refine wpIn_seq (wpIn_block (wpIn_seq (wpIn_region ?_)))
 show wpOpsIn _ _ _ _ _ ([0,1,2,3,4,5]++[6,7]) _ _
 refine GJ (os:=_) (Or.inl rfl) A5 kr [0,1,2,3,4,5] rfl (BJ.q (.raw (.func (.yield l) #[] #[]))<|BJ.q (Ai m)<|BJ.q ((Ag 3 A2.av) rs)<|BJ.q (Ai m)<|BJ.p (AV.pt (A2.av (rs.getD m default)).cells) (AQ (k:=3) (nl:=false) (e:=61) (kk:= .i64) (A:=A2.av) (xs:=rs) (i:=m) kr kr kr ⟨by kernel_rfl,by decide⟩ (getD_some hml))<|BJ.q (A2.av (rs.getD m default))<|BJ.done (Q:=fun env=>env=[(16,A2.av (rs.getD m default)),(15,AV.pt (A2.av (rs.getD m default)).cells),(14,Ai m),(13,(Ag 3 A2.av) rs),(12,Ai m),(11,.raw (.func (.yield l) #[] #[])),(8,(AV.b (decide ((0:Int)≤((m:Nat):Int))))),(7,Ai m),(3,Ai m),(1,.pt [(Ag 3 A2.av) rs]),(0,.raw (.func (.yield l) #[] #[]))]) rfl) R2 ?_
 rintro env3 a3 rfl R3
 have g0:=R3.env 11
 change VR _ _ (AV.raw _) (a3.eval (.tmp 11)) at g0
 simp only [VR] at g0
 have g1:=R3.env 12
 change VR _ _ (Ai m) (a3.eval (.tmp 12)) at g1
 simp only [VR,CR] at g1
 have g2:=R3.env 16
 change VR _ _ (A2.av (rs.getD m default)) (a3.eval (.tmp 16)) at g2
 generalize hv:a3.eval (.tmp 16)=v at g2
 have hgood:QX (rs.getD m default).out v:=by
  simp only [A2.av,Ag,VR,BO,CR] at g2
  obtain ⟨cs,rfl,v1,r1,e1,⟨rfl,hs1⟩,v2,r2,rfl,rfl,v3,r3,rfl,h3,rfl⟩:=g2
  rcases h3 with ⟨_,rfl⟩|⟨_,a,c,rfl,_⟩<;>exact ⟨_,_,congrArg Value.agg (Array.ext' e1),hs1,Or.inr ⟨_,_,_,rfl⟩⟩
 have hpl:pre.length=j:=by have:=congrArg List.length hpre;simpa [back] using this
 obtain ⟨fn,tm,asg,bd,hy,hR⟩:=hY pre ⟨(m,v),hml,hgood⟩ W2 hJp (by omega)
 dsimp only at hy
 have hpre':(pre++[(⟨(m,v),hml,hgood⟩:RR rs)]).map (·.1.1)=back rs.length (j+1):=by
  rw [List.map_append,hpre,KH]
  show _++[m]=_
  rw [show m=rs.length-1-j by omega]
 have hrun: ∀(c:Operand→Value) (ty:TypeId) (pos:String) (af:Array Edge),c (.tmp 11)= .func (.yield l) #[] #[]→c (.tmp 12)= .int .i64 ((m:Nat):Int)→c (.tmp 16)=v→ ∀at':Array TypeId,
   (execOp c ⟨some 17,.call {callee:= .value (.tmp 11),args:= #[.tmp 12,.tmp 16],argTypes:=at'},ty,pos,af,none⟩).run Go.Proofs.Tryz.prog W2= .ok (.round l fn tm asg bd) W2:=by
  intro c ty pos af e1 e2 e3 at'
  unfold execOp
  simp only [resolve,e1,e2,e3,Deferred.ofValue,Sem.run_bind,Sem.run_pure,Result.andThen_ok,invoke,Array.empty_append,List.map_toArray,List.map_cons,List.map_nil,Array.append_empty]
  exact hy
 refine Hf rfl rfl (Qe (Or.inl rfl) kr (hrun _ _ _ _ g0 g1 hv _) hR ?_)
 rintro e W3 (⟨rfl,hJ3,hk3⟩|⟨rfl,hJx3⟩)
 ·refine ⟨_,rfl,?_⟩
  have R4:Df 19 ⟨W3,W3,CT (Yb w1 μ1 W3),0⟩ W3 (CT (Yb w1 μ1 W3)) [(17,.b true),(3,Ai m),(1,.pt [(Ag 3 A2.av) rs]),(0,.raw (.func (.yield l) #[] #[]))] ⟨0,[]⟩ (a3.put (some 17) (.bool true)) W3:=by
   have R3':=(R3.sub (env':=[(3,Ai m),(1,.pt [(Ag 3 A2.av) rs]),(0,.raw (.func (.yield l) #[] #[]))]) ⟨rfl,rfl,rfl,trivial⟩)
   have R5:Df 19 ⟨W3,W3,CT (Yb w1 μ1 W3),0⟩ W3 (CT (Yb w1 μ1 W3)) [(3,Ai m),(1,.pt [(Ag 3 A2.av) rs]),(0,.raw (.func (.yield l) #[] #[]))] ⟨0,[]⟩ a3 W3:=
    DY (Eu.refl W3) (fun g q=>q.2) (Re hk3 R3' kr) R3.sz R3.dfr
   exact E8 A5 R5 (G0.refl R5.sim).step (d:=some 17) (fun t ht=>by cases ht;decide) (x:= .b true) (by simp only [VR,CR])
  show wpOpsIn _ _ _ _ _ ([7]++[]) _ _
  refine GJ (os:=_) (Or.inl rfl) A5 kr [7] rfl (BJ.q (.b false)<|BJ.done (Q:=fun env=>env=[(18,.b false),(17,.b true),(3,Ai m),(1,.pt [(Ag 3 A2.av) rs]),(0,.raw (.func (.yield l) #[] #[]))]) rfl) R4 ?_
  rintro env5 a5 rfl R5
  have h18:=R5.env 18
  change VR _ _ (AV.b false) (a5.eval (.tmp 18)) at h18
  simp only [VR,CR] at h18
  refine wpIn_cond (t:=false) h18 (wpIn_skip ?_)
  refine Fp (Or.inl rfl) A5 kr (BJ.q (Ai m)<|BJ.p (AV.i .i64 (((m:Nat):Int)-1)) (Hl (a:=((m:Nat):Int)) (b:=1) kr kr (by omega) (by omega))<|BJ.q (AV.i .i64 (((m:Nat):Int)-1))<|BJ.done (Q:=fun env=>env=[(3,AV.i .i64 (((m:Nat):Int)-1)),(10,AV.i .i64 (((m:Nat):Int)-1)),(9,Ai m),(18,.b false),(17,.b true),(3,Ai m),(1,.pt [(Ag 3 A2.av) rs]),(0,.raw (.func (.yield l) #[] #[]))]) rfl) R5 ?_
  rintro env6 a6 rfl R6
  refine ⟨k-1,by omega,pre++[⟨(m,v),hml,hgood⟩],j+1,by omega,hpre',hJ3,R6.sub ⟨?_,rfl,rfl,trivial⟩⟩
  show AV.i .i64 (((m:Nat):Int)-1)=_
  rw [show ((rs.length:Nat):Int)-1-(((j+1:Nat):Nat):Int)=((m:Nat):Int)-1 from by omega]
 ·refine ⟨_,rfl,?_⟩
  have R5:Df 19 ⟨W3,W3,CT (fun _=>False),0⟩ W3 (CT (fun _=>False)) [(17,.b false)] ⟨0,[]⟩ (a3.put (some 17) (.bool false)) W3:=by
   have R5:Df 19 ⟨W3,W3,CT (fun _=>False),0⟩ W3 (CT (fun _=>False)) [] ⟨0,[]⟩ a3 W3:=
    DY (Eu.refl W3) (fun g q=>q.elim) (fun t=>by show VR _ _ .und _;simp only [VR]) R3.sz R3.dfr
   exact E8 A5 R5 (G0.refl R5.sim).step (d:=some 17) (fun t ht=>by cases ht;decide) (x:= .b false) (by simp only [VR,CR])
  show wpOpsIn _ _ _ _ _ ([7]++[]) _ _
  refine GJ (os:=_) (Or.inl rfl) A5 kr [7] rfl (BJ.q (.b true)<|BJ.done (Q:=fun env=>env=[(18,.b true),(17,.b false)]) rfl) R5 ?_
  rintro env5 a5 rfl R5
  have h18:=R5.env 18
  change VR _ _ (AV.b true) (a5.eval (.tmp 18)) at h18
  simp only [VR,CR] at h18
  refine wpIn_cond (t:=true) h18 (wpIn_ret ?_)
  exact ⟨R5.dfr,_,results_none rfl _ _ _,⟨_,rfl⟩,Or.inr ⟨_,⟨j+1,by omega,hpre'⟩,hJx3⟩⟩
theorem QR (W:World) (rs:List A2) (out:ByteArray) (hn:rs.length≤1048576):Ah Go.Proofs.Tryz.prog W 147 [(Ag 3 A2.av) rs,.s out] (.i .i64 (Ax rs out)) []:=by
 refine Cs (en147 W) fun w Y vs hG hvs=> ?_
 have hvs':Cy w (CT fun _=>False) [(Ag 3 A2.av) rs,.s out] vs:=Hg (fun a u ⟨h1,h2,h3⟩=>⟨h1,(fun q=>by rcases q with q|⟨_,_,q,_⟩;exact q;cases q),h3⟩) _ _ hvs
 have hvl:=Fd hvs'
 match vs,hvl,hvs' with
 | [v1,v2],_,hvs'=>
 refine (callsIn_wide (n:=3)).1 (callsIn_of_wp_marks Go.Proofs.Tryz.func147 rfl trivial ?_ rfl)
 have R0:Df 16 ⟨W,w,CT fun _=>False,0⟩ w (CT fun _=>False) (BL 0 [(Ag 3 A2.av) rs,.s out]) ⟨0,[]⟩ {tmps:=[v1,v2].toArray++Array.replicate 14 undef,defers:=[]} w:=
  DY hG (fun g q=>q.elim) (DA (Bx _ _ hvs') _) (by simp) rfl
 show Code.wpIn Fence.wide 3 _ _ _ {tmps:=[v1,v2].toArray++Array.replicate 14 undef,defers:=[]} w
 refine wpIn_seq (wpIn_mono (JI.region (N:=0) (W:=W) (Or.inl rfl) A5 kr (Q:=fun e env' h'=>e= .normal∧env'=[(4,AV.loc 1 0 0),(3,AV.loc 0 0 0)]++BL 0 [(Ag 3 A2.av) rs,.s out]∧h'=ON ⟨9,1,[AV.s out]⟩ ⟨3,1,[AV.i .i64 0]⟩)
  (Nn (AV.loc 0 0 0) ⟨9,1,[AV.s out]⟩<|Nn (AV.loc 1 0 0) ⟨3,1,[AV.i .i64 0]⟩<|Ad ⟨rfl,rfl,rfl⟩) _ _ _ _ _ rfl rfl R0) ?_)
 rintro e a1 w1 ⟨env1,h1,μ1,⟨rfl,rfl,rfl⟩,R1⟩
 refine wpIn_seq (wpIn_seq (wpIn_mono (JI.region (N:=0) (W:=W) (Or.inl rfl) A5 kr (Q:=fun e env' h'=>e= .normal∧env'=[(8,.fn 220 [.pt [(Ag 3 A2.av) rs]]),(7,(Ag 3 A2.av) rs),(4,AV.loc 1 0 0),(3,AV.loc 0 0 0)]++BL 0 [(Ag 3 A2.av) rs,.s out]∧h'=ON ⟨9,1,[AV.s out]⟩ ⟨3,1,[AV.i .i64 0]⟩)
  (Aq ((Ag 3 A2.av) rs)<|A1.sc0 (vs:=[(Ag 3 A2.av) rs]) (r0:= .fn 220 [.pt [(Ag 3 A2.av) rs]]) kr kr (L4 W rs hn) kr le<|Ad ⟨rfl,rfl,rfl⟩) _ _ _ _ _ rfl rfl R1) ?_))
 clear R1
 rintro e a1 w1 ⟨env1,h1,μ1,⟨rfl,rfl,rfl⟩,R1⟩
 have hs1:=R1.sim
 have hy1:μ1.Y=fun _=>False:=R1.snc.y
 have hf1:=R1.fresh
 have hown:=Ib (a:=⟨9,1,[AV.s out]⟩) (b:=⟨3,1,[AV.i .i64 0]⟩) hf1
 have hmut: ∀g,μ1.mut g→g<w1.heap.size∧w.heap.size≤g:=by
  rintro g (q|⟨id,sl,q,rfl⟩)
  ·rw [hy1] at q;exact q.elim
  ·exact ⟨(hs1.lt id sl q).2,(hs1.lt id sl q).1⟩
 have hn0:w.heap.size≤w1.heap.size:=hs1.below.size
 have hfn:=R1.env 8
 change VR w1 μ1 (.fn 220 [.pt [(Ag 3 A2.av) rs]]) (a1.tmps.getD 8 undef) at hfn
 simp only [VR,BO] at hfn
 obtain ⟨cs,hV,v8,r8,he8,hp8,rfl⟩:=hfn
 have hp8':=hp8
 simp only [CR] at hp8'
 obtain ⟨p,rfl,_⟩:=hp8'
 have hcs:cs= #[.pointer (some p)]:=Array.ext' he8
 subst hcs
 have hV8:a1.tmps.getD 8 undef= .func (.func 220) #[] #[.pointer (some p)]:=by
  rcases hV with ⟨_,h⟩|⟨h,_⟩
  ·exact h
  ·exact absurd h (by decide)
 have hl3:=R1.env 3
 change VR w1 μ1 (.loc 0 0 0) (a1.tmps.getD 3 undef) at hl3
 have hl4:=R1.env 4
 change VR w1 μ1 (.loc 1 0 0) (a1.tmps.getD 4 undef) at hl4
 have hloc: ∀(W:World) (id:Nat) (v:Value),VR w1 μ1 (.loc id 0 0) v→VR W μ1 (.loc id 0 0) v:=fun W id v h=>by simp only [VR] at h ⊢;exact h
 have hleave: ∀(D:Nat) (W3:World) (z:Int),w1.heap.size≤D→W3.heap[D]? =some (.deferred (some []))→E9 w μ1 W3 (ON ⟨9,1,[AV.s out]⟩ ⟨3,1,[AV.i .i64 z]⟩)→z=Ax rs out→
   LeavesInM Fence.wide 3 Go.Proofs.Tryz.prog Go.Proofs.Tryz.f147 a1.tmps (fun e w'=> ∃v,e= .returned v∧VR w' (CT Y) (.i .i64 (Ax rs out)) v∧Below w.heap.size w w') [{target:= .collected D,args:= #[]}] .returning W3:=by
  intro D W3 z hD hK hs hz
  refine TA (m:=16) A5 (env:=[(4,AV.loc 1 0 0)]) (x:= .i .i64 z) hK hs (Fr rfl rfl) (Ib hf1) hf1 (Nat.le_trans hn0 hD) (fun W t=> ?_) R1.sz kr (fun v W4 hv hb=>⟨v,rfl,?_,hb⟩)
  ·by_cases e:t=4
   ·subst e;exact hloc W 1 _ hl4
   ·unfold Ba.get;rw [Bk,if_neg e];show VR W μ1 .und _;simp only [VR]
  ·simp only [VR,CR] at hv ⊢;rw [←hz];exact hv
 refine wpIn_block (wpIn_rangeFunc_ownH (α:=RR rs) (F:=Fence.wide) rfl (by decide) (gf:=220) (lb:= #[.pointer (some p)]) hV8 trivial (fun args w=>en220 W args w)
  (RW (n₀:=w.heap.size) hn0 p rs hn hp8) JT.trans (JT.put hn0) (Below.refl _ _) (fun _=>rfl)
  (fun pre W2=>(∀x∈pre,(rs.getD x.1.1 default).out≠out)∧EI w1 μ1 W2∧E9 w μ1 W2 (ON ⟨9,1,[AV.s out]⟩ ⟨3,1,[AV.i .i64 0]⟩))
  (fun c pre W2=>c= .ret∧ ∃ini last,pre=ini++[last]∧(∀x∈ini,(rs.getD x.1.1 default).out≠out)∧(rs.getD last.1.1 default).out=out∧E9 w μ1 W2 (ON ⟨9,1,[AV.s out]⟩ ⟨3,1,[AV.i .i64 ((last.1.1:Nat):Int)]⟩))
  ?_ ?_ ⟨by simp,⟨Nat.le_refl _,fun _ _ _=>rfl⟩,hs1⟩
  (fun x a' W2=>a'.tmps.size=16∧a'.defers=[]∧a'.tmps.getD 3 undef=a1.tmps.getD 3 undef∧a'.tmps.getD 4 undef=a1.tmps.getD 4 undef∧a'.tmps.getD 5 undef= .int .i64 ((x.1.1:Nat):Int)∧
    ∃q,a'.tmps.getD 6 undef= .pointer (some q)∧w1.heap.size≤q.block∧AR W2 (CT fun _=>False) [.s (rs.getD x.1.1 default).out,.und,.und] q) ?_ ?_ ?_ ?_ ?_)
 ·
  rintro pre A A' row ⟨h1,h2,h3⟩ hg hr
  exact ⟨h1,h2.grown hg (fun r e=>(hr r e).1),h3.grown (Fr rfl rfl) (Ib hf1) hg (fun r e=>⟨Nat.le_trans hn0 (hr r e).1,(hr r e).2⟩)⟩
 ·rintro c pre A A' row ⟨h1,ini,last,h2,h3,h4,h5⟩ hg hr
  exact ⟨h1,ini,last,h2,h3,h4,h5.grown (Fr rfl rfl) (Ib hf1) hg (fun r e=>⟨Nat.le_trans hn0 (hr r e).1,(hr r e).2⟩)⟩
 ·rintro x a' _ A A' row ⟨h1,h2,h3,h4,h5,q,h6,h7,h8⟩ hg hr
  refine ⟨h1,h2,h3,h4,h5,q,h6,h7,EN (fun ad u ⟨k1,k2,k3⟩=>⟨?_,k2,k3⟩) _ _ h8⟩
  rw [DH (hg.block _ (HQ k1) (fun e=> ?_))]
  ·exact k1
  ·obtain ⟨_,o,ho,hc⟩:=hr _ e.symm
   unfold World.cell? at k1;rw [ho] at k1;cases o<;>simp_all [Go.Obj.isCells]
 ·
  rintro l pre ⟨⟨k,v⟩,hk,hgood⟩ W2 K ⟨hne,hS,hs⟩ hK
  have hgood':QX (rs.getD k default).out v:=hgood
  obtain ⟨t,y,rfl,hso,hy⟩:=hgood'
  have RA:Df 16 ⟨W2,W2,CT fun _=>False,0⟩ W2 (CT fun _=>False) [(10,.st [.s (rs.getD k default).out,.i .i64 t,.raw y]),(9,Ai k),(4,.raw (a1.tmps.getD 4 undef)),(3,.raw (a1.tmps.getD 3 undef))] ⟨0,[]⟩
    {tmps:=(a1.tmps.setIfInBounds 9 (.int .i64 ((k:Nat):Int))).setIfInBounds 10 (.agg #[.string (rs.getD k default).out,.int .i64 t,y]),defers:=[]} W2:=by
   have h16:=R1.sz
   change a1.tmps.size=16 at h16
   refine DY (Eu.refl W2) (fun g q=>q.elim) (fun q=> ?_) (by simpa using h16) rfl
   unfold Ba.get
   simp only [Bk]
   by_cases e10:q=10
   ·subst e10
    simp only [if_true,Option.getD_some,Array.getD_eq_getD_getElem?,Array.getElem?_setIfInBounds]
    rw [if_pos (by simp;omega)]
    simp only [Option.getD_some,VR,BO,CR]
    exact ⟨_,rfl,_,_,rfl,⟨rfl,hso⟩,_,_,rfl,rfl,_,_,rfl,rfl,rfl⟩
   ·by_cases e9:q=9
    ·subst e9
     rw [if_neg e10,if_pos rfl]
     simp only [Option.getD_some,Array.getD_eq_getD_getElem?,Array.getElem?_setIfInBounds]
     rw [if_neg (by decide),if_pos trivial,if_pos (by omega)]
     simp only [Option.getD_some,VR,CR]
    ·rw [if_neg e10,if_neg e9]
     have hq:((a1.tmps.setIfInBounds 9 (.int .i64 ((k:Nat):Int))).setIfInBounds 10 (.agg #[.string (rs.getD k default).out,.int .i64 t,y])).getD q undef=a1.tmps.getD q undef:=by
      simp only [Array.getD_eq_getD_getElem?,Array.getElem?_setIfInBounds]
      rw [if_neg (fun e=>e10 e.symm),if_neg (fun e=>e9 e.symm)]
     show VR _ _ _ (((a1.tmps.setIfInBounds 9 (.int .i64 ((k:Nat):Int))).setIfInBounds 10 (.agg #[.string (rs.getD k default).out,.int .i64 t,y])).getD q undef)
     rw [hq]
     by_cases e4:q=4
     ·subst e4;rw [if_pos rfl];simp only [Option.getD_some,VR]
     ·by_cases e3:q=3
      ·subst e3;rw [if_neg e4,if_pos rfl];simp only [Option.getD_some,VR]
      ·rw [if_neg e4,if_neg e3];show VR _ _ .und _;simp only [VR]
  refine (fun (hg: ∀tm':Array Value,tm'=(a1.tmps.setIfInBounds 9 (.int .i64 ((k:Nat):Int))).setIfInBounds 10 (.agg #[.string (rs.getD k default).out,.int .i64 t,y])→Code.wpIn _ _ _ _ _ {tmps:=tm',defers:=[]} W2)=>hg _ (by simp)) ?_
  rintro tm' rfl
  refine wpIn_mono (Q:=fun e a' w'=> ∃env' h' μ',(e= .normal∧env'=[(6,AV.loc 0 0 0),(5,Ai k),(10,.st [.s (rs.getD k default).out,.i .i64 t,.raw y]),(9,Ai k),(4,.raw (a1.tmps.getD 4 undef)),(3,.raw (a1.tmps.getD 3 undef))]∧h'=⟨1,[(0,some ⟨61,3,[.st [.s (rs.getD k default).out,.i .i64 t,.raw y]]⟩)]⟩)∧
   Df 16 ⟨W2,W2,CT fun _=>False,0⟩ W2 μ' env' h' a' w') ?_ ?_
  ·rcases hy with ⟨s,rfl⟩|⟨p',n',c',rfl⟩
   all_goals
    exact JI.seq (N:=0) (W:=W2) (Q:=fun e env' h'=>e= .normal∧env'=_∧h'=_) (JI.region (Or.inr ⟨l,rfl⟩) A5 kr (Aq (Ai k)<|Ad (JI.region (Or.inr ⟨l,rfl⟩) A5 kr
     (Nn (AV.loc 0 0 0) ⟨61,3,[.st [AV.s (⟨#[]⟩:ByteArray),.i .i64 0,AV.sl 1 true []]]⟩<|Sp 0 ⟨61,3,[.st [.s (rs.getD k default).out,.i .i64 t,.raw _]]⟩<|Ad ⟨rfl,rfl,rfl⟩)))) _ _ _ _ _ rfl rfl RA
  ·rintro e a' W3 ⟨env',h',μ',⟨rfl,rfl,rfl⟩,RB⟩
   have hb:=RB.sim.below
   have hbn:Below w.heap.size W2 W3:=hb.mono (Nat.le_trans hn0 hS.1)
   have hkp:JT w.heap.size w1 μ1 W2 W3:=⟨hbn,fun g hg _=>hb.block g (Nat.lt_of_lt_of_le hg hS.1)⟩
   refine hK a' W3 ⟨hb.size,fun q o _ hq _=>(hb.block q (Array.getElem?_eq_some_iff.1 hq).1).trans hq⟩ hkp ⟨hne,hS.step hkp,hs.keep (Fr rfl rfl) hbn fun id sl e=>hb.block _ (hs.lt id sl e).2⟩ ?_
   have q3:=RB.env 3
   have q4:=RB.env 4
   have q5:=RB.env 5
   have q6:=RB.env 6
   change VR _ _ (.raw _) _ at q3
   change VR _ _ (.raw _) _ at q4
   change VR _ _ (Ai k) _ at q5
   change VR _ _ (AV.loc 0 0 0) _ at q6
   simp only [VR] at q3 q4
   simp only [VR,CR] at q5
   obtain ⟨q,e1,e2,e3⟩:=Us RB.sim (id:=0) rfl q6 (rs.getD k default).out _ rfl rfl
   exact ⟨RB.sz,RB.dfr,q3,q4,q5,q,e1,Nat.le_trans hS.1 e2,e3⟩
 ·
  rintro l pre x a' W2 hl hr ⟨hne,hS,hs⟩ ⟨h1,h2,h3,h4,h5,q,h6,h7,h8⟩ hlen
  have h8':CR W2 μ1 (.pt [.s (rs.getD x.1.1 default).out,.und,.und]) (.pointer (some q)):=by
   simp only [CR]
   refine ⟨q,rfl,?_⟩
   simp only [AR] at h8 ⊢
   obtain ⟨⟨u0,⟨k1,_,k3⟩,k4⟩,⟨u1,⟨k5,_,k7⟩,_⟩,⟨u2,⟨k9,_,k11⟩,_⟩,_⟩:=h8
   have hm: ¬μ1.mut q.block:=fun z=>by have:=(hmut _ z).1;omega
   exact ⟨⟨u0,⟨k1,hm,k3⟩,by simp only [CR] at k4 ⊢;exact k4⟩,⟨u1,⟨k5,by rw [Ga];exact hm,k7⟩,trivial⟩,⟨u2,⟨k9,by rw [Ga,Ga];exact hm,k11⟩,trivial⟩,trivial⟩
  have RB:Df 16 ⟨W,W2,μ1,2⟩ w μ1 [(6,.pt [.s (rs.getD x.1.1 default).out,.und,.und]),(5,Ai x.1.1),(4,AV.loc 1 0 0),(3,AV.loc 0 0 0)] (ON ⟨9,1,[AV.s out]⟩ ⟨3,1,[AV.i .i64 0]⟩) a' W2:=by
   refine ⟨R1.glob,⟨Gp.refl _ _,rfl,fun _ _ h=>h,hf1⟩,Nat.le_refl _,hs,fun t=> ?_,h1,h2,hf1⟩
   unfold Ba.get
   simp only [Bk]
   by_cases e6:t=6
   ·subst e6;rw [if_pos rfl,h6];exact CS _ _ h8'
   ·by_cases e5:t=5
    ·subst e5;rw [if_neg e6,if_pos rfl,h5];simp only [Option.getD_some,VR,CR]
    ·by_cases e4:t=4
     ·subst e4;rw [if_neg e6,if_neg e5,if_pos rfl,h4];exact hloc _ _ _ hl4
     ·by_cases e3:t=3
      ·subst e3;rw [if_neg e6,if_neg e5,if_neg e4,if_pos rfl,h3];exact hloc _ _ _ hl3
      ·rw [if_neg e6,if_neg e5,if_neg e4,if_neg e3];show VR _ _ .und _;simp only [VR]
  refine wpIn_block (wpIn_seq (Fp (Or.inr ⟨l,rfl⟩) A5 kr (BJ.q (.pt ([AV.s (rs.getD x.1.1 default).out,.und,.und].drop 0))<|BJ.q (.s (rs.getD x.1.1 default).out)<|BJ.q (.s out)<|BJ.q (.b (decide ((rs.getD x.1.1 default).out=out)))<|BJ.done (Q:=fun env=>env=[(14,.b (decide ((rs.getD x.1.1 default).out=out))),(13,.s out),(12,.s (rs.getD x.1.1 default).out),(11,.pt ([AV.s (rs.getD x.1.1 default).out,.und,.und].drop 0)),(6,.pt [.s (rs.getD x.1.1 default).out,.und,.und]),(5,Ai x.1.1),(4,AV.loc 1 0 0),(3,AV.loc 0 0 0)]) rfl) RB ?_))
  rintro env2 a2 rfl R2
  have h14:=R2.env 14
  change VR _ _ (AV.b _) (a2.eval (.tmp 14)) at h14
  simp only [VR,CR] at h14
  by_cases heq:(rs.getD x.1.1 default).out=out
  ·refine wpIn_cond (t:=true) (by rw [h14,decide_eq_true heq]) (wpIn_seq (wpIn_mono (JI.region (N:=2) (W:=W) (Or.inr ⟨l,rfl⟩) A5 kr (Q:=fun e env' h'=>e= .normal∧h'=ON ⟨9,1,[AV.s out]⟩ ⟨3,1,[AV.i .i64 ((x.1.1:Nat):Int)]⟩)
     (Aq (Ai x.1.1)<|Sp 1 ⟨3,1,[AV.i .i64 ((x.1.1:Nat):Int)]⟩<|Ad ⟨rfl,rfl⟩) _ _ _ _ _ rfl rfl R2) ?_))
   rintro e a3 W3 ⟨env3,h3,μ3,⟨rfl,rfl⟩,R3⟩
   have hmu:μ3=μ1:=VT R3 rfl (Kt _ _)
   subst hmu
   refine wpIn_ret ⟨⟨Q0 R3.snc.ext hs R3.sim fun _ _ e=>e,fun g o hg ho hc=> ?_⟩,rfl,pre,x,rfl,hne,heq,R3.sim⟩
   rw [R3.snc.ext.bl g (Array.getElem?_eq_some_iff.1 ho).1 (fun z=>by have:=(hmut _ z).1;omega)];exact ho
  ·refine wpIn_cond (t:=false) (by rw [h14,decide_eq_false heq]) (wpIn_skip ?_)
   refine ⟨KeepsFrom.refl _ _,⟨Below.refl _ _,fun _ _ _=>rfl⟩,fun z hz=> ?_,hS,hs⟩
   rcases List.mem_append.1 hz with hz|hz
   ·exact hne z hz
   ·simp only [List.mem_singleton] at hz;subst hz;exact heq
 ·
  rintro D xs W2 hD hxs ⟨hne,hS,hs⟩ hK
  have hz:(-1:Int)=Ax rs out:=by
   refine (KK fun i hi=> ?_).symm
   have hm:i∈xs.map (·.1.1):=by
    have hxs':xs.map (·.1.1)=back rs.length rs.length:=hxs
    rw [hxs'];simp only [back,List.mem_map,List.mem_range];exact ⟨rs.length-1-i,by omega,by omega⟩
   obtain ⟨x,hx,rfl⟩:=List.mem_map.1 hm
   exact decide_eq_false (hne x hx)
  refine wpIn_seq (wpIn_region ?_)
  refine Hf rfl rfl (UD (env:=[(4,AV.loc 1 0 0)]) (h:=ON ⟨9,1,[AV.s out]⟩ ⟨3,1,[AV.i .i64 0]⟩) (h':=ON ⟨9,1,[AV.s out]⟩ ⟨3,1,[AV.i .i64 (-1)]⟩) (x:= .und) (Or.inl rfl) A5 kr kr rfl hs hf1 (fun t=> ?_) (fun W3 μ3 st=> ?_))
  ·by_cases e:t=4
   ·subst e;exact hloc _ _ _ hl4
   ·unfold Ba.get;rw [Bk,if_neg e];show VR _ _ .und _;simp only [VR]
  ·have R3:Df 16 ⟨W,W2,μ1,2⟩ w μ3 [] (ON ⟨9,1,[AV.s out]⟩ ⟨3,1,[AV.i .i64 (-1)]⟩) {tmps:=a1.tmps,defers:=[]} W3:=by
     have s0:OU ⟨W,W2,μ1,2⟩ μ1 W2:=⟨Gp.refl _ _,rfl,fun _ _ h=>h,hf1⟩
     refine ⟨R1.glob,s0.step st (Nat.le_refl _),Nat.le_refl _,st.sim,fun t=>by show VR _ _ .und _;simp only [VR],R1.sz,rfl,fun id hid=> ?_⟩
     cases e:μ3 id with
     |none=>rfl
     |some s=>exact absurd (st.dom id (hf1 id hid) (by rw [e];simp)).2 (by show ¬id<2;exact Nat.not_lt.2 hid)
   have hmu:μ3=μ1:=VT R3 rfl (Kt _ _)
   subst hmu
   refine wpIn_ret ?_
   have hD2:=(Array.getElem?_eq_some_iff.1 hK).1
   have hdf:a1.defers=[]:=R1.dfr
   show LeavesInM _ _ _ _ _ _ ({target:= .collected D,args:= #[]}::a1.defers) _ _
   rw [hdf]
   exact hleave D W3 (-1) hD (by rw [st.ext.bl D hD2 (fun z=>by have:=(hmut _ z).1;omega)];exact hK) st.sim hz
 ·rintro D c pre W2 hD ⟨j,hj,hmap⟩ ⟨rfl,ini,last,rfl,hini,hlast,hs'⟩ hK
  refine wpIn_ret ?_
  have hdf:a1.defers=[]:=R1.dfr
  show LeavesInM _ _ _ _ _ _ ({target:= .collected D,args:= #[]}::a1.defers) _ _
  rw [hdf]
  refine hleave D W2 _ hD hK hs' (Eq.symm (Pp last.2.1 (decide_eq_true hlast) fun i h1 h2=> ?_))
  obtain ⟨j',rfl⟩: ∃j',j=j'+1:=by
   cases j with
   |zero=>simp [back] at hmap
   |succ j'=>exact ⟨j',rfl⟩
  rw [KH,List.map_append] at hmap
  obtain ⟨e1,e2⟩:=List.append_inj' hmap rfl
  have e3:last.1.1=rs.length-1-j':=by simpa using e2
  have hm:i∈ini.map (·.1.1):=by
   rw [e1];simp only [back,List.mem_map,List.mem_range];exact ⟨rs.length-1-i,by omega,by omega⟩
  obtain ⟨x,hx,rfl⟩:=List.mem_map.1 hm
  exact decide_eq_false (hini x hx)
theorem LY (W:World) (a:List Bool) (he:a=[]):Ah Go.Proofs.Tryz.prog W 23 [Ag 1 (AV.b) a] (.tup []) []:=by
 subst he
 refine A9 (fn:=Go.Proofs.Tryz.f23) Go.Proofs.Tryz.func23 rfl (en23 W) (ts:=[]) rfl le<|Sq<|Rg<|Aq (AV.i .i64 (0:Int))<|Ad<|A4.block ?_
 refine A4.loop (fun _ env h=>env=((2,AV.i .i64 (0:Int))::BL 0 [Ag 1 (AV.b) []])∧h=⟨0,[]⟩) 0 ⟨rfl,rfl⟩ ?_
 rintro k env h ⟨rfl,rfl⟩
 refine Sq<|Sq<|Rg<|Aq (AV.i .i64 (0:Int))<|Aq (Ag 1 (AV.b) [])<|Aq (AV.i .i64 (0:Int))<|Aq (AV.b false)<|Ad<|Cf<|A4.exit ?_
 exact ⟨Or.inl rfl,AE.c rfl rfl⟩
theorem LX (W:World) (a:List Bool) (hz:a.length≤1048576) {h:Aa} {id:Nat} (hg:h.get id=some ⟨4,1,a.map AV.b⟩):NY Go.Proofs.Tryz.prog W 23 [AV.own id 0 a.length] h (.tup []) (h.put id (some ⟨4,1,(m_d7 a).map AV.b⟩)):=by
 refine eff_one (fn:=Go.Proofs.Tryz.f23) Go.Proofs.Tryz.func23 rfl (en23 W) (ts:=[]) rfl (cl:=[]) le (Rv (fun _=>rfl) _) (Rv (fun _=>rfl) _) (Or.inr rfl) kr ?_ hg
 refine Sq<|Rg<|Aq (AV.i .i64 (0:Int))<|Ad<|A4.block ?_
 have hB1:a.length≤281474976710656:=by first|omega|(simp;done)|(simp;omega)
 obtain ⟨R1,hR1⟩: ∃R,Wz a 0 a=R:=⟨_,rfl⟩
 refine Av (fun ((i,row):Nat×(List Bool))=>[(0,(AV.own 0 0 a.length)),(2,(Ai i))]) (fun ((i,row):Nat×(List Bool))=>⟨1,[(0,some ⟨4,1,row.map AV.b⟩)]⟩) (fun ((i,row):Nat×(List Bool))=>i≤a.length∧row.length=a.length∧Wz (a.drop i) i row=R1) (fun ((i,row):Nat×(List Bool))=>a.length-i) (0,a) ?_ ?_ ?_
 exact ⟨[0],⟨by decide,rfl,(A0.cons (Az (fun _=>rfl) (e:=4) (k:=1) (A:=AV.b) (xs:=a) rfl rfl) A0.nil),(Af.cons (AE.f kr) (Ee Af.nil))⟩,keep1⟩
 exact ⟨od,by (try dsimp only)<;>(rfl),hR1⟩
 rintro ⟨i,row⟩ ⟨hi1,hq,hE1⟩
 try dsimp only
 refine Sq<|Sq<|Rg<|Aq (Ai i)<|Aq (AV.own 0 0 a.length)<|Aq (Ai a.length)<|Aq (AV.b (decide (((i:Nat):Int)<((a.length:Nat):Int))))<|Ad ?_
 rcases Nat.lt_or_ge i a.length with hl1|hl1
 have hc1:decide (((i:Nat):Int)<((a.length:Nat):Int))=true:=decide_eq_true (by omega)
 refine A4.cond (t:=true) (by rw [←hc1]<;>kernel_rfl) (A4.skip ?_)
 obtain ⟨x1,hx1⟩: ∃x,a[i]? =some x:=⟨_,List.getElem?_eq_getElem (by first|(simpa using hl1)|omega)⟩
 rw [AB hx1,Wz.eq_2] at hE1
 refine Sq<|A4.block<|Rg<|Aq (AV.own 0 0 a.length)<|Aq (Ai i)<|Aq (AV.own 0 0 a.length)<|Aq (Ai i)<|Ap (AV.loc 0 i 0) (Ge (e:=4) (id:=0) (len:=a.length) (kk:= .i64) (ob:=⟨4,1,row.map AV.b⟩) (i:=i) kr kr kr rfl kr sd)<|Ap (AV.b (row.getD i default)) (Dg (e:=4) (k:=1) (i:=Iy) (id:=0) (xs:=row) (A:=AV.b) (j:=i) kr kr rfl (getD_some sd) kr)<|Aq (AV.b (!(row.getD i default)))<|Ap (AV.loc 0 i 0) (Ge (e:=4) (id:=0) (len:=a.length) (kk:= .i64) (ob:=⟨4,1,row.map AV.b⟩) (i:=i) kr kr kr rfl kr sd)<|A1.st (x:=AV.und) (h':=⟨1,[(0,some ⟨4,1,(row.set i (!(row.getD i default))).map AV.b⟩)]⟩) (L9 (e:=4) (k:=1) (i:=Iy) (id:=0) (A:=AV.b) (xs:=row) (y:=(!(row.getD i default))) (j:=i) kr kr kr rfl sd (fun _=>rfl) kr (fun _=>rfl) (fun _=>rfl))<|Ad<|Rg<|Aq (Ai i)<|Ap (Ai (i+1)) (AA (i:=i) (m:=1) kr kr sd)<|Aq (Ai (i+1))<|Ad ?_
 refine ⟨(i+1,(row.set i (!(row.getD i default)))),od,⟨od,by (try dsimp only)<;>(simp only [List.length_set];exact hq),hE1⟩,?_⟩
 exact ⟨[0],⟨by decide,rfl,(A0.cons (Az (fun _=>rfl) (e:=4) (k:=1) (A:=AV.b) (xs:=(row.set i (!(row.getD i default)))) rfl rfl) A0.nil),(Af.cons (AE.f kr) (Ee Af.nil))⟩,keep1⟩
 have hc1:decide (((i:Nat):Int)<((a.length:Nat):Int))=false:=decide_eq_false (by omega)
 refine A4.cond (t:=false) (by rw [←hc1]<;>kernel_rfl) (A4.exit ?_)
 rw [List.drop_eq_nil_of_le (by first|(simpa using hl1)|omega),Wz.eq_1] at hE1
 subst hE1
 have hM:m_d7 a=row:=by simp only [m_d7,hR1,Aw]
 refine ⟨Or.inl rfl,rfl,?_⟩
 rw [hM];rfl
theorem KT (W:World) {m0:Int} (hW:W.cell? ⟨0,0,none⟩=some (.int .i64 m0)) (s':ByteArray):Ah Go.Proofs.Tryz.prog W 122 [(AV.s s')] (AV.b (EU s')) []:=by
 refine A9 (fn:=Go.Proofs.Tryz.f122) Go.Proofs.Tryz.func122 rfl (en122 W) (ts:=[2]) rfl le<|Sq<|Rg<|Aq (AV.b false)<|Ad<|Sq<|Rg<|Aq (AV.s s')<|A1.sc0 (vs:=[(AV.s s')]) (r0:=(AV.tup [(AV.s ((BA s').1)),(AV.i .i64 ((BA s').2))])) kr kr (SR W hW s') kr le<|Aq (AV.tup [(AV.s ((BA s').1)),(AV.i .i64 ((BA s').2))])<|Aq (AV.s ((BA s').1))<|Aq (AV.i .i64 ((BA s').2))<|Aq (AV.s ((BA s').1))<|Aq (AV.i .i64 ((BA s').2))<|Ad<|Sq<|Rg<|Aq (AV.i .i64 ((BA s').2))<|Aq (AV.b (decide ((BA s').2=(0:Int))))<|Aq (AV.b (decide ((BA s').2=(0:Int)))) ?_
 cases c_1:decide ((BA s').2=(0:Int))
 have k_1:=of_decide_eq_false c_1
 refine An<|An<|An<|Aq (AV.b false)<|Aq (AV.b false)<|Ad<|Rt ?_
 exact Fb rfl (by simp only [EU,c_1,Aw])
 have k_1:=of_decide_eq_true c_1
 refine Ay<|Aq (AV.s ((BA s').1))<|Ay<|Aq (AV.s s')<|Ay<|Aq (AV.b (decide ((BA s').1=s')))<|Aq (AV.b (decide ((BA s').1=s')))<|Aq (AV.b (decide ((BA s').1=s')))<|Ad<|Rt ?_
 exact Fb rfl (by simp only [EU,c_1,Aw])
theorem LU (W:World) {m0:Int} (hW:W.cell? ⟨0,0,none⟩=some (.int .i64 m0)) (ss:List ByteArray) (most':Int):Ah Go.Proofs.Tryz.prog W 163 [((Ag 1 AV.s) ss),(AV.i .i64 most')] (AV.b (G2 ss most')) []:=by
 refine A9 (fn:=Go.Proofs.Tryz.f163) Go.Proofs.Tryz.func163 rfl (Xq W) (ts:=[4]) rfl le<|Sq<|Rg<|Aq (AV.b false)<|Ad<|Sq<|Sq<|Rg<|Aq ((Ag 1 AV.s) ss)<|Ap (Ai ss.length) (AN (k:=1) (nl:=false) (e:=9) (A:=AV.s) (xs:=ss) kr kr)<|Aq (AV.i .i64 (0:Int))<|Ad<|A4.block<|A4.lim 0 (x:=((Ag 1 AV.s) ss)) kr fun hlm1=> ?_
 have hB1:ss.length≤281474976710656:=AX hlm1
 obtain ⟨R1,hR1⟩: ∃R,Vc ss 0=R:=⟨_,rfl⟩
 refine Av (fun (v9:Nat)=>[(0,((Ag 1 AV.s) ss)),(1,(AV.i .i64 most')),(7,((Ag 1 AV.s) ss)),(8,(Ai ss.length)),(9,(Ai v9))]) (fun (v9:Nat)=>⟨0,[]⟩) (fun (v9:Nat)=>v9≤ss.length∧Vc (ss.drop v9) v9=R1) (fun (v9:Nat)=>ss.length-v9) 0 ?_ ?_ ?_
 exact ⟨[],⟨by decide,rfl,A0.nil,(Ee (Ee (Ee (Ee (Ee Af.nil)))))⟩,Ar⟩
 exact ⟨od,hR1⟩
 rintro v9 ⟨hi1,hE1⟩
 try dsimp only
 refine Sq<|Rg<|Aq (AV.b (decide (((v9:Nat):Int)<((ss.length:Nat):Int))))<|Ad<|Sq ?_
 rcases Nat.lt_or_ge v9 ss.length with hl1|hl1
 have hc1:decide (((v9:Nat):Int)<((ss.length:Nat):Int))=true:=decide_eq_true (by omega)
 refine A4.cond (t:=true) (by rw [←hc1]<;>kernel_rfl) (A4.skip ?_)
 obtain ⟨x1,hx1⟩: ∃x,ss[v9]? =some x:=⟨_,List.getElem?_eq_getElem hl1⟩
 rw [AB hx1,Vc.eq_2] at hE1
 refine Sq<|A4.block<|Sq<|Rg<|Ap (AV.pt (AV.s x1).cells) (AQ (k:=1) (nl:=false) (e:=9) (kk:= .i64) (A:=AV.s) (xs:=ss) (i:=v9) kr kr kr ⟨by kernel_rfl,by decide⟩ hx1)<|Aq (AV.s x1)<|Aq (AV.s x1)<|Ad<|Sq<|Rg<|Aq (AV.s x1)<|A1.sc0 (vs:=[(AV.s x1)]) (r0:=(AV.b (EU x1))) kr kr (KT W hW x1) kr le<|Aq (AV.b (!(EU x1)))<|Ad ?_
 cases c_1:(!(EU x1))
 refine Cf<|A4.skip<|Rg<|Ap (Ai (v9+1)) (AA (i:=v9) (m:=1) kr kr sd)<|Aq (Ai (v9+1))<|Ad ?_
 try simp only [c_1,Aw] at hE1
 refine ⟨v9+1,od,⟨od,hE1⟩,?_⟩
 exact ⟨[],⟨by decide,rfl,A0.nil,(Ee (Ee (Ee (Ee (Ee Af.nil)))))⟩,Ar⟩
 refine Ct<|Sq<|Rg<|Aq (AV.b false)<|Ad<|Rt ?_
 try simp only [c_1,Aw] at hE1
 subst hE1
 exact Fb rfl (by simp only [G2,hR1,Aw])
 have hc1:decide (((v9:Nat):Int)<((ss.length:Nat):Int))=false:=decide_eq_false (by omega)
 refine A4.cond (t:=false) (by rw [←hc1]<;>kernel_rfl) (A4.exit ?_)
 rw [List.drop_eq_nil_of_le (hl1),Vc.eq_1] at hE1
 subst hE1
 refine Sq<|Rg<|Aq ((Ag 1 AV.s) ss)<|Ap (Ai ss.length) (AN (k:=1) (nl:=false) (e:=9) (A:=AV.s) (xs:=ss) kr kr)<|Aq (AV.i .i64 most')<|Aq (AV.b (decide (((ss.length:Nat):Int)≤most')))<|Aq (AV.b (decide (((ss.length:Nat):Int)≤most')))<|Ad<|Rt ?_
 exact Fb rfl (by simp only [G2,hR1,Aw])
theorem MT (W:World) (s':ByteArray) (most':Int):Ah Go.Proofs.Tryz.prog W 189 [(AV.s s'),(AV.i .i64 most')] (AV.b (LG s' most')) []:=by
 refine A9 (fn:=Go.Proofs.Tryz.f189) Go.Proofs.Tryz.func189 rfl (Xr W) (ts:=[4]) rfl le<|Sq<|Rg<|Aq (AV.b false)<|Ad<|Sq<|Sq<|Rg<|Aq (AV.s s')<|Aq (Ai s'.size)<|Aq (AV.i .i64 (0:Int))<|Ad<|A4.block<|A4.lim 0 (x:=(AV.s s')) kr fun hlm1=> ?_
 have hB1:s'.size≤281474976710656:=VN hlm1
 obtain ⟨R1,hR1⟩: ∃R,U8 s'.data.toList 0=R:=⟨_,rfl⟩
 refine Av (fun (v8:Nat)=>[(0,(AV.s s')),(1,(AV.i .i64 most')),(7,(Ai s'.size)),(8,(Ai v8))]) (fun (v8:Nat)=>⟨0,[]⟩) (fun (v8:Nat)=>v8≤s'.size∧U8 (s'.data.toList.drop v8) v8=R1) (fun (v8:Nat)=>s'.size-v8) 0 ?_ ?_ ?_
 exact ⟨[],⟨by decide,rfl,A0.nil,(Ee (Ee (Ee (Ee Af.nil))))⟩,Ar⟩
 exact ⟨od,hR1⟩
 rintro v8 ⟨hi1,hE1⟩
 try dsimp only
 refine Sq<|Rg<|Aq (AV.b (decide (((v8:Nat):Int)<((s'.size:Nat):Int))))<|Ad<|Sq ?_
 rcases Nat.lt_or_ge v8 s'.size with hl1|hl1
 have hc1:decide (((v8:Nat):Int)<((s'.size:Nat):Int))=true:=decide_eq_true (by omega)
 refine A4.cond (t:=true) (by rw [←hc1]<;>kernel_rfl) (A4.skip ?_)
 obtain ⟨x1,hx1,hx1l⟩:=Mb hl1
 rw [AB hx1l,U8.eq_2] at hE1
 refine Sq<|A4.block<|Sq<|Rg<|Aq (Ai v8)<|Aq (Ai v8)<|Ad<|Sq<|Rg<|Aq (AV.s s')<|Aq (Ai v8)<|Ap (AV.i .u8 (x1.toNat:Int)) (K4 (kk:= .i64) (s:=s') (i:=v8) (b:=x1) kr kr kr hx1)<|Aq (AV.b (decide ((x1.toNat:Int)<(32:Int))))<|Aq (AV.b (decide ((x1.toNat:Int)<(32:Int)))) ?_
 cases c_1:decide ((x1.toNat:Int)<(32:Int))
 have k_1:=of_decide_eq_false c_1
 refine Ay<|Aq (AV.s s')<|Ay<|Aq (Ai v8)<|Ay<|Ap (AV.i .u8 (x1.toNat:Int)) (K4 (kk:= .i64) (s:=s') (i:=v8) (b:=x1) kr kr kr hx1)<|Ay<|Aq (AV.b (decide ((126:Int)<(x1.toNat:Int))))<|Aq (AV.b (decide ((126:Int)<(x1.toNat:Int))))<|Ad ?_
 cases c_2:decide ((126:Int)<(x1.toNat:Int))
 have k_2:=of_decide_eq_false c_2
 refine Cf<|A4.skip<|Rg<|Ap (Ai (v8+1)) (AA (i:=v8) (m:=1) kr kr sd)<|Aq (Ai (v8+1))<|Ad ?_
 try simp only [c_1,c_2,Aw] at hE1
 refine ⟨v8+1,od,⟨od,hE1⟩,?_⟩
 exact ⟨[],⟨by decide,rfl,A0.nil,(Ee (Ee (Ee (Ee Af.nil))))⟩,Ar⟩
 have k_2:=of_decide_eq_true c_2
 refine Ct<|Sq<|Rg<|Aq (AV.b false)<|Ad<|Rt ?_
 try simp only [c_1,c_2,Aw] at hE1
 subst hE1
 exact Fb rfl (by simp only [LG,hR1,Aw])
 have k_1:=of_decide_eq_true c_1
 refine An<|An<|An<|An<|Aq (AV.b true)<|Ad<|Ct<|Sq<|Rg<|Aq (AV.b false)<|Ad<|Rt ?_
 try simp only [c_1,Aw] at hE1
 subst hE1
 exact Fb rfl (by simp only [LG,hR1,Aw])
 have hc1:decide (((v8:Nat):Int)<((s'.size:Nat):Int))=false:=decide_eq_false (by omega)
 refine A4.cond (t:=false) (by rw [←hc1]<;>kernel_rfl) (A4.exit ?_)
 rw [List.drop_eq_nil_of_le (P3 hl1),U8.eq_1] at hE1
 subst hE1
 refine Sq<|Rg<|Aq (AV.s s')<|Aq (Ai s'.size)<|Aq (AV.i .i64 most')<|Aq (AV.b (decide (((s'.size:Nat):Int)≤most')))<|Aq (AV.b (decide (((s'.size:Nat):Int)≤most')))<|Ad<|Rt ?_
 exact Fb rfl (by simp only [LG,hR1,Aw])
theorem JF (W:World) (s':ByteArray):Ah Go.Proofs.Tryz.prog W 162 [(AV.s s')] (AV.b (IK s')) []:=by
 refine A9 (fn:=Go.Proofs.Tryz.f162) Go.Proofs.Tryz.func162 rfl (en162 W) (ts:=[2]) rfl le<|Sq<|Rg<|Aq (AV.b false)<|Ad<|Sq<|Rg<|Aq (AV.s s')<|Aq (AV.b (!decide (s'=(⟨#[]⟩:ByteArray))))<|Aq (AV.b (!decide (s'=(⟨#[]⟩:ByteArray)))) ?_
 cases c_1:(!decide (s'=(⟨#[]⟩:ByteArray)))
 refine An<|An<|Aq (AV.b false)<|Aq (AV.b false)<|Ad<|Rt ?_
 exact Fb rfl (by simp only [IK,c_1,Aw])
 refine Ay<|Aq (AV.s s')<|Ay<|A1.sc0 (vs:=[(AV.s s'),(AV.i .i64 (256:Int))]) (r0:=(AV.b (LG s' (256:Int)))) kr kr (MT W s' (256:Int)) kr le<|Aq (AV.b (LG s' (256:Int)))<|Aq (AV.b (LG s' (256:Int)))<|Ad<|Rt ?_
 exact Fb rfl (by simp only [IK,c_1,Aw])
def B1 (e:A8):AV:=(AV.pt (A8.av e).cells)
theorem SP (W:World) {m0:Int} (hW:W.cell? ⟨0,0,none⟩=some (.int .i64 m0)) (e:A8):Ah Go.Proofs.Tryz.prog W 165 [(AV.pt (A8.av e).cells)] (AV.b (Nt e)) []:=by
 refine A9 (fn:=Go.Proofs.Tryz.f165) Go.Proofs.Tryz.func165 rfl (en165 W) (ts:=[2]) rfl le<|Sq<|Rg<|Aq (AV.b false)<|Ad<|Sq<|Sq<|A4.drawn A5 C9 19 kr le<|Dq (B1 e)<|Dq (B1 e)<|Dq (AV.pt ((A8.av e).cells.drop 0))<|Dq ((Ag 1 AV.s) e.outs)<|Dq (B1 e)<|Dq (B1 e)<|Dq (AV.pt ((A8.av e).cells.drop 1))<|Dq ((Ag 1 AV.s) e.ins)<|Dq (B1 e)<|Dq (B1 e)<|Dq (AV.pt ((A8.av e).cells.drop 2))<|Dq ((Ag 1 AV.s) e.implicit)<|Dq (B1 e)<|Dq (B1 e)<|Dq (AV.pt ((A8.av e).cells.drop 3))<|Dq ((Ag 1 AV.s) e.order)<|As.sn (x:=(AV.own 0 0 4)) (h':=⟨1,[(0,some ⟨24,1,[e.outs,e.ins,e.implicit,e.order].map (Ag 1 AV.s)⟩)]⟩) kr le<|Dq (Ai 4)<|Dq (AV.i .i64 (0:Int))<|As.fin<|A4.block ?_
 have hB1:4≤281474976710656:=by first|omega|(simp;done)|(simp;omega)
 obtain ⟨R1,hR1⟩: ∃R,Va [e.outs,e.ins,e.implicit,e.order] 0=R:=⟨_,rfl⟩
 refine Av (fun (v23:Nat)=>[(0,(B1 e)),(21,(AV.own 0 0 4)),(22,(Ai 4)),(23,(Ai v23))]) (fun (v23:Nat)=>⟨1,[(0,some ⟨24,1,[e.outs,e.ins,e.implicit,e.order].map (Ag 1 AV.s)⟩)]⟩) (fun (v23:Nat)=>v23≤4∧Va ([e.outs,e.ins,e.implicit,e.order].drop v23) v23=R1) (fun (v23:Nat)=>4-v23) 0 ?_ ?_ ?_
 exact ⟨[0],⟨by decide,rfl,(A0.cons (Az (fun _=>rfl) (e:=24) (k:=1) (A:=(Ag 1 AV.s)) (xs:=[e.outs,e.ins,e.implicit,e.order]) rfl rfl) A0.nil),(Ee (Af.cons (AE.f kr) (Ee (Ee Af.nil))))⟩,Ar⟩
 exact ⟨od,hR1⟩
 rintro v23 ⟨hi1,hE1⟩
 try dsimp only
 refine Sq<|Rg<|Aq (AV.b (decide (((v23:Nat):Int)<((4:Nat):Int))))<|Ad<|Sq ?_
 rcases Nat.lt_or_ge v23 4 with hl1|hl1
 have hc1:decide (((v23:Nat):Int)<((4:Nat):Int))=true:=decide_eq_true (by omega)
 refine A4.cond (t:=true) (by rw [←hc1]<;>kernel_rfl) (A4.skip ?_)
 obtain ⟨x1,hx1⟩: ∃x,[e.outs,e.ins,e.implicit,e.order][v23]? =some x:=⟨_,List.getElem?_eq_getElem (by first|(simpa using hl1)|omega)⟩
 rw [AB hx1,Va.eq_2] at hE1
 refine Sq<|A4.block<|Sq<|Rg<|Ap (AV.loc 0 v23 0) (Ge (e:=24) (id:=0) (len:=4) (kk:= .i64) (ob:=⟨24,1,[e.outs,e.ins,e.implicit,e.order].map (Ag 1 AV.s)⟩) (i:=v23) kr kr kr rfl kr sd)<|Ap ((Ag 1 AV.s) x1) (Dg (e:=24) (k:=1) (i:=tI_24) (id:=0) (xs:=[e.outs,e.ins,e.implicit,e.order]) (A:=(Ag 1 AV.s)) (j:=v23) kr kr rfl hx1 kr)<|Aq ((Ag 1 AV.s) x1)<|Ad<|Sq<|Rg<|Aq ((Ag 1 AV.s) x1)<|A1.sc0 (vs:=[((Ag 1 AV.s) x1),(AV.i .i64 (8:Int))]) (r0:=(AV.b (G2 x1 (8:Int)))) kr kr (LU W hW x1 (8:Int)) kr le<|Aq (AV.b (!(G2 x1 (8:Int))))<|Ad ?_
 cases c_1:(!(G2 x1 (8:Int)))
 refine Cf<|A4.skip<|Rg<|Ap (Ai (v23+1)) (AA (i:=v23) (m:=1) kr kr sd)<|Aq (Ai (v23+1))<|Ad ?_
 try simp only [c_1,Aw] at hE1
 refine ⟨v23+1,od,⟨od,hE1⟩,?_⟩
 exact ⟨[0],⟨by decide,rfl,(A0.cons (Az (fun _=>rfl) (e:=24) (k:=1) (A:=(Ag 1 AV.s)) (xs:=[e.outs,e.ins,e.implicit,e.order]) rfl rfl) A0.nil),(Ee (Af.cons (AE.f kr) (Ee (Ee Af.nil))))⟩,Ar⟩
 refine Ct<|Sq<|Rg<|Aq (AV.b false)<|Ad<|Rt ?_
 try simp only [c_1,Aw] at hE1
 subst hE1
 exact Fb rfl (by simp only [Nt,hR1,Aw])
 have hc1:decide (((v23:Nat):Int)<((4:Nat):Int))=false:=decide_eq_false (by omega)
 refine A4.cond (t:=false) (by rw [←hc1]<;>kernel_rfl) (A4.exit ?_)
 rw [List.drop_eq_nil_of_le (by first|(simpa using hl1)|omega),Va.eq_1] at hE1
 subst hE1
 refine Sq<|Rg<|Aq (B1 e)<|Aq (B1 e)<|Aq (AV.pt ((A8.av e).cells.drop 0))<|Aq ((Ag 1 AV.s) e.outs)<|Ap (Ai e.outs.length) (AN (k:=1) (nl:=false) (e:=9) (A:=AV.s) (xs:=e.outs) kr kr)<|Aq (AV.b (decide ((0:Int)<((e.outs.length:Nat):Int))))<|Aq (AV.b (decide ((0:Int)<((e.outs.length:Nat):Int)))) ?_
 cases c_2:decide ((0:Int)<((e.outs.length:Nat):Int))
 have k_2:=of_decide_eq_false c_2
 refine An<|An<|An<|An<|An<|Aq (AV.b false)<|Aq (AV.b false)<|An<|An<|An<|An<|An<|An<|An<|An<|An<|An<|An<|An<|Aq (AV.b false)<|Aq (AV.b false)<|Ad<|Rt ?_
 exact Fb rfl (by simp only [Nt,hR1,c_2,Aw])
 have k_2:=of_decide_eq_true c_2
 refine Ay<|Aq (B1 e)<|Ay<|Aq (B1 e)<|Ay<|Aq (AV.pt ((A8.av e).cells.drop 4))<|Ay<|Aq (AV.s e.command)<|Ay<|A1.sc0 (vs:=[(AV.s e.command)]) (r0:=(AV.b (IK e.command))) kr kr (JF W e.command) kr le<|Aq (AV.b (IK e.command))<|Aq (AV.b (IK e.command)) ?_
 cases c_3:(IK e.command)
 refine An<|An<|An<|An<|An<|An<|An<|An<|An<|An<|An<|An<|Aq (AV.b false)<|Aq (AV.b false)<|Ad<|Rt ?_
 exact Fb rfl (by simp only [Nt,hR1,c_2,c_3,Aw])
 refine Ay<|Aq (B1 e)<|Ay<|Aq (B1 e)<|Ay<|Aq (AV.pt ((A8.av e).cells.drop 6))<|Ay<|Aq (AV.s e.pool)<|Ay<|Aq (AV.b (decide (e.pool=(⟨#[]⟩:ByteArray))))<|Ay<|Aq (AV.b (decide (e.pool=(⟨#[]⟩:ByteArray)))) ?_
 cases c_4:decide (e.pool=(⟨#[]⟩:ByteArray))
 refine Ay<|Aq (B1 e)<|Ay<|Aq (B1 e)<|Ay<|Aq (AV.pt ((A8.av e).cells.drop 6))<|Ay<|Aq (AV.s e.pool)<|Ay<|A1.sc0 (vs:=[(AV.s e.pool)]) (r0:=(AV.b (GU e.pool))) kr kr (Vp W e.pool) kr le<|Ay<|Aq (AV.b (GU e.pool))<|Aq (AV.b (GU e.pool))<|Aq (AV.b (GU e.pool))<|Ad<|Rt ?_
 exact Fb rfl (by simp only [Nt,hR1,c_2,c_3,c_4,Aw])
 refine An<|An<|An<|An<|An<|Ay<|Aq (AV.b true)<|Aq (AV.b true)<|Aq (AV.b true)<|Ad<|Rt ?_
 exact Fb rfl (by simp only [Nt,hR1,c_2,c_3,c_4,Aw])
theorem Qd (W:World) (xs:List ByteArray) (x':ByteArray):Ah Go.Proofs.Tryz.prog W 90 [((Ag 1 AV.s) xs),(AV.s x')] (AV.b (Mo xs x')) []:=by
 refine A9 (fn:=Go.Proofs.Tryz.f90) Go.Proofs.Tryz.func90 rfl (en90 W) (ts:=[4]) rfl le<|Sq<|Rg<|Aq (AV.b false)<|Ad<|Sq<|Sq<|Rg<|Aq (AV.i .i64 (0:Int))<|Ad<|A4.block<|A4.lim 0 (x:=((Ag 1 AV.s) xs)) kr fun hlm1=> ?_
 have hB1:xs.length≤281474976710656:=AX hlm1
 obtain ⟨R1,hR1⟩: ∃R,St x' xs 0=R:=⟨_,rfl⟩
 refine Av (fun (i:Nat)=>[(0,((Ag 1 AV.s) xs)),(1,(AV.s x')),(5,(Ai i))]) (fun (i:Nat)=>⟨0,[]⟩) (fun (i:Nat)=>i≤xs.length∧St x' (xs.drop i) i=R1) (fun (i:Nat)=>xs.length-i) 0 ?_ ?_ ?_
 exact ⟨[],⟨by decide,rfl,A0.nil,(Ee (Ee (Ee Af.nil)))⟩,Ar⟩
 exact ⟨od,hR1⟩
 rintro i ⟨hi1,hE1⟩
 try dsimp only
 refine Sq<|Sq<|Rg<|Aq (Ai i)<|Aq ((Ag 1 AV.s) xs)<|Ap (Ai xs.length) (AN (k:=1) (nl:=false) (e:=9) (A:=AV.s) (xs:=xs) kr kr)<|Aq (AV.b (decide (((i:Nat):Int)<((xs.length:Nat):Int))))<|Ad ?_
 rcases Nat.lt_or_ge i xs.length with hl1|hl1
 have hc1:decide (((i:Nat):Int)<((xs.length:Nat):Int))=true:=decide_eq_true (by omega)
 refine A4.cond (t:=true) (by rw [←hc1]<;>kernel_rfl) (A4.skip ?_)
 obtain ⟨x1,hx1⟩: ∃x,xs[i]? =some x:=⟨_,List.getElem?_eq_getElem hl1⟩
 rw [AB hx1,St.eq_2] at hE1
 refine Sq<|A4.block<|Sq<|Rg<|Aq ((Ag 1 AV.s) xs)<|Aq (Ai i)<|Ap (AV.pt (AV.s x1).cells) (AQ (k:=1) (nl:=false) (e:=9) (kk:= .i64) (A:=AV.s) (xs:=xs) (i:=i) kr kr kr ⟨by kernel_rfl,by decide⟩ hx1)<|Aq (AV.s x1)<|Aq (AV.s x')<|Aq (AV.b (decide (x1=x')))<|Ad ?_
 cases c_1:decide (x1=x')
 have k_1:=of_decide_eq_false c_1
 refine Cf<|A4.skip<|Rg<|Aq (Ai i)<|Ap (Ai (i+1)) (AA (i:=i) (m:=1) kr kr sd)<|Aq (Ai (i+1))<|Ad ?_
 try simp only [c_1,Aw] at hE1
 refine ⟨i+1,od,⟨od,hE1⟩,?_⟩
 exact ⟨[],⟨by decide,rfl,A0.nil,(Ee (Ee (Ee Af.nil)))⟩,Ar⟩
 have k_1:=of_decide_eq_true c_1
 refine Ct<|Sq<|Rg<|Aq (AV.b true)<|Ad<|Rt ?_
 try simp only [c_1,Aw] at hE1
 subst hE1
 exact Fb rfl (by simp only [Mo,hR1,Aw])
 have hc1:decide (((i:Nat):Int)<((xs.length:Nat):Int))=false:=decide_eq_false (by omega)
 refine A4.cond (t:=false) (by rw [←hc1]<;>kernel_rfl) (A4.exit ?_)
 rw [List.drop_eq_nil_of_le (hl1),St.eq_1] at hE1
 subst hE1
 refine Sq<|Rg<|Aq (AV.b false)<|Ad<|Rt ?_
 exact Fb rfl (by simp only [Mo,hR1,Aw])
theorem SU (W:World) (c:Int):Ah Go.Proofs.Tryz.prog W 198 [(AV.i .u8 c)] (AV.b (Nu c)) []:=by
 refine A9 (fn:=Go.Proofs.Tryz.f198) Go.Proofs.Tryz.func198 rfl (en198 W) (ts:=[2]) rfl le<|Sq<|Rg<|Aq (AV.b false)<|Ad<|Sq<|Rg<|Aq (AV.i .u8 c)<|Aq (AV.b (decide ((97:Int)≤c)))<|Aq (AV.b (decide ((97:Int)≤c))) ?_
 cases c_1:decide ((97:Int)≤c)
 have k_1:=of_decide_eq_false c_1
 refine An<|An<|Aq (AV.b false)<|Aq (AV.b false)<|Ay<|Aq (AV.i .u8 c)<|Ay<|Aq (AV.b (decide ((48:Int)≤c)))<|Ay<|Aq (AV.b (decide ((48:Int)≤c))) ?_
 cases c_2:decide ((48:Int)≤c)
 have k_2:=of_decide_eq_false c_2
 refine An<|An<|Ay<|Aq (AV.b false)<|Aq (AV.b false)<|Aq (AV.b false)<|Ad<|Rt ?_
 exact Fb rfl (by simp only [Nu,c_1,c_2,Aw])
 have k_2:=of_decide_eq_true c_2
 refine Ay<|Aq (AV.i .u8 c)<|Ay<|Aq (AV.b (decide (c≤(57:Int))))<|Ay<|Aq (AV.b (decide (c≤(57:Int))))<|Aq (AV.b (decide (c≤(57:Int))))<|Aq (AV.b (decide (c≤(57:Int))))<|Ad<|Rt ?_
 exact Fb rfl (by simp only [Nu,c_1,c_2,Aw])
 have k_1:=of_decide_eq_true c_1
 refine Ay<|Aq (AV.i .u8 c)<|Ay<|Aq (AV.b (decide (c≤(122:Int))))<|Aq (AV.b (decide (c≤(122:Int))))<|Aq (AV.b (decide (c≤(122:Int)))) ?_
 cases c_3:decide (c≤(122:Int))
 have k_3:=of_decide_eq_false c_3
 refine Ay<|Aq (AV.i .u8 c)<|Ay<|Aq (AV.b (decide ((48:Int)≤c)))<|Ay<|Aq (AV.b (decide ((48:Int)≤c))) ?_
 cases c_4:decide ((48:Int)≤c)
 have k_4:=of_decide_eq_false c_4
 refine An<|An<|Ay<|Aq (AV.b false)<|Aq (AV.b false)<|Aq (AV.b false)<|Ad<|Rt ?_
 exact Fb rfl (by simp only [Nu,c_1,c_3,c_4,Aw])
 have k_4:=of_decide_eq_true c_4
 refine Ay<|Aq (AV.i .u8 c)<|Ay<|Aq (AV.b (decide (c≤(57:Int))))<|Ay<|Aq (AV.b (decide (c≤(57:Int))))<|Aq (AV.b (decide (c≤(57:Int))))<|Aq (AV.b (decide (c≤(57:Int))))<|Ad<|Rt ?_
 exact Fb rfl (by simp only [Nu,c_1,c_3,c_4,Aw])
 have k_3:=of_decide_eq_true c_3
 refine An<|An<|An<|An<|An<|An<|Aq (AV.b true)<|Aq (AV.b true)<|Ad<|Rt ?_
 exact Fb rfl (by simp only [Nu,c_1,c_3,Aw])
theorem Ju (W:World) (s':ByteArray) (least:Int) (most':Int):Ah Go.Proofs.Tryz.prog W 119 [(AV.s s'),(AV.i .i64 least),(AV.i .i64 most')] (AV.b (Hp s' least most')) []:=by
 refine A9 (fn:=Go.Proofs.Tryz.f119) Go.Proofs.Tryz.func119 rfl (en119 W) (ts:=[6]) rfl le<|Sq<|Rg<|Aq (AV.b false)<|Ad<|Sq<|Sq<|Rg<|Aq (AV.i .i64 (0:Int))<|Ad<|A4.block<|A4.lim 0 (x:=(AV.s s')) kr fun hlm1=> ?_
 have hB1:s'.size≤281474976710656:=VN hlm1
 obtain ⟨R1,hR1⟩: ∃R,Qu s'.data.toList 0=R:=⟨_,rfl⟩
 refine Av (fun (i:Nat)=>[(0,(AV.s s')),(1,(AV.i .i64 least)),(2,(AV.i .i64 most')),(7,(Ai i))]) (fun (i:Nat)=>⟨0,[]⟩) (fun (i:Nat)=>i≤s'.size∧Qu (s'.data.toList.drop i) i=R1) (fun (i:Nat)=>s'.size-i) 0 ?_ ?_ ?_
 exact ⟨[],⟨by decide,rfl,A0.nil,(Ee (Ee (Ee (Ee Af.nil))))⟩,Ar⟩
 exact ⟨od,hR1⟩
 rintro i ⟨hi1,hE1⟩
 try dsimp only
 refine Sq<|Sq<|Rg<|Aq (Ai i)<|Aq (AV.s s')<|Aq (Ai s'.size)<|Aq (AV.b (decide (((i:Nat):Int)<((s'.size:Nat):Int))))<|Ad ?_
 rcases Nat.lt_or_ge i s'.size with hl1|hl1
 have hc1:decide (((i:Nat):Int)<((s'.size:Nat):Int))=true:=decide_eq_true (by omega)
 refine A4.cond (t:=true) (by rw [←hc1]<;>kernel_rfl) (A4.skip ?_)
 obtain ⟨x1,hx1,hx1l⟩:=Mb hl1
 rw [AB hx1l,Qu.eq_2] at hE1
 refine Sq<|A4.block<|Sq<|Rg<|Aq (AV.s s')<|Aq (Ai i)<|Ap (AV.i .u8 (x1.toNat:Int)) (K4 (kk:= .i64) (s:=s') (i:=i) (b:=x1) kr kr kr hx1)<|Aq (AV.b (decide ((x1.toNat:Int)<(32:Int))))<|Aq (AV.b (decide ((x1.toNat:Int)<(32:Int)))) ?_
 cases c_1:decide ((x1.toNat:Int)<(32:Int))
 have k_1:=of_decide_eq_false c_1
 refine Ay<|Aq (AV.s s')<|Ay<|Aq (Ai i)<|Ay<|Ap (AV.i .u8 (x1.toNat:Int)) (K4 (kk:= .i64) (s:=s') (i:=i) (b:=x1) kr kr kr hx1)<|Ay<|Aq (AV.b (decide ((126:Int)<(x1.toNat:Int))))<|Aq (AV.b (decide ((126:Int)<(x1.toNat:Int))))<|Ad ?_
 cases c_2:decide ((126:Int)<(x1.toNat:Int))
 have k_2:=of_decide_eq_false c_2
 refine Cf<|A4.skip<|Rg<|Aq (Ai i)<|Ap (Ai (i+1)) (AA (i:=i) (m:=1) kr kr sd)<|Aq (Ai (i+1))<|Ad ?_
 try simp only [c_1,c_2,Aw] at hE1
 refine ⟨i+1,od,⟨od,hE1⟩,?_⟩
 exact ⟨[],⟨by decide,rfl,A0.nil,(Ee (Ee (Ee (Ee Af.nil))))⟩,Ar⟩
 have k_2:=of_decide_eq_true c_2
 refine Ct<|Sq<|Rg<|Aq (AV.b false)<|Ad<|Rt ?_
 try simp only [c_1,c_2,Aw] at hE1
 subst hE1
 exact Fb rfl (by simp only [Hp,hR1,Aw])
 have k_1:=of_decide_eq_true c_1
 refine An<|An<|An<|An<|Aq (AV.b true)<|Ad<|Ct<|Sq<|Rg<|Aq (AV.b false)<|Ad<|Rt ?_
 try simp only [c_1,Aw] at hE1
 subst hE1
 exact Fb rfl (by simp only [Hp,hR1,Aw])
 have hc1:decide (((i:Nat):Int)<((s'.size:Nat):Int))=false:=decide_eq_false (by omega)
 refine A4.cond (t:=false) (by rw [←hc1]<;>kernel_rfl) (A4.exit ?_)
 rw [List.drop_eq_nil_of_le (P3 hl1),Qu.eq_1] at hE1
 subst hE1
 refine Sq<|Rg<|Aq (AV.s s')<|Aq (Ai s'.size)<|Aq (AV.i .i64 least)<|Aq (AV.b (decide (least≤((s'.size:Nat):Int))))<|Aq (AV.b (decide (least≤((s'.size:Nat):Int)))) ?_
 cases c_3:decide (least≤((s'.size:Nat):Int))
 have k_3:=of_decide_eq_false c_3
 refine An<|An<|An<|An<|Aq (AV.b false)<|Aq (AV.b false)<|Ad<|Rt ?_
 exact Fb rfl (by simp only [Hp,hR1,c_3,Aw])
 have k_3:=of_decide_eq_true c_3
 refine Ay<|Aq (AV.s s')<|Ay<|Aq (Ai s'.size)<|Ay<|Aq (AV.i .i64 most')<|Ay<|Aq (AV.b (decide (((s'.size:Nat):Int)≤most')))<|Aq (AV.b (decide (((s'.size:Nat):Int)≤most')))<|Aq (AV.b (decide (((s'.size:Nat):Int)≤most')))<|Ad<|Rt ?_
 exact Fb rfl (by simp only [Hp,hR1,c_3,Aw])
theorem HJ (W:World) (s':ByteArray):Ah Go.Proofs.Tryz.prog W 159 [(AV.s s')] (AV.b (Hn s')) []:=by
 refine A9 (fn:=Go.Proofs.Tryz.f159) Go.Proofs.Tryz.func159 rfl (en159 W) (ts:=[2]) rfl le<|Sq<|Rg<|Aq (AV.b false)<|Ad<|Sq<|Sq<|Rg<|Aq (AV.i .i64 (0:Int))<|Ad<|A4.block<|A4.lim 0 (x:=(AV.s s')) kr fun hlm1=> ?_
 have hB1:s'.size≤281474976710656:=VN hlm1
 obtain ⟨R1,hR1⟩: ∃R,Ok s'.data.toList 0=R:=⟨_,rfl⟩
 refine Av (fun (i:Nat)=>[(0,(AV.s s')),(3,(Ai i))]) (fun (i:Nat)=>⟨0,[]⟩) (fun (i:Nat)=>i≤s'.size∧Ok (s'.data.toList.drop i) i=R1) (fun (i:Nat)=>s'.size-i) 0 ?_ ?_ ?_
 exact ⟨[],⟨by decide,rfl,A0.nil,(Ee (Ee Af.nil))⟩,Ar⟩
 exact ⟨od,hR1⟩
 rintro i ⟨hi1,hE1⟩
 try dsimp only
 refine Sq<|Sq<|Rg<|Aq (Ai i)<|Aq (AV.s s')<|Aq (Ai s'.size)<|Aq (AV.b (decide (((i:Nat):Int)<((s'.size:Nat):Int))))<|Ad ?_
 rcases Nat.lt_or_ge i s'.size with hl1|hl1
 have hc1:decide (((i:Nat):Int)<((s'.size:Nat):Int))=true:=decide_eq_true (by omega)
 refine A4.cond (t:=true) (by rw [←hc1]<;>kernel_rfl) (A4.skip ?_)
 obtain ⟨x1,hx1,hx1l⟩:=Mb hl1
 rw [AB hx1l,Ok.eq_2] at hE1
 refine Sq<|A4.block<|Sq<|Rg<|Aq (AV.s s')<|Aq (Ai i)<|Ap (AV.i .u8 (x1.toNat:Int)) (K4 (kk:= .i64) (s:=s') (i:=i) (b:=x1) kr kr kr hx1)<|A1.sc0 (vs:=[(AV.i .u8 (x1.toNat:Int))]) (r0:=(AV.b (Nu (x1.toNat:Int)))) kr kr (SU W (x1.toNat:Int)) kr le<|Aq (AV.b (!(Nu (x1.toNat:Int))))<|Aq (AV.b (!(Nu (x1.toNat:Int)))) ?_
 cases c_1:(!(Nu (x1.toNat:Int)))
 refine An<|An<|An<|An<|Aq (AV.b false)<|Aq (AV.b false)<|An<|An<|An<|An<|Aq (AV.b false)<|Aq (AV.b false)<|An<|An<|An<|An<|Aq (AV.b false)<|Aq (AV.b false)<|An<|An<|An<|An<|Aq (AV.b false)<|Ad<|Cf<|A4.skip<|Rg<|Aq (Ai i)<|Ap (Ai (i+1)) (AA (i:=i) (m:=1) kr kr sd)<|Aq (Ai (i+1))<|Ad ?_
 try simp only [c_1,Aw] at hE1
 refine ⟨i+1,od,⟨od,hE1⟩,?_⟩
 exact ⟨[],⟨by decide,rfl,A0.nil,(Ee (Ee Af.nil))⟩,Ar⟩
 refine Ay<|Aq (AV.s s')<|Ay<|Aq (Ai i)<|Ay<|Ap (AV.i .u8 (x1.toNat:Int)) (K4 (kk:= .i64) (s:=s') (i:=i) (b:=x1) kr kr kr hx1)<|Ay<|Aq (AV.b (!decide ((x1.toNat:Int)=(46:Int))))<|Aq (AV.b (!decide ((x1.toNat:Int)=(46:Int))))<|Aq (AV.b (!decide ((x1.toNat:Int)=(46:Int)))) ?_
 cases c_2:(!decide ((x1.toNat:Int)=(46:Int)))
 have k_2:=LI c_2
 refine An<|An<|An<|An<|Aq (AV.b false)<|Aq (AV.b false)<|An<|An<|An<|An<|Aq (AV.b false)<|Aq (AV.b false)<|An<|An<|An<|An<|Aq (AV.b false)<|Ad<|Cf<|A4.skip<|Rg<|Aq (Ai i)<|Ap (Ai (i+1)) (AA (i:=i) (m:=1) kr kr sd)<|Aq (Ai (i+1))<|Ad ?_
 try simp only [c_1,c_2,Aw] at hE1
 refine ⟨i+1,od,⟨od,hE1⟩,?_⟩
 exact ⟨[],⟨by decide,rfl,A0.nil,(Ee (Ee Af.nil))⟩,Ar⟩
 have k_2:=LJ c_2
 refine Ay<|Aq (AV.s s')<|Ay<|Aq (Ai i)<|Ay<|Ap (AV.i .u8 (x1.toNat:Int)) (K4 (kk:= .i64) (s:=s') (i:=i) (b:=x1) kr kr kr hx1)<|Ay<|Aq (AV.b (!decide ((x1.toNat:Int)=(95:Int))))<|Aq (AV.b (!decide ((x1.toNat:Int)=(95:Int))))<|Aq (AV.b (!decide ((x1.toNat:Int)=(95:Int)))) ?_
 cases c_3:(!decide ((x1.toNat:Int)=(95:Int)))
 have k_3:=LI c_3
 refine An<|An<|An<|An<|Aq (AV.b false)<|Aq (AV.b false)<|An<|An<|An<|An<|Aq (AV.b false)<|Ad<|Cf<|A4.skip<|Rg<|Aq (Ai i)<|Ap (Ai (i+1)) (AA (i:=i) (m:=1) kr kr sd)<|Aq (Ai (i+1))<|Ad ?_
 try simp only [c_1,c_2,c_3,Aw] at hE1
 refine ⟨i+1,od,⟨od,hE1⟩,?_⟩
 exact ⟨[],⟨by decide,rfl,A0.nil,(Ee (Ee Af.nil))⟩,Ar⟩
 have k_3:=LJ c_3
 refine Ay<|Aq (AV.s s')<|Ay<|Aq (Ai i)<|Ay<|Ap (AV.i .u8 (x1.toNat:Int)) (K4 (kk:= .i64) (s:=s') (i:=i) (b:=x1) kr kr kr hx1)<|Ay<|Aq (AV.b (!decide ((x1.toNat:Int)=(45:Int))))<|Aq (AV.b (!decide ((x1.toNat:Int)=(45:Int))))<|Aq (AV.b (!decide ((x1.toNat:Int)=(45:Int)))) ?_
 cases c_4:(!decide ((x1.toNat:Int)=(45:Int)))
 have k_4:=LI c_4
 refine An<|An<|An<|An<|Aq (AV.b false)<|Ad<|Cf<|A4.skip<|Rg<|Aq (Ai i)<|Ap (Ai (i+1)) (AA (i:=i) (m:=1) kr kr sd)<|Aq (Ai (i+1))<|Ad ?_
 try simp only [c_1,c_2,c_3,c_4,Aw] at hE1
 refine ⟨i+1,od,⟨od,hE1⟩,?_⟩
 exact ⟨[],⟨by decide,rfl,A0.nil,(Ee (Ee Af.nil))⟩,Ar⟩
 have k_4:=LJ c_4
 refine Ay<|Aq (AV.s s')<|Ay<|Aq (Ai i)<|Ay<|Ap (AV.i .u8 (x1.toNat:Int)) (K4 (kk:= .i64) (s:=s') (i:=i) (b:=x1) kr kr kr hx1)<|Ay<|Aq (AV.b (!decide ((x1.toNat:Int)=(47:Int))))<|Aq (AV.b (!decide ((x1.toNat:Int)=(47:Int))))<|Ad ?_
 cases c_5:(!decide ((x1.toNat:Int)=(47:Int)))
 have k_5:=LI c_5
 refine Cf<|A4.skip<|Rg<|Aq (Ai i)<|Ap (Ai (i+1)) (AA (i:=i) (m:=1) kr kr sd)<|Aq (Ai (i+1))<|Ad ?_
 try simp only [c_1,c_2,c_3,c_4,c_5,Aw] at hE1
 refine ⟨i+1,od,⟨od,hE1⟩,?_⟩
 exact ⟨[],⟨by decide,rfl,A0.nil,(Ee (Ee Af.nil))⟩,Ar⟩
 have k_5:=LJ c_5
 refine Ct<|Sq<|Rg<|Aq (AV.b false)<|Ad<|Rt ?_
 try simp only [c_1,c_2,c_3,c_4,c_5,Aw] at hE1
 subst hE1
 exact Fb rfl (by simp only [Hn,hR1,Aw])
 have hc1:decide (((i:Nat):Int)<((s'.size:Nat):Int))=false:=decide_eq_false (by omega)
 refine A4.cond (t:=false) (by rw [←hc1]<;>kernel_rfl) (A4.exit ?_)
 rw [List.drop_eq_nil_of_le (P3 hl1),Ok.eq_1] at hE1
 subst hE1
 refine Sq<|Rg<|Aq (AV.s s')<|Aq (Ai s'.size)<|Aq (AV.b (decide ((1:Int)≤((s'.size:Nat):Int))))<|Aq (AV.b (decide ((1:Int)≤((s'.size:Nat):Int)))) ?_
 cases c_6:decide ((1:Int)≤((s'.size:Nat):Int))
 have k_6:=of_decide_eq_false c_6
 refine An<|An<|An<|Aq (AV.b false)<|Aq (AV.b false)<|Ad<|Rt ?_
 exact Fb rfl (by simp only [Hn,hR1,c_6,Aw])
 have k_6:=of_decide_eq_true c_6
 refine Ay<|Aq (AV.s s')<|Ay<|Aq (Ai s'.size)<|Ay<|Aq (AV.b (decide (((s'.size:Nat):Int)≤(16:Int))))<|Aq (AV.b (decide (((s'.size:Nat):Int)≤(16:Int))))<|Aq (AV.b (decide (((s'.size:Nat):Int)≤(16:Int))))<|Ad<|Rt ?_
 exact Fb rfl (by simp only [Hn,hR1,c_6,Aw])
theorem Ie (W:World) (xs:List ByteArray) (sign:ByteArray) (hz:BP xs sign.size≤281474976710656):Ah Go.Proofs.Tryz.prog W 150 [((Ag 1 AV.s) xs),(AV.s sign)] (AV.s (FY xs sign)) []:=by
 refine A9 (fn:=Go.Proofs.Tryz.f150) Go.Proofs.Tryz.func150 rfl (en150 W) (ts:=[4]) rfl le<|Sq<|Rg<|Aq (AV.s (⟨#[]⟩:ByteArray))<|Ad<|Sq<|Rg<|Aq (AV.s (⟨#[]⟩:ByteArray))<|Ad<|Sq<|Sq<|Rg<|Aq (AV.i .i64 (0:Int))<|Ad<|A4.block<|A4.lim 0 (x:=((Ag 1 AV.s) xs)) kr fun hlm1=> ?_
 have hB1:xs.length≤281474976710656:=AX hlm1
 obtain ⟨R1,hR1⟩: ∃R,LC sign xs 0 (⟨#[]⟩:ByteArray)=R:=⟨_,rfl⟩
 refine Av (fun ((s',i):ByteArray×Nat)=>[(0,((Ag 1 AV.s) xs)),(1,(AV.s sign)),(5,(AV.s s')),(6,(Ai i))]) (fun ((s',i):ByteArray×Nat)=>⟨0,[]⟩) (fun ((s',i):ByteArray×Nat)=>i≤xs.length∧s'.size+BP (xs.drop i) sign.size≤281474976710656∧LC sign (xs.drop i) i s'=R1) (fun ((s',i):ByteArray×Nat)=>xs.length-i) ((⟨#[]⟩:ByteArray),0) ?_ ?_ ?_
 exact ⟨[],⟨by decide,rfl,A0.nil,(Ee (Ee (Ee (Ee Af.nil))))⟩,Ar⟩
 exact ⟨od,by (try dsimp only)<;>(show 0+BP xs sign.size≤_;omega),hR1⟩
 rintro ⟨s',i⟩ ⟨hi1,hj,hE1⟩
 try dsimp only
 refine Sq<|Sq<|Rg<|Aq (Ai i)<|Aq ((Ag 1 AV.s) xs)<|Ap (Ai xs.length) (AN (k:=1) (nl:=false) (e:=9) (A:=AV.s) (xs:=xs) kr kr)<|Aq (AV.b (decide (((i:Nat):Int)<((xs.length:Nat):Int))))<|Ad ?_
 rcases Nat.lt_or_ge i xs.length with hl1|hl1
 have hc1:decide (((i:Nat):Int)<((xs.length:Nat):Int))=true:=decide_eq_true (by omega)
 refine A4.cond (t:=true) (by rw [←hc1]<;>kernel_rfl) (A4.skip ?_)
 obtain ⟨x1,hx1⟩: ∃x,xs[i]? =some x:=⟨_,List.getElem?_eq_getElem hl1⟩
 rw [AB hx1,LC.eq_2] at hE1
 rw [AB hx1] at hj
 simp only [BP] at hj
 refine Sq<|A4.block<|Sq<|Sq<|Rg<|Aq (Ai i)<|Aq (AV.b (decide ((0:Int)<((i:Nat):Int))))<|Ad ?_
 cases c_1:decide ((0:Int)<((i:Nat):Int))
 have k_1:=of_decide_eq_false c_1
 refine Cf<|A4.skip<|Rg<|Aq (AV.s s')<|Aq ((Ag 1 AV.s) xs)<|Aq (Ai i)<|Ap (AV.pt (AV.s x1).cells) (AQ (k:=1) (nl:=false) (e:=9) (kk:= .i64) (A:=AV.s) (xs:=xs) (i:=i) kr kr kr ⟨by kernel_rfl,by decide⟩ hx1)<|Aq (AV.s x1)<|Ap (AV.s (s'++x1)) (Hk (a:=s') (b:=x1) kr kr sd)<|Aq (AV.s (s'++x1))<|Ad<|Rg<|Aq (Ai i)<|Ap (Ai (i+1)) (AA (i:=i) (m:=1) kr kr sd)<|Aq (Ai (i+1))<|Ad ?_
 try simp only [c_1,Aw] at hE1
 refine ⟨((s'++x1),i+1),od,⟨od,by (try dsimp only)<;>(first|omega|(simp only [ByteArray.size_append];omega)),hE1⟩,?_⟩
 exact ⟨[],⟨by decide,rfl,A0.nil,(Ee (Ee (Ee (Ee Af.nil))))⟩,Ar⟩
 have k_1:=of_decide_eq_true c_1
 refine Ct<|Rg<|Aq (AV.s s')<|Aq (AV.s sign)<|Ap (AV.s (s'++sign)) (Hk (a:=s') (b:=sign) kr kr sd)<|Aq (AV.s (s'++sign))<|Ad<|Rg<|Aq (AV.s (s'++sign))<|Aq ((Ag 1 AV.s) xs)<|Aq (Ai i)<|Ap (AV.pt (AV.s x1).cells) (AQ (k:=1) (nl:=false) (e:=9) (kk:= .i64) (A:=AV.s) (xs:=xs) (i:=i) kr kr kr ⟨by kernel_rfl,by decide⟩ hx1)<|Aq (AV.s x1)<|Ap (AV.s ((s'++sign)++x1)) (Hk (a:=(s'++sign)) (b:=x1) kr kr sd)<|Aq (AV.s ((s'++sign)++x1))<|Ad<|Rg<|Aq (Ai i)<|Ap (Ai (i+1)) (AA (i:=i) (m:=1) kr kr sd)<|Aq (Ai (i+1))<|Ad ?_
 try simp only [c_1,Aw] at hE1
 refine ⟨(((s'++sign)++x1),i+1),od,⟨od,by (try dsimp only)<;>(first|omega|(simp only [ByteArray.size_append];omega)),hE1⟩,?_⟩
 exact ⟨[],⟨by decide,rfl,A0.nil,(Ee (Ee (Ee (Ee Af.nil))))⟩,Ar⟩
 have hc1:decide (((i:Nat):Int)<((xs.length:Nat):Int))=false:=decide_eq_false (by omega)
 refine A4.cond (t:=false) (by rw [←hc1]<;>kernel_rfl) (A4.exit ?_)
 rw [List.drop_eq_nil_of_le (hl1),LC.eq_1] at hE1
 subst hE1
 refine Sq<|Rg<|Aq (AV.s s')<|Aq (AV.s s')<|Ad<|Rt ?_
 exact Fs rfl (by simp only [FY,hR1,Aw])
theorem SV (W:World) (s':ByteArray) (sign:Int) (hs:s'.size≤1048576):Ah Go.Proofs.Tryz.prog W 160 [(AV.s s'),(AV.i .u8 sign)] ((Ag 1 AV.s) (Em s' sign)) []:=by
 refine A9 (fn:=Go.Proofs.Tryz.f160) Go.Proofs.Tryz.func160 rfl (en160 W) (ts:=[4]) rfl le<|Sq<|Rg<|Aq (AV.sl 1 true [])<|Ad<|Sq<|Rg<|Aq (AV.sl 1 true [])<|Ad<|Sq<|Rg<|Aq (AV.i .i64 (0:Int))<|Ad<|Sq<|Sq<|Rg<|Aq (AV.i .i64 (0:Int))<|Ad<|A4.block<|A4.lim 0 (x:=(AV.s s')) kr fun hlm12=> ?_
 have hB1_2:s'.size≤281474976710656:=VN hlm12
 obtain ⟨R1,hR1⟩: ∃R,Nq s' sign (s'.size+1-0+1) [] 0 0=R:=⟨_,rfl⟩
 refine Av (fun ((kf1,(out,from',i)):Nat×((List ByteArray)×Nat×Nat))=>[(0,(AV.s s')),(1,(AV.i .u8 sign)),(5,(B7 0 1 AV.s out)),(6,(Ai from')),(7,(Ai i))]) (fun ((kf1,(out,from',i)):Nat×((List ByteArray)×Nat×Nat))=>⟨1,[(0,Fv 9 1 AV.s out)]⟩) (fun ((kf1,(out,from',i)):Nat×((List ByteArray)×Nat×Nat))=>s'.size+1-i<kf1∧from'≤i∧i≤s'.size+1∧out.length≤i∧Nq s' sign kf1 out from' i=R1) (fun ((kf1,(out,from',i)):Nat×((List ByteArray)×Nat×Nat))=>kf1) (s'.size+1-0+1,([],0,0)) ?_ ?_ ?_
 exact ⟨[1000000],⟨by decide,rfl,(A0.cons rfl A0.nil),(Ee (Ee (Ee (Ee (Ee Af.nil)))))⟩,Ar⟩
 exact ⟨od,DO,DO,DO,hR1⟩
 rintro ⟨kf1,out,from',i⟩ ⟨hi1,hf,hi2,hl,hE1⟩
 try dsimp only
 rcases kf1 with _|kf1
 exact absurd hi1 (Nat.not_lt_zero _)
 rw [Nq.eq_2] at hE1
 refine Sq<|Sq<|Rg<|Aq (Ai i)<|Aq (AV.s s')<|Aq (Ai s'.size)<|Aq (AV.b (decide (((i:Nat):Int)≤((s'.size:Nat):Int))))<|Ad ?_
 cases c_1:decide (((i:Nat):Int)≤((s'.size:Nat):Int))
 have k_1:=of_decide_eq_false c_1
 refine Cf<|A4.exit ?_
 try simp only [c_1,Aw] at hE1
 subst hE1
 refine Sq<|Rg<|Aq (B7 0 1 AV.s out)<|Aq (B7 0 1 AV.s out)<|Ad<|Rt ?_
 have hM:Em s' sign=out:=by simp only [Em,hR1,Aw]
 refine ⟨Or.inr rfl,?_⟩
 rw [hM]
 exact AE.cast (x':=(B7 0 1 AV.s out)) (y':=((Ag 1 AV.s) out)) kr kr (AE.cast (x':=(B7 0 1 AV.s out)) (y':=Ag 1 AV.s out) kr kr (HR (fun _=>rfl) (by decide) (by decide) (e:=9) (k:=1) rfl sd))
 have k_1:=of_decide_eq_true c_1
 refine Ct<|A4.skip<|Sq<|A4.block ?_
 refine OE [(0,(AV.s s')),(1,(AV.i .u8 sign)),(5,(B7 0 1 AV.s out)),(6,(Ai from')),(7,(Ai i)),(24,(AV.b (decide (((i:Nat):Int)=((s'.size:Nat):Int))||decide (((s'.data.getD i 0).toNat:Int)=sign))))] ⟨1,[(0,Fv 9 1 AV.s out)]⟩ ?_ ?_
 refine Rg<|Aq (Ai i)<|Aq (AV.s s')<|Aq (Ai s'.size)<|Aq (AV.b (decide (((i:Nat):Int)=((s'.size:Nat):Int))))<|Aq (AV.b (decide (((i:Nat):Int)=((s'.size:Nat):Int)))) ?_
 cases c_2:decide (((i:Nat):Int)=((s'.size:Nat):Int))
 have k_2:=of_decide_eq_false c_2
 refine Ay<|Aq (AV.s s')<|Ay<|Aq (Ai i)<|Ay<|Ap (AV.i .u8 ((s'.data.getD i 0).toNat:Int)) (K4 (kk:= .i64) (s:=s') (i:=i) (b:=(s'.data.getD i 0)) kr kr kr (P1 sd))<|Ay<|Aq (AV.i .u8 sign)<|Ay<|Aq (AV.b (decide (((s'.data.getD i 0).toNat:Int)=sign)))<|Aq (AV.b (decide (((s'.data.getD i 0).toNat:Int)=sign)))<|Ad ?_
 exact ⟨[0],⟨by decide,rfl,(A0.cons (Cz (fun _=>rfl) (e:=9) (k:=1) (A:=AV.s) (xs:=out) rfl rfl) A0.nil),(Ee (Ee (Af.cons (BR (by decide)) (Ee (Ee (Ee Af.nil))))))⟩,Ar⟩
 have k_2:=of_decide_eq_true c_2
 refine An<|An<|An<|An<|An<|Aq (AV.b true)<|Ad ?_
 exact ⟨[0],⟨by decide,rfl,(A0.cons (Cz (fun _=>rfl) (e:=9) (k:=1) (A:=AV.s) (xs:=out) rfl rfl) A0.nil),(Ee (Ee (Af.cons (BR (by decide)) (Ee (Ee (Ee Af.nil))))))⟩,Ar⟩
 cases c_3:(decide (((i:Nat):Int)=((s'.size:Nat):Int))||decide (((s'.data.getD i 0).toNat:Int)=sign))
 refine Cf<|A4.skip<|Rg<|Aq (Ai i)<|Ap (Ai (i+1)) (AA (i:=i) (m:=1) kr kr sd)<|Aq (Ai (i+1))<|Ad ?_
 try simp only [c_1,c_3,Aw] at hE1
 refine ⟨(kf1,(out,from',i+1)),od,⟨DO,DO,DO,DO,hE1⟩,?_⟩
 exact ⟨[0],⟨by decide,rfl,(A0.cons (Cz (fun _=>rfl) (e:=9) (k:=1) (A:=AV.s) (xs:=out) rfl rfl) A0.nil),(Ee (Ee (Af.cons (BR (by decide)) (Ee (Ee Af.nil)))))⟩,Ar⟩
 refine Ct<|Sq<|Rg<|Aq (B7 0 1 AV.s out)<|Aq (AV.s s')<|Aq (Ai from')<|Aq (Ai i)<|Ap (AV.s (s'.extract from' i)) (g_sub (s:=s') (l:=(some ((from':Nat):Int))) (g:=(some ((i:Nat):Int))) (a:=from') (b:=i) kr kr kr kr rfl rfl sd sd)<|Nn (AV.own 1 0 1) ⟨9,1,[(s'.extract from' i)].map AV.s⟩<|AY (x:=(AV.own 2 0 ((out++[(s'.extract from' i)]).length))) (h':=⟨3,[(2,some ⟨9,1,(out++[(s'.extract from' i)]).map AV.s⟩),(1,some ⟨9,1,[(s'.extract from' i)].map AV.s⟩),(0,none)]⟩) (Mg (e:=9) (X:=(AV.own 1 0 1)) (A:=AV.s) (i:=DU) (p:=0) (xs:=out) (ys:=[(s'.extract from' i)]) kr kr kr (hx:=kr) kr (by simp) ⟨by decide,by kernel_rfl⟩ rfl (by intro q;first|(subst q;rfl)|(rw [q];rfl)|(simp only [q];rfl)) (by show _*16≤140737488355328;first|omega|(simp only [List.length_append,List.length_cons,List.length_nil,List.length_set,List.length_replicate];omega)|(simp;omega)) sd) le<|Aq (AV.own 2 0 ((out++[(s'.extract from' i)]).length))<|Ad<|Rg<|Aq (Ai i)<|Ap (Ai (i+1)) (AA (i:=i) (m:=1) kr kr sd)<|Aq (Ai (i+1))<|Ad<|Rg<|Aq (Ai i)<|Ap (Ai (i+1)) (AA (i:=i) (m:=1) kr kr sd)<|Aq (Ai (i+1))<|Ad ?_
 try simp only [c_1,c_3,Aw] at hE1
 refine ⟨(kf1,((out++[(s'.extract from' i)]),i+1,i+1)),od,⟨DO,DO,DO,DO,hE1⟩,?_⟩
 exact ⟨[2],⟨by decide,rfl,(A0.cons (FG (fun _=>rfl) (e:=9) (k:=1) (A:=AV.s) (xs:=(out++[(s'.extract from' i)])) (by simp) rfl rfl) A0.nil),(Ee (Ee (Af.cons (GB (A:=AV.s) (xs:=(out++[(s'.extract from' i)])) (by decide) (by simp) rfl) (Ee (Ee Af.nil)))))⟩,Ar⟩
def BN:AV:=(AV.s (⟨#[]⟩:ByteArray))
def Be (s':ByteArray):AV:=((Ag 1 AV.s) (Em s' (47:Int)))
theorem NW (W:World) (s':ByteArray):Ah Go.Proofs.Tryz.prog W 118 [(AV.s s')] (AV.tup [(AV.s ((Mq s').1)),(AV.i .i64 ((Mq s').2))]) []:=by
 refine A9 (fn:=Go.Proofs.Tryz.f118) Go.Proofs.Tryz.func118 rfl (en118 W) (ts:=[2,3]) rfl le<|Sq<|Rg<|Aq BN<|Aq (AV.i .i64 (0:Int))<|Ad<|Sq<|Sq<|Rg<|Aq (AV.s s')<|A1.sc0 (vs:=[(AV.s s')]) (r0:=(AV.b (Hn s'))) kr kr (HJ W s') kr le<|Aq (AV.b (!(Hn s')))<|Aq (AV.b (!(Hn s'))) ?_
 cases c_1:(!(Hn s'))
 have q_1:=JD c_1
 refine Ay<|Aq (AV.s s')<|Ay<|Ap (AV.i .u8 ((s'.data.getD 0 0).toNat:Int)) (K4 (kk:= .i64) (s:=s') (i:=0) (b:=(s'.data.getD 0 0)) kr kr kr (P1 sd))<|Ay<|Aq (AV.b (decide (((s'.data.getD 0 0).toNat:Int)=(47:Int))))<|Aq (AV.b (decide (((s'.data.getD 0 0).toNat:Int)=(47:Int))))<|Ad ?_
 cases c_2:decide (((s'.data.getD 0 0).toNat:Int)=(47:Int))
 have k_2:=of_decide_eq_false c_2
 refine Cf<|A4.skip<|Sq<|Rg<|Aq (AV.s s')<|A1.sc0 (vs:=[(AV.s s'),(AV.i .u8 (47:Int))]) (r0:=(Be s')) kr kr (SV W s' (47:Int) (by omega)) kr le<|Aq (Be s')<|Ad<|Sq<|Rg<|Aq (AV.sl 1 true [])<|Ad<|Sq<|Sq<|Rg<|Aq (AV.i .i64 (0:Int))<|Ad<|A4.block<|A4.lim 16 (x:=(Be s')) kr fun hlm1=> ?_
 have hB1:(Em s' (47:Int)).length≤281474976710656:=AX hlm1
 obtain ⟨R1,hR1⟩: ∃R,Nl (Em s' (47:Int)) 0 []=R:=⟨_,rfl⟩
 refine Av (fun ((b_kept,kept,i):Bool×(List ByteArray)×Nat)=>[(4,(Be s')),(5,(X5 0 1 AV.s b_kept kept)),(6,(Ai i))]) (fun ((b_kept,kept,i):Bool×(List ByteArray)×Nat)=>⟨1,[(0,Te 9 1 AV.s b_kept kept)]⟩) (fun ((b_kept,kept,i):Bool×(List ByteArray)×Nat)=>i≤(Em s' (47:Int)).length∧(b_kept=false→kept=[])∧BP kept 1+BP ((Em s' (47:Int)).drop i) 1≤BP (Em s' (47:Int)) 1∧kept.length≤i∧Nl ((Em s' (47:Int)).drop i) i kept=R1) (fun ((b_kept,kept,i):Bool×(List ByteArray)×Nat)=>(Em s' (47:Int)).length-i) (false,[],0) ?_ ?_ ?_
 exact ⟨[1000000],⟨by decide,rfl,(A0.cons rfl A0.nil),(Ee (Ee (Ee Af.nil)))⟩,Ar⟩
 exact ⟨od,(by simp),by (try dsimp only)<;>(simp only [BP,Nat.zero_add];exact Nat.le_refl _),by (try dsimp only)<;>(simp),hR1⟩
 rintro ⟨b_kept,kept,i⟩ ⟨hi1,hn_kept,hk,hl,hE1⟩
 try dsimp only
 cases b_kept
 have hz_kept:=hn_kept rfl
 subst hz_kept
 try dsimp only
 refine Sq<|Sq<|Rg<|Aq (Ai i)<|Aq (Be s')<|Ap (AV.i .i64 (((Em s' (47:Int)).length:Nat):Int)) (AN (k:=1) (nl:=false) (e:=9) (A:=AV.s) (xs:=(Em s' (47:Int))) kr kr)<|Aq (AV.b (decide (((i:Nat):Int)<(((Em s' (47:Int)).length:Nat):Int))))<|Ad ?_
 rcases Nat.lt_or_ge i (Em s' (47:Int)).length with hl1|hl1
 have hc1:decide (((i:Nat):Int)<(((Em s' (47:Int)).length:Nat):Int))=true:=decide_eq_true (by omega)
 refine A4.cond (t:=true) (by rw [←hc1]<;>kernel_rfl) (A4.skip ?_)
 obtain ⟨x1,hx1⟩: ∃x,(Em s' (47:Int))[i]? =some x:=⟨_,List.getElem?_eq_getElem hl1⟩
 rw [AB hx1,Nl.eq_2] at hE1
 have hz1:=Q2 s' 47
 have hz2:=RI []
 rw [AB hx1] at hk
 simp only [BP] at hk
 refine Sq<|A4.block<|Sq<|Rg<|Aq (Be s')<|Aq (Ai i)<|Ap (AV.pt (AV.s x1).cells) (AQ (k:=1) (nl:=false) (e:=9) (kk:= .i64) (A:=AV.s) (xs:=(Em s' (47:Int))) (i:=i) kr kr kr ⟨by kernel_rfl,by decide⟩ hx1)<|Aq (AV.s x1)<|Ad<|A4.block<|Sq<|Sq<|Rg<|Aq (AV.b (decide (x1=(⟨#[]⟩:ByteArray))))<|Aq (AV.b (decide (x1=(⟨#[]⟩:ByteArray))))<|Ad ?_
 cases c_7:decide (x1=(⟨#[]⟩:ByteArray))
 refine Cf<|Rg<|Aq (AV.b (decide (x1=(⟨#[46]⟩:ByteArray))))<|Aq (AV.b (decide (x1=(⟨#[46]⟩:ByteArray))))<|Ad ?_
 cases c_8:decide (x1=(⟨#[46]⟩:ByteArray))
 refine Cf<|Sq<|Rg<|Aq (AV.b (decide (x1=(⟨#[46,46]⟩:ByteArray))))<|Aq (AV.b (decide (x1=(⟨#[46,46]⟩:ByteArray))))<|Ad ?_
 cases c_9:decide (x1=(⟨#[46,46]⟩:ByteArray))
 refine Cf<|Rg<|Aq (AV.sl 1 true [])<|Aq (Be s')<|Aq (Ai i)<|Ap (AV.pt (AV.s x1).cells) (AQ (k:=1) (nl:=false) (e:=9) (kk:= .i64) (A:=AV.s) (xs:=(Em s' (47:Int))) (i:=i) kr kr kr ⟨by kernel_rfl,by decide⟩ hx1)<|Aq (AV.s x1)<|Nn (AV.own 1 0 1) ⟨9,1,[x1].map AV.s⟩<|AY (x:=(AV.own 2 0 1)) (h':=⟨3,[(2,some ⟨9,1,[x1].map AV.s⟩),(1,some ⟨9,1,[x1].map AV.s⟩),(0,none)]⟩) kr le<|Aq (AV.own 2 0 1)<|Ad<|Rg<|Aq (Ai i)<|Ap (Ai (i+1)) (AA (i:=i) (m:=1) kr kr sd)<|Aq (Ai (i+1))<|Ad ?_
 try simp only [c_7,c_8,c_9,Aw] at hE1
 refine ⟨(true,[x1],i+1),od,⟨od,(by simp),by (try dsimp only)<;>(first|omega|(simp only [CL,BP,Nat.add_zero];omega)|(have:=Fk kept (kept.length-1) 1;omega)),by (try dsimp only)<;>(first|omega|(simp only [List.length_append,List.length_cons,List.length_nil,List.length_take];omega)),hE1⟩,?_⟩
 exact ⟨[2],⟨by decide,rfl,(A0.cons (Az (fun _=>rfl) (e:=9) (k:=1) (A:=AV.s) (xs:=[x1]) rfl rfl) A0.nil),(Ee (Af.cons (Cm (by decide) (by simp)) (Ee Af.nil)))⟩,Ar⟩
 refine Ct<|Sq<|Sq<|Rg<|Aq (AV.sl 1 true [])<|Aq (AV.i .i64 (0:Int))<|Aq (AV.b true)<|Ad<|Ct<|Sq<|Rg<|Aq BN<|Aq (AV.i .i64 (200:Int))<|Ad<|Rt ?_
 try simp only [c_7,c_8,c_9,Aw] at hE1
 subst hE1
 exact WZ rfl (by simp only [Mq,c_1,c_2,hR1,Aw])
 refine Ct<|A4.skip<|Rg<|Aq (Ai i)<|Ap (Ai (i+1)) (AA (i:=i) (m:=1) kr kr sd)<|Aq (Ai (i+1))<|Ad ?_
 try simp only [c_7,c_8,Aw] at hE1
 refine ⟨(false,[],i+1),od,⟨od,(by simp),by (try dsimp only)<;>(first|omega|(simp only [CL,BP,Nat.add_zero];omega)|(have:=Fk kept (kept.length-1) 1;omega)),by (try dsimp only)<;>(first|omega|(simp only [List.length_append,List.length_cons,List.length_nil,List.length_take];omega)),hE1⟩,?_⟩
 exact ⟨[1000000],⟨by decide,rfl,(A0.cons rfl A0.nil),(Ee (Ee (Ee Af.nil)))⟩,Ar⟩
 refine Ct<|A4.skip<|Ct<|A4.skip<|Rg<|Aq (Ai i)<|Ap (Ai (i+1)) (AA (i:=i) (m:=1) kr kr sd)<|Aq (Ai (i+1))<|Ad ?_
 try simp only [c_7,Aw] at hE1
 refine ⟨(false,[],i+1),od,⟨od,(by simp),by (try dsimp only)<;>(first|omega|(simp only [CL,BP,Nat.add_zero];omega)|(have:=Fk kept (kept.length-1) 1;omega)),by (try dsimp only)<;>(first|omega|(simp only [List.length_append,List.length_cons,List.length_nil,List.length_take];omega)),hE1⟩,?_⟩
 exact ⟨[1000000],⟨by decide,rfl,(A0.cons rfl A0.nil),(Ee (Ee (Ee Af.nil)))⟩,Ar⟩
 have hc1:decide (((i:Nat):Int)<(((Em s' (47:Int)).length:Nat):Int))=false:=decide_eq_false (by omega)
 refine A4.cond (t:=false) (by rw [←hc1]<;>kernel_rfl) (A4.exit ?_)
 rw [List.drop_eq_nil_of_le (hl1),Nl.eq_1] at hE1
 subst hE1
 refine Sq<|Sq<|Rg<|Aq (AV.sl 1 true [])<|Aq (AV.i .i64 (0:Int))<|Aq (AV.b true)<|Ad<|Ct<|Sq<|Rg<|Aq BN<|Aq (AV.i .i64 (200:Int))<|Ad<|Rt ?_
 exact WZ rfl (by simp only [Mq,c_1,c_2,hR1,Aw])
 try dsimp only
 refine Sq<|Sq<|Rg<|Aq (Ai i)<|Aq (Be s')<|Ap (AV.i .i64 (((Em s' (47:Int)).length:Nat):Int)) (AN (k:=1) (nl:=false) (e:=9) (A:=AV.s) (xs:=(Em s' (47:Int))) kr kr)<|Aq (AV.b (decide (((i:Nat):Int)<(((Em s' (47:Int)).length:Nat):Int))))<|Ad ?_
 rcases Nat.lt_or_ge i (Em s' (47:Int)).length with hl1|hl1
 have hc1:decide (((i:Nat):Int)<(((Em s' (47:Int)).length:Nat):Int))=true:=decide_eq_true (by omega)
 refine A4.cond (t:=true) (by rw [←hc1]<;>kernel_rfl) (A4.skip ?_)
 obtain ⟨x1,hx1⟩: ∃x,(Em s' (47:Int))[i]? =some x:=⟨_,List.getElem?_eq_getElem hl1⟩
 rw [AB hx1,Nl.eq_2] at hE1
 have hz1:=Q2 s' 47
 have hz2:=RI kept
 rw [AB hx1] at hk
 simp only [BP] at hk
 refine Sq<|A4.block<|Sq<|Rg<|Aq (Be s')<|Aq (Ai i)<|Ap (AV.pt (AV.s x1).cells) (AQ (k:=1) (nl:=false) (e:=9) (kk:= .i64) (A:=AV.s) (xs:=(Em s' (47:Int))) (i:=i) kr kr kr ⟨by kernel_rfl,by decide⟩ hx1)<|Aq (AV.s x1)<|Ad<|A4.block<|Sq<|Sq<|Rg<|Aq (AV.b (decide (x1=(⟨#[]⟩:ByteArray))))<|Aq (AV.b (decide (x1=(⟨#[]⟩:ByteArray))))<|Ad ?_
 cases c_10:decide (x1=(⟨#[]⟩:ByteArray))
 refine Cf<|Rg<|Aq (AV.b (decide (x1=(⟨#[46]⟩:ByteArray))))<|Aq (AV.b (decide (x1=(⟨#[46]⟩:ByteArray))))<|Ad ?_
 cases c_11:decide (x1=(⟨#[46]⟩:ByteArray))
 refine Cf<|Sq<|Rg<|Aq (AV.b (decide (x1=(⟨#[46,46]⟩:ByteArray))))<|Aq (AV.b (decide (x1=(⟨#[46,46]⟩:ByteArray))))<|Ad ?_
 cases c_12:decide (x1=(⟨#[46,46]⟩:ByteArray))
 refine Cf<|Rg<|Aq (AV.own 0 0 kept.length)<|Aq (Be s')<|Aq (Ai i)<|Ap (AV.pt (AV.s x1).cells) (AQ (k:=1) (nl:=false) (e:=9) (kk:= .i64) (A:=AV.s) (xs:=(Em s' (47:Int))) (i:=i) kr kr kr ⟨by kernel_rfl,by decide⟩ hx1)<|Aq (AV.s x1)<|Nn (AV.own 1 0 1) ⟨9,1,[x1].map AV.s⟩<|AY (x:=(AV.own 2 0 ((kept++[x1]).length))) (h':=⟨3,[(2,some ⟨9,1,(kept++[x1]).map AV.s⟩),(1,some ⟨9,1,[x1].map AV.s⟩),(0,none)]⟩) (CE (len:=kept.length) (e:=9) (X:=(AV.own 1 0 1)) (A:=AV.s) (i:=DU) (p:=0) (xs:=kept) (ys:=[x1]) kr kr kr (hx:=kr) kr ⟨by decide,by kernel_rfl⟩ rfl rfl (by show _*16≤140737488355328;first|omega|(simp only [List.length_append,List.length_cons,List.length_nil,List.length_set,List.length_replicate];omega)|(simp;omega)) sd) le<|Aq (AV.own 2 0 ((kept++[x1]).length))<|Ad<|Rg<|Aq (Ai i)<|Ap (Ai (i+1)) (AA (i:=i) (m:=1) kr kr sd)<|Aq (Ai (i+1))<|Ad ?_
 try simp only [c_10,c_11,c_12,Aw] at hE1
 refine ⟨(true,(kept++[x1]),i+1),od,⟨od,(by simp),by (try dsimp only)<;>(first|omega|(simp only [CL,BP,Nat.add_zero];omega)|(have:=Fk kept (kept.length-1) 1;omega)),by (try dsimp only)<;>(first|omega|(simp only [List.length_append,List.length_cons,List.length_nil,List.length_take];omega)),hE1⟩,?_⟩
 exact ⟨[2],⟨by decide,rfl,(A0.cons (Az (fun _=>rfl) (e:=9) (k:=1) (A:=AV.s) (xs:=(kept++[x1])) rfl rfl) A0.nil),(Ee (Af.cons (Cm (by decide) rfl) (Ee Af.nil)))⟩,Ar⟩
 refine Ct<|Sq<|Sq<|Rg<|Aq (AV.own 0 0 kept.length)<|Aq (Ai kept.length)<|Aq (AV.b (decide (((kept.length:Nat):Int)=(0:Int))))<|Ad ?_
 cases c_13:decide (((kept.length:Nat):Int)=(0:Int))
 have k_13:=of_decide_eq_false c_13
 refine Cf<|A4.skip<|Rg<|Aq (AV.own 0 0 kept.length)<|Aq (AV.own 0 0 kept.length)<|Aq (Ai kept.length)<|Ap (AV.i .i64 ((kept.length-1:Nat):Int)) (Sg (i:=kept.length) (m:=1) kr kr sd sd)<|Ap (AV.own 0 0 (kept.length-1)) (Xy (e:=9) (id:=0) (len:=kept.length) (ob:=⟨9,1,kept.map AV.s⟩) (l:=none) (g:=(some ((kept.length-1:Nat):Int))) (b:=kept.length-1) kr kr kr kr kr kr rfl rfl (by simp only [List.length_map,List.length_append,List.length_cons,List.length_nil];omega))<|Aq (AV.own 0 0 (kept.length-1))<|Ad<|Rg<|Aq (Ai i)<|Ap (Ai (i+1)) (AA (i:=i) (m:=1) kr kr sd)<|Aq (Ai (i+1))<|Ad ?_
 try simp only [c_10,c_11,c_12,c_13,Aw] at hE1
 refine ⟨(true,(kept.take (kept.length-1)),i+1),od,⟨od,(by simp),by (try dsimp only)<;>(first|omega|(simp only [CL,BP,Nat.add_zero];omega)|(have:=Fk kept (kept.length-1) 1;omega)),by (try dsimp only)<;>(first|omega|(simp only [List.length_append,List.length_cons,List.length_nil,List.length_take];omega)),hE1⟩,?_⟩
 exact ⟨[0],⟨by decide,rfl,(Fy (SB (fun _=>rfl) (fun _=>rfl) (e:=9) (k:=1) (A:=AV.s) (xs:=kept) (ys:=(kept.take (kept.length-1))) (Q6 _ _) rfl rfl) A0.nil),(Ee (Af.cons (Cm (by decide) (by simp)) (Ee Af.nil)))⟩,Ar⟩
 have k_13:=of_decide_eq_true c_13
 refine Ct<|Sq<|Rg<|Aq BN<|Aq (AV.i .i64 (200:Int))<|Ad<|Rt ?_
 try simp only [c_10,c_11,c_12,c_13,Aw] at hE1
 subst hE1
 exact WZ rfl (by simp only [Mq,c_1,c_2,hR1,Aw])
 refine Ct<|A4.skip<|Rg<|Aq (Ai i)<|Ap (Ai (i+1)) (AA (i:=i) (m:=1) kr kr sd)<|Aq (Ai (i+1))<|Ad ?_
 try simp only [c_10,c_11,Aw] at hE1
 refine ⟨(true,kept,i+1),od,⟨od,(by simp),by (try dsimp only)<;>(first|omega|(simp only [CL,BP,Nat.add_zero];omega)|(have:=Fk kept (kept.length-1) 1;omega)),by (try dsimp only)<;>(first|omega|(simp only [List.length_append,List.length_cons,List.length_nil,List.length_take];omega)),hE1⟩,?_⟩
 exact ⟨[0],⟨by decide,rfl,(A0.cons (Az (fun _=>rfl) (e:=9) (k:=1) (A:=AV.s) (xs:=kept) rfl rfl) A0.nil),(Ee (Af.cons (Cm (by decide) rfl) (Ee Af.nil)))⟩,Ar⟩
 refine Ct<|A4.skip<|Ct<|A4.skip<|Rg<|Aq (Ai i)<|Ap (Ai (i+1)) (AA (i:=i) (m:=1) kr kr sd)<|Aq (Ai (i+1))<|Ad ?_
 try simp only [c_10,Aw] at hE1
 refine ⟨(true,kept,i+1),od,⟨od,(by simp),by (try dsimp only)<;>(first|omega|(simp only [CL,BP,Nat.add_zero];omega)|(have:=Fk kept (kept.length-1) 1;omega)),by (try dsimp only)<;>(first|omega|(simp only [List.length_append,List.length_cons,List.length_nil,List.length_take];omega)),hE1⟩,?_⟩
 exact ⟨[0],⟨by decide,rfl,(A0.cons (Az (fun _=>rfl) (e:=9) (k:=1) (A:=AV.s) (xs:=kept) rfl rfl) A0.nil),(Ee (Af.cons (Cm (by decide) rfl) (Ee Af.nil)))⟩,Ar⟩
 have hc1:decide (((i:Nat):Int)<(((Em s' (47:Int)).length:Nat):Int))=false:=decide_eq_false (by omega)
 refine A4.cond (t:=false) (by rw [←hc1]<;>kernel_rfl) (A4.exit ?_)
 rw [List.drop_eq_nil_of_le (hl1),Nl.eq_1] at hE1
 subst hE1
 refine Sq<|Sq<|Rg<|Aq (AV.own 0 0 kept.length)<|Aq (Ai kept.length)<|Aq (AV.b (decide (((kept.length:Nat):Int)=(0:Int))))<|Ad ?_
 cases c_14:decide (((kept.length:Nat):Int)=(0:Int))
 have k_14:=of_decide_eq_false c_14
 refine Cf<|A4.skip<|Sq<|Rg<|Aq (AV.own 0 0 kept.length)<|A1.sfw (vs:=[(AV.own 0 0 kept.length),(AV.s (⟨#[47]⟩:ByteArray))]) (ss:=[((Ag 1 AV.s) kept),(AV.s (⟨#[47]⟩:ByteArray))]) (r0:=(AV.s (FY kept (⟨#[47]⟩:ByteArray)))) kr (show Bc _ _ _ from ⟨(Al.w (Al.cast (x':=(AV.own 0 0 kept.length)) kr kr (Al.row (fun _=>rfl) (A:=AV.s) (id:=0) (e:=9) (k:=1) (xs:=kept) rfl rfl rfl sd))),⟨(Bc.e kr),trivial⟩⟩) (Ie W kept (⟨#[47]⟩:ByteArray) (Vk (by omega) hk)) rfl kr le<|Aq (AV.s (FY kept (⟨#[47]⟩:ByteArray)))<|Aq (AV.i .i64 (0:Int))<|Ad<|Rt ?_
 exact WZ rfl (by simp only [Mq,c_1,c_2,hR1,c_14,Aw])
 have k_14:=of_decide_eq_true c_14
 refine Ct<|Sq<|Rg<|Aq BN<|Aq (AV.i .i64 (200:Int))<|Ad<|Rt ?_
 exact WZ rfl (by simp only [Mq,c_1,c_2,hR1,c_14,Aw])
 have k_2:=of_decide_eq_true c_2
 refine Ct<|Sq<|Rg<|Aq BN<|Aq (AV.i .i64 (200:Int))<|Ad<|Rt ?_
 exact WZ rfl (by simp only [Mq,c_1,c_2,Aw])
 refine An<|An<|An<|Aq (AV.b true)<|Ad<|Ct<|Sq<|Rg<|Aq BN<|Aq (AV.i .i64 (200:Int))<|Ad<|Rt ?_
 exact WZ rfl (by simp only [Mq,c_1,Aw])
theorem FT (W:World) (s':ByteArray):Ah Go.Proofs.Tryz.prog W 70 [(AV.s s')] (AV.b (Ho s')) []:=by
 refine A9 (fn:=Go.Proofs.Tryz.f70) Go.Proofs.Tryz.func70 rfl (en70 W) (ts:=[2]) rfl le<|Sq<|Rg<|Aq (AV.b false)<|Ad<|Sq<|Rg<|Aq (AV.s s')<|A1.sc0 (vs:=[(AV.s s')]) (r0:=(AV.tup [(AV.s ((Mq s').1)),(AV.i .i64 ((Mq s').2))])) kr kr (NW W s') kr le<|Aq (AV.tup [(AV.s ((Mq s').1)),(AV.i .i64 ((Mq s').2))])<|Aq (AV.s ((Mq s').1))<|Aq (AV.i .i64 ((Mq s').2))<|Aq (AV.s ((Mq s').1))<|Aq (AV.i .i64 ((Mq s').2))<|Ad<|Sq<|Rg<|Aq (AV.i .i64 ((Mq s').2))<|Aq (AV.b (decide ((Mq s').2=(0:Int))))<|Aq (AV.b (decide ((Mq s').2=(0:Int)))) ?_
 cases c_1:decide ((Mq s').2=(0:Int))
 have k_1:=of_decide_eq_false c_1
 refine An<|An<|An<|Aq (AV.b false)<|Aq (AV.b false)<|Ad<|Rt ?_
 exact Fb rfl (by simp only [Ho,c_1,Aw])
 have k_1:=of_decide_eq_true c_1
 refine Ay<|Aq (AV.s ((Mq s').1))<|Ay<|Aq (AV.s s')<|Ay<|Aq (AV.b (decide ((Mq s').1=s')))<|Aq (AV.b (decide ((Mq s').1=s')))<|Aq (AV.b (decide ((Mq s').1=s')))<|Ad<|Rt ?_
 exact Fb rfl (by simp only [Ho,c_1,Aw])
theorem CH (W:World) (xs:List ByteArray):Ah Go.Proofs.Tryz.prog W 131 [((Ag 1 AV.s) xs)] (AV.b (Jo xs)) []:=by
 refine A9 (fn:=Go.Proofs.Tryz.f131) Go.Proofs.Tryz.func131 rfl (en131 W) (ts:=[2]) rfl le<|Sq<|Rg<|Aq (AV.b false)<|Ad<|Sq<|Sq<|Rg<|Aq (AV.i .i64 (0:Int))<|Ad<|A4.block<|A4.lim 0 (x:=((Ag 1 AV.s) xs)) kr fun hlm1=> ?_
 have hB1:xs.length≤281474976710656:=AX hlm1
 obtain ⟨R1,hR1⟩: ∃R,TU xs 0=R:=⟨_,rfl⟩
 refine Av (fun (i:Nat)=>[(0,((Ag 1 AV.s) xs)),(3,(Ai i))]) (fun (i:Nat)=>⟨0,[]⟩) (fun (i:Nat)=>i≤xs.length∧TU (xs.drop i) i=R1) (fun (i:Nat)=>xs.length-i) 0 ?_ ?_ ?_
 exact ⟨[],⟨by decide,rfl,A0.nil,(Ee (Ee Af.nil))⟩,Ar⟩
 exact ⟨od,hR1⟩
 rintro i ⟨hi1,hE1⟩
 try dsimp only
 refine Sq<|Sq<|Rg<|Aq (Ai i)<|Aq ((Ag 1 AV.s) xs)<|Ap (Ai xs.length) (AN (k:=1) (nl:=false) (e:=9) (A:=AV.s) (xs:=xs) kr kr)<|Aq (AV.b (decide (((i:Nat):Int)<((xs.length:Nat):Int))))<|Ad ?_
 rcases Nat.lt_or_ge i xs.length with hl1|hl1
 have hc1:decide (((i:Nat):Int)<((xs.length:Nat):Int))=true:=decide_eq_true (by omega)
 refine A4.cond (t:=true) (by rw [←hc1]<;>kernel_rfl) (A4.skip ?_)
 obtain ⟨x1,hx1⟩: ∃x,xs[i]? =some x:=⟨_,List.getElem?_eq_getElem hl1⟩
 rw [AB hx1,TU.eq_2] at hE1
 refine Sq<|A4.block<|Sq<|Rg<|Aq ((Ag 1 AV.s) xs)<|Aq (Ai i)<|Ap (AV.pt (AV.s x1).cells) (AQ (k:=1) (nl:=false) (e:=9) (kk:= .i64) (A:=AV.s) (xs:=xs) (i:=i) kr kr kr ⟨by kernel_rfl,by decide⟩ hx1)<|Aq (AV.s x1)<|A1.sc0 (vs:=[(AV.s x1)]) (r0:=(AV.b (Ho x1))) kr kr (FT W x1) kr le<|Aq (AV.b (!(Ho x1)))<|Ad ?_
 cases c_1:(!(Ho x1))
 refine Cf<|A4.skip<|Rg<|Aq (Ai i)<|Ap (Ai (i+1)) (AA (i:=i) (m:=1) kr kr sd)<|Aq (Ai (i+1))<|Ad ?_
 try simp only [c_1,Aw] at hE1
 refine ⟨i+1,od,⟨od,hE1⟩,?_⟩
 exact ⟨[],⟨by decide,rfl,A0.nil,(Ee (Ee Af.nil))⟩,Ar⟩
 refine Ct<|Sq<|Rg<|Aq (AV.b false)<|Ad<|Rt ?_
 try simp only [c_1,Aw] at hE1
 subst hE1
 exact Fb rfl (by simp only [Jo,hR1,Aw])
 have hc1:decide (((i:Nat):Int)<((xs.length:Nat):Int))=false:=decide_eq_false (by omega)
 refine A4.cond (t:=false) (by rw [←hc1]<;>kernel_rfl) (A4.exit ?_)
 rw [List.drop_eq_nil_of_le (hl1),TU.eq_1] at hE1
 subst hE1
 refine Sq<|Rg<|Aq ((Ag 1 AV.s) xs)<|Ap (Ai xs.length) (AN (k:=1) (nl:=false) (e:=9) (A:=AV.s) (xs:=xs) kr kr)<|Aq (AV.b (decide (((xs.length:Nat):Int)≤(8:Int))))<|Aq (AV.b (decide (((xs.length:Nat):Int)≤(8:Int))))<|Ad<|Rt ?_
 exact Fb rfl (by simp only [Jo,hR1,Aw])
theorem Ln (W:World) (ps:List AD) (name:ByteArray):Ah Go.Proofs.Tryz.prog W 197 [((Ag 2 AD.av) ps),(AV.s name)] (AV.i .i64 (KZ ps name)) []:=by
 refine A9 (fn:=Go.Proofs.Tryz.f197) Go.Proofs.Tryz.func197 rfl (en197 W) (ts:=[4]) rfl le<|Sq<|Rg<|Aq (AV.i .i64 (0:Int))<|Ad<|Sq<|Sq<|Rg<|Aq (AV.i .i64 (0:Int))<|Ad<|A4.block<|A4.lim 0 (x:=((Ag 2 AD.av) ps)) kr fun hlm1=> ?_
 have hB1:ps.length≤281474976710656:=AX hlm1
 obtain ⟨R1,hR1⟩: ∃R,U6 name ps 0=R:=⟨_,rfl⟩
 refine Av (fun (i:Nat)=>[(0,((Ag 2 AD.av) ps)),(1,(AV.s name)),(5,(Ai i))]) (fun (i:Nat)=>⟨0,[]⟩) (fun (i:Nat)=>i≤ps.length∧U6 name (ps.drop i) i=R1) (fun (i:Nat)=>ps.length-i) 0 ?_ ?_ ?_
 exact ⟨[],⟨by decide,rfl,A0.nil,(Ee (Ee (Ee Af.nil)))⟩,Ar⟩
 exact ⟨od,hR1⟩
 rintro i ⟨hi1,hE1⟩
 try dsimp only
 refine Sq<|Sq<|Rg<|Aq (Ai i)<|Aq ((Ag 2 AD.av) ps)<|Ap (Ai ps.length) (AN (k:=2) (nl:=false) (e:=122) (A:=AD.av) (xs:=ps) kr kr)<|Aq (AV.b (decide (((i:Nat):Int)<((ps.length:Nat):Int))))<|Ad ?_
 rcases Nat.lt_or_ge i ps.length with hl1|hl1
 have hc1:decide (((i:Nat):Int)<((ps.length:Nat):Int))=true:=decide_eq_true (by omega)
 refine A4.cond (t:=true) (by rw [←hc1]<;>kernel_rfl) (A4.skip ?_)
 obtain ⟨x1,hx1⟩: ∃x,ps[i]? =some x:=⟨_,List.getElem?_eq_getElem hl1⟩
 rw [AB hx1,U6.eq_2] at hE1
 refine Sq<|A4.block<|Sq<|Rg<|Aq ((Ag 2 AD.av) ps)<|Aq (Ai i)<|Ap (AV.pt (AD.av x1).cells) (AQ (k:=2) (nl:=false) (e:=122) (kk:= .i64) (A:=AD.av) (xs:=ps) (i:=i) kr kr kr ⟨by kernel_rfl,by decide⟩ hx1)<|Aq (AV.pt ((AD.av x1).cells.drop 0))<|Aq (AV.s x1.name)<|Aq (AV.s name)<|Aq (AV.b (decide (x1.name=name)))<|Ad ?_
 cases c_1:decide (x1.name=name)
 refine Cf<|A4.skip<|Rg<|Aq (Ai i)<|Ap (Ai (i+1)) (AA (i:=i) (m:=1) kr kr sd)<|Aq (Ai (i+1))<|Ad ?_
 try simp only [c_1,Aw] at hE1
 refine ⟨i+1,od,⟨od,hE1⟩,?_⟩
 exact ⟨[],⟨by decide,rfl,A0.nil,(Ee (Ee (Ee Af.nil)))⟩,Ar⟩
 refine Ct<|Sq<|Rg<|Aq (Ai i)<|Aq (Ai i)<|Ad<|Rt ?_
 try simp only [c_1,Aw] at hE1
 subst hE1
 exact Fi rfl (by simp only [KZ,hR1,Aw])
 have hc1:decide (((i:Nat):Int)<((ps.length:Nat):Int))=false:=decide_eq_false (by omega)
 refine A4.cond (t:=false) (by rw [←hc1]<;>kernel_rfl) (A4.exit ?_)
 rw [List.drop_eq_nil_of_le (hl1),U6.eq_1] at hE1
 subst hE1
 refine Sq<|Rg<|Aq (AV.i .i64 (-1:Int))<|Ad<|Rt ?_
 exact Fi rfl (by simp only [KZ,hR1,Aw])
theorem KA (W:World) (e:A8):Ah Go.Proofs.Tryz.prog W 135 [(A8.av e)] (AV.b (HN e)) []:=by
 refine A9 (fn:=Go.Proofs.Tryz.f135) Go.Proofs.Tryz.func135 rfl (en135 W) (ts:=[2]) rfl le<|Sq<|Rg<|Nn (AV.loc 0 0 0) ⟨65,7,[(A8.av e)]⟩<|Aq (AV.b false)<|Ad<|Sq<|Rg<|Aq (AV.loc 0 0 0)<|Aq ((Ag 1 AV.s) e.outs)<|Ap (Ai e.outs.length) (AN (k:=1) (nl:=false) (e:=9) (A:=AV.s) (xs:=e.outs) kr kr)<|Aq (AV.b (decide ((0:Int)<((e.outs.length:Nat):Int))))<|Aq (AV.b (decide ((0:Int)<((e.outs.length:Nat):Int)))) ?_
 cases c_1:decide ((0:Int)<((e.outs.length:Nat):Int))
 have k_1:=of_decide_eq_false c_1
 refine An<|An<|An<|Aq (AV.b false)<|Aq (AV.b false)<|An<|An<|An<|Aq (AV.b false)<|Aq (AV.b false)<|An<|An<|An<|Aq (AV.b false)<|Aq (AV.b false)<|An<|An<|An<|Aq (AV.b false)<|Aq (AV.b false)<|An<|An<|An<|Aq (AV.b false)<|Aq (AV.b false)<|An<|An<|An<|An<|An<|An<|An<|An<|Aq (AV.b false)<|Aq (AV.b false)<|Ad<|Rt ?_
 exact Fb rfl (by simp only [HN,c_1,Aw])
 have k_1:=of_decide_eq_true c_1
 refine Ay<|Aq (AV.loc 0 0 0)<|Ay<|Aq ((Ag 1 AV.s) e.outs)<|Ay<|A1.sc0 (vs:=[((Ag 1 AV.s) e.outs)]) (r0:=(AV.b (Jo e.outs))) kr kr (CH W e.outs) kr le<|Aq (AV.b (Jo e.outs))<|Aq (AV.b (Jo e.outs)) ?_
 cases c_2:(Jo e.outs)
 refine An<|An<|An<|Aq (AV.b false)<|Aq (AV.b false)<|An<|An<|An<|Aq (AV.b false)<|Aq (AV.b false)<|An<|An<|An<|Aq (AV.b false)<|Aq (AV.b false)<|An<|An<|An<|Aq (AV.b false)<|Aq (AV.b false)<|An<|An<|An<|An<|An<|An<|An<|An<|Aq (AV.b false)<|Aq (AV.b false)<|Ad<|Rt ?_
 exact Fb rfl (by simp only [HN,c_1,c_2,Aw])
 refine Ay<|Aq (AV.loc 0 0 1)<|Ay<|Aq ((Ag 1 AV.s) e.ins)<|Ay<|A1.sc0 (vs:=[((Ag 1 AV.s) e.ins)]) (r0:=(AV.b (Jo e.ins))) kr kr (CH W e.ins) kr le<|Aq (AV.b (Jo e.ins))<|Aq (AV.b (Jo e.ins)) ?_
 cases c_3:(Jo e.ins)
 refine An<|An<|An<|Aq (AV.b false)<|Aq (AV.b false)<|An<|An<|An<|Aq (AV.b false)<|Aq (AV.b false)<|An<|An<|An<|Aq (AV.b false)<|Aq (AV.b false)<|An<|An<|An<|An<|An<|An<|An<|An<|Aq (AV.b false)<|Aq (AV.b false)<|Ad<|Rt ?_
 exact Fb rfl (by simp only [HN,c_1,c_2,c_3,Aw])
 refine Ay<|Aq (AV.loc 0 0 2)<|Ay<|Aq ((Ag 1 AV.s) e.implicit)<|Ay<|A1.sc0 (vs:=[((Ag 1 AV.s) e.implicit)]) (r0:=(AV.b (Jo e.implicit))) kr kr (CH W e.implicit) kr le<|Aq (AV.b (Jo e.implicit))<|Aq (AV.b (Jo e.implicit)) ?_
 cases c_4:(Jo e.implicit)
 refine An<|An<|An<|Aq (AV.b false)<|Aq (AV.b false)<|An<|An<|An<|Aq (AV.b false)<|Aq (AV.b false)<|An<|An<|An<|An<|An<|An<|An<|An<|Aq (AV.b false)<|Aq (AV.b false)<|Ad<|Rt ?_
 exact Fb rfl (by simp only [HN,c_1,c_2,c_3,c_4,Aw])
 refine Ay<|Aq (AV.loc 0 0 3)<|Ay<|Aq ((Ag 1 AV.s) e.order)<|Ay<|A1.sc0 (vs:=[((Ag 1 AV.s) e.order)]) (r0:=(AV.b (Jo e.order))) kr kr (CH W e.order) kr le<|Aq (AV.b (Jo e.order))<|Aq (AV.b (Jo e.order)) ?_
 cases c_5:(Jo e.order)
 refine An<|An<|An<|Aq (AV.b false)<|Aq (AV.b false)<|An<|An<|An<|An<|An<|An<|An<|An<|Aq (AV.b false)<|Aq (AV.b false)<|Ad<|Rt ?_
 exact Fb rfl (by simp only [HN,c_1,c_2,c_3,c_4,c_5,Aw])
 refine Ay<|Aq (AV.loc 0 0 4)<|Ay<|Aq (AV.s e.command)<|Ay<|A1.sc0 (vs:=[(AV.s e.command),(AV.i .i64 (1:Int)),(AV.i .i64 (256:Int))]) (r0:=(AV.b (Hp e.command (1:Int) (256:Int)))) kr kr (Ju W e.command (1:Int) (256:Int)) kr le<|Aq (AV.b (Hp e.command (1:Int) (256:Int)))<|Aq (AV.b (Hp e.command (1:Int) (256:Int))) ?_
 cases c_6:(Hp e.command (1:Int) (256:Int))
 refine An<|An<|An<|An<|An<|An<|An<|An<|Aq (AV.b false)<|Aq (AV.b false)<|Ad<|Rt ?_
 exact Fb rfl (by simp only [HN,c_1,c_2,c_3,c_4,c_5,c_6,Aw])
 refine Ay<|Aq (AV.loc 0 0 6)<|Ay<|Aq (AV.s e.pool)<|Ay<|Aq (AV.b (decide (e.pool=(⟨#[]⟩:ByteArray))))<|Ay<|Aq (AV.b (decide (e.pool=(⟨#[]⟩:ByteArray)))) ?_
 cases c_7:decide (e.pool=(⟨#[]⟩:ByteArray))
 refine Ay<|Aq (AV.loc 0 0 6)<|Ay<|Aq (AV.s e.pool)<|Ay<|A1.sc0 (vs:=[(AV.s e.pool)]) (r0:=(AV.b (Hn e.pool))) kr kr (HJ W e.pool) kr le<|Ay<|Aq (AV.b (Hn e.pool))<|Aq (AV.b (Hn e.pool))<|Aq (AV.b (Hn e.pool))<|Ad<|Rt ?_
 exact Fb rfl (by simp only [HN,c_1,c_2,c_3,c_4,c_5,c_6,c_7,Aw])
 refine An<|An<|An<|Ay<|Aq (AV.b true)<|Aq (AV.b true)<|Aq (AV.b true)<|Ad<|Rt ?_
 exact Fb rfl (by simp only [HN,c_1,c_2,c_3,c_4,c_5,c_6,c_7,Aw])
def Bj (g:A3):AV:=((Ag 2 AD.av) g.pools)
theorem OD (W:World) (g:A3):Ah Go.Proofs.Tryz.prog W 158 [(A3.av g)] (AV.b (KV g)) []:=by
 refine A9 (fn:=Go.Proofs.Tryz.f158) Go.Proofs.Tryz.func158 rfl (en158 W) (ts:=[2]) rfl le<|Sq<|Rg<|Nn (AV.loc 0 0 0) ⟨26,3,[(A3.av g)]⟩<|Aq (AV.b false)<|Ad<|Sq<|Sq<|Rg<|Aq (AV.i .i64 (0:Int))<|Ad<|A4.block<|A4.lim 0 (x:=(A3.av g)) kr fun hlm1=> ?_
 have hB1:g.pools.length≤281474976710656:=AX (N3 hlm1)
 obtain ⟨R1,hR1⟩: ∃R,Ss g g.pools 0=R:=⟨_,rfl⟩
 refine Av (fun (i:Nat)=>[(1,(AV.loc 0 0 0)),(3,(Ai i))]) (fun (i:Nat)=>⟨1,[(0,some ⟨26,3,[(A3.av g)]⟩)]⟩) (fun (i:Nat)=>i≤g.pools.length∧Ss g (g.pools.drop i) i=R1) (fun (i:Nat)=>g.pools.length-i) 0 ?_ ?_ ?_
 exact ⟨[0],⟨by decide,rfl,(A0.cons kr A0.nil),(Af.cons (AE.f kr) (Ee Af.nil))⟩,Ar⟩
 exact ⟨od,hR1⟩
 rintro i ⟨hi1,hE1⟩
 try dsimp only
 refine Sq<|Sq<|Rg<|Aq (Ai i)<|Aq (AV.loc 0 0 1)<|Aq (Bj g)<|Ap (Ai g.pools.length) (AN (k:=2) (nl:=false) (e:=122) (A:=AD.av) (xs:=g.pools) kr kr)<|Aq (AV.b (decide (((i:Nat):Int)<((g.pools.length:Nat):Int))))<|Ad ?_
 rcases Nat.lt_or_ge i g.pools.length with hl1|hl1
 have hc1:decide (((i:Nat):Int)<((g.pools.length:Nat):Int))=true:=decide_eq_true (by omega)
 refine A4.cond (t:=true) (by rw [←hc1]<;>kernel_rfl) (A4.skip ?_)
 obtain ⟨x1,hx1⟩: ∃x,g.pools[i]? =some x:=⟨_,List.getElem?_eq_getElem hl1⟩
 rw [AB hx1,Ss.eq_2] at hE1
 refine Sq<|A4.block<|Sq<|A4.drawn A5 C9 37 kr le<|Dq (AV.loc 0 0 1)<|Dq (Bj g)<|Dq (Ai i)<|Dp (AV.pt (AD.av x1).cells) (AQ (k:=2) (nl:=false) (e:=122) (kk:= .i64) (A:=AD.av) (xs:=g.pools) (i:=i) kr kr kr ⟨by kernel_rfl,by decide⟩ hx1)<|Dq (AV.pt ((AD.av x1).cells.drop 0))<|Dq (AV.s x1.name)<|As.sc0 (vs:=[(AV.s x1.name)]) (r0:=(AV.b (Hn x1.name))) kr kr (HJ W x1.name) kr le<|Dq (AV.b (!(Hn x1.name)))<|Dq (AV.b (!(Hn x1.name))) ?_
 cases c_1:(!(Hn x1.name))
 have q_1:=JD c_1
 refine Dy<|Dq (AV.loc 0 0 1)<|Dy<|Dq (Bj g)<|Dy<|Dq (Ai i)<|Dy<|Dp (AV.pt (AD.av x1).cells) (AQ (k:=2) (nl:=false) (e:=122) (kk:= .i64) (A:=AD.av) (xs:=g.pools) (i:=i) kr kr kr ⟨by kernel_rfl,by decide⟩ hx1)<|Dy<|Dq (AV.pt ((AD.av x1).cells.drop 1))<|Dy<|Dq (AV.i .i64 x1.depth)<|Dy<|Dq (AV.b (decide (x1.depth<(1:Int))))<|Dq (AV.b (decide (x1.depth<(1:Int))))<|Dq (AV.b (decide (x1.depth<(1:Int)))) ?_
 cases c_2:decide (x1.depth<(1:Int))
 have k_2:=of_decide_eq_false c_2
 refine Dy<|Dq (AV.loc 0 0 1)<|Dy<|Dq (Bj g)<|Dy<|Dq (Ai i)<|Dy<|Dp (AV.pt (AD.av x1).cells) (AQ (k:=2) (nl:=false) (e:=122) (kk:= .i64) (A:=AD.av) (xs:=g.pools) (i:=i) kr kr kr ⟨by kernel_rfl,by decide⟩ hx1)<|Dy<|Dq (AV.pt ((AD.av x1).cells.drop 1))<|Dy<|Dq (AV.i .i64 x1.depth)<|Dy<|Dq (AV.b (decide ((8:Int)<x1.depth)))<|Dq (AV.b (decide ((8:Int)<x1.depth)))<|Dq (AV.b (decide ((8:Int)<x1.depth))) ?_
 cases c_3:decide ((8:Int)<x1.depth)
 have k_3:=of_decide_eq_false c_3
 refine Dy<|Dq (AV.loc 0 0 1)<|Dy<|Dq (Bj g)<|Dy<|Dq (AV.loc 0 0 1)<|Dy<|Dq (Bj g)<|Dy<|Dq (Ai i)<|Dy<|Dp (AV.pt (AD.av x1).cells) (AQ (k:=2) (nl:=false) (e:=122) (kk:= .i64) (A:=AD.av) (xs:=g.pools) (i:=i) kr kr kr ⟨by kernel_rfl,by decide⟩ hx1)<|Dy<|Dq (AV.pt ((AD.av x1).cells.drop 0))<|Dy<|Dq (AV.s x1.name)<|Dy<|As.sc0 (vs:=[(Bj g),(AV.s x1.name)]) (r0:=(AV.i .i64 (KZ g.pools x1.name))) kr kr (Ln W g.pools x1.name) kr le<|Dy<|Dq (Ai i)<|Dy<|Dq (AV.b (!decide ((KZ g.pools x1.name)=((i:Nat):Int))))<|Dq (AV.b (!decide ((KZ g.pools x1.name)=((i:Nat):Int))))<|As.fin ?_
 cases c_4:(!decide ((KZ g.pools x1.name)=((i:Nat):Int)))
 have k_4:=LI c_4
 refine Cf<|A4.skip<|Rg<|Aq (Ai i)<|Ap (Ai (i+1)) (AA (i:=i) (m:=1) kr kr sd)<|Aq (Ai (i+1))<|Ad ?_
 try simp only [c_1,c_2,c_3,c_4,Aw] at hE1
 refine ⟨i+1,od,⟨od,hE1⟩,?_⟩
 exact ⟨[0],⟨by decide,rfl,(A0.cons kr A0.nil),(Af.cons (AE.f kr) (Ee Af.nil))⟩,Ar⟩
 have k_4:=LJ c_4
 refine Ct<|Sq<|Rg<|Aq (AV.b false)<|Ad<|Rt ?_
 try simp only [c_1,c_2,c_3,c_4,Aw] at hE1
 subst hE1
 exact Fb rfl (by simp only [KV,hR1,Aw])
 have k_3:=of_decide_eq_true c_3
 refine Dn<|Dn<|Dn<|Dn<|Dn<|Dn<|Dn<|Dn<|Dn<|Dn<|Dn<|Dq (AV.b true)<|As.fin<|Ct<|Sq<|Rg<|Aq (AV.b false)<|Ad<|Rt ?_
 try simp only [c_1,c_2,c_3,Aw] at hE1
 subst hE1
 exact Fb rfl (by simp only [KV,hR1,Aw])
 have k_2:=of_decide_eq_true c_2
 refine Dn<|Dn<|Dn<|Dn<|Dn<|Dn<|Dn<|Dq (AV.b true)<|Dq (AV.b true)<|Dn<|Dn<|Dn<|Dn<|Dn<|Dn<|Dn<|Dn<|Dn<|Dn<|Dn<|Dq (AV.b true)<|As.fin<|Ct<|Sq<|Rg<|Aq (AV.b false)<|Ad<|Rt ?_
 try simp only [c_1,c_2,Aw] at hE1
 subst hE1
 exact Fb rfl (by simp only [KV,hR1,Aw])
 refine Dn<|Dn<|Dn<|Dn<|Dn<|Dn<|Dn<|Dq (AV.b true)<|Dq (AV.b true)<|Dn<|Dn<|Dn<|Dn<|Dn<|Dn<|Dn<|Dq (AV.b true)<|Dq (AV.b true)<|Dn<|Dn<|Dn<|Dn<|Dn<|Dn<|Dn<|Dn<|Dn<|Dn<|Dn<|Dq (AV.b true)<|As.fin<|Ct<|Sq<|Rg<|Aq (AV.b false)<|Ad<|Rt ?_
 try simp only [c_1,Aw] at hE1
 subst hE1
 exact Fb rfl (by simp only [KV,hR1,Aw])
 have hc1:decide (((i:Nat):Int)<((g.pools.length:Nat):Int))=false:=decide_eq_false (by omega)
 refine A4.cond (t:=false) (by rw [←hc1]<;>kernel_rfl) (A4.exit ?_)
 rw [List.drop_eq_nil_of_le (hl1),Ss.eq_1] at hE1
 subst hE1
 refine Sq<|Sq<|Rg<|Aq (AV.i .i64 (0:Int))<|Ad<|A4.block<|UJ 1 0 (id:=0) (j:=0) (o:=0) (ob:=⟨26,3,[(A3.av g)]⟩) (x:=(A3.av g)) kr rfl rfl fun hlm2=> ?_
 have hB2:g.edges.length≤281474976710656:=AX (Et (Qg hlm2))
 obtain ⟨R2,hR2⟩: ∃R,Qq g g.edges 0=R:=⟨_,rfl⟩
 refine Av (fun (i2:Nat)=>[(1,(AV.loc 0 0 0)),(4,(Ai i2))]) (fun (i2:Nat)=>⟨1,[(0,some ⟨26,3,[(A3.av g)]⟩)]⟩) (fun (i2:Nat)=>i2≤g.edges.length∧Qq g (g.edges.drop i2) i2=R2) (fun (i2:Nat)=>g.edges.length-i2) 0 ?_ ?_ ?_
 exact ⟨[0],⟨by decide,rfl,(A0.cons kr A0.nil),(Af.cons (AE.f kr) (Ee Af.nil))⟩,Ar⟩
 exact ⟨od,hR2⟩
 rintro i2 ⟨hi2,hE2⟩
 try dsimp only
 refine Sq<|Sq<|Rg<|Aq (Ai i2)<|Aq (AV.loc 0 0 0)<|Aq ((Ag 7 A8.av) g.edges)<|Ap (Ai g.edges.length) (AN (k:=7) (nl:=false) (e:=65) (A:=A8.av) (xs:=g.edges) kr kr)<|Aq (AV.b (decide (((i2:Nat):Int)<((g.edges.length:Nat):Int))))<|Ad ?_
 rcases Nat.lt_or_ge i2 g.edges.length with hl2|hl2
 have hc2:decide (((i2:Nat):Int)<((g.edges.length:Nat):Int))=true:=decide_eq_true (by omega)
 refine A4.cond (t:=true) (by rw [←hc2]<;>kernel_rfl) (A4.skip ?_)
 obtain ⟨x2,hx2⟩: ∃x,g.edges[i2]? =some x:=⟨_,List.getElem?_eq_getElem hl2⟩
 rw [AB hx2,Qq.eq_2] at hE2
 refine Sq<|A4.block<|Sq<|A4.drawn A5 C9 24 kr le<|Dq (AV.loc 0 0 0)<|Dq ((Ag 7 A8.av) g.edges)<|Dq (Ai i2)<|Dp (AV.pt (A8.av x2).cells) (AQ (k:=7) (nl:=false) (e:=65) (kk:= .i64) (A:=A8.av) (xs:=g.edges) (i:=i2) kr kr kr ⟨by kernel_rfl,by decide⟩ hx2)<|Dq (A8.av x2)<|As.sc0 (vs:=[(A8.av x2)]) (r0:=(AV.b (HN x2))) kr kr (KA W x2) kr le<|Dq (AV.b (!(HN x2)))<|Dq (AV.b (!(HN x2))) ?_
 cases c_5:(!(HN x2))
 refine Dy<|Dq (AV.loc 0 0 0)<|Dy<|Dq ((Ag 7 A8.av) g.edges)<|Dy<|Dq (Ai i2)<|Dy<|Dp (AV.pt (A8.av x2).cells) (AQ (k:=7) (nl:=false) (e:=65) (kk:= .i64) (A:=A8.av) (xs:=g.edges) (i:=i2) kr kr kr ⟨by kernel_rfl,by decide⟩ hx2)<|Dy<|Dq (AV.pt ((A8.av x2).cells.drop 6))<|Dy<|Dq (AV.s x2.pool)<|Dy<|Dq (AV.b (!decide (x2.pool=(⟨#[]⟩:ByteArray))))<|Dy<|Dq (AV.b (!decide (x2.pool=(⟨#[]⟩:ByteArray)))) ?_
 cases c_6:(!decide (x2.pool=(⟨#[]⟩:ByteArray)))
 refine Dn<|Dn<|Dn<|Dn<|Dn<|Dn<|Dn<|Dn<|Dn<|Dn<|Dy<|Dq (AV.b false)<|Dq (AV.b false)<|As.fin<|Cf<|A4.skip<|Rg<|Aq (Ai i2)<|Ap (Ai (i2+1)) (AA (i:=i2) (m:=1) kr kr sd)<|Aq (Ai (i2+1))<|Ad ?_
 try simp only [c_5,c_6,Aw] at hE2
 refine ⟨i2+1,od,⟨od,hE2⟩,?_⟩
 exact ⟨[0],⟨by decide,rfl,(A0.cons kr A0.nil),(Af.cons (AE.f kr) (Ee Af.nil))⟩,Ar⟩
 refine Dy<|Dq (AV.loc 0 0 1)<|Dy<|Dq (Bj g)<|Dy<|Dq (AV.loc 0 0 0)<|Dy<|Dq ((Ag 7 A8.av) g.edges)<|Dy<|Dq (Ai i2)<|Dy<|Dp (AV.pt (A8.av x2).cells) (AQ (k:=7) (nl:=false) (e:=65) (kk:= .i64) (A:=A8.av) (xs:=g.edges) (i:=i2) kr kr kr ⟨by kernel_rfl,by decide⟩ hx2)<|Dy<|Dq (AV.pt ((A8.av x2).cells.drop 6))<|Dy<|Dq (AV.s x2.pool)<|Dy<|As.sc0 (vs:=[(Bj g),(AV.s x2.pool)]) (r0:=(AV.i .i64 (KZ g.pools x2.pool))) kr kr (Ln W g.pools x2.pool) kr le<|Dy<|Dq (AV.b (decide ((KZ g.pools x2.pool)<(0:Int))))<|Dy<|Dq (AV.b (decide ((KZ g.pools x2.pool)<(0:Int))))<|Dq (AV.b (decide ((KZ g.pools x2.pool)<(0:Int))))<|As.fin ?_
 cases c_7:decide ((KZ g.pools x2.pool)<(0:Int))
 have k_7:=of_decide_eq_false c_7
 refine Cf<|A4.skip<|Rg<|Aq (Ai i2)<|Ap (Ai (i2+1)) (AA (i:=i2) (m:=1) kr kr sd)<|Aq (Ai (i2+1))<|Ad ?_
 try simp only [c_5,c_6,c_7,Aw] at hE2
 refine ⟨i2+1,od,⟨od,hE2⟩,?_⟩
 exact ⟨[0],⟨by decide,rfl,(A0.cons kr A0.nil),(Af.cons (AE.f kr) (Ee Af.nil))⟩,Ar⟩
 have k_7:=of_decide_eq_true c_7
 refine Ct<|Sq<|Rg<|Aq (AV.b false)<|Ad<|Rt ?_
 try simp only [c_5,c_6,c_7,Aw] at hE2
 subst hE2
 exact Fb rfl (by simp only [KV,hR1,hR2,Aw])
 refine Dn<|Dn<|Dn<|Dn<|Dn<|Dn<|Dn<|Dn<|Dn<|Dn<|Dn<|Dn<|Dn<|Dn<|Dn<|Dn<|Dn<|Dn<|Dn<|Dq (AV.b true)<|As.fin<|Ct<|Sq<|Rg<|Aq (AV.b false)<|Ad<|Rt ?_
 try simp only [c_5,Aw] at hE2
 subst hE2
 exact Fb rfl (by simp only [KV,hR1,hR2,Aw])
 have hc2:decide (((i2:Nat):Int)<((g.edges.length:Nat):Int))=false:=decide_eq_false (by omega)
 refine A4.cond (t:=false) (by rw [←hc2]<;>kernel_rfl) (A4.exit ?_)
 rw [List.drop_eq_nil_of_le (hl2),Qq.eq_1] at hE2
 subst hE2
 refine Sq<|Rg<|Aq (AV.loc 0 0 1)<|Aq (Bj g)<|Ap (Ai g.pools.length) (AN (k:=2) (nl:=false) (e:=122) (A:=AD.av) (xs:=g.pools) kr kr)<|Aq (AV.b (decide (((g.pools.length:Nat):Int)≤(4:Int))))<|Aq (AV.b (decide (((g.pools.length:Nat):Int)≤(4:Int)))) ?_
 cases c_8:decide (((g.pools.length:Nat):Int)≤(4:Int))
 have k_8:=of_decide_eq_false c_8
 refine An<|An<|An<|An<|Aq (AV.b false)<|Aq (AV.b false)<|An<|An<|An<|Aq (AV.b false)<|Aq (AV.b false)<|Ad<|Rt ?_
 exact Fb rfl (by simp only [KV,hR1,hR2,c_8,Aw])
 have k_8:=of_decide_eq_true c_8
 refine Ay<|Aq (AV.loc 0 0 0)<|Ay<|Aq ((Ag 7 A8.av) g.edges)<|Ay<|Ap (Ai g.edges.length) (AN (k:=7) (nl:=false) (e:=65) (A:=A8.av) (xs:=g.edges) kr kr)<|Ay<|Aq (AV.b (decide (((g.edges.length:Nat):Int)≤(16:Int))))<|Aq (AV.b (decide (((g.edges.length:Nat):Int)≤(16:Int))))<|Aq (AV.b (decide (((g.edges.length:Nat):Int)≤(16:Int)))) ?_
 cases c_9:decide (((g.edges.length:Nat):Int)≤(16:Int))
 have k_9:=of_decide_eq_false c_9
 refine An<|An<|An<|Aq (AV.b false)<|Aq (AV.b false)<|Ad<|Rt ?_
 exact Fb rfl (by simp only [KV,hR1,hR2,c_8,c_9,Aw])
 have k_9:=of_decide_eq_true c_9
 refine Ay<|Aq (AV.loc 0 0 2)<|Ay<|Aq ((Ag 1 AV.s) g.defaults)<|Ay<|A1.sc0 (vs:=[((Ag 1 AV.s) g.defaults)]) (r0:=(AV.b (Jo g.defaults))) kr kr (CH W g.defaults) kr le<|Aq (AV.b (Jo g.defaults))<|Aq (AV.b (Jo g.defaults))<|Ad<|Rt ?_
 exact Fb rfl (by simp only [KV,hR1,hR2,c_8,c_9,Aw])
theorem SS (W:World) (g:A3) (hz:Lc g.edges≤1048576):Ah Go.Proofs.Tryz.prog W 113 [(A3.av g)] (AV.i .i64 (Pz g)) []:=by
 refine A9 (fn:=Go.Proofs.Tryz.f113) Go.Proofs.Tryz.func113 rfl (en113 W) (ts:=[2]) rfl le<|Sq<|Rg<|Nn (AV.loc 0 0 0) ⟨26,3,[(A3.av g)]⟩<|Aq (AV.i .i64 (0:Int))<|Ad<|Sq<|Sq<|Rg<|Aq (A3.av g)<|A1.sc0 (vs:=[(A3.av g)]) (r0:=(AV.b (KV g))) kr kr (OD W g) kr le<|Aq (AV.b (!(KV g)))<|Ad ?_
 cases c_1:(!(KV g))
 refine Cf<|A4.skip<|Sq<|Rg<|Aq (AV.sl 1 true [])<|Ad<|Sq<|Sq<|Rg<|Aq (AV.i .i64 (0:Int))<|Ad<|A4.block<|A4.lim 0 (x:=(A3.av g)) kr fun hlm1=> ?_
 have hB1:g.edges.length≤281474976710656:=AX (Et hlm1)
 obtain ⟨R1,hR1⟩: ∃R,Ua g.edges 0 []=R:=⟨_,rfl⟩
 refine Av (fun ((all,i):(List ByteArray)×Nat)=>[(1,(AV.loc 1 0 0)),(3,(B7 0 1 AV.s all)),(4,(Ai i))]) (fun ((all,i):(List ByteArray)×Nat)=>⟨2,[(0,Fv 9 1 AV.s all),(1,some ⟨26,3,[(A3.av g)]⟩)]⟩) (fun ((all,i):(List ByteArray)×Nat)=>i≤g.edges.length∧all.length+Lc (g.edges.drop i)≤Lc g.edges∧Ua (g.edges.drop i) i all=R1) (fun ((all,i):(List ByteArray)×Nat)=>g.edges.length-i) ([],0) ?_ ?_ ?_
 exact ⟨[1000000,0],⟨by decide,rfl,(A0.cons rfl (A0.cons kr A0.nil)),(Af.cons (AE.f kr) (Ee (Ee Af.nil)))⟩,Ar⟩
 exact ⟨od,by (try dsimp only)<;>(simp),hR1⟩
 rintro ⟨all,i⟩ ⟨hi1,ha,hE1⟩
 try dsimp only
 refine Sq<|Sq<|Rg<|Aq (Ai i)<|Aq (AV.loc 1 0 0)<|Aq ((Ag 7 A8.av) g.edges)<|Ap (Ai g.edges.length) (AN (k:=7) (nl:=false) (e:=65) (A:=A8.av) (xs:=g.edges) kr kr)<|Aq (AV.b (decide (((i:Nat):Int)<((g.edges.length:Nat):Int))))<|Ad ?_
 rcases Nat.lt_or_ge i g.edges.length with hl1|hl1
 have hc1:decide (((i:Nat):Int)<((g.edges.length:Nat):Int))=true:=decide_eq_true (by omega)
 refine A4.cond (t:=true) (by rw [←hc1]<;>kernel_rfl) (A4.skip ?_)
 obtain ⟨x1,hx1⟩: ∃x,g.edges[i]? =some x:=⟨_,List.getElem?_eq_getElem hl1⟩
 rw [AB hx1,Ua.eq_2] at hE1
 rw [AB hx1] at ha
 simp only [Lc] at ha
 refine Sq<|A4.block<|Sq<|Rg<|Aq (AV.i .i64 (0:Int))<|Ad<|A4.block<|A4.lim 11 (x:=((Ag 7 A8.av) g.edges)) kr fun hlm2=> ?_
 have hB2:x1.outs.length≤281474976710656:=AX (JS (lim_mem hlm2 hx1))
 obtain ⟨R2,hR2⟩: ∃R,Ub x1.outs 0 all=R:=⟨_,rfl⟩
 refine Av (fun ((all2,k):(List ByteArray)×Nat)=>[(1,(AV.loc 1 0 0)),(4,(Ai i)),(3,(B7 0 1 AV.s all2)),(5,(Ai k))]) (fun ((all2,k):(List ByteArray)×Nat)=>⟨2,[(0,Fv 9 1 AV.s all2),(1,some ⟨26,3,[(A3.av g)]⟩)]⟩) (fun ((all2,k):(List ByteArray)×Nat)=>k≤x1.outs.length∧all2.length≤all.length+k∧Ub (x1.outs.drop k) k all2=R2) (fun ((all2,k):(List ByteArray)×Nat)=>x1.outs.length-k) (all,0) ?_ ?_ ?_
 exact ⟨[0,1],⟨by decide,rfl,(A0.cons (Cz (fun _=>rfl) (e:=9) (k:=1) (A:=AV.s) (xs:=all) rfl rfl) (A0.cons kr A0.nil)),(Af.cons (AE.f kr) (Ee (Af.cons (BR (by decide)) (Ee Af.nil))))⟩,Ar⟩
 exact ⟨od,DO,hR2⟩
 rintro ⟨all2,k⟩ ⟨hi2,hb,hE2⟩
 try dsimp only
 refine Sq<|Sq<|Rg<|Aq (Ai k)<|Aq (AV.loc 1 0 0)<|Aq ((Ag 7 A8.av) g.edges)<|Aq (Ai i)<|Ap (AV.pt (A8.av x1).cells) (AQ (k:=7) (nl:=false) (e:=65) (kk:= .i64) (A:=A8.av) (xs:=g.edges) (i:=i) kr kr kr ⟨by kernel_rfl,by decide⟩ hx1)<|Aq (AV.pt ((A8.av x1).cells.drop 0))<|Aq ((Ag 1 AV.s) x1.outs)<|Ap (Ai x1.outs.length) (AN (k:=1) (nl:=false) (e:=9) (A:=AV.s) (xs:=x1.outs) kr kr)<|Aq (AV.b (decide (((k:Nat):Int)<((x1.outs.length:Nat):Int))))<|Ad ?_
 rcases Nat.lt_or_ge k x1.outs.length with hl2|hl2
 have hc2:decide (((k:Nat):Int)<((x1.outs.length:Nat):Int))=true:=decide_eq_true (by omega)
 refine A4.cond (t:=true) (by rw [←hc2]<;>kernel_rfl) (A4.skip ?_)
 obtain ⟨x2,hx2⟩: ∃x,x1.outs[k]? =some x:=⟨_,List.getElem?_eq_getElem hl2⟩
 rw [AB hx2,Ub.eq_2] at hE2
 refine Sq<|A4.block<|Sq<|Sq<|Rg<|Aq (B7 0 1 AV.s all2)<|Aq (AV.loc 1 0 0)<|Aq ((Ag 7 A8.av) g.edges)<|Aq (Ai i)<|Ap (AV.pt (A8.av x1).cells) (AQ (k:=7) (nl:=false) (e:=65) (kk:= .i64) (A:=A8.av) (xs:=g.edges) (i:=i) kr kr kr ⟨by kernel_rfl,by decide⟩ hx1)<|Aq (AV.pt ((A8.av x1).cells.drop 0))<|Aq ((Ag 1 AV.s) x1.outs)<|Aq (Ai k)<|Ap (AV.pt (AV.s x2).cells) (AQ (k:=1) (nl:=false) (e:=9) (kk:= .i64) (A:=AV.s) (xs:=x1.outs) (i:=k) kr kr kr ⟨by kernel_rfl,by decide⟩ hx2)<|Aq (AV.s x2)<|A1.sfw (vs:=[(B7 0 1 AV.s all2),(AV.s x2)]) (ss:=[((Ag 1 AV.s) all2),(AV.s x2)]) (r0:=(AV.b (Mo all2 x2))) kr (show Bc _ _ _ from ⟨(Al.w (Al.cast (x':=(B7 0 1 AV.s all2)) kr kr (Al.acc (fun _=>rfl) (A:=AV.s) (e:=9) (k:=1) (id:=0) (xs:=all2) rfl rfl sd))),⟨(Bc.e kr),trivial⟩⟩) (Qd W all2 x2) rfl kr le<|Ad ?_
 cases c_2:(Mo all2 x2)
 refine Cf<|A4.skip<|Rg<|Aq (B7 0 1 AV.s all2)<|Aq (AV.loc 1 0 0)<|Aq ((Ag 7 A8.av) g.edges)<|Aq (Ai i)<|Ap (AV.pt (A8.av x1).cells) (AQ (k:=7) (nl:=false) (e:=65) (kk:= .i64) (A:=A8.av) (xs:=g.edges) (i:=i) kr kr kr ⟨by kernel_rfl,by decide⟩ hx1)<|Aq (AV.pt ((A8.av x1).cells.drop 0))<|Aq ((Ag 1 AV.s) x1.outs)<|Aq (Ai k)<|Ap (AV.pt (AV.s x2).cells) (AQ (k:=1) (nl:=false) (e:=9) (kk:= .i64) (A:=AV.s) (xs:=x1.outs) (i:=k) kr kr kr ⟨by kernel_rfl,by decide⟩ hx2)<|Aq (AV.s x2)<|Nn (AV.own 2 0 1) ⟨9,1,[x2].map AV.s⟩<|AY (x:=(AV.own 3 0 ((all2++[x2]).length))) (h':=⟨4,[(3,some ⟨9,1,(all2++[x2]).map AV.s⟩),(2,some ⟨9,1,[x2].map AV.s⟩),(0,none),(1,some ⟨26,3,[(A3.av g)]⟩)]⟩) (Mg (e:=9) (X:=(AV.own 2 0 1)) (A:=AV.s) (i:=DU) (p:=0) (xs:=all2) (ys:=[x2]) kr kr kr (hx:=kr) kr (by simp) ⟨by decide,by kernel_rfl⟩ rfl (by intro q;first|(subst q;rfl)|(rw [q];rfl)|(simp only [q];rfl)) (by show _*16≤140737488355328;first|omega|(simp only [List.length_append,List.length_cons,List.length_nil,List.length_set,List.length_replicate];omega)|(simp;omega)) sd) le<|Aq (AV.own 3 0 ((all2++[x2]).length))<|Ad<|Rg<|Aq (Ai k)<|Ap (Ai (k+1)) (AA (i:=k) (m:=1) kr kr sd)<|Aq (Ai (k+1))<|Ad ?_
 try simp only [c_2,Aw] at hE2
 refine ⟨((all2++[x2]),k+1),od,⟨od,DO,hE2⟩,?_⟩
 exact ⟨[3,1],⟨by decide,rfl,(A0.cons (FG (fun _=>rfl) (e:=9) (k:=1) (A:=AV.s) (xs:=(all2++[x2])) (by simp) rfl rfl) (A0.cons kr A0.nil)),(Af.cons (AE.f kr) (Ee (Af.cons (GB (A:=AV.s) (xs:=(all2++[x2])) (by decide) (by simp) rfl) (Ee Af.nil))))⟩,Ar⟩
 refine Ct<|Sq<|Rg<|Aq (AV.i .i64 (901:Int))<|Ad<|Rt ?_
 try simp only [c_2,Aw] at hE2
 subst hE2
 try simp only [hR2,Aw] at hE1
 subst hE1
 exact Fi rfl (by simp only [Pz,c_1,hR1,Aw])
 have hc2:decide (((k:Nat):Int)<((x1.outs.length:Nat):Int))=false:=decide_eq_false (by omega)
 refine A4.cond (t:=false) (by rw [←hc2]<;>kernel_rfl) (A4.exit ?_)
 rw [List.drop_eq_nil_of_le (hl2),Ub.eq_1] at hE2
 subst hE2
 refine Rg<|Aq (Ai i)<|Ap (Ai (i+1)) (AA (i:=i) (m:=1) kr kr sd)<|Aq (Ai (i+1))<|Ad ?_
 try simp only [hR2,Aw] at hE1
 refine ⟨(all2,i+1),od,⟨od,by (try dsimp only)<;>(omega),hE1⟩,?_⟩
 exact ⟨[0,1],⟨by decide,rfl,(A0.cons (Cz (fun _=>rfl) (e:=9) (k:=1) (A:=AV.s) (xs:=all2) rfl rfl) (A0.cons kr A0.nil)),(Af.cons (AE.f kr) (Af.cons (BR (by decide)) (Ee Af.nil)))⟩,Ar⟩
 have hc1:decide (((i:Nat):Int)<((g.edges.length:Nat):Int))=false:=decide_eq_false (by omega)
 refine A4.cond (t:=false) (by rw [←hc1]<;>kernel_rfl) (A4.exit ?_)
 rw [List.drop_eq_nil_of_le (hl1),Ua.eq_1] at hE1
 subst hE1
 refine Sq<|Rg<|Aq (AV.i .i64 (0:Int))<|Ad<|Rt ?_
 exact Fi rfl (by simp only [Pz,c_1,hR1,Aw])
 refine Ct<|Sq<|Rg<|Aq (AV.i .i64 (900:Int))<|Ad<|Rt ?_
 exact Fi rfl (by simp only [Pz,c_1,Aw])
theorem HI (W:World) (g:A3) (name:ByteArray):Ah Go.Proofs.Tryz.prog W 45 [(A3.av g),(AV.s name)] (AV.i .i64 (Hq g name)) []:=by
 refine A9 (fn:=Go.Proofs.Tryz.f45) Go.Proofs.Tryz.func45 rfl (en45 W) (ts:=[4]) rfl le<|Sq<|Rg<|Nn (AV.loc 0 0 0) ⟨26,3,[(A3.av g)]⟩<|Aq (AV.i .i64 (0:Int))<|Ad<|Sq<|Sq<|Rg<|Aq (AV.i .i64 (0:Int))<|Ad<|A4.block<|A4.lim 0 (x:=(A3.av g)) kr fun hlm1=> ?_
 have hB1:g.edges.length≤281474976710656:=AX (Et hlm1)
 obtain ⟨R1,hR1⟩: ∃R,WA name g.edges 0=R:=⟨_,rfl⟩
 refine Av (fun (i:Nat)=>[(1,(AV.s name)),(2,(AV.loc 0 0 0)),(5,(Ai i))]) (fun (i:Nat)=>⟨1,[(0,some ⟨26,3,[(A3.av g)]⟩)]⟩) (fun (i:Nat)=>i≤g.edges.length∧WA name (g.edges.drop i) i=R1) (fun (i:Nat)=>g.edges.length-i) 0 ?_ ?_ ?_
 exact ⟨[0],⟨by decide,rfl,(A0.cons kr A0.nil),(Ee (Af.cons (AE.f kr) (Ee Af.nil)))⟩,Ar⟩
 exact ⟨od,hR1⟩
 rintro i ⟨hi1,hE1⟩
 try dsimp only
 refine Sq<|Sq<|Rg<|Aq (Ai i)<|Aq (AV.loc 0 0 0)<|Aq ((Ag 7 A8.av) g.edges)<|Ap (Ai g.edges.length) (AN (k:=7) (nl:=false) (e:=65) (A:=A8.av) (xs:=g.edges) kr kr)<|Aq (AV.b (decide (((i:Nat):Int)<((g.edges.length:Nat):Int))))<|Ad ?_
 rcases Nat.lt_or_ge i g.edges.length with hl1|hl1
 have hc1:decide (((i:Nat):Int)<((g.edges.length:Nat):Int))=true:=decide_eq_true (by omega)
 refine A4.cond (t:=true) (by rw [←hc1]<;>kernel_rfl) (A4.skip ?_)
 obtain ⟨x1,hx1⟩: ∃x,g.edges[i]? =some x:=⟨_,List.getElem?_eq_getElem hl1⟩
 rw [AB hx1,WA.eq_2] at hE1
 refine Sq<|A4.block<|Sq<|Rg<|Aq (AV.loc 0 0 0)<|Aq ((Ag 7 A8.av) g.edges)<|Aq (Ai i)<|Ap (AV.pt (A8.av x1).cells) (AQ (k:=7) (nl:=false) (e:=65) (kk:= .i64) (A:=A8.av) (xs:=g.edges) (i:=i) kr kr kr ⟨by kernel_rfl,by decide⟩ hx1)<|Aq (AV.pt ((A8.av x1).cells.drop 0))<|Aq ((Ag 1 AV.s) x1.outs)<|Aq (AV.s name)<|A1.sc0 (vs:=[((Ag 1 AV.s) x1.outs),(AV.s name)]) (r0:=(AV.b (Mo x1.outs name))) kr kr (Qd W x1.outs name) kr le<|Ad ?_
 cases c_1:(Mo x1.outs name)
 refine Cf<|A4.skip<|Rg<|Aq (Ai i)<|Ap (Ai (i+1)) (AA (i:=i) (m:=1) kr kr sd)<|Aq (Ai (i+1))<|Ad ?_
 try simp only [c_1,Aw] at hE1
 refine ⟨i+1,od,⟨od,hE1⟩,?_⟩
 exact ⟨[0],⟨by decide,rfl,(A0.cons kr A0.nil),(Ee (Af.cons (AE.f kr) (Ee Af.nil)))⟩,Ar⟩
 refine Ct<|Sq<|Rg<|Aq (Ai i)<|Aq (Ai i)<|Ad<|Rt ?_
 try simp only [c_1,Aw] at hE1
 subst hE1
 exact Fi rfl (by simp only [Hq,hR1,Aw])
 have hc1:decide (((i:Nat):Int)<((g.edges.length:Nat):Int))=false:=decide_eq_false (by omega)
 refine A4.cond (t:=false) (by rw [←hc1]<;>kernel_rfl) (A4.exit ?_)
 rw [List.drop_eq_nil_of_le (hl1),WA.eq_1] at hE1
 subst hE1
 refine Sq<|Rg<|Aq (AV.i .i64 (-1:Int))<|Ad<|Rt ?_
 exact Fi rfl (by simp only [Hq,hR1,Aw])
def D2 (g:A3):Obj:=⟨26,3,[(A3.av g)]⟩
def EZ (g:A3) (edge:Int):Obj:=⟨9,1,(((g.edges.getD edge.toNat default).ins++(g.edges.getD edge.toNat default).implicit)++(g.edges.getD edge.toNat default).order).map AV.s⟩
def EY (g:A3) (edge:Int):Obj:=⟨65,7,[(AV.st [((Ag 1 AV.s) ((g.edges.getD edge.toNat default).outs)),((Ag 1 AV.s) ((g.edges.getD edge.toNat default).ins)),((Ag 1 AV.s) ((g.edges.getD edge.toNat default).implicit)),((Ag 1 AV.s) ((g.edges.getD edge.toNat default).order)),(AV.s ((g.edges.getD edge.toNat default).command)),(AV.b ((g.edges.getD edge.toNat default).deps)),(AV.s ((g.edges.getD edge.toNat default).pool))])]⟩
theorem ST (W:World) (g:A3) (edge:Int) (he:edge.toNat<g.edges.length∧0≤edge) (hz:Is g edge≤1048576):Ah Go.Proofs.Tryz.prog W 114 [(A3.av g),(AV.i .i64 edge)] ((Ag 1 (AV.i .i64)) (Fh g edge)) []:=by
 have hz':=hz
 unfold Is at hz'
 have hlen:(((g.edges.getD edge.toNat default).ins++(g.edges.getD edge.toNat default).implicit)++(g.edges.getD edge.toNat default).order).length=Is g edge:=by simp [Is];omega
 refine A9 (fn:=Go.Proofs.Tryz.f114) Go.Proofs.Tryz.func114 rfl (en114 W) (ts:=[4]) rfl le<|Sq<|Rg<|Nn (AV.loc 0 0 0) (D2 g)<|Aq (AV.sl 1 true [])<|Ad<|Sq<|Rg<|Aq (AV.loc 0 0 0)<|Aq ((Ag 7 A8.av) g.edges)<|Aq (AV.i .i64 edge)<|Ap (AV.pt (A8.av (g.edges.getD edge.toNat default)).cells) (Ei (k:=7) (nl:=false) (e:=65) (kk:= .i64) (A:=A8.av) (xs:=g.edges) (n:=edge) kr kr kr ⟨by kernel_rfl,by decide⟩ sd (getD_some sd))<|Aq (A8.av (g.edges.getD edge.toNat default))<|Nn (AV.loc 1 0 0) ⟨65,7,[(AV.st [(AV.sl 1 true []),(AV.sl 1 true []),(AV.sl 1 true []),(AV.sl 1 true []),(AV.s (⟨#[]⟩:ByteArray)),(AV.b false),(AV.s (⟨#[]⟩:ByteArray))])]⟩<|Sp 1 (EY g edge)<|Ad<|Sq<|Rg<|Nn (AV.own 2 0 0) ⟨9,1,[].map AV.s⟩<|Aq (AV.loc 1 0 1)<|Aq ((Ag 1 AV.s) ((g.edges.getD edge.toNat default).ins))<|AY (x:=(AV.own 3 0 ((g.edges.getD edge.toNat default).ins.length))) (h':=⟨4,[(3,some ⟨9,1,((g.edges.getD edge.toNat default).ins).map AV.s⟩),(2,none),(1,some (EY g edge)),(0,some (D2 g))]⟩) (CE (len:=0) (e:=9) (X:=((Ag 1 AV.s) ((g.edges.getD edge.toNat default).ins))) (A:=AV.s) (i:=DU) (p:=2) (xs:=[]) (ys:=(g.edges.getD edge.toNat default).ins) kr kr kr (hx:=kr) kr ⟨by decide,by kernel_rfl⟩ rfl sd (by show _*16≤140737488355328;first|omega|(simp only [List.length_append,List.length_cons,List.length_nil,List.length_set,List.length_replicate];omega)|(simp;omega)) sd) le ?_
 refine Aq (AV.own 3 0 ((g.edges.getD edge.toNat default).ins.length))<|Ad<|Sq<|Rg<|Aq (AV.own 3 0 ((g.edges.getD edge.toNat default).ins.length))<|Aq (AV.loc 1 0 2)<|Aq ((Ag 1 AV.s) ((g.edges.getD edge.toNat default).implicit))<|AY (x:=(AV.own 4 0 (((g.edges.getD edge.toNat default).ins++(g.edges.getD edge.toNat default).implicit).length))) (h':=⟨5,[(4,some ⟨9,1,((g.edges.getD edge.toNat default).ins++(g.edges.getD edge.toNat default).implicit).map AV.s⟩),(3,none),(2,none),(1,some (EY g edge)),(0,some (D2 g))]⟩) (CE (len:=((g.edges.getD edge.toNat default).ins.length)) (e:=9) (X:=((Ag 1 AV.s) ((g.edges.getD edge.toNat default).implicit))) (A:=AV.s) (i:=DU) (p:=3) (xs:=((g.edges.getD edge.toNat default).ins)) (ys:=(g.edges.getD edge.toNat default).implicit) kr kr kr (hx:=kr) kr ⟨by decide,by kernel_rfl⟩ rfl sd (by show _*16≤140737488355328;first|omega|(simp only [List.length_append,List.length_cons,List.length_nil,List.length_set,List.length_replicate];omega)|(simp;omega)) sd) le<|Aq (AV.own 4 0 (((g.edges.getD edge.toNat default).ins++(g.edges.getD edge.toNat default).implicit).length)) ?_
 refine Ad<|Sq<|Rg<|Aq (AV.own 4 0 (((g.edges.getD edge.toNat default).ins++(g.edges.getD edge.toNat default).implicit).length))<|Aq (AV.loc 1 0 3)<|Aq ((Ag 1 AV.s) ((g.edges.getD edge.toNat default).order))<|AY (x:=(AV.own 5 0 ((((g.edges.getD edge.toNat default).ins++(g.edges.getD edge.toNat default).implicit)++(g.edges.getD edge.toNat default).order).length))) (h':=⟨6,[(5,some (EZ g edge)),(4,none),(3,none),(2,none),(1,some (EY g edge)),(0,some (D2 g))]⟩) (CE (len:=(((g.edges.getD edge.toNat default).ins++(g.edges.getD edge.toNat default).implicit).length)) (e:=9) (X:=((Ag 1 AV.s) ((g.edges.getD edge.toNat default).order))) (A:=AV.s) (i:=DU) (p:=4) (xs:=((g.edges.getD edge.toNat default).ins++(g.edges.getD edge.toNat default).implicit)) (ys:=(g.edges.getD edge.toNat default).order) kr kr kr (hx:=kr) kr ⟨by decide,by kernel_rfl⟩ rfl rfl (by show _*16≤140737488355328;first|omega|(simp only [List.length_append,List.length_cons,List.length_nil,List.length_set,List.length_replicate];omega)|(simp;omega)) sd) le ?_
 refine Aq (AV.own 5 0 ((((g.edges.getD edge.toNat default).ins++(g.edges.getD edge.toNat default).implicit)++(g.edges.getD edge.toNat default).order).length))<|Ad<|Sq<|Rg<|Aq (AV.sl 1 true [])<|Ad<|Sq<|Sq<|Rg<|Aq (AV.i .i64 (0:Int))<|Ad<|A4.block ?_
 have hB1:((((g.edges.getD edge.toNat default).ins++(g.edges.getD edge.toNat default).implicit)++(g.edges.getD edge.toNat default).order).length)≤281474976710656:=by first|omega|(simp;done)|(simp;omega)
 obtain ⟨R1,hR1⟩: ∃R,Sv g (((g.edges.getD edge.toNat default).ins++(g.edges.getD edge.toNat default).implicit)++(g.edges.getD edge.toNat default).order) 0 []=R:=⟨_,rfl⟩
 refine Av (fun ((out,i):(List Int)×Nat)=>[(2,(AV.loc 1 0 0)),(6,(AV.own 2 0 ((((g.edges.getD edge.toNat default).ins++(g.edges.getD edge.toNat default).implicit)++(g.edges.getD edge.toNat default).order).length))),(7,(B7 0 1 (AV.i .i64) out)),(8,(Ai i))]) (fun ((out,i):(List Int)×Nat)=>⟨3,[(0,Fv 3 1 (AV.i .i64) out),(1,some (D2 g)),(2,some (EZ g edge))]⟩) (fun ((out,i):(List Int)×Nat)=>i≤((((g.edges.getD edge.toNat default).ins++(g.edges.getD edge.toNat default).implicit)++(g.edges.getD edge.toNat default).order).length)∧out.length≤i∧Sv g ((((g.edges.getD edge.toNat default).ins++(g.edges.getD edge.toNat default).implicit)++(g.edges.getD edge.toNat default).order).drop i) i out=R1) (fun ((out,i):(List Int)×Nat)=>((((g.edges.getD edge.toNat default).ins++(g.edges.getD edge.toNat default).implicit)++(g.edges.getD edge.toNat default).order).length)-i) ([],0) ?_ ?_ ?_
 exact ⟨[1000000,0,5],⟨by decide,rfl,(A0.cons rfl (A0.cons kr (A0.cons (Az (fun _=>rfl) (e:=9) (k:=1) (A:=AV.s) (xs:=(((g.edges.getD edge.toNat default).ins++(g.edges.getD edge.toNat default).implicit)++(g.edges.getD edge.toNat default).order)) rfl rfl) A0.nil))),(Af.cons (AE.f kr) (Af.cons (AE.f kr) (Ee (Ee Af.nil))))⟩,Ar⟩
 exact ⟨od,DO,hR1⟩
 rintro ⟨out,i⟩ ⟨hi1,hl,hE1⟩
 try dsimp only
 refine Sq<|Sq<|Rg<|Aq (Ai i)<|Aq (AV.own 2 0 ((((g.edges.getD edge.toNat default).ins++(g.edges.getD edge.toNat default).implicit)++(g.edges.getD edge.toNat default).order).length))<|Aq (AV.i .i64 (((((g.edges.getD edge.toNat default).ins++(g.edges.getD edge.toNat default).implicit)++(g.edges.getD edge.toNat default).order).length:Nat):Int))<|Aq (AV.b (decide (((i:Nat):Int)<(((((g.edges.getD edge.toNat default).ins++(g.edges.getD edge.toNat default).implicit)++(g.edges.getD edge.toNat default).order).length:Nat):Int))))<|Ad ?_
 rcases Nat.lt_or_ge i ((((g.edges.getD edge.toNat default).ins++(g.edges.getD edge.toNat default).implicit)++(g.edges.getD edge.toNat default).order).length) with hl1|hl1
 have hc1:decide (((i:Nat):Int)<((((((g.edges.getD edge.toNat default).ins++(g.edges.getD edge.toNat default).implicit)++(g.edges.getD edge.toNat default).order).length):Nat):Int))=true:=decide_eq_true (by omega)
 refine A4.cond (t:=true) (by rw [←hc1]<;>kernel_rfl) (A4.skip ?_)
 obtain ⟨x1,hx1⟩: ∃x,(((g.edges.getD edge.toNat default).ins++(g.edges.getD edge.toNat default).implicit)++(g.edges.getD edge.toNat default).order)[i]? =some x:=⟨_,List.getElem?_eq_getElem (by first|(simpa using hl1)|omega)⟩
 rw [AB hx1,Sv.eq_2] at hE1
 refine Sq<|A4.block<|Sq<|A4.drawn A5 C9 5 kr le<|Dq (A3.av g)<|Dq (AV.own 2 0 ((((g.edges.getD edge.toNat default).ins++(g.edges.getD edge.toNat default).implicit)++(g.edges.getD edge.toNat default).order).length))<|Dq (Ai i)<|Dp (AV.loc 2 i 0) (Ge (e:=9) (id:=2) (len:=((((g.edges.getD edge.toNat default).ins++(g.edges.getD edge.toNat default).implicit)++(g.edges.getD edge.toNat default).order).length)) (kk:= .i64) (ob:=(EZ g edge)) (i:=i) kr kr kr rfl kr sd)<|Dp (AV.s x1) (Dg (e:=9) (k:=1) (i:=DU) (id:=2) (xs:=(((g.edges.getD edge.toNat default).ins++(g.edges.getD edge.toNat default).implicit)++(g.edges.getD edge.toNat default).order)) (A:=AV.s) (j:=i) kr kr rfl hx1 kr)<|As.sc0 (vs:=[(A3.av g),(AV.s x1)]) (r0:=(AV.i .i64 (Hq g x1))) kr kr (HI W g x1) kr le<|Dq (AV.i .i64 (Hq g x1))<|As.fin<|Sq<|Rg<|Aq (AV.i .i64 (Hq g x1))<|Aq (AV.b (decide ((0:Int)≤(Hq g x1))))<|Ad ?_
 cases c_1:decide ((0:Int)≤(Hq g x1))
 have k_1:=of_decide_eq_false c_1
 refine Cf<|A4.skip<|Rg<|Aq (Ai i)<|Ap (Ai (i+1)) (AA (i:=i) (m:=1) kr kr sd)<|Aq (Ai (i+1))<|Ad ?_
 try simp only [c_1,Aw] at hE1
 refine ⟨(out,i+1),od,⟨od,DO,hE1⟩,?_⟩
 exact ⟨[0,1,2],⟨by decide,rfl,(A0.cons (Cz (fun _=>rfl) (e:=3) (k:=1) (A:=(AV.i .i64)) (xs:=out) rfl rfl) (A0.cons kr (A0.cons (Az (fun _=>rfl) (e:=9) (k:=1) (A:=AV.s) (xs:=(((g.edges.getD edge.toNat default).ins++(g.edges.getD edge.toNat default).implicit)++(g.edges.getD edge.toNat default).order)) rfl rfl) A0.nil))),(Af.cons (AE.f kr) (Af.cons (AE.f kr) (Af.cons (BR (by decide)) (Ee Af.nil))))⟩,Ar⟩
 have k_1:=of_decide_eq_true c_1
 refine Ct<|Rg<|Aq (B7 0 1 (AV.i .i64) out)<|Aq (AV.i .i64 (Hq g x1))<|Nn (AV.own 3 0 1) ⟨3,1,[(Hq g x1)].map (AV.i .i64)⟩<|AY (x:=(AV.own 4 0 ((out++[(Hq g x1)]).length))) (h':=⟨5,[(4,some ⟨3,1,(out++[(Hq g x1)]).map (AV.i .i64)⟩),(3,some ⟨3,1,[(Hq g x1)].map (AV.i .i64)⟩),(0,none),(1,some (D2 g)),(2,some (EZ g edge))]⟩) (Mg (e:=3) (X:=(AV.own 3 0 1)) (A:=(AV.i .i64)) (i:=Yf) (p:=0) (xs:=out) (ys:=[(Hq g x1)]) kr kr kr (hx:=kr) kr (by simp) ⟨by decide,by kernel_rfl⟩ rfl (by intro q;first|(subst q;rfl)|(rw [q];rfl)|(simp only [q];rfl)) (by show _*8≤140737488355328;first|omega|(simp only [List.length_append,List.length_cons,List.length_nil,List.length_set,List.length_replicate];omega)|(simp;omega)) sd) le<|Aq (AV.own 4 0 ((out++[(Hq g x1)]).length))<|Ad<|Rg<|Aq (Ai i)<|Ap (Ai (i+1)) (AA (i:=i) (m:=1) kr kr sd)<|Aq (Ai (i+1))<|Ad ?_
 try simp only [c_1,Aw] at hE1
 refine ⟨((out++[(Hq g x1)]),i+1),od,⟨od,DO,hE1⟩,?_⟩
 exact ⟨[4,1,2],⟨by decide,rfl,(A0.cons (FG (fun _=>rfl) (e:=3) (k:=1) (A:=(AV.i .i64)) (xs:=(out++[(Hq g x1)])) (by simp) rfl rfl) (A0.cons kr (A0.cons (Az (fun _=>rfl) (e:=9) (k:=1) (A:=AV.s) (xs:=(((g.edges.getD edge.toNat default).ins++(g.edges.getD edge.toNat default).implicit)++(g.edges.getD edge.toNat default).order)) rfl rfl) A0.nil))),(Af.cons (AE.f kr) (Af.cons (AE.f kr) (Af.cons (GB (A:=(AV.i .i64)) (xs:=(out++[(Hq g x1)])) (by decide) (by simp) rfl) (Ee Af.nil))))⟩,Ar⟩
 have hc1:decide (((i:Nat):Int)<((((((g.edges.getD edge.toNat default).ins++(g.edges.getD edge.toNat default).implicit)++(g.edges.getD edge.toNat default).order).length):Nat):Int))=false:=decide_eq_false (by omega)
 refine A4.cond (t:=false) (by rw [←hc1]<;>kernel_rfl) (A4.exit ?_)
 rw [List.drop_eq_nil_of_le (by first|(simpa using hl1)|omega),Sv.eq_1] at hE1
 subst hE1
 refine Sq<|Rg<|Aq (B7 0 1 (AV.i .i64) out)<|Aq (B7 0 1 (AV.i .i64) out)<|Ad<|Rt ?_
 have hM:Fh g edge=out:=by simp only [Fh,hR1,Aw]
 refine ⟨Or.inr rfl,?_⟩
 rw [hM]
 exact AE.cast (x':=(B7 0 1 (AV.i .i64) out)) (y':=((Ag 1 (AV.i .i64)) out)) kr kr (AE.cast (x':=(B7 0 1 (AV.i .i64) out)) (y':=Ag 1 (AV.i .i64) out) kr kr (HR (fun _=>rfl) (by decide) (by decide) (e:=3) (k:=1) rfl sd))
def CG (g:A3):Obj:=⟨26,3,[(A3.av g)]⟩
theorem MY (W:World) (g:A3) (hz0:g.sz≤1048576):Ah Go.Proofs.Tryz.prog W 64 [(A3.av g)] (AV.tup [((Ag 1 (AV.i .i64)) ((Hb g).1)),(AV.i .i64 ((Hb g).2))]) []:=by
 have hz: ∀i,Is g i≤1048576:=fun i=>Nat.le_trans (Ro g i) hz0
 have hzo:Lc g.edges≤1048576:=Nat.le_trans (Um g) hz0
 have hgl:g.edges.length≤1048576:=Nat.le_trans g.sz_len hz0
 have hnm: ∀e k,k∈Fh g e→0≤k∧k.toNat<g.edges.length:=fun e k hk=>LP hk
 refine A9 (fn:=Go.Proofs.Tryz.f64) Go.Proofs.Tryz.func64 rfl (en64 W) (ts:=[2,3]) rfl le<|Sq<|Rg<|Nn (AV.loc 0 0 0) (CG g)<|Aq (AV.sl 1 true [])<|Aq (AV.i .i64 (0:Int))<|Ad<|Sq<|Sq<|Rg<|Aq (A3.av g)<|A1.sc0 (vs:=[(A3.av g)]) (r0:=(AV.i .i64 (Pz g))) kr kr (SS W g hzo) kr le<|Aq (AV.b (!decide ((Pz g)=(0:Int))))<|Ad ?_
 cases c_1:(!decide ((Pz g)=(0:Int)))
 have k_1:=LI c_1
 refine Cf<|A4.skip<|Sq<|Rg<|Aq (AV.loc 0 0 0)<|Aq ((Ag 7 A8.av) g.edges)<|Ap (Ai g.edges.length) (AN (k:=7) (nl:=false) (e:=65) (A:=A8.av) (xs:=g.edges) kr kr)<|A1.sn (x:=(AV.own 1 0 g.edges.length)) (h':=⟨2,[(1,some ⟨4,1,(List.replicate g.edges.length false).map AV.b⟩),(0,some (CG g))]⟩) (Pj (e:=4) (i:=Iy) (A:=AV.b) (z:=false) (n:=g.edges.length) kr kr kr kr ⟨by decide,by kernel_rfl⟩ kr (by show _*1≤140737488355328;first|omega|(simp only [List.length_append,List.length_cons,List.length_nil,List.length_set,List.length_replicate];omega)|(simp;omega)) sd) le<|Aq (AV.own 1 0 g.edges.length)<|Ad<|Sq<|Rg<|Aq (AV.sl 1 true [])<|Ad<|Sq<|A4.block ?_
 obtain ⟨R1,hR1⟩: ∃R,Vb g (g.edges.length-0+1) [] (List.replicate g.edges.length false)=R:=⟨_,rfl⟩
 refine Av (fun ((kf1,(out,row)):Nat×((List Int)×(List Bool)))=>[(1,(AV.loc 1 0 0)),(4,(AV.own 2 0 g.edges.length)),(5,(B7 0 1 (AV.i .i64) out))]) (fun ((kf1,(out,row)):Nat×((List Int)×(List Bool)))=>⟨3,[(0,Fv 3 1 (AV.i .i64) out),(1,some (CG g)),(2,some ⟨4,1,row.map AV.b⟩)]⟩) (fun ((kf1,(out,row)):Nat×((List Int)×(List Bool)))=>g.edges.length-out.length<kf1∧row.length=g.edges.length∧out.length≤g.edges.length∧Vb g kf1 out row=R1) (fun ((kf1,(out,row)):Nat×((List Int)×(List Bool)))=>kf1) (g.edges.length-0+1,([],(List.replicate g.edges.length false))) ?_ ?_ ?_
 exact ⟨[1000000,0,1],⟨by decide,rfl,(A0.cons rfl (A0.cons kr (A0.cons (Az (fun _=>rfl) (e:=4) (k:=1) (A:=AV.b) (xs:=(List.replicate g.edges.length false)) rfl rfl) A0.nil))),(Af.cons (AE.f kr) (Af.cons (AE.f kr) (Ee Af.nil)))⟩,Ar⟩
 exact ⟨od,DO,DO,hR1⟩
 rintro ⟨kf1,out,row⟩ ⟨hi1,ht,ho,hE1⟩
 try dsimp only
 rcases kf1 with _|kf1
 exact absurd hi1 (Nat.not_lt_zero _)
 rw [Vb.eq_2] at hE1
 refine Sq<|Sq<|Rg<|Aq (B7 0 1 (AV.i .i64) out)<|Ap (Ai out.length) (Ts (e:=3) (A:=(AV.i .i64)) (xs:=out) (p:=0) (k:=1) kr kr (fun q=>Tf (e:=3) (k:=1) (A:=(AV.i .i64)) q rfl))<|Aq (AV.loc 1 0 0)<|Aq ((Ag 7 A8.av) g.edges)<|Ap (Ai g.edges.length) (AN (k:=7) (nl:=false) (e:=65) (A:=A8.av) (xs:=g.edges) kr kr)<|Aq (AV.b (decide (((out.length:Nat):Int)<((g.edges.length:Nat):Int))))<|Ad ?_
 cases c_2:decide (((out.length:Nat):Int)<((g.edges.length:Nat):Int))
 have k_2:=of_decide_eq_false c_2
 refine Cf<|A4.exit ?_
 try simp only [c_2,Aw] at hE1
 subst hE1
 refine Sq<|Rg<|Aq (B7 0 1 (AV.i .i64) out)<|Aq (B7 0 1 (AV.i .i64) out)<|Aq (AV.i .i64 (0:Int))<|Ad<|Rt ?_
 have hM:Hb g=(out,(0:Int)):=by simp only [Hb,c_1,hR1,Aw]
 refine ⟨Or.inr rfl,?_⟩
 rw [hM]
 exact AE.cast (x':=(AV.tup [(B7 0 1 (AV.i .i64) out),(AV.i .i64 (0:Int))])) (y':=(AV.tup [((Ag 1 (AV.i .i64)) ((out,(0:Int)).1)),(AV.i .i64 ((out,(0:Int)).2))])) kr kr (AE.tup ⟨(AE.cast (x':=(B7 0 1 (AV.i .i64) out)) (y':=Ag 1 (AV.i .i64) out) kr kr (HR (fun _=>rfl) (by decide) (by decide) (e:=3) (k:=1) rfl sd)),⟨Ec,trivial⟩⟩ kr)
 have k_2:=of_decide_eq_true c_2
 refine Ct<|A4.skip<|A4.block<|Sq<|Rg<|Aq (AV.i .i64 (-1:Int))<|Ad<|Sq<|Sq<|Rg<|Aq (AV.loc 1 0 0)<|Aq ((Ag 7 A8.av) g.edges)<|Ap (Ai g.edges.length) (AN (k:=7) (nl:=false) (e:=65) (A:=A8.av) (xs:=g.edges) kr kr)<|Ap (AV.i .i64 (((g.edges.length:Nat):Int)-(1:Int))) (Hl (a:=((g.edges.length:Nat):Int)) (b:=(1:Int)) kr kr sd sd)<|Aq (AV.i .i64 (((g.edges.length:Nat):Int)-(1:Int)))<|Ad<|A4.block ?_
 obtain ⟨R2,hR2⟩: ∃R,Sw row g (((((g.edges.length:Nat):Int)-(1:Int))+1).toNat+1) (-1:Int) (((g.edges.length:Nat):Int)-(1:Int))=R:=⟨_,rfl⟩
 refine Av (fun ((kf2,(next,i)):Nat×(Int×Int))=>[(1,(AV.loc 0 0 0)),(4,(AV.own 1 0 g.edges.length)),(5,(B7 2 1 (AV.i .i64) out)),(6,(AV.i .i64 next)),(7,(AV.i .i64 i))]) (fun ((kf2,(next,i)):Nat×(Int×Int))=>⟨3,[(0,some (CG g)),(1,some ⟨4,1,row.map AV.b⟩),(2,Fv 3 1 (AV.i .i64) out)]⟩) (fun ((kf2,(next,i)):Nat×(Int×Int))=>(i+1).toNat<kf2∧ -1≤i∧i<((g.edges.length:Nat):Int)∧ -1≤next∧next<((g.edges.length:Nat):Int)∧Sw row g kf2 next i=R2) (fun ((kf2,(next,i)):Nat×(Int×Int))=>kf2) (((((g.edges.length:Nat):Int)-(1:Int))+1).toNat+1,((-1:Int),(((g.edges.length:Nat):Int)-(1:Int)))) ?_ ?_ ?_
 exact ⟨[1,2,0],⟨by decide,rfl,(A0.cons kr (A0.cons (Az (fun _=>rfl) (e:=4) (k:=1) (A:=AV.b) (xs:=row) rfl rfl) (A0.cons (Cz (fun _=>rfl) (e:=3) (k:=1) (A:=(AV.i .i64)) (xs:=out) rfl rfl) A0.nil))),(Af.cons (AE.f kr) (Af.cons (AE.f kr) (Af.cons (BR (by decide)) (Ee (Ee Af.nil)))))⟩,Ar⟩
 exact ⟨od,DO,DO,DO,DO,hR2⟩
 rintro ⟨kf2,next,i⟩ ⟨hi2,hi,hi2,hn1,hn2,hE2⟩
 try dsimp only
 rcases kf2 with _|kf2
 exact absurd hi2 (Nat.not_lt_zero _)
 rw [Sw.eq_2] at hE2
 refine Sq<|Sq<|Rg<|Aq (AV.i .i64 i)<|Aq (AV.b (decide ((0:Int)≤i)))<|Ad ?_
 cases c_3:decide ((0:Int)≤i)
 have k_3:=of_decide_eq_false c_3
 refine Cf<|A4.exit ?_
 try simp only [c_3,Aw] at hE2
 subst hE2
 refine Sq<|Sq<|Rg<|Aq (AV.i .i64 next)<|Aq (AV.b (decide (next<(0:Int))))<|Ad ?_
 cases c_4:decide (next<(0:Int))
 have k_4:=of_decide_eq_false c_4
 refine Cf<|A4.skip<|Sq<|Rg<|Aq (AV.own 1 0 g.edges.length)<|Aq (AV.i .i64 next)<|Ap (AV.loc 1 next.toNat 0) (Ex (e:=4) (id:=1) (len:=g.edges.length) (kk:= .i64) (ob:=⟨4,1,row.map AV.b⟩) (n:=next) kr kr kr rfl kr sd sd)<|A1.st (x:=AV.und) (h':=⟨3,[(0,some (CG g)),(1,some ⟨4,1,(row.set next.toNat true).map AV.b⟩),(2,Fv 3 1 (AV.i .i64) out)]⟩) (L9 (e:=4) (k:=1) (i:=Iy) (id:=1) (A:=AV.b) (xs:=row) (y:=true) (j:=next.toNat) kr kr kr rfl sd (fun _=>rfl) kr (fun _=>rfl) (fun _=>rfl))<|Ad<|Rg<|Aq (B7 2 1 (AV.i .i64) out)<|Aq (AV.i .i64 next)<|Nn (AV.own 3 0 1) ⟨3,1,[next].map (AV.i .i64)⟩<|AY (x:=(AV.own 4 0 ((out++[next]).length))) (h':=⟨5,[(4,some ⟨3,1,(out++[next]).map (AV.i .i64)⟩),(3,some ⟨3,1,[next].map (AV.i .i64)⟩),(0,some (CG g)),(1,some ⟨4,1,(row.set next.toNat true).map AV.b⟩),(2,none)]⟩) (Mg (e:=3) (X:=(AV.own 3 0 1)) (A:=(AV.i .i64)) (i:=Yf) (p:=2) (xs:=out) (ys:=[next]) kr kr kr (hx:=kr) kr (by simp) ⟨by decide,by kernel_rfl⟩ rfl (by intro q;first|(subst q;rfl)|(rw [q];rfl)|(simp only [q];rfl)) (by show _*8≤140737488355328;first|omega|(simp only [List.length_append,List.length_cons,List.length_nil,List.length_set,List.length_replicate];omega)|(simp;omega)) sd) le<|Aq (AV.own 4 0 ((out++[next]).length))<|Ad ?_
 try simp only [c_2,hR2,c_4,Aw] at hE1
 refine ⟨(kf1,((out++[next]),(row.set next.toNat true))),od,⟨DO,DO,DO,hE1⟩,?_⟩
 exact ⟨[4,0,1],⟨by decide,rfl,(A0.cons (FG (fun _=>rfl) (e:=3) (k:=1) (A:=(AV.i .i64)) (xs:=(out++[next])) (by simp) rfl rfl) (A0.cons kr (A0.cons (Az (fun _=>rfl) (e:=4) (k:=1) (A:=AV.b) (xs:=(row.set next.toNat true)) rfl rfl) A0.nil))),(Af.cons (AE.f kr) (Af.cons (AE.f kr) (Af.cons (GB (A:=(AV.i .i64)) (xs:=(out++[next])) (by decide) (by simp) rfl) Af.nil)))⟩,Ar⟩
 have k_4:=of_decide_eq_true c_4
 refine Ct<|Sq<|Rg<|Aq (AV.sl 1 true [])<|Aq (AV.i .i64 (1001:Int))<|Ad<|Rt ?_
 try simp only [c_2,hR2,c_4,Aw] at hE1
 subst hE1
 have hM:Hb g=(([]:List Int),(1001:Int)):=by simp only [Hb,c_1,hR1,Aw]
 refine ⟨Or.inr rfl,?_⟩
 rw [hM]
 exact AE.cast (x':=(AV.tup [(AV.sl 1 true []),(AV.i .i64 (1001:Int))])) (y':=(AV.tup [((Ag 1 (AV.i .i64)) ((([]:List Int),(1001:Int)).1)),(AV.i .i64 ((([]:List Int),(1001:Int)).2))])) kr kr (AE.tup ⟨(AE.w rfl (AP.nil 1)),⟨Ec,trivial⟩⟩ kr)
 have k_3:=of_decide_eq_true c_3
 refine Ct<|A4.skip<|Sq<|A4.block<|Sq<|Rg<|Aq (AV.own 1 0 g.edges.length)<|Aq (AV.i .i64 i)<|Ap (AV.loc 1 i.toNat 0) (Ex (e:=4) (id:=1) (len:=g.edges.length) (kk:= .i64) (ob:=⟨4,1,row.map AV.b⟩) (n:=i) kr kr kr rfl kr sd sd)<|Ap (AV.b (row.getD i.toNat default)) (Dg (e:=4) (k:=1) (i:=Iy) (id:=1) (xs:=row) (A:=AV.b) (j:=i.toNat) kr kr rfl (getD_some sd) kr)<|Aq (AV.b (!(row.getD i.toNat default)))<|Aq (AV.b (!(row.getD i.toNat default)))<|Ad<|Sq<|Rg<|Aq (A3.av g)<|Aq (AV.i .i64 i)<|A1.sc0 (vs:=[(A3.av g),(AV.i .i64 i)]) (r0:=((Ag 1 (AV.i .i64)) (Fh g i))) kr kr (ST W g i ⟨by omega,by omega⟩ (hz _)) kr le<|Aq ((Ag 1 (AV.i .i64)) (Fh g i))<|Ad<|Sq<|Sq<|Rg<|Aq (AV.i .i64 (0:Int))<|Ad<|A4.block<|A4.lim 39 (x:=((Ag 1 (AV.i .i64)) (Fh g i))) kr fun hlm3=> ?_
 have hB3:(Fh g i).length≤281474976710656:=AX hlm3
 obtain ⟨R3,hR3⟩: ∃R,Qt row (Fh g i) 0 (!(row.getD i.toNat default))=R:=⟨_,rfl⟩
 refine Av (fun ((free,k):Bool×Nat)=>[(1,(AV.loc 0 0 0)),(4,(AV.own 1 0 g.edges.length)),(5,(B7 2 1 (AV.i .i64) out)),(6,(AV.i .i64 next)),(7,(AV.i .i64 i)),(9,((Ag 1 (AV.i .i64)) (Fh g i))),(8,(AV.b free)),(10,(Ai k))]) (fun ((free,k):Bool×Nat)=>⟨3,[(0,some (CG g)),(1,some ⟨4,1,row.map AV.b⟩),(2,Fv 3 1 (AV.i .i64) out)]⟩) (fun ((free,k):Bool×Nat)=>k≤(Fh g i).length∧Qt row ((Fh g i).drop k) k free=R3) (fun ((free,k):Bool×Nat)=>(Fh g i).length-k) ((!(row.getD i.toNat default)),0) ?_ ?_ ?_
 exact ⟨[0,1,2],⟨by decide,rfl,(A0.cons kr (A0.cons (Az (fun _=>rfl) (e:=4) (k:=1) (A:=AV.b) (xs:=row) rfl rfl) (A0.cons (Cz (fun _=>rfl) (e:=3) (k:=1) (A:=(AV.i .i64)) (xs:=out) rfl rfl) A0.nil))),(Af.cons (AE.f kr) (Af.cons (AE.f kr) (Af.cons (BR (by decide)) (Ee (Ee (Ee (Ee (Ee Af.nil))))))))⟩,Ar⟩
 exact ⟨od,hR3⟩
 rintro ⟨free,k⟩ ⟨hi3,hE3⟩
 try dsimp only
 refine Sq<|Sq<|Rg<|Aq (Ai k)<|Aq ((Ag 1 (AV.i .i64)) (Fh g i))<|Ap (AV.i .i64 (((Fh g i).length:Nat):Int)) (AN (k:=1) (nl:=false) (e:=3) (A:=(AV.i .i64)) (xs:=(Fh g i)) kr kr)<|Aq (AV.b (decide (((k:Nat):Int)<(((Fh g i).length:Nat):Int))))<|Ad ?_
 rcases Nat.lt_or_ge k (Fh g i).length with hl3|hl3
 have hc3:decide (((k:Nat):Int)<(((Fh g i).length:Nat):Int))=true:=decide_eq_true (by omega)
 refine A4.cond (t:=true) (by rw [←hc3]<;>kernel_rfl) (A4.skip ?_)
 obtain ⟨x3,hx3⟩: ∃x,(Fh g i)[k]? =some x:=⟨_,List.getElem?_eq_getElem hl3⟩
 rw [AB hx3,Qt.eq_2] at hE3
 have hk1:=hnm _ _ (List.mem_of_getElem? hx3)
 refine Sq<|A4.block<|Rg<|Aq (AV.b free)<|Aq (AV.b free) ?_
 cases c_5:free
 refine An<|An<|An<|An<|An<|An<|An<|Aq (AV.b false)<|Aq (AV.b false)<|Ad<|Rg<|Aq (Ai k)<|Ap (Ai (k+1)) (AA (i:=k) (m:=1) kr kr sd)<|Aq (Ai (k+1))<|Ad ?_
 try simp only [c_5,Aw] at hE3
 refine ⟨(false,k+1),od,⟨od,hE3⟩,?_⟩
 exact ⟨[0,1,2],⟨by decide,rfl,(A0.cons kr (A0.cons (Az (fun _=>rfl) (e:=4) (k:=1) (A:=AV.b) (xs:=row) rfl rfl) (A0.cons (Cz (fun _=>rfl) (e:=3) (k:=1) (A:=(AV.i .i64)) (xs:=out) rfl rfl) A0.nil))),(Af.cons (AE.f kr) (Af.cons (AE.f kr) (Af.cons (BR (by decide)) (Ee (Ee (Ee (Ee (Ee Af.nil))))))))⟩,Ar⟩
 refine Ay<|Aq (AV.own 1 0 g.edges.length)<|Ay<|Aq ((Ag 1 (AV.i .i64)) (Fh g i))<|Ay<|Aq (Ai k)<|Ay<|Ap (AV.pt ((AV.i .i64) x3).cells) (AQ (k:=1) (nl:=false) (e:=3) (kk:= .i64) (A:=(AV.i .i64)) (xs:=(Fh g i)) (i:=k) kr kr kr ⟨by kernel_rfl,by decide⟩ hx3)<|Ay<|Aq (AV.i .i64 x3)<|Ay<|Ap (AV.loc 1 x3.toNat 0) (Ex (e:=4) (id:=1) (len:=g.edges.length) (kk:= .i64) (ob:=⟨4,1,row.map AV.b⟩) (n:=x3) kr kr kr rfl kr sd sd)<|Ay<|Ap (AV.b (row.getD x3.toNat default)) (Dg (e:=4) (k:=1) (i:=Iy) (id:=1) (xs:=row) (A:=AV.b) (j:=x3.toNat) kr kr rfl (getD_some sd) kr)<|Aq (AV.b (row.getD x3.toNat default))<|Aq (AV.b (row.getD x3.toNat default))<|Ad<|Rg<|Aq (Ai k)<|Ap (Ai (k+1)) (AA (i:=k) (m:=1) kr kr sd)<|Aq (Ai (k+1))<|Ad ?_
 try simp only [c_5,Aw] at hE3
 refine ⟨((row.getD x3.toNat default),k+1),od,⟨od,hE3⟩,?_⟩
 exact ⟨[0,1,2],⟨by decide,rfl,(A0.cons kr (A0.cons (Az (fun _=>rfl) (e:=4) (k:=1) (A:=AV.b) (xs:=row) rfl rfl) (A0.cons (Cz (fun _=>rfl) (e:=3) (k:=1) (A:=(AV.i .i64)) (xs:=out) rfl rfl) A0.nil))),(Af.cons (AE.f kr) (Af.cons (AE.f kr) (Af.cons (BR (by decide)) (Ee (Ee (Ee (Ee (Ee Af.nil))))))))⟩,Ar⟩
 have hc3:decide (((k:Nat):Int)<(((Fh g i).length:Nat):Int))=false:=decide_eq_false (by omega)
 refine A4.cond (t:=false) (by rw [←hc3]<;>kernel_rfl) (A4.exit ?_)
 rw [List.drop_eq_nil_of_le (hl3),Qt.eq_1] at hE3
 subst hE3
 refine Sq<|Rg<|Aq (AV.b free)<|Ad ?_
 cases c_6:free
 refine Cf<|A4.skip<|Rg<|Aq (AV.i .i64 i)<|Ap (AV.i .i64 (i-(1:Int))) (Hl (a:=i) (b:=(1:Int)) kr kr sd sd)<|Aq (AV.i .i64 (i-(1:Int)))<|Ad ?_
 try simp only [c_3,hR3,c_6,Aw] at hE2
 refine ⟨(kf2,(next,(i-(1:Int)))),od,⟨DO,DO,DO,DO,DO,hE2⟩,?_⟩
 exact ⟨[0,1,2],⟨by decide,rfl,(A0.cons kr (A0.cons (Az (fun _=>rfl) (e:=4) (k:=1) (A:=AV.b) (xs:=row) rfl rfl) (A0.cons (Cz (fun _=>rfl) (e:=3) (k:=1) (A:=(AV.i .i64)) (xs:=out) rfl rfl) A0.nil))),(Af.cons (AE.f kr) (Af.cons (AE.f kr) (Af.cons (BR (by decide)) (Ee (Ee Af.nil)))))⟩,Ar⟩
 refine Ct<|Rg<|Aq (AV.i .i64 i)<|Aq (AV.i .i64 i)<|Ad<|Rg<|Aq (AV.i .i64 i)<|Ap (AV.i .i64 (i-(1:Int))) (Hl (a:=i) (b:=(1:Int)) kr kr sd sd)<|Aq (AV.i .i64 (i-(1:Int)))<|Ad ?_
 try simp only [c_3,hR3,c_6,Aw] at hE2
 refine ⟨(kf2,(i,(i-(1:Int)))),od,⟨DO,DO,DO,DO,DO,hE2⟩,?_⟩
 exact ⟨[0,1,2],⟨by decide,rfl,(A0.cons kr (A0.cons (Az (fun _=>rfl) (e:=4) (k:=1) (A:=AV.b) (xs:=row) rfl rfl) (A0.cons (Cz (fun _=>rfl) (e:=3) (k:=1) (A:=(AV.i .i64)) (xs:=out) rfl rfl) A0.nil))),(Af.cons (AE.f kr) (Af.cons (AE.f kr) (Af.cons (BR (by decide)) (Ee (Ee Af.nil)))))⟩,Ar⟩
 have k_1:=LJ c_1
 refine Ct<|Sq<|Rg<|Aq (AV.sl 1 true [])<|Aq (AV.i .i64 (1000:Int))<|Ad<|Rt ?_
 have hM:Hb g=(([]:List Int),(1000:Int)):=by simp only [Hb,c_1,Aw]
 refine ⟨Or.inr rfl,?_⟩
 rw [hM]
 exact AE.cast (x':=(AV.tup [(AV.sl 1 true []),(AV.i .i64 (1000:Int))])) (y':=(AV.tup [((Ag 1 (AV.i .i64)) ((([]:List Int),(1000:Int)).1)),(AV.i .i64 ((([]:List Int),(1000:Int)).2))])) kr kr (AE.tup ⟨(AE.w rfl (AP.nil 1)),⟨Ec,trivial⟩⟩ kr)
theorem OC (W:World) (a:List Int) (b:List Int):Ah Go.Proofs.Tryz.prog W 69 [((Ag 1 (AV.i .i64)) a),((Ag 1 (AV.i .i64)) b)] (AV.b (Qs a b)) []:=by
 refine A9 (fn:=Go.Proofs.Tryz.f69) Go.Proofs.Tryz.func69 rfl (en69 W) (ts:=[4]) rfl le<|Sq<|Rg<|Aq (AV.b false)<|Ad<|Sq<|Sq<|Rg<|Aq ((Ag 1 (AV.i .i64)) a)<|Ap (Ai a.length) (AN (k:=1) (nl:=false) (e:=3) (A:=(AV.i .i64)) (xs:=a) kr kr)<|Aq ((Ag 1 (AV.i .i64)) b)<|Ap (Ai b.length) (AN (k:=1) (nl:=false) (e:=3) (A:=(AV.i .i64)) (xs:=b) kr kr)<|Aq (AV.b (!decide (((a.length:Nat):Int)=((b.length:Nat):Int))))<|Ad ?_
 cases c_1:(!decide (((a.length:Nat):Int)=((b.length:Nat):Int)))
 have k_1:=LI c_1
 refine Cf<|A4.skip<|Sq<|Sq<|Rg<|Aq (AV.i .i64 (0:Int))<|Ad<|A4.block<|A4.lim 0 (x:=((Ag 1 (AV.i .i64)) a)) kr fun hlm1=> ?_
 have hB1:a.length≤281474976710656:=AX hlm1
 obtain ⟨R1,hR1⟩: ∃R,TS b a 0=R:=⟨_,rfl⟩
 refine Av (fun (i:Nat)=>[(0,((Ag 1 (AV.i .i64)) a)),(1,((Ag 1 (AV.i .i64)) b)),(5,(Ai i))]) (fun (i:Nat)=>⟨0,[]⟩) (fun (i:Nat)=>i≤a.length∧TS b (a.drop i) i=R1) (fun (i:Nat)=>a.length-i) 0 ?_ ?_ ?_
 exact ⟨[],⟨by decide,rfl,A0.nil,(Ee (Ee (Ee Af.nil)))⟩,Ar⟩
 exact ⟨od,hR1⟩
 rintro i ⟨hi1,hE1⟩
 try dsimp only
 refine Sq<|Sq<|Rg<|Aq (Ai i)<|Aq ((Ag 1 (AV.i .i64)) a)<|Ap (Ai a.length) (AN (k:=1) (nl:=false) (e:=3) (A:=(AV.i .i64)) (xs:=a) kr kr)<|Aq (AV.b (decide (((i:Nat):Int)<((a.length:Nat):Int))))<|Ad ?_
 rcases Nat.lt_or_ge i a.length with hl1|hl1
 have hc1:decide (((i:Nat):Int)<((a.length:Nat):Int))=true:=decide_eq_true (by omega)
 refine A4.cond (t:=true) (by rw [←hc1]<;>kernel_rfl) (A4.skip ?_)
 obtain ⟨x1,hx1⟩: ∃x,a[i]? =some x:=⟨_,List.getElem?_eq_getElem hl1⟩
 rw [AB hx1,TS.eq_2] at hE1
 refine Sq<|A4.block<|Sq<|A4.drawn A5 C9 8 kr le<|Dq ((Ag 1 (AV.i .i64)) a)<|Dq (Ai i)<|Dp (AV.pt ((AV.i .i64) x1).cells) (AQ (k:=1) (nl:=false) (e:=3) (kk:= .i64) (A:=(AV.i .i64)) (xs:=a) (i:=i) kr kr kr ⟨by kernel_rfl,by decide⟩ hx1)<|Dq (AV.i .i64 x1)<|Dq ((Ag 1 (AV.i .i64)) b)<|Dq (Ai i)<|Dp (AV.pt ((AV.i .i64) (b.getD i default)).cells) (AQ (k:=1) (nl:=false) (e:=3) (kk:= .i64) (A:=(AV.i .i64)) (xs:=b) (i:=i) kr kr kr ⟨by kernel_rfl,by decide⟩ (getD_some sd))<|Dq (AV.i .i64 (b.getD i default))<|Dq (AV.b (!decide (x1=(b.getD i default))))<|As.fin ?_
 cases c_2:(!decide (x1=(b.getD i default)))
 have k_2:=LI c_2
 refine Cf<|A4.skip<|Rg<|Aq (Ai i)<|Ap (Ai (i+1)) (AA (i:=i) (m:=1) kr kr sd)<|Aq (Ai (i+1))<|Ad ?_
 try simp only [c_2,Aw] at hE1
 refine ⟨i+1,od,⟨od,hE1⟩,?_⟩
 exact ⟨[],⟨by decide,rfl,A0.nil,(Ee (Ee (Ee Af.nil)))⟩,Ar⟩
 have k_2:=LJ c_2
 refine Ct<|Sq<|Rg<|Aq (AV.b false)<|Ad<|Rt ?_
 try simp only [c_2,Aw] at hE1
 subst hE1
 exact Fb rfl (by simp only [Qs,c_1,hR1,Aw])
 have hc1:decide (((i:Nat):Int)<((a.length:Nat):Int))=false:=decide_eq_false (by omega)
 refine A4.cond (t:=false) (by rw [←hc1]<;>kernel_rfl) (A4.exit ?_)
 rw [List.drop_eq_nil_of_le (hl1),TS.eq_1] at hE1
 subst hE1
 refine Sq<|Rg<|Aq (AV.b true)<|Ad<|Rt ?_
 exact Fb rfl (by simp only [Qs,c_1,hR1,Aw])
 have k_1:=LJ c_1
 refine Ct<|Sq<|Rg<|Aq (AV.b false)<|Ad<|Rt ?_
 exact Fb rfl (by simp only [Qs,c_1,Aw])
theorem Gm (W:World) (a:List Bool) (b:List Bool):Ah Go.Proofs.Tryz.prog W 22 [((Ag 1 AV.b) a),((Ag 1 AV.b) b)] (AV.b (HO a b)) []:=by
 refine A9 (fn:=Go.Proofs.Tryz.f22) Go.Proofs.Tryz.func22 rfl (en22 W) (ts:=[4]) rfl le<|Sq<|Rg<|Aq (AV.b false)<|Ad<|Sq<|Sq<|Rg<|Aq ((Ag 1 AV.b) a)<|Ap (Ai a.length) (AN (k:=1) (nl:=false) (e:=4) (A:=AV.b) (xs:=a) kr kr)<|Aq ((Ag 1 AV.b) b)<|Ap (Ai b.length) (AN (k:=1) (nl:=false) (e:=4) (A:=AV.b) (xs:=b) kr kr)<|Aq (AV.b (!decide (((a.length:Nat):Int)=((b.length:Nat):Int))))<|Ad ?_
 cases c_1:(!decide (((a.length:Nat):Int)=((b.length:Nat):Int)))
 have k_1:=LI c_1
 refine Cf<|A4.skip<|Sq<|Sq<|Rg<|Aq (AV.i .i64 (0:Int))<|Ad<|A4.block<|A4.lim 0 (x:=((Ag 1 AV.b) a)) kr fun hlm1=> ?_
 have hB1:a.length≤281474976710656:=AX hlm1
 obtain ⟨R1,hR1⟩: ∃R,TZ b a 0=R:=⟨_,rfl⟩
 refine Av (fun (i:Nat)=>[(0,((Ag 1 AV.b) a)),(1,((Ag 1 AV.b) b)),(5,(Ai i))]) (fun (i:Nat)=>⟨0,[]⟩) (fun (i:Nat)=>i≤a.length∧TZ b (a.drop i) i=R1) (fun (i:Nat)=>a.length-i) 0 ?_ ?_ ?_
 exact ⟨[],⟨by decide,rfl,A0.nil,(Ee (Ee (Ee Af.nil)))⟩,Ar⟩
 exact ⟨od,hR1⟩
 rintro i ⟨hi1,hE1⟩
 try dsimp only
 refine Sq<|Sq<|Rg<|Aq (Ai i)<|Aq ((Ag 1 AV.b) a)<|Ap (Ai a.length) (AN (k:=1) (nl:=false) (e:=4) (A:=AV.b) (xs:=a) kr kr)<|Aq (AV.b (decide (((i:Nat):Int)<((a.length:Nat):Int))))<|Ad ?_
 rcases Nat.lt_or_ge i a.length with hl1|hl1
 have hc1:decide (((i:Nat):Int)<((a.length:Nat):Int))=true:=decide_eq_true (by omega)
 refine A4.cond (t:=true) (by rw [←hc1]<;>kernel_rfl) (A4.skip ?_)
 obtain ⟨x1,hx1⟩: ∃x,a[i]? =some x:=⟨_,List.getElem?_eq_getElem hl1⟩
 rw [AB hx1,TZ.eq_2] at hE1
 refine Sq<|A4.block<|Sq<|A4.drawn A5 C9 8 kr le<|Dq ((Ag 1 AV.b) a)<|Dq (Ai i)<|Dp (AV.pt (AV.b x1).cells) (AQ (k:=1) (nl:=false) (e:=4) (kk:= .i64) (A:=AV.b) (xs:=a) (i:=i) kr kr kr ⟨by kernel_rfl,by decide⟩ hx1)<|Dq (AV.b x1)<|Dq ((Ag 1 AV.b) b)<|Dq (Ai i)<|Dp (AV.pt (AV.b (b.getD i default)).cells) (AQ (k:=1) (nl:=false) (e:=4) (kk:= .i64) (A:=AV.b) (xs:=b) (i:=i) kr kr kr ⟨by kernel_rfl,by decide⟩ (getD_some sd))<|Dq (AV.b (b.getD i default))<|Dq (AV.b (!(x1==(b.getD i default))))<|As.fin ?_
 cases c_2:(!(x1==(b.getD i default)))
 refine Cf<|A4.skip<|Rg<|Aq (Ai i)<|Ap (Ai (i+1)) (AA (i:=i) (m:=1) kr kr sd)<|Aq (Ai (i+1))<|Ad ?_
 try simp only [c_2,Aw] at hE1
 refine ⟨i+1,od,⟨od,hE1⟩,?_⟩
 exact ⟨[],⟨by decide,rfl,A0.nil,(Ee (Ee (Ee Af.nil)))⟩,Ar⟩
 refine Ct<|Sq<|Rg<|Aq (AV.b false)<|Ad<|Rt ?_
 try simp only [c_2,Aw] at hE1
 subst hE1
 exact Fb rfl (by simp only [HO,c_1,hR1,Aw])
 have hc1:decide (((i:Nat):Int)<((a.length:Nat):Int))=false:=decide_eq_false (by omega)
 refine A4.cond (t:=false) (by rw [←hc1]<;>kernel_rfl) (A4.exit ?_)
 rw [List.drop_eq_nil_of_le (hl1),TZ.eq_1] at hE1
 subst hE1
 refine Sq<|Rg<|Aq (AV.b true)<|Ad<|Rt ?_
 exact Fb rfl (by simp only [HO,c_1,hR1,Aw])
 have k_1:=LJ c_1
 refine Ct<|Sq<|Rg<|Aq (AV.b false)<|Ad<|Rt ?_
 exact Fb rfl (by simp only [HO,c_1,Aw])
theorem Jv (W:World) (s':List Int) (v:Int):Ah Go.Proofs.Tryz.prog W 155 [((Ag 1 (AV.i .i64)) s'),(AV.i .i64 v)] (AV.i .i64 (TP s' v)) []:=by
 refine A9 (fn:=Go.Proofs.Tryz.f155) Go.Proofs.Tryz.func155 rfl (en155 W) (ts:=[4]) rfl le<|Sq<|Rg<|Aq (AV.i .i64 (0:Int))<|Ad<|Sq<|Sq<|Rg<|Aq ((Ag 1 (AV.i .i64)) s')<|Ap (Ai s'.length) (AN (k:=1) (nl:=false) (e:=3) (A:=(AV.i .i64)) (xs:=s') kr kr)<|Aq (AV.i .i64 (0:Int))<|Ad<|A4.block<|A4.lim 0 (x:=((Ag 1 (AV.i .i64)) s')) kr fun hlm1=> ?_
 have hB1:s'.length≤281474976710656:=AX hlm1
 obtain ⟨R1,hR1⟩: ∃R,Wy v s' 0=R:=⟨_,rfl⟩
 refine Av (fun (v8:Nat)=>[(0,((Ag 1 (AV.i .i64)) s')),(1,(AV.i .i64 v)),(7,(Ai s'.length)),(8,(Ai v8))]) (fun (v8:Nat)=>⟨0,[]⟩) (fun (v8:Nat)=>v8≤s'.length∧Wy v (s'.drop v8) v8=R1) (fun (v8:Nat)=>s'.length-v8) 0 ?_ ?_ ?_
 exact ⟨[],⟨by decide,rfl,A0.nil,(Ee (Ee (Ee (Ee Af.nil))))⟩,Ar⟩
 exact ⟨od,hR1⟩
 rintro v8 ⟨hi1,hE1⟩
 try dsimp only
 refine Sq<|Rg<|Aq (AV.b (decide (((v8:Nat):Int)<((s'.length:Nat):Int))))<|Ad<|Sq ?_
 rcases Nat.lt_or_ge v8 s'.length with hl1|hl1
 have hc1:decide (((v8:Nat):Int)<((s'.length:Nat):Int))=true:=decide_eq_true (by omega)
 refine A4.cond (t:=true) (by rw [←hc1]<;>kernel_rfl) (A4.skip ?_)
 obtain ⟨x1,hx1⟩: ∃x,s'[v8]? =some x:=⟨_,List.getElem?_eq_getElem hl1⟩
 rw [AB hx1,Wy.eq_2] at hE1
 refine Sq<|A4.block<|Sq<|Rg<|Aq (Ai v8)<|Aq (Ai v8)<|Ad<|Sq<|Rg<|Aq (AV.i .i64 v)<|Aq ((Ag 1 (AV.i .i64)) s')<|Aq (Ai v8)<|Ap (AV.pt ((AV.i .i64) x1).cells) (AQ (k:=1) (nl:=false) (e:=3) (kk:= .i64) (A:=(AV.i .i64)) (xs:=s') (i:=v8) kr kr kr ⟨by kernel_rfl,by decide⟩ hx1)<|Aq (AV.i .i64 x1)<|Aq (AV.b (decide (v=x1)))<|Ad ?_
 cases c_1:decide (v=x1)
 have k_1:=of_decide_eq_false c_1
 refine Cf<|A4.skip<|Rg<|Ap (Ai (v8+1)) (AA (i:=v8) (m:=1) kr kr sd)<|Aq (Ai (v8+1))<|Ad ?_
 try simp only [c_1,Aw] at hE1
 refine ⟨v8+1,od,⟨od,hE1⟩,?_⟩
 exact ⟨[],⟨by decide,rfl,A0.nil,(Ee (Ee (Ee (Ee Af.nil))))⟩,Ar⟩
 have k_1:=of_decide_eq_true c_1
 refine Ct<|Sq<|Rg<|Aq (Ai v8)<|Aq (Ai v8)<|Ad<|Rt ?_
 try simp only [c_1,Aw] at hE1
 subst hE1
 exact Fi rfl (by simp only [TP,hR1,Aw])
 have hc1:decide (((v8:Nat):Int)<((s'.length:Nat):Int))=false:=decide_eq_false (by omega)
 refine A4.cond (t:=false) (by rw [←hc1]<;>kernel_rfl) (A4.exit ?_)
 rw [List.drop_eq_nil_of_le (hl1),Wy.eq_1] at hE1
 subst hE1
 refine Sq<|Rg<|Aq (AV.i .i64 (-1:Int))<|Ad<|Rt ?_
 exact Fi rfl (by simp only [TP,hR1,Aw])
theorem EG (W:World) (s':List Int) (v:Int):Ah Go.Proofs.Tryz.prog W 107 [((Ag 1 (AV.i .i64)) s'),(AV.i .i64 v)] (AV.b (Og s' v)) []:=by
 refine A9 (fn:=Go.Proofs.Tryz.f107) Go.Proofs.Tryz.func107 rfl (en107 W) (ts:=[4]) rfl le<|Sq<|Rg<|Aq (AV.b false)<|Ad<|Sq<|Rg<|Aq ((Ag 1 (AV.i .i64)) s')<|Aq (AV.i .i64 v)<|A1.sc0 (vs:=[((Ag 1 (AV.i .i64)) s'),(AV.i .i64 v)]) (r0:=(AV.i .i64 (TP s' v))) kr kr (Jv W s' v) kr le<|Aq (AV.b (decide ((0:Int)≤(TP s' v))))<|Aq (AV.b (decide ((0:Int)≤(TP s' v))))<|Ad<|Rt ?_
 exact Fb rfl (by simp only [Og,Aw])
theorem H1 (W:World) (s':List ByteArray) (v:ByteArray):Ah Go.Proofs.Tryz.prog W 157 [((Ag 1 AV.s) s'),(AV.s v)] (AV.i .i64 (TJ s' v)) []:=by
 refine A9 (fn:=Go.Proofs.Tryz.f157) Go.Proofs.Tryz.func157 rfl (en157 W) (ts:=[4]) rfl le<|Sq<|Rg<|Aq (AV.i .i64 (0:Int))<|Ad<|Sq<|Sq<|Rg<|Aq ((Ag 1 AV.s) s')<|Ap (Ai s'.length) (AN (k:=1) (nl:=false) (e:=9) (A:=AV.s) (xs:=s') kr kr)<|Aq (AV.i .i64 (0:Int))<|Ad<|A4.block<|A4.lim 0 (x:=((Ag 1 AV.s) s')) kr fun hlm1=> ?_
 have hB1:s'.length≤281474976710656:=AX hlm1
 obtain ⟨R1,hR1⟩: ∃R,Ww v s' 0=R:=⟨_,rfl⟩
 refine Av (fun (v8:Nat)=>[(0,((Ag 1 AV.s) s')),(1,(AV.s v)),(7,(Ai s'.length)),(8,(Ai v8))]) (fun (v8:Nat)=>⟨0,[]⟩) (fun (v8:Nat)=>v8≤s'.length∧Ww v (s'.drop v8) v8=R1) (fun (v8:Nat)=>s'.length-v8) 0 ?_ ?_ ?_
 exact ⟨[],⟨by decide,rfl,A0.nil,(Ee (Ee (Ee (Ee Af.nil))))⟩,Ar⟩
 exact ⟨od,hR1⟩
 rintro v8 ⟨hi1,hE1⟩
 try dsimp only
 refine Sq<|Rg<|Aq (AV.b (decide (((v8:Nat):Int)<((s'.length:Nat):Int))))<|Ad<|Sq ?_
 rcases Nat.lt_or_ge v8 s'.length with hl1|hl1
 have hc1:decide (((v8:Nat):Int)<((s'.length:Nat):Int))=true:=decide_eq_true (by omega)
 refine A4.cond (t:=true) (by rw [←hc1]<;>kernel_rfl) (A4.skip ?_)
 obtain ⟨x1,hx1⟩: ∃x,s'[v8]? =some x:=⟨_,List.getElem?_eq_getElem hl1⟩
 rw [AB hx1,Ww.eq_2] at hE1
 refine Sq<|A4.block<|Sq<|Rg<|Aq (Ai v8)<|Aq (Ai v8)<|Ad<|Sq<|Rg<|Aq (AV.s v)<|Aq ((Ag 1 AV.s) s')<|Aq (Ai v8)<|Ap (AV.pt (AV.s x1).cells) (AQ (k:=1) (nl:=false) (e:=9) (kk:= .i64) (A:=AV.s) (xs:=s') (i:=v8) kr kr kr ⟨by kernel_rfl,by decide⟩ hx1)<|Aq (AV.s x1)<|Aq (AV.b (decide (v=x1)))<|Ad ?_
 cases c_1:decide (v=x1)
 have k_1:=of_decide_eq_false c_1
 refine Cf<|A4.skip<|Rg<|Ap (Ai (v8+1)) (AA (i:=v8) (m:=1) kr kr sd)<|Aq (Ai (v8+1))<|Ad ?_
 try simp only [c_1,Aw] at hE1
 refine ⟨v8+1,od,⟨od,hE1⟩,?_⟩
 exact ⟨[],⟨by decide,rfl,A0.nil,(Ee (Ee (Ee (Ee Af.nil))))⟩,Ar⟩
 have k_1:=of_decide_eq_true c_1
 refine Ct<|Sq<|Rg<|Aq (Ai v8)<|Aq (Ai v8)<|Ad<|Rt ?_
 try simp only [c_1,Aw] at hE1
 subst hE1
 exact Fi rfl (by simp only [TJ,hR1,Aw])
 have hc1:decide (((v8:Nat):Int)<((s'.length:Nat):Int))=false:=decide_eq_false (by omega)
 refine A4.cond (t:=false) (by rw [←hc1]<;>kernel_rfl) (A4.exit ?_)
 rw [List.drop_eq_nil_of_le (hl1),Ww.eq_1] at hE1
 subst hE1
 refine Sq<|Rg<|Aq (AV.i .i64 (-1:Int))<|Ad<|Rt ?_
 exact Fi rfl (by simp only [TJ,hR1,Aw])
theorem G3 (W:World) (s':List ByteArray) (v:ByteArray):Ah Go.Proofs.Tryz.prog W 112 [((Ag 1 AV.s) s'),(AV.s v)] (AV.b (V8 s' v)) []:=by
 refine A9 (fn:=Go.Proofs.Tryz.f112) Go.Proofs.Tryz.func112 rfl (en112 W) (ts:=[4]) rfl le<|Sq<|Rg<|Aq (AV.b false)<|Ad<|Sq<|Rg<|Aq ((Ag 1 AV.s) s')<|Aq (AV.s v)<|A1.sc0 (vs:=[((Ag 1 AV.s) s'),(AV.s v)]) (r0:=(AV.i .i64 (TJ s' v))) kr kr (H1 W s' v) kr le<|Aq (AV.b (decide ((0:Int)≤(TJ s' v))))<|Aq (AV.b (decide ((0:Int)≤(TJ s' v))))<|Ad<|Rt ?_
 exact Fb rfl (by simp only [V8,Aw])
theorem EM (W:World) (s':List A8) (f_f:FuncId) (c_f:List AV) (f:A8→Bool) (hcl_f:Ac c_f=true) (hp_f: ∀(z0:A8),Ah Go.Proofs.Tryz.prog W f_f ((A8.av z0)::c_f) (AV.b (f z0)) []):Ah Go.Proofs.Tryz.prog W 110 [((Ag 7 A8.av) s'),(AV.fn f_f c_f)] (AV.i .i64 (TM s' f)) []:=by
 refine A9 (fn:=Go.Proofs.Tryz.f110) Go.Proofs.Tryz.func110 rfl (en110 W) (ts:=[4]) rfl le<|Sq<|Rg<|Aq (AV.i .i64 (0:Int))<|Ad<|Sq<|Sq<|Rg<|Aq ((Ag 7 A8.av) s')<|Ap (Ai s'.length) (AN (k:=7) (nl:=false) (e:=65) (A:=A8.av) (xs:=s') kr kr)<|Aq (AV.i .i64 (0:Int))<|Ad<|A4.block<|A4.lim 0 (x:=((Ag 7 A8.av) s')) kr fun hlm1=> ?_
 have hB1:s'.length≤281474976710656:=AX hlm1
 obtain ⟨R1,hR1⟩: ∃R,m_2 f s' 0=R:=⟨_,rfl⟩
 refine Av (fun (v8:Nat)=>[(0,((Ag 7 A8.av) s')),(1,(AV.fn f_f c_f)),(7,(Ai s'.length)),(8,(Ai v8))]) (fun (v8:Nat)=>⟨0,[]⟩) (fun (v8:Nat)=>v8≤s'.length∧m_2 f (s'.drop v8) v8=R1) (fun (v8:Nat)=>s'.length-v8) 0 ?_ ?_ ?_
 exact ⟨[],⟨by decide,rfl,A0.nil,(Ee (Af.cons (AE.c kr hcl_f) (Ee (Ee Af.nil))))⟩,Ar⟩
 exact ⟨od,hR1⟩
 rintro v8 ⟨hi1,hE1⟩
 try dsimp only
 refine Sq<|Rg<|Aq (AV.b (decide (((v8:Nat):Int)<((s'.length:Nat):Int))))<|Ad<|Sq ?_
 rcases Nat.lt_or_ge v8 s'.length with hl1|hl1
 have hc1:decide (((v8:Nat):Int)<((s'.length:Nat):Int))=true:=decide_eq_true (by omega)
 refine A4.cond (t:=true) (by rw [←hc1]<;>kernel_rfl) (A4.skip ?_)
 obtain ⟨x1,hx1⟩: ∃x,s'[v8]? =some x:=⟨_,List.getElem?_eq_getElem hl1⟩
 rw [AB hx1,m_2.eq_2] at hE1
 refine Sq<|A4.block<|Sq<|Rg<|Aq (Ai v8)<|Aq (Ai v8)<|Ad<|Sq<|Rg<|Aq (AV.fn f_f c_f)<|Aq ((Ag 7 A8.av) s')<|Aq (Ai v8)<|Ap (AV.pt (A8.av x1).cells) (AQ (k:=7) (nl:=false) (e:=65) (kk:= .i64) (A:=A8.av) (xs:=s') (i:=v8) kr kr kr ⟨by kernel_rfl,by decide⟩ hx1)<|Aq (A8.av x1)<|A1.sc0 (vs:=((A8.av x1)::c_f)) (r0:=(AV.b (f x1))) kr (by simp only [Ac,Bool.and_eq_true];exact ⟨by kernel_rfl,hcl_f⟩) (hp_f x1) kr le<|Ad ?_
 cases c_1:(f x1)
 refine Cf<|A4.skip<|Rg<|Ap (Ai (v8+1)) (AA (i:=v8) (m:=1) kr kr sd)<|Aq (Ai (v8+1))<|Ad ?_
 try simp only [c_1,Aw] at hE1
 refine ⟨v8+1,od,⟨od,hE1⟩,?_⟩
 exact ⟨[],⟨by decide,rfl,A0.nil,(Ee (Af.cons (AE.c kr hcl_f) (Ee (Ee Af.nil))))⟩,Ar⟩
 refine Ct<|Sq<|Rg<|Aq (Ai v8)<|Aq (Ai v8)<|Ad<|Rt ?_
 try simp only [c_1,Aw] at hE1
 subst hE1
 exact Fi rfl (by simp only [TM,hR1,Aw])
 have hc1:decide (((v8:Nat):Int)<((s'.length:Nat):Int))=false:=decide_eq_false (by omega)
 refine A4.cond (t:=false) (by rw [←hc1]<;>kernel_rfl) (A4.exit ?_)
 rw [List.drop_eq_nil_of_le (hl1),m_2.eq_1] at hE1
 subst hE1
 refine Sq<|Rg<|Aq (AV.i .i64 (-1:Int))<|Ad<|Rt ?_
 exact Fi rfl (by simp only [TM,hR1,Aw])
theorem Ox (W:World) (e:A8) (name:ByteArray):Ah Go.Proofs.Tryz.prog W 111 [(A8.av e),(AV.pt (AV.s name).cells)] (AV.b (U7 e name)) []:=by
 refine A9 (fn:=Go.Proofs.Tryz.f111) Go.Proofs.Tryz.func111 rfl (en111 W) (ts:=[3]) rfl le<|Sq<|Rg<|Nn (AV.loc 0 0 0) ⟨65,7,[(A8.av e)]⟩<|Aq (AV.b false)<|Ad<|Sq<|Rg<|Aq (AV.loc 0 0 0)<|Aq ((Ag 1 AV.s) e.outs)<|Aq (AV.s name)<|A1.sc0 (vs:=[((Ag 1 AV.s) e.outs),(AV.s name)]) (r0:=(AV.b (V8 e.outs name))) kr kr (G3 W e.outs name) kr le<|Aq (AV.b (V8 e.outs name))<|Ad<|Rt ?_
 exact Fb rfl (by simp only [U7,Aw])
theorem DZ (W:World) (g:A3) (s':ByteArray):Ah Go.Proofs.Tryz.prog W 63 [(AV.pt (A3.av g).cells),(AV.s s')] (AV.i .i64 (CO g s')) []:=by
 refine A9 (fn:=Go.Proofs.Tryz.f63) Go.Proofs.Tryz.func63 rfl (en63 W) (ts:=[4]) rfl le<|Sq<|Rg<|Nn (AV.loc 0 0 0) ⟨9,1,[(AV.s s')]⟩<|Aq (AV.i .i64 (0:Int))<|Ad<|Sq<|Rg<|Aq (AV.pt (A3.av g).cells)<|Aq (AV.pt (A3.av g).cells)<|Aq (AV.pt ((A3.av g).cells.drop 0))<|Aq ((Ag 7 A8.av) g.edges)<|Aq (AV.fn 111 [(AV.loc 0 0 0)])<|A1.sfw (vs:=[((Ag 7 A8.av) g.edges),(AV.fn 111 [(AV.loc 0 0 0)])]) (ss:=[((Ag 7 A8.av) g.edges),(AV.fn 111 [(AV.pt (AV.s s').cells)])]) (r0:=(AV.i .i64 (TM g.edges (fun z0=>U7 z0 s')))) kr (show Bc _ _ _ from ⟨(Bc.e kr),⟨(Al.w (Al.cast (x':=(AV.fn 111 [(AV.loc 0 0 0)])) kr kr (Al.fn (Ao.cons (Iz (id:=0) (j:=0) (ob:=⟨9,1,[(AV.s s')]⟩) (x:=(AV.s s')) rfl rfl rfl rfl (AC (x:=(AV.s s')) kr)) Ao.nil)))),trivial⟩⟩) (EM W g.edges 111 [(AV.pt (AV.s s').cells)] (fun z0=>U7 z0 s') kr (fun z0=>(Ox W z0 s'))) rfl kr le<|Aq (AV.i .i64 (TM g.edges (fun z0=>U7 z0 s')))<|Ad<|Rt ?_
 exact Fi rfl (by simp only [CO,Aw])
theorem HK (W:World) (s':List Int) (f_f:FuncId) (c_f:List AV) (f:Int→Bool) (hcl_f:Ac c_f=true) (hp_f: ∀(z0:Int),Ah Go.Proofs.Tryz.prog W f_f ((AV.i .i64 z0)::c_f) (AV.b (f z0)) []):Ah Go.Proofs.Tryz.prog W 156 [((Ag 1 (AV.i .i64)) s'),(AV.fn f_f c_f)] (AV.i .i64 (TQ s' f)) []:=by
 refine A9 (fn:=Go.Proofs.Tryz.f156) Go.Proofs.Tryz.func156 rfl (en156 W) (ts:=[4]) rfl le<|Sq<|Rg<|Aq (AV.i .i64 (0:Int))<|Ad<|Sq<|Sq<|Rg<|Aq ((Ag 1 (AV.i .i64)) s')<|Ap (Ai s'.length) (AN (k:=1) (nl:=false) (e:=3) (A:=(AV.i .i64)) (xs:=s') kr kr)<|Aq (AV.i .i64 (0:Int))<|Ad<|A4.block<|A4.lim 0 (x:=((Ag 1 (AV.i .i64)) s')) kr fun hlm1=> ?_
 have hB1:s'.length≤281474976710656:=AX hlm1
 obtain ⟨R1,hR1⟩: ∃R,Wx f s' 0=R:=⟨_,rfl⟩
 refine Av (fun (v8:Nat)=>[(0,((Ag 1 (AV.i .i64)) s')),(1,(AV.fn f_f c_f)),(7,(Ai s'.length)),(8,(Ai v8))]) (fun (v8:Nat)=>⟨0,[]⟩) (fun (v8:Nat)=>v8≤s'.length∧Wx f (s'.drop v8) v8=R1) (fun (v8:Nat)=>s'.length-v8) 0 ?_ ?_ ?_
 exact ⟨[],⟨by decide,rfl,A0.nil,(Ee (Af.cons (AE.c kr hcl_f) (Ee (Ee Af.nil))))⟩,Ar⟩
 exact ⟨od,hR1⟩
 rintro v8 ⟨hi1,hE1⟩
 try dsimp only
 refine Sq<|Rg<|Aq (AV.b (decide (((v8:Nat):Int)<((s'.length:Nat):Int))))<|Ad<|Sq ?_
 rcases Nat.lt_or_ge v8 s'.length with hl1|hl1
 have hc1:decide (((v8:Nat):Int)<((s'.length:Nat):Int))=true:=decide_eq_true (by omega)
 refine A4.cond (t:=true) (by rw [←hc1]<;>kernel_rfl) (A4.skip ?_)
 obtain ⟨x1,hx1⟩: ∃x,s'[v8]? =some x:=⟨_,List.getElem?_eq_getElem hl1⟩
 rw [AB hx1,Wx.eq_2] at hE1
 refine Sq<|A4.block<|Sq<|Rg<|Aq (Ai v8)<|Aq (Ai v8)<|Ad<|Sq<|Rg<|Aq (AV.fn f_f c_f)<|Aq ((Ag 1 (AV.i .i64)) s')<|Aq (Ai v8)<|Ap (AV.pt ((AV.i .i64) x1).cells) (AQ (k:=1) (nl:=false) (e:=3) (kk:= .i64) (A:=(AV.i .i64)) (xs:=s') (i:=v8) kr kr kr ⟨by kernel_rfl,by decide⟩ hx1)<|Aq (AV.i .i64 x1)<|A1.sc0 (vs:=((AV.i .i64 x1)::c_f)) (r0:=(AV.b (f x1))) kr (by simp only [Ac,Bool.and_eq_true];exact ⟨by kernel_rfl,hcl_f⟩) (hp_f x1) kr le<|Ad ?_
 cases c_1:(f x1)
 refine Cf<|A4.skip<|Rg<|Ap (Ai (v8+1)) (AA (i:=v8) (m:=1) kr kr sd)<|Aq (Ai (v8+1))<|Ad ?_
 try simp only [c_1,Aw] at hE1
 refine ⟨v8+1,od,⟨od,hE1⟩,?_⟩
 exact ⟨[],⟨by decide,rfl,A0.nil,(Ee (Af.cons (AE.c kr hcl_f) (Ee (Ee Af.nil))))⟩,Ar⟩
 refine Ct<|Sq<|Rg<|Aq (Ai v8)<|Aq (Ai v8)<|Ad<|Rt ?_
 try simp only [c_1,Aw] at hE1
 subst hE1
 exact Fi rfl (by simp only [TQ,hR1,Aw])
 have hc1:decide (((v8:Nat):Int)<((s'.length:Nat):Int))=false:=decide_eq_false (by omega)
 refine A4.cond (t:=false) (by rw [←hc1]<;>kernel_rfl) (A4.exit ?_)
 rw [List.drop_eq_nil_of_le (hl1),Wx.eq_1] at hE1
 subst hE1
 refine Sq<|Rg<|Aq (AV.i .i64 (-1:Int))<|Ad<|Rt ?_
 exact Fi rfl (by simp only [TQ,hR1,Aw])
theorem GQ (W:World) (s':List Int) (f_f:FuncId) (c_f:List AV) (f:Int→Bool) (hcl_f:Ac c_f=true) (hp_f: ∀(z0:Int),Ah Go.Proofs.Tryz.prog W f_f ((AV.i .i64 z0)::c_f) (AV.b (f z0)) []):Ah Go.Proofs.Tryz.prog W 109 [((Ag 1 (AV.i .i64)) s'),(AV.fn f_f c_f)] (AV.b (WS s' f)) []:=by
 refine A9 (fn:=Go.Proofs.Tryz.f109) Go.Proofs.Tryz.func109 rfl (en109 W) (ts:=[4]) rfl le<|Sq<|Rg<|Aq (AV.b false)<|Ad<|Sq<|Rg<|Aq ((Ag 1 (AV.i .i64)) s')<|Aq (AV.fn f_f c_f)<|A1.sc0 (vs:=[((Ag 1 (AV.i .i64)) s'),(AV.fn f_f c_f)]) (r0:=(AV.i .i64 (TQ s' f))) kr (by simp only [Ac,Bool.and_eq_true];exact ⟨by kernel_rfl,hcl_f,trivial⟩) (HK W s' f_f c_f f hcl_f hp_f) kr le<|Aq (AV.b (decide ((0:Int)≤(TQ s' f))))<|Aq (AV.b (decide ((0:Int)≤(TQ s' f))))<|Ad<|Rt ?_
 exact Fb rfl (by simp only [WS,Aw])
theorem W6 (W:World):Ah Go.Proofs.Tryz.prog W 96 [(AV.sl 1 true []),(AV.i .i64 (0:Int))] (AV.sl 1 true []) []:=by
 refine A9 (fn:=Go.Proofs.Tryz.f96) Go.Proofs.Tryz.func96 rfl (en96 W) (ts:=[4]) rfl le<|Sq<|Rg<|Aq (AV.sl 1 true [])<|Ad<|Sq<|Sq<|Rg<|Aq (AV.i .i64 (0:Int))<|Aq (AV.b false)<|Ad<|Cf<|A4.skip<|Sq<|Sq<|Rg<|Aq (AV.i .i64 (0:Int))<|Aq (AV.sl 1 true [])<|Aq (AV.i .i64 (0:Int))<|Aq (AV.sl 1 true [])<|Aq (AV.i .i64 (0:Int))<|Aq (AV.i .i64 (0:Int))<|Aq (AV.i .i64 (0:Int))<|Aq (AV.i .i64 (0:Int))<|Ad<|Sq<|Rg<|Aq (AV.i .i64 (0:Int))<|Aq (AV.b false)<|Ad<|Cf<|A4.skip<|Sq<|Rg<|Aq (AV.sl 1 true [])<|Aq (AV.sl 1 true [])<|Ad<|Rt ?_
 exact ⟨Or.inr rfl,AE.c kr kr⟩
theorem KB (W:World) (n':Nat) (hn:0<n') (hz:n'≤1048576):Ah Go.Proofs.Tryz.prog W 96 [(AV.sl 1 true []),(Ai n')] (.own 0 0 0) [⟨9,1,(List.replicate n' (⟨#[]⟩:ByteArray)).map AV.s⟩]:=by
 refine Ld (fn:=Go.Proofs.Tryz.f96) Go.Proofs.Tryz.func96 rfl (en96 W) (ts:=[4]) rfl le (fun _=>rfl)<|Sq<|Rg<|Aq (AV.sl 1 true [])<|Ad<|Sq<|Sq<|Rg<|Aq (Ai n')<|Aq (AV.b (decide (((n':Nat):Int)<(0:Int))))<|Ad ?_
 cases c_1:decide (((n':Nat):Int)<(0:Int))
 have k_1:=of_decide_eq_false c_1
 refine Cf<|A4.skip<|Sq<|Sq<|Rg<|Aq (Ai n')<|Aq (AV.sl 1 true [])<|Aq (AV.i .i64 (0:Int))<|Aq (AV.sl 1 true [])<|Aq (AV.i .i64 (0:Int))<|Aq (AV.i .i64 (0:Int))<|Ap (Ai n') (Sg (i:=n') (m:=0) kr kr sd sd)<|Aq (Ai n')<|Ad<|Sq<|Rg<|Aq (Ai n')<|Aq (AV.b (decide ((0:Int)<((n':Nat):Int))))<|Ad ?_
 cases c_2:decide ((0:Int)<((n':Nat):Int))
 have k_2:=of_decide_eq_false c_2
 refine Cf<|A4.skip<|Sq<|Rg<|Aq (AV.sl 1 true [])<|Aq (AV.sl 1 true [])<|Ad<|Rt ?_
 have hM:Gv n'=[]:=by simp only [Gv,c_1,c_2,Aw]
 exfalso
 omega
 have k_2:=of_decide_eq_true c_2
 refine Ct<|Rg<|Aq (AV.sl 1 true [])<|Aq (AV.sl 1 true [])<|Aq (AV.i .i64 (0:Int))<|Aq (AV.sl 1 true [])<|Aq (Ai n')<|AY (x:=(AV.own 0 0 n')) (h':=⟨1,[(0,some ⟨9,1,(List.replicate n' (⟨#[]⟩:ByteArray)).map AV.s⟩)]⟩) (g_appZ (kn:= .i64) (kk:= .i64) (e:=9) (A:=AV.s) (i:=DU) (k:=1) (z:=(⟨#[]⟩:ByteArray)) (n:=n') (by decide) kr kr kr kr kr sd ⟨by decide,by kernel_rfl⟩ kr (by show _*16≤140737488355328;first|omega|(simp only [List.length_append,List.length_cons,List.length_nil,List.length_set,List.length_replicate];omega)|(simp;omega)) sd) le<|Aq (AV.sl 1 true [])<|Aq (AV.i .i64 (0:Int))<|Ap (AV.own 0 0 0) (Xy (e:=9) (id:=0) (len:=n') (ob:=⟨9,1,(List.replicate n' (⟨#[]⟩:ByteArray)).map AV.s⟩) (l:=none) (g:=(some (0:Int))) (b:=0) kr kr kr kr kr kr rfl rfl (by simp only [List.length_map,List.length_append,List.length_cons,List.length_nil];omega))<|Aq (AV.own 0 0 0)<|Ad<|Sq<|Rg<|Aq (AV.own 0 0 0)<|Aq (AV.own 0 0 0)<|Ad<|Rt ?_
 have hM:Gv n'=((List.replicate n' (⟨#[]⟩:ByteArray)).take 0):=by simp only [Gv,c_1,c_2,Aw]
 refine ⟨Or.inr rfl,0,?_,rfl⟩
 first|rfl|(show AV.own _ _ _=AV.own _ _ _;congr 1;simp)
 have k_1:=of_decide_eq_true c_1
 refine Ct<|Rg ?_
 exfalso
 omega
def AL (slices:List (List ByteArray)):AV:=((Ag 1 (Ag 1 AV.s)) slices)
theorem BQ (W:World) (slices:List (List ByteArray)) (hz:(slices.flatten).length≤1048576):Ah Go.Proofs.Tryz.prog W 55 [((Ag 1 (Ag 1 AV.s)) slices)] ((Ag 1 AV.s) (Ci slices)) []:=by
 refine A9 (fn:=Go.Proofs.Tryz.f55) Go.Proofs.Tryz.func55 rfl (en55 W) (ts:=[2]) rfl le<|Sq<|Rg<|Aq (AV.sl 1 true [])<|Ad<|Sq<|Rg<|Aq (AV.i .i64 (0:Int))<|Ad<|Sq<|Sq<|Rg<|Aq (AL slices)<|Ap (Ai slices.length) (AN (k:=1) (nl:=false) (e:=24) (A:=(Ag 1 AV.s)) (xs:=slices) kr kr)<|Aq (AV.i .i64 (0:Int))<|Ad<|A4.block<|A4.lim 0 (x:=(AL slices)) kr fun hlm1=> ?_
 have hB1:slices.length≤281474976710656:=AX hlm1
 obtain ⟨R1,hR1⟩: ∃R,WB slices 0 0=R:=⟨_,rfl⟩
 refine Av (fun ((size,v11):Nat×Nat)=>[(0,(AL slices)),(9,(AL slices)),(10,(Ai slices.length)),(3,(Ai size)),(11,(Ai v11))]) (fun ((size,v11):Nat×Nat)=>⟨0,[]⟩) (fun ((size,v11):Nat×Nat)=>v11≤slices.length∧size+((slices.drop v11).flatten).length=(slices.flatten).length∧WB (slices.drop v11) v11 size=R1) (fun ((size,v11):Nat×Nat)=>slices.length-v11) (0,0) ?_ ?_ ?_
 exact ⟨[],⟨by decide,rfl,A0.nil,(Ee (Ee (Ee (Ee (Ee Af.nil)))))⟩,Ar⟩
 exact ⟨od,by (try dsimp only)<;>(simp),hR1⟩
 rintro ⟨size,v11⟩ ⟨hi1,hs,hE1⟩
 try dsimp only
 refine Sq<|Rg<|Aq (AV.b (decide (((v11:Nat):Int)<((slices.length:Nat):Int))))<|Ad<|Sq ?_
 rcases Nat.lt_or_ge v11 slices.length with hl1|hl1
 have hc1:decide (((v11:Nat):Int)<((slices.length:Nat):Int))=true:=decide_eq_true (by omega)
 refine A4.cond (t:=true) (by rw [←hc1]<;>kernel_rfl) (A4.skip ?_)
 obtain ⟨x1,hx1⟩: ∃x,slices[v11]? =some x:=⟨_,List.getElem?_eq_getElem hl1⟩
 rw [AB hx1,WB.eq_2] at hE1
 rw [AB hx1] at hs
 simp only [List.flatten_cons,List.length_append] at hs
 refine Sq<|A4.block<|Sq<|Rg<|Ap (AV.pt ((Ag 1 AV.s) x1).cells) (AQ (k:=1) (nl:=false) (e:=24) (kk:= .i64) (A:=(Ag 1 AV.s)) (xs:=slices) (i:=v11) kr kr kr ⟨by kernel_rfl,by decide⟩ hx1)<|Aq ((Ag 1 AV.s) x1)<|Aq ((Ag 1 AV.s) x1)<|Ad<|Sq<|Rg<|Aq (Ai size)<|Aq ((Ag 1 AV.s) x1)<|Ap (Ai x1.length) (AN (k:=1) (nl:=false) (e:=9) (A:=AV.s) (xs:=x1) kr kr)<|Ap (Ai (size+x1.length)) (AA (i:=size) (m:=x1.length) kr kr sd)<|Aq (Ai (size+x1.length))<|Ad<|Sq<|Rg<|Aq (Ai (size+x1.length))<|Aq (AV.b (decide (((size+x1.length:Nat):Int)<(0:Int))))<|Ad ?_
 cases c_1:decide (((size+x1.length:Nat):Int)<(0:Int))
 have k_1:=of_decide_eq_false c_1
 refine Cf<|A4.skip<|Rg<|Ap (Ai (v11+1)) (AA (i:=v11) (m:=1) kr kr sd)<|Aq (Ai (v11+1))<|Ad ?_
 try simp only [c_1,Aw] at hE1
 refine ⟨(size+x1.length,v11+1),od,⟨od,by (try dsimp only)<;>(omega),hE1⟩,?_⟩
 exact ⟨[],⟨by decide,rfl,A0.nil,(Ee (Ee (Ee (Ee (Ee Af.nil)))))⟩,Ar⟩
 have k_1:=of_decide_eq_true c_1
 refine Ct<|Rg ?_
 exfalso
 omega
 have hc1:decide (((v11:Nat):Int)<((slices.length:Nat):Int))=false:=decide_eq_false (by omega)
 refine A4.cond (t:=false) (by rw [←hc1]<;>kernel_rfl) (A4.exit ?_)
 rw [List.drop_eq_nil_of_le (hl1),WB.eq_1] at hE1
 subst hE1
 refine Sq<|Rg<|Aq (Ai size) ?_
 by_cases z_2:(List.replicate size (⟨#[]⟩:ByteArray))=[]
 have hzz_2:size=0:=by simpa using z_2
 refine A1.sc0 (vs:=[(AV.sl 1 true []),(Ai size)]) (r0:=(AV.sl 1 true [])) kr kr (by rw [hzz_2];exact W6 W) kr le<|Aq (AV.sl 1 true [])<|Ad<|Sq<|Sq<|Rg<|Aq (AL slices)<|Ap (Ai slices.length) (AN (k:=1) (nl:=false) (e:=24) (A:=(Ag 1 AV.s)) (xs:=slices) kr kr)<|Aq (AV.i .i64 (0:Int))<|Ad<|A4.block<|A4.lim 0 (x:=(AL slices)) kr fun hlm2=> ?_
 have hB2:slices.length≤281474976710656:=AX hlm2
 obtain ⟨R2,hR2⟩: ∃R,Mp slices 0 []=R:=⟨_,rfl⟩
 refine Av (fun ((b_newslice,newslice,v27):Bool×(List ByteArray)×Nat)=>[(25,(AL slices)),(26,(Ai slices.length)),(6,(X5 0 1 AV.s b_newslice newslice)),(27,(Ai v27))]) (fun ((b_newslice,newslice,v27):Bool×(List ByteArray)×Nat)=>⟨1,[(0,Te 9 1 AV.s b_newslice newslice)]⟩) (fun ((b_newslice,newslice,v27):Bool×(List ByteArray)×Nat)=>v27≤slices.length∧(b_newslice=false→newslice=[])∧newslice.length+((slices.drop v27).flatten).length≤(slices.flatten).length∧Mp (slices.drop v27) v27 newslice=R2) (fun ((b_newslice,newslice,v27):Bool×(List ByteArray)×Nat)=>slices.length-v27) (false,[],0) ?_ ?_ ?_
 exact ⟨[1000000],⟨by decide,rfl,(A0.cons rfl A0.nil),(Ee (Ee (Ee (Ee Af.nil))))⟩,Ar⟩
 exact ⟨od,(by simp),by (try dsimp only)<;>(simp),hR2⟩
 rintro ⟨b_newslice,newslice,v27⟩ ⟨hi2,hn_newslice,ha,hE2⟩
 try dsimp only
 cases b_newslice
 have hz_newslice:=hn_newslice rfl
 subst hz_newslice
 try dsimp only
 refine Sq<|Rg<|Aq (AV.b (decide (((v27:Nat):Int)<((slices.length:Nat):Int))))<|Ad<|Sq ?_
 rcases Nat.lt_or_ge v27 slices.length with hl2|hl2
 have hc2:decide (((v27:Nat):Int)<((slices.length:Nat):Int))=true:=decide_eq_true (by omega)
 refine A4.cond (t:=true) (by rw [←hc2]<;>kernel_rfl) (A4.skip ?_)
 obtain ⟨x2,hx2⟩: ∃x,slices[v27]? =some x:=⟨_,List.getElem?_eq_getElem hl2⟩
 rw [AB hx2,Mp.eq_2] at hE2
 rw [AB hx2] at ha
 simp only [List.flatten_cons,List.length_append] at ha
 refine Sq<|A4.block<|Sq<|Rg<|Ap (AV.pt ((Ag 1 AV.s) x2).cells) (AQ (k:=1) (nl:=false) (e:=24) (kk:= .i64) (A:=(Ag 1 AV.s)) (xs:=slices) (i:=v27) kr kr kr ⟨by kernel_rfl,by decide⟩ hx2)<|Aq ((Ag 1 AV.s) x2)<|Aq ((Ag 1 AV.s) x2)<|Ad<|Rg<|Aq (AV.sl 1 true [])<|Aq ((Ag 1 AV.s) x2) ?_
 by_cases z_3:x2=[]
 refine AY (x:=(AV.sl 1 true [])) (h':=⟨1,[(0,none)]⟩) (Sd (e:=9) (X:=((Ag 1 AV.s) x2)) (A:=AV.s) (i:=DU) (k:=1) (ys:=x2) kr kr kr (hx:=kr) rfl z_3 ⟨by decide,by kernel_rfl⟩) le<|Aq (AV.sl 1 true [])<|Ad<|Rg<|Ap (Ai (v27+1)) (AA (i:=v27) (m:=1) kr kr sd)<|Aq (Ai (v27+1))<|Ad ?_
 try simp only [z_3,Aw] at hE2
 refine ⟨(false,[],v27+1),od,⟨od,(by simp),by (try dsimp only)<;>(first|omega|(simp only [List.length_append];omega)),hE2⟩,?_⟩
 exact ⟨[1000000],⟨by decide,rfl,(A0.cons rfl A0.nil),(Ee (Ee (Ee (Ee Af.nil))))⟩,Ar⟩
 refine AY (x:=(AV.own 1 0 x2.length)) (h':=⟨2,[(1,some ⟨9,1,x2.map AV.s⟩),(0,none)]⟩) (Se (e:=9) (X:=((Ag 1 AV.s) x2)) (A:=AV.s) (i:=DU) (k:=1) (ys:=x2) kr kr kr (hx:=kr) rfl z_3 ⟨by decide,by kernel_rfl⟩ (by show _*16≤140737488355328;first|omega|(simp only [List.length_append,List.length_cons,List.length_nil,List.length_set,List.length_replicate];omega)|(simp;omega)) sd) le<|Aq (AV.own 1 0 x2.length)<|Ad<|Rg<|Ap (Ai (v27+1)) (AA (i:=v27) (m:=1) kr kr sd)<|Aq (Ai (v27+1))<|Ad ?_
 refine ⟨(true,x2,v27+1),od,⟨od,(by simp),by (try dsimp only)<;>(first|omega|(simp only [List.length_append];omega)),hE2⟩,?_⟩
 exact ⟨[1],⟨by decide,rfl,(A0.cons (Az (fun _=>rfl) (e:=9) (k:=1) (A:=AV.s) (xs:=x2) rfl rfl) A0.nil),(Ee (Ee (Af.cons (Cm (by decide) rfl) (Ee Af.nil))))⟩,Ar⟩
 have hc2:decide (((v27:Nat):Int)<((slices.length:Nat):Int))=false:=decide_eq_false (by omega)
 refine A4.cond (t:=false) (by rw [←hc2]<;>kernel_rfl) (A4.exit ?_)
 rw [List.drop_eq_nil_of_le (hl2),Mp.eq_1] at hE2
 subst hE2
 refine Sq<|Rg<|Aq (AV.sl 1 true [])<|Aq (AV.sl 1 true [])<|Ad<|Rt ?_
 have hM:Ci slices=[]:=by simp only [Ci,hR1,z_2,hR2,Aw]
 refine ⟨Or.inr rfl,?_⟩
 rw [hM]
 exact AE.cast (x':=(AV.sl 1 true [])) (y':=((Ag 1 AV.s) [])) kr kr (AE.w rfl (AP.nil 1))
 try dsimp only
 refine Sq<|Rg<|Aq (AV.b (decide (((v27:Nat):Int)<((slices.length:Nat):Int))))<|Ad<|Sq ?_
 rcases Nat.lt_or_ge v27 slices.length with hl2|hl2
 have hc2:decide (((v27:Nat):Int)<((slices.length:Nat):Int))=true:=decide_eq_true (by omega)
 refine A4.cond (t:=true) (by rw [←hc2]<;>kernel_rfl) (A4.skip ?_)
 obtain ⟨x2,hx2⟩: ∃x,slices[v27]? =some x:=⟨_,List.getElem?_eq_getElem hl2⟩
 rw [AB hx2,Mp.eq_2] at hE2
 rw [AB hx2] at ha
 simp only [List.flatten_cons,List.length_append] at ha
 refine Sq<|A4.block<|Sq<|Rg<|Ap (AV.pt ((Ag 1 AV.s) x2).cells) (AQ (k:=1) (nl:=false) (e:=24) (kk:= .i64) (A:=(Ag 1 AV.s)) (xs:=slices) (i:=v27) kr kr kr ⟨by kernel_rfl,by decide⟩ hx2)<|Aq ((Ag 1 AV.s) x2)<|Aq ((Ag 1 AV.s) x2)<|Ad<|Rg<|Aq (AV.own 0 0 newslice.length)<|Aq ((Ag 1 AV.s) x2)<|AY (x:=(AV.own 1 0 ((newslice++x2).length))) (h':=⟨2,[(1,some ⟨9,1,(newslice++x2).map AV.s⟩),(0,none)]⟩) (CE (len:=newslice.length) (e:=9) (X:=((Ag 1 AV.s) x2)) (A:=AV.s) (i:=DU) (p:=0) (xs:=newslice) (ys:=x2) kr kr kr (hx:=kr) kr ⟨by decide,by kernel_rfl⟩ rfl rfl (by show _*16≤140737488355328;first|omega|(simp only [List.length_append,List.length_cons,List.length_nil,List.length_set,List.length_replicate];omega)|(simp;omega)) sd) le<|Aq (AV.own 1 0 ((newslice++x2).length))<|Ad<|Rg<|Ap (Ai (v27+1)) (AA (i:=v27) (m:=1) kr kr sd)<|Aq (Ai (v27+1))<|Ad ?_
 refine ⟨(true,(newslice++x2),v27+1),od,⟨od,(by simp),by (try dsimp only)<;>(first|omega|(simp only [List.length_append];omega)),hE2⟩,?_⟩
 exact ⟨[1],⟨by decide,rfl,(A0.cons (Az (fun _=>rfl) (e:=9) (k:=1) (A:=AV.s) (xs:=(newslice++x2)) rfl rfl) A0.nil),(Ee (Ee (Af.cons (Cm (by decide) rfl) (Ee Af.nil))))⟩,Ar⟩
 have hc2:decide (((v27:Nat):Int)<((slices.length:Nat):Int))=false:=decide_eq_false (by omega)
 refine A4.cond (t:=false) (by rw [←hc2]<;>kernel_rfl) (A4.exit ?_)
 rw [List.drop_eq_nil_of_le (hl2),Mp.eq_1] at hE2
 subst hE2
 refine Sq<|Rg<|Aq (AV.own 0 0 newslice.length)<|Aq (AV.own 0 0 newslice.length)<|Ad<|Rt ?_
 have hM:Ci slices=newslice:=by simp only [Ci,hR1,z_2,hR2,Aw]
 refine ⟨Or.inr rfl,?_⟩
 rw [hM]
 exact AE.cast (x':=(AV.own 0 0 newslice.length)) (y':=((Ag 1 AV.s) newslice)) kr kr (Dk.kk (x':=(AV.own 0 0 newslice.length)) kr kr rfl (Al.row (fun _=>rfl) (A:=AV.s) (id:=0) (e:=9) (k:=1) (xs:=newslice) rfl rfl rfl sd))
 have hzz_2:0<size:=by have:=z_2;simp only [ne_eq,List.replicate_eq_nil_iff] at this;omega
 refine SY (A:=AV.s) (xs:=(List.replicate size (⟨#[]⟩:ByteArray))) (vs:=[(AV.sl 1 true []),(Ai size)]) kr kr (KB W size hzz_2 sd) (fun _=>rfl) le<|Aq (AV.own 0 0 0)<|Ad<|Sq<|Sq<|Rg<|Aq (AL slices)<|Ap (Ai slices.length) (AN (k:=1) (nl:=false) (e:=24) (A:=(Ag 1 AV.s)) (xs:=slices) kr kr)<|Aq (AV.i .i64 (0:Int))<|Ad<|A4.block<|A4.lim 0 (x:=(AL slices)) kr fun hlm2=> ?_
 have hB2:slices.length≤281474976710656:=AX hlm2
 obtain ⟨R2,hR2⟩: ∃R,Mp slices 0 ((List.replicate size (⟨#[]⟩:ByteArray)).take 0)=R:=⟨_,rfl⟩
 refine Av (fun ((b_newslice2,newslice2,v272):Bool×(List ByteArray)×Nat)=>[(25,(AL slices)),(26,(Ai slices.length)),(6,(X5 0 1 AV.s b_newslice2 newslice2)),(27,(Ai v272))]) (fun ((b_newslice2,newslice2,v272):Bool×(List ByteArray)×Nat)=>⟨1,[(0,Te 9 1 AV.s b_newslice2 newslice2)]⟩) (fun ((b_newslice2,newslice2,v272):Bool×(List ByteArray)×Nat)=>v272≤slices.length∧(b_newslice2=false→newslice2=[])∧newslice2.length+((slices.drop v272).flatten).length≤(slices.flatten).length∧Mp (slices.drop v272) v272 newslice2=R2) (fun ((b_newslice2,newslice2,v272):Bool×(List ByteArray)×Nat)=>slices.length-v272) (true,((List.replicate size (⟨#[]⟩:ByteArray)).take 0),0) ?_ ?_ ?_
 exact ⟨[0],⟨by decide,rfl,(Fy (SB (fun _=>rfl) (fun _=>rfl) (e:=9) (k:=1) (A:=AV.s) (xs:=(List.replicate size (⟨#[]⟩:ByteArray))) (ys:=((List.replicate size (⟨#[]⟩:ByteArray)).take 0)) (Q6 _ _) rfl rfl) A0.nil),(Ee (Ee (Af.cons (Cm (by decide) (by simp)) (Ee Af.nil))))⟩,Ar⟩
 exact ⟨od,(by simp),by (try dsimp only)<;>(simp),hR2⟩
 rintro ⟨b_newslice2,newslice2,v272⟩ ⟨hi2,hn_newslice2,ha,hE2⟩
 try dsimp only
 cases b_newslice2
 have hz_newslice2:=hn_newslice2 rfl
 subst hz_newslice2
 try dsimp only
 refine Sq<|Rg<|Aq (AV.b (decide (((v272:Nat):Int)<((slices.length:Nat):Int))))<|Ad<|Sq ?_
 rcases Nat.lt_or_ge v272 slices.length with hl2|hl2
 have hc2:decide (((v272:Nat):Int)<((slices.length:Nat):Int))=true:=decide_eq_true (by omega)
 refine A4.cond (t:=true) (by rw [←hc2]<;>kernel_rfl) (A4.skip ?_)
 obtain ⟨x22,hx2⟩: ∃x,slices[v272]? =some x:=⟨_,List.getElem?_eq_getElem hl2⟩
 rw [AB hx2,Mp.eq_2] at hE2
 rw [AB hx2] at ha
 simp only [List.flatten_cons,List.length_append] at ha
 refine Sq<|A4.block<|Sq<|Rg<|Ap (AV.pt ((Ag 1 AV.s) x22).cells) (AQ (k:=1) (nl:=false) (e:=24) (kk:= .i64) (A:=(Ag 1 AV.s)) (xs:=slices) (i:=v272) kr kr kr ⟨by kernel_rfl,by decide⟩ hx2)<|Aq ((Ag 1 AV.s) x22)<|Aq ((Ag 1 AV.s) x22)<|Ad<|Rg<|Aq (AV.sl 1 true [])<|Aq ((Ag 1 AV.s) x22) ?_
 by_cases z_4:x22=[]
 refine AY (x:=(AV.sl 1 true [])) (h':=⟨1,[(0,none)]⟩) (Sd (e:=9) (X:=((Ag 1 AV.s) x22)) (A:=AV.s) (i:=DU) (k:=1) (ys:=x22) kr kr kr (hx:=kr) rfl z_4 ⟨by decide,by kernel_rfl⟩) le<|Aq (AV.sl 1 true [])<|Ad<|Rg<|Ap (Ai (v272+1)) (AA (i:=v272) (m:=1) kr kr sd)<|Aq (Ai (v272+1))<|Ad ?_
 try simp only [z_4,Aw] at hE2
 refine ⟨(false,[],v272+1),od,⟨od,(by simp),by (try dsimp only)<;>(first|omega|(simp only [List.length_append];omega)),hE2⟩,?_⟩
 exact ⟨[1000000],⟨by decide,rfl,(A0.cons rfl A0.nil),(Ee (Ee (Ee (Ee Af.nil))))⟩,Ar⟩
 refine AY (x:=(AV.own 1 0 x22.length)) (h':=⟨2,[(1,some ⟨9,1,x22.map AV.s⟩),(0,none)]⟩) (Se (e:=9) (X:=((Ag 1 AV.s) x22)) (A:=AV.s) (i:=DU) (k:=1) (ys:=x22) kr kr kr (hx:=kr) rfl z_4 ⟨by decide,by kernel_rfl⟩ (by show _*16≤140737488355328;first|omega|(simp only [List.length_append,List.length_cons,List.length_nil,List.length_set,List.length_replicate];omega)|(simp;omega)) sd) le<|Aq (AV.own 1 0 x22.length)<|Ad<|Rg<|Ap (Ai (v272+1)) (AA (i:=v272) (m:=1) kr kr sd)<|Aq (Ai (v272+1))<|Ad ?_
 refine ⟨(true,x22,v272+1),od,⟨od,(by simp),by (try dsimp only)<;>(first|omega|(simp only [List.length_append];omega)),hE2⟩,?_⟩
 exact ⟨[1],⟨by decide,rfl,(A0.cons (Az (fun _=>rfl) (e:=9) (k:=1) (A:=AV.s) (xs:=x22) rfl rfl) A0.nil),(Ee (Ee (Af.cons (Cm (by decide) rfl) (Ee Af.nil))))⟩,Ar⟩
 have hc2:decide (((v272:Nat):Int)<((slices.length:Nat):Int))=false:=decide_eq_false (by omega)
 refine A4.cond (t:=false) (by rw [←hc2]<;>kernel_rfl) (A4.exit ?_)
 rw [List.drop_eq_nil_of_le (hl2),Mp.eq_1] at hE2
 subst hE2
 refine Sq<|Rg<|Aq (AV.sl 1 true [])<|Aq (AV.sl 1 true [])<|Ad<|Rt ?_
 have hM:Ci slices=[]:=by simp only [Ci,hR1,hR2,Aw]
 refine ⟨Or.inr rfl,?_⟩
 rw [hM]
 exact AE.cast (x':=(AV.sl 1 true [])) (y':=((Ag 1 AV.s) [])) kr kr (AE.w rfl (AP.nil 1))
 try dsimp only
 refine Sq<|Rg<|Aq (AV.b (decide (((v272:Nat):Int)<((slices.length:Nat):Int))))<|Ad<|Sq ?_
 rcases Nat.lt_or_ge v272 slices.length with hl2|hl2
 have hc2:decide (((v272:Nat):Int)<((slices.length:Nat):Int))=true:=decide_eq_true (by omega)
 refine A4.cond (t:=true) (by rw [←hc2]<;>kernel_rfl) (A4.skip ?_)
 obtain ⟨x22,hx2⟩: ∃x,slices[v272]? =some x:=⟨_,List.getElem?_eq_getElem hl2⟩
 rw [AB hx2,Mp.eq_2] at hE2
 rw [AB hx2] at ha
 simp only [List.flatten_cons,List.length_append] at ha
 refine Sq<|A4.block<|Sq<|Rg<|Ap (AV.pt ((Ag 1 AV.s) x22).cells) (AQ (k:=1) (nl:=false) (e:=24) (kk:= .i64) (A:=(Ag 1 AV.s)) (xs:=slices) (i:=v272) kr kr kr ⟨by kernel_rfl,by decide⟩ hx2)<|Aq ((Ag 1 AV.s) x22)<|Aq ((Ag 1 AV.s) x22)<|Ad<|Rg<|Aq (AV.own 0 0 newslice2.length)<|Aq ((Ag 1 AV.s) x22)<|AY (x:=(AV.own 1 0 ((newslice2++x22).length))) (h':=⟨2,[(1,some ⟨9,1,(newslice2++x22).map AV.s⟩),(0,none)]⟩) (CE (len:=newslice2.length) (e:=9) (X:=((Ag 1 AV.s) x22)) (A:=AV.s) (i:=DU) (p:=0) (xs:=newslice2) (ys:=x22) kr kr kr (hx:=kr) kr ⟨by decide,by kernel_rfl⟩ rfl rfl (by show _*16≤140737488355328;first|omega|(simp only [List.length_append,List.length_cons,List.length_nil,List.length_set,List.length_replicate];omega)|(simp;omega)) sd) le<|Aq (AV.own 1 0 ((newslice2++x22).length))<|Ad<|Rg<|Ap (Ai (v272+1)) (AA (i:=v272) (m:=1) kr kr sd)<|Aq (Ai (v272+1))<|Ad ?_
 refine ⟨(true,(newslice2++x22),v272+1),od,⟨od,(by simp),by (try dsimp only)<;>(first|omega|(simp only [List.length_append];omega)),hE2⟩,?_⟩
 exact ⟨[1],⟨by decide,rfl,(A0.cons (Az (fun _=>rfl) (e:=9) (k:=1) (A:=AV.s) (xs:=(newslice2++x22)) rfl rfl) A0.nil),(Ee (Ee (Af.cons (Cm (by decide) rfl) (Ee Af.nil))))⟩,Ar⟩
 have hc2:decide (((v272:Nat):Int)<((slices.length:Nat):Int))=false:=decide_eq_false (by omega)
 refine A4.cond (t:=false) (by rw [←hc2]<;>kernel_rfl) (A4.exit ?_)
 rw [List.drop_eq_nil_of_le (hl2),Mp.eq_1] at hE2
 subst hE2
 refine Sq<|Rg<|Aq (AV.own 0 0 newslice2.length)<|Aq (AV.own 0 0 newslice2.length)<|Ad<|Rt ?_
 have hM:Ci slices=newslice2:=by simp only [Ci,hR1,hR2,Aw]
 refine ⟨Or.inr rfl,?_⟩
 rw [hM]
 exact AE.cast (x':=(AV.own 0 0 newslice2.length)) (y':=((Ag 1 AV.s) newslice2)) kr kr (Dk.kk (x':=(AV.own 0 0 newslice2.length)) kr kr rfl (Al.row (fun _=>rfl) (A:=AV.s) (id:=0) (e:=9) (k:=1) (xs:=newslice2) rfl rfl rfl sd))
def AK (slices:List (List ByteArray)):AV:=((Ag 1 (Ag 1 AV.s)) slices)
theorem BI (W:World) (slices:List (List ByteArray)) (hz:(slices.flatten).length≤1048576) (hne:Ci slices≠ []):Ah Go.Proofs.Tryz.prog W 55 [((Ag 1 (Ag 1 AV.s)) slices)] (.own 0 0 (Ci slices).length) [⟨9,1,(Ci slices).map AV.s⟩]:=by
 refine Ld (fn:=Go.Proofs.Tryz.f55) Go.Proofs.Tryz.func55 rfl (en55 W) (ts:=[2]) rfl le (fun _=>rfl)<|Sq<|Rg<|Aq (AV.sl 1 true [])<|Ad<|Sq<|Rg<|Aq (AV.i .i64 (0:Int))<|Ad<|Sq<|Sq<|Rg<|Aq (AK slices)<|Ap (Ai slices.length) (AN (k:=1) (nl:=false) (e:=24) (A:=(Ag 1 AV.s)) (xs:=slices) kr kr)<|Aq (AV.i .i64 (0:Int))<|Ad<|A4.block<|A4.lim 0 (x:=(AK slices)) kr fun hlm1=> ?_
 have hB1:slices.length≤281474976710656:=AX hlm1
 obtain ⟨R1,hR1⟩: ∃R,WB slices 0 0=R:=⟨_,rfl⟩
 refine Av (fun ((size,v11):Nat×Nat)=>[(0,(AK slices)),(9,(AK slices)),(10,(Ai slices.length)),(3,(Ai size)),(11,(Ai v11))]) (fun ((size,v11):Nat×Nat)=>⟨0,[]⟩) (fun ((size,v11):Nat×Nat)=>v11≤slices.length∧size+((slices.drop v11).flatten).length=(slices.flatten).length∧WB (slices.drop v11) v11 size=R1) (fun ((size,v11):Nat×Nat)=>slices.length-v11) (0,0) ?_ ?_ ?_
 exact ⟨[],⟨by decide,rfl,A0.nil,(Ee (Ee (Ee (Ee (Ee Af.nil)))))⟩,Ar⟩
 exact ⟨od,by (try dsimp only)<;>(simp),hR1⟩
 rintro ⟨size,v11⟩ ⟨hi1,hs,hE1⟩
 try dsimp only
 refine Sq<|Rg<|Aq (AV.b (decide (((v11:Nat):Int)<((slices.length:Nat):Int))))<|Ad<|Sq ?_
 rcases Nat.lt_or_ge v11 slices.length with hl1|hl1
 have hc1:decide (((v11:Nat):Int)<((slices.length:Nat):Int))=true:=decide_eq_true (by omega)
 refine A4.cond (t:=true) (by rw [←hc1]<;>kernel_rfl) (A4.skip ?_)
 obtain ⟨x1,hx1⟩: ∃x,slices[v11]? =some x:=⟨_,List.getElem?_eq_getElem hl1⟩
 rw [AB hx1,WB.eq_2] at hE1
 rw [AB hx1] at hs
 simp only [List.flatten_cons,List.length_append] at hs
 refine Sq<|A4.block<|Sq<|Rg<|Ap (AV.pt ((Ag 1 AV.s) x1).cells) (AQ (k:=1) (nl:=false) (e:=24) (kk:= .i64) (A:=(Ag 1 AV.s)) (xs:=slices) (i:=v11) kr kr kr ⟨by kernel_rfl,by decide⟩ hx1)<|Aq ((Ag 1 AV.s) x1)<|Aq ((Ag 1 AV.s) x1)<|Ad<|Sq<|Rg<|Aq (Ai size)<|Aq ((Ag 1 AV.s) x1)<|Ap (Ai x1.length) (AN (k:=1) (nl:=false) (e:=9) (A:=AV.s) (xs:=x1) kr kr)<|Ap (Ai (size+x1.length)) (AA (i:=size) (m:=x1.length) kr kr sd)<|Aq (Ai (size+x1.length))<|Ad<|Sq<|Rg<|Aq (Ai (size+x1.length))<|Aq (AV.b (decide (((size+x1.length:Nat):Int)<(0:Int))))<|Ad ?_
 cases c_1:decide (((size+x1.length:Nat):Int)<(0:Int))
 have k_1:=of_decide_eq_false c_1
 refine Cf<|A4.skip<|Rg<|Ap (Ai (v11+1)) (AA (i:=v11) (m:=1) kr kr sd)<|Aq (Ai (v11+1))<|Ad ?_
 try simp only [c_1,Aw] at hE1
 refine ⟨(size+x1.length,v11+1),od,⟨od,by (try dsimp only)<;>(omega),hE1⟩,?_⟩
 exact ⟨[],⟨by decide,rfl,A0.nil,(Ee (Ee (Ee (Ee (Ee Af.nil)))))⟩,Ar⟩
 have k_1:=of_decide_eq_true c_1
 refine Ct<|Rg ?_
 exfalso
 omega
 have hc1:decide (((v11:Nat):Int)<((slices.length:Nat):Int))=false:=decide_eq_false (by omega)
 refine A4.cond (t:=false) (by rw [←hc1]<;>kernel_rfl) (A4.exit ?_)
 rw [List.drop_eq_nil_of_le (hl1),WB.eq_1] at hE1
 subst hE1
 refine Sq<|Rg<|Aq (Ai size) ?_
 by_cases z_2:(List.replicate size (⟨#[]⟩:ByteArray))=[]
 have hzz_2:size=0:=by simpa using z_2
 refine A1.sc0 (vs:=[(AV.sl 1 true []),(Ai size)]) (r0:=(AV.sl 1 true [])) kr kr (by rw [hzz_2];exact W6 W) kr le<|Aq (AV.sl 1 true [])<|Ad<|Sq<|Sq<|Rg<|Aq (AK slices)<|Ap (Ai slices.length) (AN (k:=1) (nl:=false) (e:=24) (A:=(Ag 1 AV.s)) (xs:=slices) kr kr)<|Aq (AV.i .i64 (0:Int))<|Ad<|A4.block<|A4.lim 0 (x:=(AK slices)) kr fun hlm2=> ?_
 have hB2:slices.length≤281474976710656:=AX hlm2
 obtain ⟨R2,hR2⟩: ∃R,Mp slices 0 []=R:=⟨_,rfl⟩
 refine Av (fun ((b_newslice,newslice,v27):Bool×(List ByteArray)×Nat)=>[(25,(AK slices)),(26,(Ai slices.length)),(6,(X5 0 1 AV.s b_newslice newslice)),(27,(Ai v27))]) (fun ((b_newslice,newslice,v27):Bool×(List ByteArray)×Nat)=>⟨1,[(0,Te 9 1 AV.s b_newslice newslice)]⟩) (fun ((b_newslice,newslice,v27):Bool×(List ByteArray)×Nat)=>v27≤slices.length∧(b_newslice=false→newslice=[])∧newslice.length+((slices.drop v27).flatten).length≤(slices.flatten).length∧Mp (slices.drop v27) v27 newslice=R2) (fun ((b_newslice,newslice,v27):Bool×(List ByteArray)×Nat)=>slices.length-v27) (false,[],0) ?_ ?_ ?_
 exact ⟨[1000000],⟨by decide,rfl,(A0.cons rfl A0.nil),(Ee (Ee (Ee (Ee Af.nil))))⟩,Ar⟩
 exact ⟨od,(by simp),by (try dsimp only)<;>(simp),hR2⟩
 rintro ⟨b_newslice,newslice,v27⟩ ⟨hi2,hn_newslice,ha,hE2⟩
 try dsimp only
 cases b_newslice
 have hz_newslice:=hn_newslice rfl
 subst hz_newslice
 try dsimp only
 refine Sq<|Rg<|Aq (AV.b (decide (((v27:Nat):Int)<((slices.length:Nat):Int))))<|Ad<|Sq ?_
 rcases Nat.lt_or_ge v27 slices.length with hl2|hl2
 have hc2:decide (((v27:Nat):Int)<((slices.length:Nat):Int))=true:=decide_eq_true (by omega)
 refine A4.cond (t:=true) (by rw [←hc2]<;>kernel_rfl) (A4.skip ?_)
 obtain ⟨x2,hx2⟩: ∃x,slices[v27]? =some x:=⟨_,List.getElem?_eq_getElem hl2⟩
 rw [AB hx2,Mp.eq_2] at hE2
 rw [AB hx2] at ha
 simp only [List.flatten_cons,List.length_append] at ha
 refine Sq<|A4.block<|Sq<|Rg<|Ap (AV.pt ((Ag 1 AV.s) x2).cells) (AQ (k:=1) (nl:=false) (e:=24) (kk:= .i64) (A:=(Ag 1 AV.s)) (xs:=slices) (i:=v27) kr kr kr ⟨by kernel_rfl,by decide⟩ hx2)<|Aq ((Ag 1 AV.s) x2)<|Aq ((Ag 1 AV.s) x2)<|Ad<|Rg<|Aq (AV.sl 1 true [])<|Aq ((Ag 1 AV.s) x2) ?_
 by_cases z_3:x2=[]
 refine AY (x:=(AV.sl 1 true [])) (h':=⟨1,[(0,none)]⟩) (Sd (e:=9) (X:=((Ag 1 AV.s) x2)) (A:=AV.s) (i:=DU) (k:=1) (ys:=x2) kr kr kr (hx:=kr) rfl z_3 ⟨by decide,by kernel_rfl⟩) le<|Aq (AV.sl 1 true [])<|Ad<|Rg<|Ap (Ai (v27+1)) (AA (i:=v27) (m:=1) kr kr sd)<|Aq (Ai (v27+1))<|Ad ?_
 try simp only [z_3,Aw] at hE2
 refine ⟨(false,[],v27+1),od,⟨od,(by simp),by (try dsimp only)<;>(first|omega|(simp only [List.length_append];omega)),hE2⟩,?_⟩
 exact ⟨[1000000],⟨by decide,rfl,(A0.cons rfl A0.nil),(Ee (Ee (Ee (Ee Af.nil))))⟩,Ar⟩
 refine AY (x:=(AV.own 1 0 x2.length)) (h':=⟨2,[(1,some ⟨9,1,x2.map AV.s⟩),(0,none)]⟩) (Se (e:=9) (X:=((Ag 1 AV.s) x2)) (A:=AV.s) (i:=DU) (k:=1) (ys:=x2) kr kr kr (hx:=kr) rfl z_3 ⟨by decide,by kernel_rfl⟩ (by show _*16≤140737488355328;first|omega|(simp only [List.length_append,List.length_cons,List.length_nil,List.length_set,List.length_replicate];omega)|(simp;omega)) sd) le<|Aq (AV.own 1 0 x2.length)<|Ad<|Rg<|Ap (Ai (v27+1)) (AA (i:=v27) (m:=1) kr kr sd)<|Aq (Ai (v27+1))<|Ad ?_
 refine ⟨(true,x2,v27+1),od,⟨od,(by simp),by (try dsimp only)<;>(first|omega|(simp only [List.length_append];omega)),hE2⟩,?_⟩
 exact ⟨[1],⟨by decide,rfl,(A0.cons (Az (fun _=>rfl) (e:=9) (k:=1) (A:=AV.s) (xs:=x2) rfl rfl) A0.nil),(Ee (Ee (Af.cons (Cm (by decide) rfl) (Ee Af.nil))))⟩,Ar⟩
 have hc2:decide (((v27:Nat):Int)<((slices.length:Nat):Int))=false:=decide_eq_false (by omega)
 refine A4.cond (t:=false) (by rw [←hc2]<;>kernel_rfl) (A4.exit ?_)
 rw [List.drop_eq_nil_of_le (hl2),Mp.eq_1] at hE2
 subst hE2
 refine Sq<|Rg<|Aq (AV.sl 1 true [])<|Aq (AV.sl 1 true [])<|Ad<|Rt ?_
 have hM:Ci slices=[]:=by simp only [Ci,hR1,z_2,hR2,Aw]
 exact absurd hM hne
 try dsimp only
 refine Sq<|Rg<|Aq (AV.b (decide (((v27:Nat):Int)<((slices.length:Nat):Int))))<|Ad<|Sq ?_
 rcases Nat.lt_or_ge v27 slices.length with hl2|hl2
 have hc2:decide (((v27:Nat):Int)<((slices.length:Nat):Int))=true:=decide_eq_true (by omega)
 refine A4.cond (t:=true) (by rw [←hc2]<;>kernel_rfl) (A4.skip ?_)
 obtain ⟨x2,hx2⟩: ∃x,slices[v27]? =some x:=⟨_,List.getElem?_eq_getElem hl2⟩
 rw [AB hx2,Mp.eq_2] at hE2
 rw [AB hx2] at ha
 simp only [List.flatten_cons,List.length_append] at ha
 refine Sq<|A4.block<|Sq<|Rg<|Ap (AV.pt ((Ag 1 AV.s) x2).cells) (AQ (k:=1) (nl:=false) (e:=24) (kk:= .i64) (A:=(Ag 1 AV.s)) (xs:=slices) (i:=v27) kr kr kr ⟨by kernel_rfl,by decide⟩ hx2)<|Aq ((Ag 1 AV.s) x2)<|Aq ((Ag 1 AV.s) x2)<|Ad<|Rg<|Aq (AV.own 0 0 newslice.length)<|Aq ((Ag 1 AV.s) x2)<|AY (x:=(AV.own 1 0 ((newslice++x2).length))) (h':=⟨2,[(1,some ⟨9,1,(newslice++x2).map AV.s⟩),(0,none)]⟩) (CE (len:=newslice.length) (e:=9) (X:=((Ag 1 AV.s) x2)) (A:=AV.s) (i:=DU) (p:=0) (xs:=newslice) (ys:=x2) kr kr kr (hx:=kr) kr ⟨by decide,by kernel_rfl⟩ rfl rfl (by show _*16≤140737488355328;first|omega|(simp only [List.length_append,List.length_cons,List.length_nil,List.length_set,List.length_replicate];omega)|(simp;omega)) sd) le<|Aq (AV.own 1 0 ((newslice++x2).length))<|Ad<|Rg<|Ap (Ai (v27+1)) (AA (i:=v27) (m:=1) kr kr sd)<|Aq (Ai (v27+1))<|Ad ?_
 refine ⟨(true,(newslice++x2),v27+1),od,⟨od,(by simp),by (try dsimp only)<;>(first|omega|(simp only [List.length_append];omega)),hE2⟩,?_⟩
 exact ⟨[1],⟨by decide,rfl,(A0.cons (Az (fun _=>rfl) (e:=9) (k:=1) (A:=AV.s) (xs:=(newslice++x2)) rfl rfl) A0.nil),(Ee (Ee (Af.cons (Cm (by decide) rfl) (Ee Af.nil))))⟩,Ar⟩
 have hc2:decide (((v27:Nat):Int)<((slices.length:Nat):Int))=false:=decide_eq_false (by omega)
 refine A4.cond (t:=false) (by rw [←hc2]<;>kernel_rfl) (A4.exit ?_)
 rw [List.drop_eq_nil_of_le (hl2),Mp.eq_1] at hE2
 subst hE2
 refine Sq<|Rg<|Aq (AV.own 0 0 newslice.length)<|Aq (AV.own 0 0 newslice.length)<|Ad<|Rt ?_
 have hM:Ci slices=newslice:=by simp only [Ci,hR1,z_2,hR2,Aw]
 rw [hM]
 refine ⟨Or.inr rfl,0,?_,rfl⟩
 first|rfl|(show AV.own _ _ _=AV.own _ _ _;congr 1;simp)
 have hzz_2:0<size:=by have:=z_2;simp only [ne_eq,List.replicate_eq_nil_iff] at this;omega
 refine SY (A:=AV.s) (xs:=(List.replicate size (⟨#[]⟩:ByteArray))) (vs:=[(AV.sl 1 true []),(Ai size)]) kr kr (KB W size hzz_2 sd) (fun _=>rfl) le<|Aq (AV.own 0 0 0)<|Ad<|Sq<|Sq<|Rg<|Aq (AK slices)<|Ap (Ai slices.length) (AN (k:=1) (nl:=false) (e:=24) (A:=(Ag 1 AV.s)) (xs:=slices) kr kr)<|Aq (AV.i .i64 (0:Int))<|Ad<|A4.block<|A4.lim 0 (x:=(AK slices)) kr fun hlm2=> ?_
 have hB2:slices.length≤281474976710656:=AX hlm2
 obtain ⟨R2,hR2⟩: ∃R,Mp slices 0 ((List.replicate size (⟨#[]⟩:ByteArray)).take 0)=R:=⟨_,rfl⟩
 refine Av (fun ((b_newslice2,newslice2,v272):Bool×(List ByteArray)×Nat)=>[(25,(AK slices)),(26,(Ai slices.length)),(6,(X5 0 1 AV.s b_newslice2 newslice2)),(27,(Ai v272))]) (fun ((b_newslice2,newslice2,v272):Bool×(List ByteArray)×Nat)=>⟨1,[(0,Te 9 1 AV.s b_newslice2 newslice2)]⟩) (fun ((b_newslice2,newslice2,v272):Bool×(List ByteArray)×Nat)=>v272≤slices.length∧(b_newslice2=false→newslice2=[])∧newslice2.length+((slices.drop v272).flatten).length≤(slices.flatten).length∧Mp (slices.drop v272) v272 newslice2=R2) (fun ((b_newslice2,newslice2,v272):Bool×(List ByteArray)×Nat)=>slices.length-v272) (true,((List.replicate size (⟨#[]⟩:ByteArray)).take 0),0) ?_ ?_ ?_
 exact ⟨[0],⟨by decide,rfl,(Fy (SB (fun _=>rfl) (fun _=>rfl) (e:=9) (k:=1) (A:=AV.s) (xs:=(List.replicate size (⟨#[]⟩:ByteArray))) (ys:=((List.replicate size (⟨#[]⟩:ByteArray)).take 0)) (Q6 _ _) rfl rfl) A0.nil),(Ee (Ee (Af.cons (Cm (by decide) (by simp)) (Ee Af.nil))))⟩,Ar⟩
 exact ⟨od,(by simp),by (try dsimp only)<;>(simp),hR2⟩
 rintro ⟨b_newslice2,newslice2,v272⟩ ⟨hi2,hn_newslice2,ha,hE2⟩
 try dsimp only
 cases b_newslice2
 have hz_newslice2:=hn_newslice2 rfl
 subst hz_newslice2
 try dsimp only
 refine Sq<|Rg<|Aq (AV.b (decide (((v272:Nat):Int)<((slices.length:Nat):Int))))<|Ad<|Sq ?_
 rcases Nat.lt_or_ge v272 slices.length with hl2|hl2
 have hc2:decide (((v272:Nat):Int)<((slices.length:Nat):Int))=true:=decide_eq_true (by omega)
 refine A4.cond (t:=true) (by rw [←hc2]<;>kernel_rfl) (A4.skip ?_)
 obtain ⟨x22,hx2⟩: ∃x,slices[v272]? =some x:=⟨_,List.getElem?_eq_getElem hl2⟩
 rw [AB hx2,Mp.eq_2] at hE2
 rw [AB hx2] at ha
 simp only [List.flatten_cons,List.length_append] at ha
 refine Sq<|A4.block<|Sq<|Rg<|Ap (AV.pt ((Ag 1 AV.s) x22).cells) (AQ (k:=1) (nl:=false) (e:=24) (kk:= .i64) (A:=(Ag 1 AV.s)) (xs:=slices) (i:=v272) kr kr kr ⟨by kernel_rfl,by decide⟩ hx2)<|Aq ((Ag 1 AV.s) x22)<|Aq ((Ag 1 AV.s) x22)<|Ad<|Rg<|Aq (AV.sl 1 true [])<|Aq ((Ag 1 AV.s) x22) ?_
 by_cases z_4:x22=[]
 refine AY (x:=(AV.sl 1 true [])) (h':=⟨1,[(0,none)]⟩) (Sd (e:=9) (X:=((Ag 1 AV.s) x22)) (A:=AV.s) (i:=DU) (k:=1) (ys:=x22) kr kr kr (hx:=kr) rfl z_4 ⟨by decide,by kernel_rfl⟩) le<|Aq (AV.sl 1 true [])<|Ad<|Rg<|Ap (Ai (v272+1)) (AA (i:=v272) (m:=1) kr kr sd)<|Aq (Ai (v272+1))<|Ad ?_
 try simp only [z_4,Aw] at hE2
 refine ⟨(false,[],v272+1),od,⟨od,(by simp),by (try dsimp only)<;>(first|omega|(simp only [List.length_append];omega)),hE2⟩,?_⟩
 exact ⟨[1000000],⟨by decide,rfl,(A0.cons rfl A0.nil),(Ee (Ee (Ee (Ee Af.nil))))⟩,Ar⟩
 refine AY (x:=(AV.own 1 0 x22.length)) (h':=⟨2,[(1,some ⟨9,1,x22.map AV.s⟩),(0,none)]⟩) (Se (e:=9) (X:=((Ag 1 AV.s) x22)) (A:=AV.s) (i:=DU) (k:=1) (ys:=x22) kr kr kr (hx:=kr) rfl z_4 ⟨by decide,by kernel_rfl⟩ (by show _*16≤140737488355328;first|omega|(simp only [List.length_append,List.length_cons,List.length_nil,List.length_set,List.length_replicate];omega)|(simp;omega)) sd) le<|Aq (AV.own 1 0 x22.length)<|Ad<|Rg<|Ap (Ai (v272+1)) (AA (i:=v272) (m:=1) kr kr sd)<|Aq (Ai (v272+1))<|Ad ?_
 refine ⟨(true,x22,v272+1),od,⟨od,(by simp),by (try dsimp only)<;>(first|omega|(simp only [List.length_append];omega)),hE2⟩,?_⟩
 exact ⟨[1],⟨by decide,rfl,(A0.cons (Az (fun _=>rfl) (e:=9) (k:=1) (A:=AV.s) (xs:=x22) rfl rfl) A0.nil),(Ee (Ee (Af.cons (Cm (by decide) rfl) (Ee Af.nil))))⟩,Ar⟩
 have hc2:decide (((v272:Nat):Int)<((slices.length:Nat):Int))=false:=decide_eq_false (by omega)
 refine A4.cond (t:=false) (by rw [←hc2]<;>kernel_rfl) (A4.exit ?_)
 rw [List.drop_eq_nil_of_le (hl2),Mp.eq_1] at hE2
 subst hE2
 refine Sq<|Rg<|Aq (AV.sl 1 true [])<|Aq (AV.sl 1 true [])<|Ad<|Rt ?_
 have hM:Ci slices=[]:=by simp only [Ci,hR1,hR2,Aw]
 exact absurd hM hne
 try dsimp only
 refine Sq<|Rg<|Aq (AV.b (decide (((v272:Nat):Int)<((slices.length:Nat):Int))))<|Ad<|Sq ?_
 rcases Nat.lt_or_ge v272 slices.length with hl2|hl2
 have hc2:decide (((v272:Nat):Int)<((slices.length:Nat):Int))=true:=decide_eq_true (by omega)
 refine A4.cond (t:=true) (by rw [←hc2]<;>kernel_rfl) (A4.skip ?_)
 obtain ⟨x22,hx2⟩: ∃x,slices[v272]? =some x:=⟨_,List.getElem?_eq_getElem hl2⟩
 rw [AB hx2,Mp.eq_2] at hE2
 rw [AB hx2] at ha
 simp only [List.flatten_cons,List.length_append] at ha
 refine Sq<|A4.block<|Sq<|Rg<|Ap (AV.pt ((Ag 1 AV.s) x22).cells) (AQ (k:=1) (nl:=false) (e:=24) (kk:= .i64) (A:=(Ag 1 AV.s)) (xs:=slices) (i:=v272) kr kr kr ⟨by kernel_rfl,by decide⟩ hx2)<|Aq ((Ag 1 AV.s) x22)<|Aq ((Ag 1 AV.s) x22)<|Ad<|Rg<|Aq (AV.own 0 0 newslice2.length)<|Aq ((Ag 1 AV.s) x22)<|AY (x:=(AV.own 1 0 ((newslice2++x22).length))) (h':=⟨2,[(1,some ⟨9,1,(newslice2++x22).map AV.s⟩),(0,none)]⟩) (CE (len:=newslice2.length) (e:=9) (X:=((Ag 1 AV.s) x22)) (A:=AV.s) (i:=DU) (p:=0) (xs:=newslice2) (ys:=x22) kr kr kr (hx:=kr) kr ⟨by decide,by kernel_rfl⟩ rfl rfl (by show _*16≤140737488355328;first|omega|(simp only [List.length_append,List.length_cons,List.length_nil,List.length_set,List.length_replicate];omega)|(simp;omega)) sd) le<|Aq (AV.own 1 0 ((newslice2++x22).length))<|Ad<|Rg<|Ap (Ai (v272+1)) (AA (i:=v272) (m:=1) kr kr sd)<|Aq (Ai (v272+1))<|Ad ?_
 refine ⟨(true,(newslice2++x22),v272+1),od,⟨od,(by simp),by (try dsimp only)<;>(first|omega|(simp only [List.length_append];omega)),hE2⟩,?_⟩
 exact ⟨[1],⟨by decide,rfl,(A0.cons (Az (fun _=>rfl) (e:=9) (k:=1) (A:=AV.s) (xs:=(newslice2++x22)) rfl rfl) A0.nil),(Ee (Ee (Af.cons (Cm (by decide) rfl) (Ee Af.nil))))⟩,Ar⟩
 have hc2:decide (((v272:Nat):Int)<((slices.length:Nat):Int))=false:=decide_eq_false (by omega)
 refine A4.cond (t:=false) (by rw [←hc2]<;>kernel_rfl) (A4.exit ?_)
 rw [List.drop_eq_nil_of_le (hl2),Mp.eq_1] at hE2
 subst hE2
 refine Sq<|Rg<|Aq (AV.own 0 0 newslice2.length)<|Aq (AV.own 0 0 newslice2.length)<|Ad<|Rt ?_
 have hM:Ci slices=newslice2:=by simp only [Ci,hR1,hR2,Aw]
 rw [hM]
 refine ⟨Or.inr rfl,0,?_,rfl⟩
 first|rfl|(show AV.own _ _ _=AV.own _ _ _;congr 1;simp)
theorem QV (W:World) (g:A3) (edge:Int) (he:edge.toNat<g.edges.length∧0≤edge) (hz:Is g edge≤1048576):Ah Go.Proofs.Tryz.prog W 105 [(AV.pt (A3.av g).cells),(AV.i .i64 edge)] ((Ag 1 (AV.i .i64)) (Ha g edge)) []:=by
 have hfl:([(g.edges.getD edge.toNat default).ins,(g.edges.getD edge.toNat default).implicit,(g.edges.getD edge.toNat default).order].flatten).length≤1048576:=by have hz':=hz;unfold Is at hz';simp only [List.flatten_cons,List.flatten_nil,List.append_nil,List.length_append];omega
 have hlen:(Ci [(g.edges.getD edge.toNat default).ins,(g.edges.getD edge.toNat default).implicit,(g.edges.getD edge.toNat default).order]).length≤1048576:=by rw [Gd];exact hfl
 refine A9 (fn:=Go.Proofs.Tryz.f105) Go.Proofs.Tryz.func105 rfl (en105 W) (ts:=[4]) rfl le<|Sq<|Rg<|Aq (AV.sl 1 true [])<|Ad<|Sq<|Rg<|Aq (AV.sl 1 true [])<|Ad<|Sq<|Rg<|Aq (AV.pt (A3.av g).cells)<|Aq (AV.pt (A3.av g).cells)<|Aq (AV.pt ((A3.av g).cells.drop 0))<|Aq ((Ag 7 A8.av) g.edges)<|Aq (AV.i .i64 edge)<|Ap (AV.pt (A8.av (g.edges.getD edge.toNat default)).cells) (Ei (k:=7) (nl:=false) (e:=65) (kk:= .i64) (A:=A8.av) (xs:=g.edges) (n:=edge) kr kr kr ⟨by kernel_rfl,by decide⟩ sd (getD_some sd))<|Aq (AV.pt (A8.av (g.edges.getD edge.toNat default)).cells)<|Ad<|Sq ?_
 refine OE [(0,(AV.pt (A3.av g).cells)),(5,(AV.sl 1 true [])),(29,((Ag 1 AV.s) (Ci [(g.edges.getD edge.toNat default).ins,(g.edges.getD edge.toNat default).implicit,(g.edges.getD edge.toNat default).order]))),(30,(AV.i .i64 (((Ci [(g.edges.getD edge.toNat default).ins,(g.edges.getD edge.toNat default).implicit,(g.edges.getD edge.toNat default).order]).length:Nat):Int))),(31,(AV.i .i64 (0:Int)))] ⟨0,[]⟩ ?_ ?_
 refine A4.drawn A5 C9 16 kr le<|Dq (AV.pt (A8.av (g.edges.getD edge.toNat default)).cells)<|Dq (AV.pt (A8.av (g.edges.getD edge.toNat default)).cells)<|Dq (AV.pt ((A8.av (g.edges.getD edge.toNat default)).cells.drop 1))<|Dq ((Ag 1 AV.s) ((g.edges.getD edge.toNat default).ins))<|Dq (AV.pt (A8.av (g.edges.getD edge.toNat default)).cells)<|Dq (AV.pt (A8.av (g.edges.getD edge.toNat default)).cells)<|Dq (AV.pt ((A8.av (g.edges.getD edge.toNat default)).cells.drop 2))<|Dq ((Ag 1 AV.s) ((g.edges.getD edge.toNat default).implicit))<|Dq (AV.pt (A8.av (g.edges.getD edge.toNat default)).cells)<|Dq (AV.pt (A8.av (g.edges.getD edge.toNat default)).cells)<|Dq (AV.pt ((A8.av (g.edges.getD edge.toNat default)).cells.drop 3))<|Dq ((Ag 1 AV.s) ((g.edges.getD edge.toNat default).order))<|As.sn (x:=(AV.own 0 0 3)) (h':=⟨1,[(0,some ⟨24,1,[(g.edges.getD edge.toNat default).ins,(g.edges.getD edge.toNat default).implicit,(g.edges.getD edge.toNat default).order].map (Ag 1 AV.s)⟩)]⟩) kr le ?_
 by_cases z_1:(Ci [(g.edges.getD edge.toNat default).ins,(g.edges.getD edge.toNat default).implicit,(g.edges.getD edge.toNat default).order])=[]
 refine As.sfw (vs:=[(AV.own 0 0 3)]) (ss:=[((Ag 1 (Ag 1 AV.s)) [(g.edges.getD edge.toNat default).ins,(g.edges.getD edge.toNat default).implicit,(g.edges.getD edge.toNat default).order])]) (r0:=((Ag 1 AV.s) ([]:List ByteArray))) kr (show Bc _ _ _ from ⟨(Al.w (Al.cast (x':=(AV.own 0 0 3)) kr kr (Al.row (fun _=>rfl) (A:=(Ag 1 AV.s)) (id:=0) (e:=24) (k:=1) (xs:=[(g.edges.getD edge.toNat default).ins,(g.edges.getD edge.toNat default).implicit,(g.edges.getD edge.toNat default).order]) rfl rfl sd sd))),trivial⟩) (by rw [←show (Ci [(g.edges.getD edge.toNat default).ins,(g.edges.getD edge.toNat default).implicit,(g.edges.getD edge.toNat default).order])=[] from z_1];exact (BQ W [(g.edges.getD edge.toNat default).ins,(g.edges.getD edge.toNat default).implicit,(g.edges.getD edge.toNat default).order] hfl)) rfl kr le<|Dp (AV.i .i64 ((([]:List ByteArray).length:Nat):Int)) (AN (k:=1) (nl:=false) (e:=9) (A:=AV.s) (xs:=([]:List ByteArray)) kr kr)<|Dq (AV.i .i64 (0:Int))<|As.fin ?_
 rw [z_1]
 exact ⟨[],⟨by decide,rfl,A0.nil,(Ee (Ee (Ee (Ee (Ee Af.nil)))))⟩,Ar⟩
 refine KC (A:=AV.s) (xs:=(Ci [(g.edges.getD edge.toNat default).ins,(g.edges.getD edge.toNat default).implicit,(g.edges.getD edge.toNat default).order])) (vs:=[(AV.own 0 0 3)]) (ss:=[((Ag 1 (Ag 1 AV.s)) [(g.edges.getD edge.toNat default).ins,(g.edges.getD edge.toNat default).implicit,(g.edges.getD edge.toNat default).order])]) kr (show Bc _ _ _ from ⟨(Al.w (Al.cast (x':=(AV.own 0 0 3)) kr kr (Al.row (fun _=>rfl) (A:=(Ag 1 AV.s)) (id:=0) (e:=24) (k:=1) (xs:=[(g.edges.getD edge.toNat default).ins,(g.edges.getD edge.toNat default).implicit,(g.edges.getD edge.toNat default).order]) rfl rfl sd sd))),trivial⟩) (BI W [(g.edges.getD edge.toNat default).ins,(g.edges.getD edge.toNat default).implicit,(g.edges.getD edge.toNat default).order] hfl z_1) (fun _=>rfl) (fun _=>rfl) le<|Dq (AV.i .i64 (((Ci [(g.edges.getD edge.toNat default).ins,(g.edges.getD edge.toNat default).implicit,(g.edges.getD edge.toNat default).order]).length:Nat):Int))<|Dq (AV.i .i64 (0:Int))<|As.fin ?_
 exact ⟨[],⟨by decide,rfl,A0.nil,(Ee (Ee (Af.cons (Dk.kk (x':=(AV.own 1 0 ((Ci [(g.edges.getD edge.toNat default).ins,(g.edges.getD edge.toNat default).implicit,(g.edges.getD edge.toNat default).order]).length))) kr kr rfl (Al.row (fun _=>rfl) (A:=AV.s) (id:=1) (e:=9) (k:=1) (xs:=(Ci [(g.edges.getD edge.toNat default).ins,(g.edges.getD edge.toNat default).implicit,(g.edges.getD edge.toNat default).order])) rfl rfl rfl sd)) (Ee (Ee Af.nil)))))⟩,Ar⟩
 refine A4.block<|A4.lim 29 (x:=((Ag 1 AV.s) (Ci [(g.edges.getD edge.toNat default).ins,(g.edges.getD edge.toNat default).implicit,(g.edges.getD edge.toNat default).order]))) kr fun hlm1=> ?_
 have hB1:(Ci [(g.edges.getD edge.toNat default).ins,(g.edges.getD edge.toNat default).implicit,(g.edges.getD edge.toNat default).order]).length≤281474976710656:=AX hlm1
 obtain ⟨R1,hR1⟩: ∃R,QA g (Ci [(g.edges.getD edge.toNat default).ins,(g.edges.getD edge.toNat default).implicit,(g.edges.getD edge.toNat default).order]) 0 []=R:=⟨_,rfl⟩
 refine Av (fun ((out,v31):(List Int)×Nat)=>[(0,(AV.pt (A3.av g).cells)),(29,((Ag 1 AV.s) (Ci [(g.edges.getD edge.toNat default).ins,(g.edges.getD edge.toNat default).implicit,(g.edges.getD edge.toNat default).order]))),(30,(AV.i .i64 (((Ci [(g.edges.getD edge.toNat default).ins,(g.edges.getD edge.toNat default).implicit,(g.edges.getD edge.toNat default).order]).length:Nat):Int))),(5,(B7 0 1 (AV.i .i64) out)),(31,(Ai v31))]) (fun ((out,v31):(List Int)×Nat)=>⟨1,[(0,Fv 3 1 (AV.i .i64) out)]⟩) (fun ((out,v31):(List Int)×Nat)=>v31≤(Ci [(g.edges.getD edge.toNat default).ins,(g.edges.getD edge.toNat default).implicit,(g.edges.getD edge.toNat default).order]).length∧out.length≤v31∧QA g ((Ci [(g.edges.getD edge.toNat default).ins,(g.edges.getD edge.toNat default).implicit,(g.edges.getD edge.toNat default).order]).drop v31) v31 out=R1) (fun ((out,v31):(List Int)×Nat)=>(Ci [(g.edges.getD edge.toNat default).ins,(g.edges.getD edge.toNat default).implicit,(g.edges.getD edge.toNat default).order]).length-v31) ([],0) ?_ ?_ ?_
 exact ⟨[1000000],⟨by decide,rfl,(A0.cons rfl A0.nil),(Ee (Ee (Ee (Ee (Ee Af.nil)))))⟩,Ar⟩
 exact ⟨od,DO,hR1⟩
 rintro ⟨out,v31⟩ ⟨hi1,hl,hE1⟩
 try dsimp only
 refine Sq<|Rg<|Aq (AV.b (decide (((v31:Nat):Int)<(((Ci [(g.edges.getD edge.toNat default).ins,(g.edges.getD edge.toNat default).implicit,(g.edges.getD edge.toNat default).order]).length:Nat):Int))))<|Ad<|Sq ?_
 rcases Nat.lt_or_ge v31 (Ci [(g.edges.getD edge.toNat default).ins,(g.edges.getD edge.toNat default).implicit,(g.edges.getD edge.toNat default).order]).length with hl1|hl1
 have hc1:decide (((v31:Nat):Int)<(((Ci [(g.edges.getD edge.toNat default).ins,(g.edges.getD edge.toNat default).implicit,(g.edges.getD edge.toNat default).order]).length:Nat):Int))=true:=decide_eq_true (by omega)
 refine A4.cond (t:=true) (by rw [←hc1]<;>kernel_rfl) (A4.skip ?_)
 obtain ⟨x1,hx1⟩: ∃x,(Ci [(g.edges.getD edge.toNat default).ins,(g.edges.getD edge.toNat default).implicit,(g.edges.getD edge.toNat default).order])[v31]? =some x:=⟨_,List.getElem?_eq_getElem hl1⟩
 rw [AB hx1,QA.eq_2] at hE1
 refine Sq<|A4.block<|Sq<|Rg<|Ap (AV.pt (AV.s x1).cells) (AQ (k:=1) (nl:=false) (e:=9) (kk:= .i64) (A:=AV.s) (xs:=(Ci [(g.edges.getD edge.toNat default).ins,(g.edges.getD edge.toNat default).implicit,(g.edges.getD edge.toNat default).order])) (i:=v31) kr kr kr ⟨by kernel_rfl,by decide⟩ hx1)<|Aq (AV.s x1)<|Aq (AV.s x1)<|Ad<|Sq<|Rg<|Aq (AV.pt (A3.av g).cells)<|Aq (AV.s x1)<|A1.sc0 (vs:=[(AV.pt (A3.av g).cells),(AV.s x1)]) (r0:=(AV.i .i64 (CO g x1))) kr kr (DZ W g x1) kr le<|Aq (AV.i .i64 (CO g x1))<|Ad<|Sq<|Rg<|Aq (AV.i .i64 (CO g x1))<|Aq (AV.b (decide ((0:Int)≤(CO g x1))))<|Aq (AV.b (decide ((0:Int)≤(CO g x1)))) ?_
 cases c_2:decide ((0:Int)≤(CO g x1))
 have k_2:=of_decide_eq_false c_2
 refine An<|An<|An<|An<|Aq (AV.b false)<|Ad<|Cf<|A4.skip<|Rg<|Ap (Ai (v31+1)) (AA (i:=v31) (m:=1) kr kr sd)<|Aq (Ai (v31+1))<|Ad ?_
 try simp only [c_2,Aw] at hE1
 refine ⟨(out,v31+1),od,⟨od,DO,hE1⟩,?_⟩
 exact ⟨[0],⟨by decide,rfl,(A0.cons (Cz (fun _=>rfl) (e:=3) (k:=1) (A:=(AV.i .i64)) (xs:=out) rfl rfl) A0.nil),(Ee (Ee (Ee (Af.cons (BR (by decide)) (Ee Af.nil)))))⟩,Ar⟩
 have k_2:=of_decide_eq_true c_2
 refine Ay<|Aq (B7 0 1 (AV.i .i64) out)<|Ay<|Aq (AV.i .i64 (CO g x1))<|Ay<|A1.sfw (vs:=[(B7 0 1 (AV.i .i64) out),(AV.i .i64 (CO g x1))]) (ss:=[((Ag 1 (AV.i .i64)) out),(AV.i .i64 (CO g x1))]) (r0:=(AV.b (Og out (CO g x1)))) kr (show Bc _ _ _ from ⟨(Al.w (Al.cast (x':=(B7 0 1 (AV.i .i64) out)) kr kr (Al.acc (fun _=>rfl) (A:=(AV.i .i64)) (e:=3) (k:=1) (id:=0) (xs:=out) rfl rfl sd))),⟨(Bc.e kr),trivial⟩⟩) (EG W out (CO g x1)) rfl kr le<|Ay<|Aq (AV.b (!(Og out (CO g x1))))<|Aq (AV.b (!(Og out (CO g x1))))<|Ad ?_
 cases c_3:(!(Og out (CO g x1)))
 refine Cf<|A4.skip<|Rg<|Ap (Ai (v31+1)) (AA (i:=v31) (m:=1) kr kr sd)<|Aq (Ai (v31+1))<|Ad ?_
 try simp only [c_2,c_3,Aw] at hE1
 refine ⟨(out,v31+1),od,⟨od,DO,hE1⟩,?_⟩
 exact ⟨[0],⟨by decide,rfl,(A0.cons (Cz (fun _=>rfl) (e:=3) (k:=1) (A:=(AV.i .i64)) (xs:=out) rfl rfl) A0.nil),(Ee (Ee (Ee (Af.cons (BR (by decide)) (Ee Af.nil)))))⟩,Ar⟩
 refine Ct<|Rg<|Aq (B7 0 1 (AV.i .i64) out)<|Aq (AV.i .i64 (CO g x1))<|Nn (AV.own 1 0 1) ⟨3,1,[(CO g x1)].map (AV.i .i64)⟩<|AY (x:=(AV.own 2 0 ((out++[(CO g x1)]).length))) (h':=⟨3,[(2,some ⟨3,1,(out++[(CO g x1)]).map (AV.i .i64)⟩),(1,some ⟨3,1,[(CO g x1)].map (AV.i .i64)⟩),(0,none)]⟩) (Mg (e:=3) (X:=(AV.own 1 0 1)) (A:=(AV.i .i64)) (i:=Yf) (p:=0) (xs:=out) (ys:=[(CO g x1)]) kr kr kr (hx:=kr) kr (by simp) ⟨by decide,by kernel_rfl⟩ rfl (by intro q;first|(subst q;rfl)|(rw [q];rfl)|(simp only [q];rfl)) (by show _*8≤140737488355328;first|omega|(simp only [List.length_append,List.length_cons,List.length_nil,List.length_set,List.length_replicate];omega)|(simp;omega)) sd) le<|Aq (AV.own 2 0 ((out++[(CO g x1)]).length))<|Ad<|Rg<|Ap (Ai (v31+1)) (AA (i:=v31) (m:=1) kr kr sd)<|Aq (Ai (v31+1))<|Ad ?_
 try simp only [c_2,c_3,Aw] at hE1
 refine ⟨((out++[(CO g x1)]),v31+1),od,⟨od,DO,hE1⟩,?_⟩
 exact ⟨[2],⟨by decide,rfl,(A0.cons (FG (fun _=>rfl) (e:=3) (k:=1) (A:=(AV.i .i64)) (xs:=(out++[(CO g x1)])) (by simp) rfl rfl) A0.nil),(Ee (Ee (Ee (Af.cons (GB (A:=(AV.i .i64)) (xs:=(out++[(CO g x1)])) (by decide) (by simp) rfl) (Ee Af.nil)))))⟩,Ar⟩
 have hc1:decide (((v31:Nat):Int)<(((Ci [(g.edges.getD edge.toNat default).ins,(g.edges.getD edge.toNat default).implicit,(g.edges.getD edge.toNat default).order]).length:Nat):Int))=false:=decide_eq_false (by omega)
 refine A4.cond (t:=false) (by rw [←hc1]<;>kernel_rfl) (A4.exit ?_)
 rw [List.drop_eq_nil_of_le (hl1),QA.eq_1] at hE1
 subst hE1
 refine Sq<|Rg<|Aq (B7 0 1 (AV.i .i64) out)<|Aq (B7 0 1 (AV.i .i64) out)<|Ad<|Rt ?_
 have hM:Ha g edge=out:=by simp only [Ha,hR1,Aw]
 refine ⟨Or.inr rfl,?_⟩
 rw [hM]
 exact AE.cast (x':=(B7 0 1 (AV.i .i64) out)) (y':=((Ag 1 (AV.i .i64)) out)) kr kr (AE.cast (x':=(B7 0 1 (AV.i .i64) out)) (y':=Ag 1 (AV.i .i64) out) kr kr (HR (fun _=>rfl) (by decide) (by decide) (e:=3) (k:=1) rfl sd))
theorem MU (W:World) (edge:Int) (out:List Int):Ah Go.Proofs.Tryz.prog W 106 [(AV.i .i64 edge),(AV.pt ((Ag 1 (AV.i .i64)) out).cells)] (AV.b (Iq edge out)) []:=by
 refine A9 (fn:=Go.Proofs.Tryz.f106) Go.Proofs.Tryz.func106 rfl (en106 W) (ts:=[3]) rfl le<|Sq<|Rg<|Aq (AV.b false)<|Ad<|Sq<|Rg<|Aq ((Ag 1 (AV.i .i64)) out)<|Aq (AV.i .i64 edge)<|A1.sc0 (vs:=[((Ag 1 (AV.i .i64)) out),(AV.i .i64 edge)]) (r0:=(AV.b (Og out edge))) kr kr (EG W out edge) kr le<|Aq (AV.b (Og out edge))<|Ad<|Rt ?_
 exact Fb rfl (by simp only [Iq,Aw])
theorem SQ (W:World) (edge:Int) (f_told:FuncId) (c_told:List AV) (told:Int→Bool) (hcl_told:Ac c_told=true) (hp_told: ∀(z0:Int),Ah Go.Proofs.Tryz.prog W f_told ((AV.i .i64 z0)::c_told) (AV.b (told z0)) []):Ah Go.Proofs.Tryz.prog W 108 [(AV.i .i64 edge),(AV.pt [(AV.fn f_told c_told)])] (AV.b (Om edge told)) []:=by
 refine A9 (fn:=Go.Proofs.Tryz.f108) Go.Proofs.Tryz.func108 rfl (en108 W) (ts:=[3]) rfl le<|Sq<|Rg<|Aq (AV.b false)<|Ad<|Sq<|Rg<|Aq (AV.fn f_told c_told)<|Aq (AV.i .i64 edge)<|A1.sc0 (vs:=((AV.i .i64 edge)::c_told)) (r0:=(AV.b (told edge))) kr (by simp only [Ac,Bool.and_eq_true];exact ⟨by kernel_rfl,hcl_told⟩) (hp_told edge) kr le<|Aq (AV.b (!(told edge)))<|Aq (AV.b (!(told edge)))<|Ad<|Rt ?_
 exact Fb rfl (by simp only [Om,Aw])
def DX:Obj:=⟨153,1,[(AV.fn 106 [(AV.loc 0 0 0)])]⟩
end
end Go.Lift
