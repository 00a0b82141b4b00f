/-
  Lemmas of this claim: a layer over the kit's calls, contracts of the functions that the law reaches, and the law's row. No condition of its own.
-/
import Derived.Test.YtjfhbchfhpgefaaGreatDoorLaDirtyForms
import Derived.Scope
import Derived.Laws.AppendOwn
import Derived.Lib.Split
import Derived.Shelf.GgClosure.StringsIndexFuncTop
import Derived.Laws.RangeAny
import Derived.Lib.Join
import Derived.Lib.SlicesS
import Derived.Sort.Row
import Derived.Sort.Grow
import Derived.Sort.EncStr
import Derived.Lib.SlicesCompact
import Derived.WalkKit
import Derived.ChangeSame
import Derived.RowKit3
import Derived.Carry
import Derived.OpenShut
import Derived.Deep.DeepHandedRow
import Derived.Shelf.Vars
import Derived.ChangeArms
import Derived.ChangeMaps5
import Derived.WideShapes
import Derived.MapKept
import Derived.RangeFuncNested
import Derived.RangeFuncLeaves
import Derived.RangeFuncCalls
set_option linter.unusedSimpArgs false
set_option linter.unusedVariables false
set_option linter.unusedSectionVars false
set_option linter.defProp false
namespace Go.Lift
noncomputable section
open Go Go.RowKit
def FR:List Nat→Nat→Option Nat
 | [],_=>none
 |i::r,id=>if id=i then some 0 else (FR r id).map (· +1)
theorem NM: ∀ {keep:List Nat} {id p:Nat},FR keep id=some p→keep[p]? =some id
 | [],_,_,h=>by simp [FR] at h
 |i::r,id,p,h=>by
  simp only [FR] at h
  split at h
  ·rename_i e;cases h;simp [e]
  ·obtain ⟨q,hq,rfl⟩:=Option.map_eq_some_iff.1 h
   simpa using NM hq
def C3 (keep:List Nat) (h:A7):Nat→AV→Option AV
 |0,x=>if closed x then some x else none
 |d+1,.own id off len=>match FR keep id with
  |some p=>some (.own p off len)
  |none=>BU keep h (d+1) (.own id off len)
 |d+1,.loc id j o=>match FR keep id with
  |some p=>some (.loc p j o)
  |none=>BU keep h (d+1) (.loc id j o)
 |d+1,.st fs=>(mapC (C3 keep h d) fs).map .st
 |d+1,.tup fs=>(mapC (C3 keep h d) fs).map .tup
 |d+1,.fn f fs=>(mapC (C3 keep h d) fs).map (.fn f)
 |_+1,x=>some x
def Jo (keep:List Nat) (h:A7) (d:Nat) (o:Obj):Option Obj:=(mapC (C3 keep h d) o.els).map fun ys=>⟨o.e,o.k,ys⟩
def Mu.fin (μ:Mu) (keep:List Nat):Mu:=⟨fun p=>(keep[p]?).bind μ.f,μ.Y⟩
theorem Gc (μ:Mu) (keep:List Nat):So μ (μ.fin keep) keep:=by
 rintro g (hy|⟨p,s,hs,rfl⟩)
 ·exact Or.inl hy
 ·dsimp only [Mu.fin] at hs
  obtain ⟨id,h1,h2⟩:=Option.bind_eq_some_iff.1 hs
  exact Or.inr ⟨id,List.mem_of_getElem? h1,s,h2,rfl⟩
section
variable {w0 w:World} {μ:Mu} {h:A7} (s:FM w0 μ w h) (keep:List Nat)
include s
theorem MY {f:AV→Option AV} (hf: ∀x y v,f x=some y→VR w μ x v→VR w (μ.fin keep) y v) {xs ys:List AV} (h:mapC f xs=some ys) {vs:List Value} (hv:D2 w μ xs vs):D2 w (μ.fin keep) ys vs:=by
 unfold mapC at h
 split at h
 ·rename_i hc
  cases h
  exact CV _ _ (Gs (Dv (Gc μ keep).less) _ _ (Dl _ _ hc hv))
 ·rename_i hc
  clear hc
  induction xs generalizing ys vs with
  |nil=>simp [Hd] at h;subst h;simpa only [D2] using hv
  |cons x xs ih=>
   simp only [Hd] at h
   split at h
   ·rename_i y zs h1 h2
    cases h
    simp only [D2] at hv
    obtain ⟨v,r,rfl,k1,k2⟩:=hv
    simp only [D2]
    exact ⟨v,r,rfl,hf x y v h1 k1,ih k2 h2⟩
   ·cases h
theorem CZ {x:AV} {v:Value} (hc:closed x=true) (hv:VR w μ x v):VR w (μ.fin keep) x v:=
 Eb _ _ (CG (Dv (Gc μ keep).less) _ _ (Cd _ _ hc hv))
theorem IV: ∀(d:Nat) (x y:AV) (v:Value),C3 keep h d x=some y→VR w μ x v→VR w (μ.fin keep) y v
 |0,x,y,v,e,hv=>by
  simp only [C3] at e
  split at e
  ·rename_i hc;cases e;exact CZ s keep hc hv
  ·cases e
 |d+1,.own id off len,y,v,e,hv=>by
  simp only [C3] at e
  split at e
  ·rename_i p hp
   cases e
   have hg:=NM hp
   simp only [VR] at hv ⊢
   have:(μ.fin keep) p=μ id:=by dsimp only [Mu.fin];rw [hg];rfl
   rw [this];exact hv
  ·exact Eb _ _ (Iq s (Gc μ keep) (d+1) _ y v e hv)
 |d+1,.loc id j o,y,v,e,hv=>by
  simp only [C3] at e
  split at e
  ·rename_i p hp
   cases e
   have hg:=NM hp
   simp only [VR] at hv ⊢
   have:(μ.fin keep) p=μ id:=by dsimp only [Mu.fin];rw [hg];rfl
   rw [this];exact hv
  ·exact Eb _ _ (Iq s (Gc μ keep) (d+1) _ y v e hv)
 |d+1,.st fs,y,v,e,hv=>by
  simp only [C3] at e
  obtain ⟨zs,h1,rfl⟩:=Option.map_eq_some_iff.1 e
  simp only [VR] at hv ⊢
  obtain ⟨cs,e,k⟩:=hv
  exact ⟨cs,e,MY s keep (fun x y v=>IV d x y v) h1 k⟩
 |d+1,.tup fs,y,v,e,hv=>by
  simp only [C3] at e
  obtain ⟨zs,h1,rfl⟩:=Option.map_eq_some_iff.1 e
  simp only [VR] at hv ⊢
  obtain ⟨cs,e,k⟩:=hv
  exact ⟨cs,e,MY s keep (fun x y v=>IV d x y v) h1 k⟩
 |d+1,.fn f fs,y,v,e,hv=>by
  simp only [C3] at e
  obtain ⟨zs,h1,rfl⟩:=Option.map_eq_some_iff.1 e
  simp only [VR] at hv ⊢
  obtain ⟨cs,e,k⟩:=hv
  exact ⟨cs,e,MY s keep (fun x y v=>IV d x y v) h1 k⟩
 |d+1,.und,y,v,e,hv=>by simp only [C3] at e;cases e;exact CZ s keep rfl hv
 |d+1,.b _,y,v,e,hv=>by simp only [C3] at e;cases e;exact CZ s keep rfl hv
 |d+1,.i _ _,y,v,e,hv=>by simp only [C3] at e;cases e;exact CZ s keep rfl hv
 |d+1,.s _,y,v,e,hv=>by simp only [C3] at e;cases e;exact CZ s keep rfl hv
 |d+1,.sl _ _ _,y,v,e,hv=>by simp only [C3] at e;cases e;exact CZ s keep rfl hv
 |d+1,.pt _,y,v,e,hv=>by simp only [C3] at e;cases e;exact CZ s keep rfl hv
 |d+1,.nilp,y,v,e,hv=>by simp only [C3] at e;cases e;exact CZ s keep rfl hv
 |d+1,.nilf,y,v,e,hv=>by simp only [C3] at e;cases e;exact CZ s keep rfl hv
 |d+1,.raw _,y,v,e,hv=>by simp only [C3] at e;cases e;exact CZ s keep rfl hv
omit s in
theorem Wm {hh:A7} {d:Nat} {x y:AV} (h:C3 keep hh d x=some y) (hx:x.cells=[x]):y.cells=[y]:=by
 cases d with
 |zero=>simp only [C3] at h;split at h<;>cases h;exact hx
 |succ d=>
  cases x with
  |st fs=>
   exfalso
   simp only [AV.cells] at hx
   have h1:SizeOf.sizeOf fs=SizeOf.sizeOf [AV.st fs]:=congrArg SizeOf.sizeOf hx
   simp at h1;omega
  |own id off len=>
   simp only [C3] at h
   split at h
   ·cases h;rfl
   ·exact NR h rfl
  |loc id j o=>
   simp only [C3] at h
   split at h
   ·cases h;rfl
   ·exact NR h rfl
  |tup fs=>simp only [C3] at h;obtain ⟨zs,_,rfl⟩:=Option.map_eq_some_iff.1 h;rfl
  |fn f fs=>simp only [C3] at h;obtain ⟨zs,_,rfl⟩:=Option.map_eq_some_iff.1 h;rfl
  |_=>simp only [C3] at h;cases h;rfl
theorem Wc {d:Nat} {x y:AV} (hxy:(closed x=true∧y=x)∨C3 keep h d x=some y) {vs:List Value} (hv:D2 w μ x.cells vs):D2 w (μ.fin keep) y.cells vs:=by
 have hcl: ∀xs:List AV,Ab xs=true→ ∀vs,D2 w μ xs vs→D2 w (μ.fin keep) xs vs:=fun xs hc vs hv=>
  CV _ _ (Gs (Dv (Gc μ keep).less) _ _ (Dl _ _ hc hv))
 by_cases hx: ∃fs,x= .st fs
 ·obtain ⟨fs,rfl⟩:=hx
  rcases hxy with ⟨hc,rfl⟩|hxy
  ·simp only [closed] at hc
   exact hcl _ hc _ hv
  ·cases d with
   |zero=>
    simp only [C3] at hxy
    split at hxy
    ·rename_i hc;cases hxy
     simp only [closed] at hc
     exact hcl _ hc _ hv
    ·cases hxy
   |succ d=>
    simp only [C3] at hxy
    obtain ⟨zs,h1,rfl⟩:=Option.map_eq_some_iff.1 hxy
    exact MY s keep (fun x y v=>IV s keep d x y v) h1 hv
 ·have hc:x.cells=[x]:=by cases x<;>first|rfl|exact absurd ⟨_,rfl⟩ hx
  rw [hc] at hv
  simp only [D2] at hv
  obtain ⟨v,r,rfl,h1,rfl⟩:=hv
  rcases hxy with ⟨hcl,rfl⟩|hxy
  ·rw [hc]
   simp only [D2]
   exact ⟨v,[],rfl,CZ s keep hcl h1,rfl⟩
  ·rw [Wm keep hxy hc]
   simp only [D2]
   exact ⟨v,[],rfl,IV s keep d x y v hxy h1,rfl⟩
theorem Rz {d:Nat} {o o':Obj} {sl:MF} (he:Jo keep h d o=some o') (B:KW w μ o sl):KW w (μ.fin keep) o' sl:=by
 unfold Jo at he
 obtain ⟨ys,e1,rfl⟩:=Option.map_eq_some_iff.1 he
 obtain ⟨m1,m2⟩:=T2 e1
 obtain ⟨cs,c1,c2,c3⟩:=B.blk
 refine ⟨B.k,B.pos,by simp only [m1];exact B.len,B.cap,cs,c1,c2,fun j y hy=> ?_⟩
 have hj:j<o.els.length:=by have:=(List.getElem?_eq_some_iff.1 hy).1;simp only at this;omega
 have hxs:o.els[j]? =some o.els[j]:=List.getElem?_eq_getElem hj
 obtain ⟨y',y1,y2⟩:=m2 j _ hxs
 simp only at hy ⊢
 rw [hy] at y1;cases y1
 obtain ⟨q1,q2⟩:=c3 j _ hxs
 have hk:j*o.k+o.k≤cs.size:=by
  have h1:j*o.k+o.k≤o.els.length*o.k:=by
   have:=Nat.mul_le_mul_right o.k (Nat.succ_le_of_lt hj)
   rw [Nat.succ_mul] at this;exact this
  have h2:o.els.length*o.k≤cs.size:=by rw [c2];exact Nat.mul_le_mul_right _ B.len
  omega
 have hvs:D2 w μ (o.els[j]).cells ((cs.toList.drop (j*o.k)).take o.k):=by
  refine GK (by simp only [List.length_take,List.length_drop,Array.length_toList];omega) fun i z v hz hv=> ?_
  obtain ⟨u,u1,u2,_⟩:=q2 i z hz
  rw [List.getElem?_take] at hv
  split at hv
  ·rw [List.getElem?_drop] at hv
   have:cs.toList[j*o.k+i]? =some u:=by simpa using u1
   rw [this] at hv;cases hv;exact u2
  ·cases hv
 have hys:=Wc s keep y2 hvs
 have hlen:y.cells.length=o.k:=by
  rw [←Dm hys];simp only [List.length_take,List.length_drop,Array.length_toList];omega
 refine ⟨hlen,fun i z hz=> ?_⟩
 have hi:i<o.k:=by have:=(List.getElem?_eq_some_iff.1 hz).1;omega
 obtain ⟨u,u1,u2⟩:=GC hys i z hz
 rw [List.getElem?_take,if_pos hi,List.getElem?_drop] at u1
 obtain ⟨u',v1,_,v3⟩:=q2 i _ (List.getElem?_eq_getElem (by omega))
 have:cs.toList[j*o.k+i]? =some u':=by simpa using v1
 rw [this] at u1;cases u1
 exact ⟨_,v1,u2,v3⟩
end
def A3 (keep:List Nat) (h h':A7):Nat→List Nat→Prop
 |_,[]=>True
 |p,id::r=>(h.get id).bind (Jo keep h 9)=h'.get p∧A3 keep h h' (p+1) r
def LP (keep:List Nat) (h:A7) (env:C7):C7→Prop
 | []=>True
 |(t,x)::r=>C3 keep h 9 (env.get t)=some x∧LP keep h env r
structure VL (keep:List Nat) (env:C7) (h:A7) (env':C7) (h':A7):Prop where
 nodup:keep.Nodup
 next:h'.next=keep.length
 objs:A3 keep h h' 0 keep
 vars:LP keep h env env'
theorem KF {keep:List Nat} {h h':A7}: ∀ {l:List Nat} {q:Nat},A3 keep h h' q l→ ∀p id,l[p]? =some id→(h.get id).bind (Jo keep h 9)=h'.get (q+p)
 | [],q,_,p,id,hp=>by simp at hp
 |i::r,q,k,p,id,hp=>by
  simp only [A3] at k
  cases p with
  |zero=>simp at hp;subst hp;exact k.1
  |succ p=>
   simp at hp
   have:=KF k.2 p id hp
   rwa [show q+1+p=q+(p+1) by omega] at this
theorem NX {keep:List Nat} {h:A7} {env:C7}: ∀ {env':C7},LP keep h env env'→ ∀t,env'.get t= .und∨C3 keep h 9 (env.get t)=some (env'.get t)
 | [],_,t=>Or.inl rfl
 |(t',x)::r,k,t=>by
  simp only [LP] at k
  unfold C7.get
  simp only [Cg]
  by_cases ht:t=t'
  ·subst ht;right;simpa [C7.get] using k.1
  ·rw [if_neg ht];exact NX k.2 t
theorem NI: ∀ {keep:List Nat} (_:keep.Nodup) {p q id:Nat} (_:keep[p]? =some id) (_:keep[q]? =some id),p=q
 | [],_,p,q,id,hp,hq=>by simp at hp
 |i::r,hn,p,q,id,hp,hq=>by
  rw [List.nodup_cons] at hn
  cases p with
  |zero=>
   cases q with
   |zero=>rfl
   |succ q=>simp at hp hq;subst hp;exact absurd (List.mem_of_getElem? hq) hn.1
  |succ p=>
   cases q with
   |zero=>simp at hp hq;subst hq;exact absurd (List.mem_of_getElem? hp) hn.1
   |succ q=>simp at hp hq;rw [NI hn.2 hp hq]
theorem LX {n:Nat} {B:HD} {w0 w:World} {μ:Mu} {env env':C7} {h h':A7} {a:Act} (R:ER n B w0 μ env h a w) {keep:List Nat} (F:VL keep env h env' h')
  (hN: ∀i,i<B.N→keep[i]? =some i):ER n B w0 (μ.fin keep) env' h' a w where
 glob:=R.glob
 snc:={
  ext:=⟨fun x u hr=>Dv (Gc μ keep).less _ _ (R.snc.ext.rd x u hr),fun id t ht=>by
   have:id<B.N:=by
    rcases Nat.lt_or_ge id B.N with q|q
    ·exact q
    ·rw [R.snc.top id q] at ht;cases ht
   have e:(μ.fin keep) id=μ id:=by dsimp only [Mu.fin];rw [hN id this];rfl
   rw [e];exact R.snc.ext.mu id t ht,R.snc.ext.bl,fun g q=>R.snc.ext.mt g ((Gc μ keep).less g q)⟩
  y:=R.snc.y
  dom:=fun id hi h0=>by
   have e:(μ.fin keep) id=μ id:=by dsimp only [Mu.fin];rw [hN id hi];rfl
   rw [e];exact R.snc.dom id hi h0
  top:=R.snc.top}
 low:=by
  rw [F.next]
  cases e:B.N with
  |zero=>omega
  |succ k=>have:=(List.getElem?_eq_some_iff.1 (hN k (by omega))).1;omega
 sim:={
  below:=R.sim.below
  lt:=fun p t ht=>by
   obtain ⟨id,h1,h2⟩:=Option.bind_eq_some_iff.1 ht
   exact R.sim.lt id t h2
  inj:=fun p p' t t' ht ht' e=>by
   obtain ⟨id,h1,h2⟩:=Option.bind_eq_some_iff.1 ht
   obtain ⟨id',h1',h2'⟩:=Option.bind_eq_some_iff.1 ht'
   have:=R.sim.inj id id' t t' h2 h2' e
   subst this
   exact NI F.nodup h1 h1'
  live:=fun p o ho hp=>by
   obtain ⟨id,h1,h2⟩:=Option.bind_eq_some_iff.1 hp
   have:=KF F.objs p id h1
   rw [Nat.zero_add,ho] at this
   obtain ⟨o',h3,_⟩:=Option.bind_eq_some_iff.1 this
   exact R.sim.live id o' h3 h2
  ylt:=R.sim.ylt
  blk:=fun p o t ho hp=>by
   obtain ⟨id,h1,h2⟩:=Option.bind_eq_some_iff.1 hp
   have:=KF F.objs p id h1
   rw [Nat.zero_add,ho] at this
   obtain ⟨o',h3,h4⟩:=Option.bind_eq_some_iff.1 this
   exact Rz R.sim keep h4 (R.sim.blk id o' t h3 h2)}
 env:=fun t=>by
  rcases NX F.vars t with e|e
  ·rw [e];simp only [VR]
  ·exact IV R.sim keep 9 _ _ _ e (R.env t)
 sz:=R.sz
 dfr:=R.dfr
 fresh:=fun p hp=>by
  dsimp only [Mu.fin]
  rw [List.getElem?_eq_none (by rw [F.next] at hp;exact hp)];rfl
end
end Go.Lift
namespace Go.Lift
noncomputable section
open Go Go.RowKit
theorem J4 {P:Program} {Q:Exit→Act→World→Prop} {a:Act} {w:World} {c:Code} (I:Nat→Act→World→Prop) {k0:Nat} (h₀:I k0 a w)
  (round: ∀k a w,I k a w→c.wp P (Exit.then (fun a' w'=> ∃k',k'<k∧I k' a' w') Q) a w):(Code.loop c).wp P Q a w:=by
 intro b k cs
 have key: ∀n a w,I n a w→
   ∃e a' w',Q e a' w'∧Arrives P (lone (b.at a (.code c:: .inLoop c::k)) cs w) b k cs e a' w':=by
  intro n
  induction n using Nat.strongRecOn with
  |_ n ih=>
   intro a w hI
   obtain ⟨e,a₁,w₁,hq,harr⟩:=round n a w hI b (.inLoop c::k) cs
   cases e with
   |normal=>
    obtain ⟨n',hlt,hI₁⟩:=hq
    obtain ⟨e₂,a₂,w₂,hq₂,harr₂⟩:=ih n' hlt a₁ w₁ hI₁
    exact ⟨e₂,a₂,w₂,hq₂,.of_steps (Steps.trans harr (.one step_inLoop)) harr₂⟩
   |exit id=>exact ⟨_,a₁,w₁,hq,.pass (x:= .inLoop c) rfl (fun _ _=> .inl (by simp)) harr⟩
   |goto l=>exact ⟨_,a₁,w₁,hq,.pass (x:= .inLoop c) rfl (fun _ _=> .inl (by simp)) harr⟩
   |ret=>exact ⟨_,a₁,w₁,hq,.pass (x:= .inLoop c) rfl (fun _ _=> .inl (by simp)) harr⟩
   |panic ch=>exact ⟨_,a₁,w₁,hq,.pass (x:= .inLoop c) rfl (fun _ _=> .inl (by simp)) harr⟩
   |outgrown=>exact ⟨_,a₁,w₁,hq,.pass (x:= .inLoop c) rfl (fun _ _=> .inl (by simp)) harr⟩
 obtain ⟨e,a',w',hq,harr⟩:=key k0 a w h₀
 exact ⟨e,a',w',hq,.of_steps (.one step_loop) harr⟩
abbrev EL:=Exit→C7→A7→Prop
def Ah (P:Program) (W:World) (n N:Nat) (c:Code) (env:C7) (h:A7) (Q:EL):Prop:=
 ∀(B:HD) (w0:World) (μ:Mu) (a:Act) (w:World),B.W=W→B.N=N→ER n B w0 μ env h a w→
  c.wp P (fun e a' w'=> ∃env' h' μ',Q e env' h'∧ER n B w0 μ' env' h' a' w') a w
def EL.then (k:C7→A7→Prop) (Q:EL):EL
 | .normal,env,h=>k env h
 |e,env,h=>Q e env h
def EL.inBlock (id:Nat) (Q:EL):EL
 | .exit id',env,h=>if id'=id then Q .normal env h else Q (.exit id') env h
 |e,env,h=>Q e env h
section
variable {P:Program} {W:World} {n N:Nat} {env:C7} {h:A7} {Q:EL}
theorem Ah.mono {c:Code} {Q':EL} (k:Ah P W n N c env h Q) (hq: ∀e env h,Q e env h→Q' e env h):Ah P W n N c env h Q':=
 fun B w0 μ a w hW hB R=>wp_mono (k B w0 μ a w hW hB R) fun _ _ _ ⟨env',h',μ',q,r⟩=>⟨env',h',μ',hq _ _ _ q,r⟩
theorem Ah.skip (k:Q .normal env h):Ah P W n N .skip env h Q:=fun B w0 μ a w hW hB R=>wp_skip ⟨env,h,μ,k,R⟩
theorem Ah.label {l:Nat} (k:Q .normal env h):Ah P W n N (.label l) env h Q:=fun B w0 μ a w hW hB R=>wp_label ⟨env,h,μ,k,R⟩
theorem Ah.exit {id:Nat} (k:Q (.exit id) env h):Ah P W n N (.exit id) env h Q:=fun B w0 μ a w hW hB R=>wp_exit ⟨env,h,μ,k,R⟩
theorem Ah.ret (k:Q .ret env h):Ah P W n N .ret env h Q:=fun B w0 μ a w hW hB R=>wp_ret ⟨env,h,μ,k,R⟩
theorem Ah.seq {x y:Code} (k:Ah P W n N x env h (EL.then (fun env' h'=>Ah P W n N y env' h' Q) Q)):Ah P W n N (.seq x y) env h Q:=
 fun B w0 μ a w hW hB R=>wp_seq (wp_mono (k B w0 μ a w hW hB R) fun e a' w' hh=>by
  obtain ⟨env',h',μ',q,r⟩:=hh
  cases e<;>first|exact q B w0 μ' a' w' hW hB r|exact ⟨env',h',μ',q,r⟩)
theorem Ah.cond {c:Operand} {x y:Code} {t:Bool} (hc:ev env 0 c=some (.b t)) (k:Ah P W n N (if t then x else y) env h Q):Ah P W n N (.cond c x y) env h Q:=
 fun B w0 μ a w hW hB R=>by
  have hv:=SE (w:=w) (μ:=μ) (a:=a) (x:=c) (fun t _=>R.env t) hc
  simp only [VR,CR] at hv
  exact wp_cond hv (k B w0 μ a w hW hB R)
theorem LN {c:Operand} {x y:Code} {t:Bool} (hc:ev env 0 c=some (.b t)) (k1:t=true→Ah P W n N x env h Q) (k2:t=false→Ah P W n N y env h Q):Ah P W n N (.cond c x y) env h Q:=
 Ah.cond hc (by cases t<;>simp_all)
theorem Ah.block {id:Nat} {c:Code} (k:Ah P W n N c env h (EL.inBlock id Q)):Ah P W n N (.block id c) env h Q:=
 fun B w0 μ a w hW hB R=>wp_block (wp_mono (k B w0 μ a w hW hB R) fun e a' w' hh=>by
  obtain ⟨env',h',μ',q,r⟩:=hh
  cases e with
  |exit id'=>
   simp only [EL.inBlock,Exit.inBlock] at q ⊢
   split at q<;>rename_i hi
   ·rw [if_pos hi];exact ⟨env',h',μ',q,r⟩
   ·rw [if_neg hi];exact ⟨env',h',μ',q,r⟩
  |_=>exact ⟨env',h',μ',q,r⟩)
theorem Ah.scope {c:Code} (k:Ah P W n N c env h fun e env h=>(∀l,e≠ .goto l)∧Q e env h):Ah P W n N (.scope c) env h Q:=
 fun B w0 μ a w hW hB R=>wp_scope_straight (wp_mono (k B w0 μ a w hW hB R) fun e a' w' hh=>by
  obtain ⟨env',h',μ',q,r⟩:=hh
  cases e with
  |goto l=>exact absurd rfl (q.1 l)
  |_=>exact ⟨env',h',μ',q.2,r⟩)
theorem Ah.fits {c:Code} (keep:List Nat) {env':C7} {h':A7} (F:VL keep env h env' h') (hN: ∀i,i<N→keep[i]? =some i) (k:Ah P W n N c env' h' Q):Ah P W n N c env h Q:=
 fun B w0 μ a w hW hB R=>k B w0 _ a w hW hB (LX R F (by rw [hB];exact hN))
theorem Ah.region {T:Ep} (hT:Dh P T=true) {id:Nat} {ops:Array Oper} (k:A4 P W T n ops ops.toList env h (Q .normal)):Ah P W n N (.region id ops false) env h Q:=
 fun B w0 μ a w hW hB R=>wp_region (Jf hT _ (os:=ops.toList) (by
  apply List.ext_getElem?
  intro i
  simp only [List.getElem?_map,List.getElem?_range]
  rcases Nat.lt_or_ge i ops.size with q|q
  ·rw [List.getElem?_range q];simp [q]
  ·rw [List.getElem?_eq_none (by simpa using q),Array.getElem?_toList,Array.getElem?_eq_none q];rfl) k hW R fun env' h' μ' a' w' q r=>⟨env',h',μ',q,r⟩)
theorem Ah.drawn {T:Ep} (hT:Dh P T=true) (hm:P.follows .mixedOrders=true) {id:Nat} {ops:Array Oper} (m:Nat) (hr:regOk ops m=true) (hmn:m≤ops.size) (k:Aw P W T n ops m 0 ops.toList env h (Q .normal)):Ah P W n N (.region id ops true) env h Q:=
 fun B w0 μ a w hW hB R=>RY hT hm hr hmn k hW R fun env' h' μ' a' w' q r=>⟨env',h',μ',q,r⟩
theorem Ah.loop {c:Code} (I:Nat→C7→A7→Prop) (k0:Nat) (h0:I k0 env h)
  (round: ∀k env h,I k env h→Ah P W n N c env h (EL.then (fun env' h'=> ∃keep env'' h'',VL keep env' h' env'' h''∧(∀i,i<N→keep[i]? =some i)∧ ∃k',k'<k∧I k' env'' h'') Q)):Ah P W n N (.loop c) env h Q:=
 fun B w0 μ a w hW hB R=>J4 (fun k a w=> ∃env h μ,I k env h∧ER n B w0 μ env h a w) ⟨env,h,μ,h0,R⟩ fun k a w ⟨env,h,μ,hI,R⟩=>
  wp_mono (round k env h hI B w0 μ a w hW hB R) fun e a' w' hh=>by
   obtain ⟨env',h',μ',q,r⟩:=hh
   cases e with
   |normal=>
    obtain ⟨keep,env'',h'',F,hN,k',hk,hI'⟩:=q
    exact ⟨k',hk,env'',h'',_,hI',LX r F (by rw [hB];exact hN)⟩
   |_=>exact ⟨env',h',μ',q,r⟩
end
def Dt:Nat→List AV→C7
 |_,[]=>[]
 |k,x::xs=>(k,x)::Dt (k+1) xs
theorem Mk: ∀(xs:List AV) (k t:Nat),(Dt k xs).get t=if k≤t then (xs[t-k]?).getD .und else .und
 | [],k,t=>by simp [Dt,C7.get,Lk]
 |x::xs,k,t=>by
  unfold C7.get Dt
  rw [Cg]
  by_cases h:t=k
  ·subst h;simp
  ·rw [if_neg h]
   have:=Mk xs (k+1) t
   unfold C7.get at this
   rw [this]
   by_cases hk:k≤t
   ·rw [if_pos hk,if_pos (by omega)]
    obtain ⟨d,rfl⟩: ∃d,t=k+1+d:=⟨t-(k+1),by omega⟩
    rw [show k+1+d-(k+1)=d by omega,show k+1+d-k=d+1 by omega];rfl
   ·rw [if_neg hk,if_neg (by omega)]
def I5:List ResultVar→Option (List Nat)
 | []=>some []
 | .tmp t::r=>(I5 r).map (t:: ·)
 | .cell _ _::_=>none
def Cm (ts:List Nat) (env:C7):AV:=match ts with
 | [t]=>env.get t
 |ts=> .tup (ts.map env.get)
def S1 (ts:List Nat) (tmps:Array Value):Value:=match ts with
 | [t]=>tmps.getD t undef
 |ts=> .tuple (ts.map (fun t=>tmps.getD t undef)).toArray
theorem LB {P:Program} {fn:Func} {ts:List Nat} (h:I5 fn.results.toList=some ts) (tmps:Array Value) (w:World):
  (results fn tmps).run P w= .ok (S1 ts tmps) w:=by
 have h1: ∀(rs:List ResultVar) (ts:List Nat),I5 rs=some ts→rs=ts.map ResultVar.tmp:=by
  intro rs
  induction rs with
  |nil=>intro ts h;simp [I5] at h;subst h;rfl
  |cons r rs ih=>
   intro ts h
   cases r with
   |tmp t=>
    simp only [I5] at h
    obtain ⟨us,hu,rfl⟩:=Option.map_eq_some_iff.1 h
    rw [ih us hu];rfl
   |cell _ _=>simp [I5] at h
 have h2:fn.results=(ts.map ResultVar.tmp).toArray:=by
  apply Array.ext';rw [h1 _ _ h]
 have h3: ∀(f:ResultVar→Sem Value) (hf: ∀t w,(f (.tmp t)).run P w= .ok (tmps.getD t undef) w) (ts:List Nat) (w:World),
   ((ts.map ResultVar.tmp).mapM f).run P w= .ok (ts.map (fun t=>tmps.getD t undef)) w:=by
  intro f hf ts
  induction ts with
  |nil=>intro w;simp
  |cons t ts ih=>
   intro w
   simp only [List.map_cons,List.mapM_cons,Sem.run_bind,hf,ih,Result.andThen_ok,Sem.run_pure]
 unfold results
 rw [h2]
 simp only [List.mapM_toArray]
 simp only [Sem.run_bind,map_eq_pure_bind,Sem.run_pure]
 rw [h3 _ (fun t w=>rfl)]
 simp only [Result.andThen_ok,Sem.run_pure]
 clear h h1 h2
 unfold S1
 cases ts with
 |nil=>simp
 |cons t ts=>
  cases ts with
  |nil=>simp
  |cons t2 ts=>simp
theorem Tg {w:World} {μ:Mu} {env:C7} {tmps:Array Value} (h: ∀t,VR w μ (env.get t) (tmps.getD t undef)) (ts:List Nat):
  VR w μ (Cm ts env) (S1 ts tmps):=by
 have h1: ∀ts:List Nat,D2 w μ (ts.map env.get) (ts.map (fun t=>tmps.getD t undef)):=by
  intro ts
  induction ts with
  |nil=>simp [D2]
  |cons t ts ih=>simp only [List.map_cons,D2];exact ⟨_,_,rfl,h t,ih⟩
 unfold Cm S1
 split
 ·exact h _
 ·simp only [VR];exact ⟨_,rfl,h1 _⟩
theorem Gh {w:World} {μ:Mu} {args:List AV} {vs:List Value} (h:D2 w μ args vs) (m:Nat) (t:Nat):VR w μ ((Dt 0 args).get t) ((vs.toArray++Array.replicate m undef).getD t undef):=by
 rw [Mk,if_pos (Nat.zero_le _),Nat.sub_zero]
 cases e:args[t]? with
 |none=>simp only [Option.getD_none,VR]
 |some x=>
  obtain ⟨v,hv,hx⟩:=GC h t x e
  simp only [Option.getD_some]
  have:(vs.toArray++Array.replicate m undef).getD t undef=v:=by
   have hlt:=(List.getElem?_eq_some_iff.1 hv).1
   rw [Array.getD_eq_getD_getElem?,Array.getElem?_append_left (by simpa using hlt)]
   simp [hv]
  rw [this];exact hx
def Fin (keep:List Nat) (ts:List Nat) (r:AV) (S:List Obj):EL:=fun e env h=>
 (e= .normal∨e= .ret)∧keep.Nodup∧S.length=keep.length∧A3 keep h (S0 S) 0 keep∧C3 keep h 9 (Cm ts env)=some r
theorem C8 {P:Program} {W:World} {f:FuncId} {fn:Func} {c:Code} (hf:P.funcs[f]? =some fn) (hb:fn.body=some c) (he: ∀(vs:Array Value) (w:World),(callFunc f vs).run P w= .ok (.enter f vs) w)
 {ts:List Nat} (hr:I5 fn.results.toList=some ts) {args:List AV} (hn:args.length≤fn.ntmps) {r:AV} {S:List Obj}
 (k:Ah P W fn.ntmps 0 c (Dt 0 args) ⟨0,[]⟩ (fun e env h=> ∃keep,Fin keep ts r S e env h)) (hM:f<1000000:=by decide):Ar P W f args r S:= .plain hM he<|fun w Y vs hG hY hvs=>by
 have hvr:=CV _ _ hvs
 have hlen:=Dm hvr
 refine calls_of_wp hf hb ?_
 have R:ER fn.ntmps ⟨W,w,Eo Y,0⟩ w (Eo Y) (Dt 0 args) ⟨0,[]⟩ {tmps:=vs.toArray++Array.replicate (fn.ntmps-vs.toArray.size) undef,defers:=[]} w:={
  glob:=hG
  snc:=⟨ID.refl _ _,rfl,fun _ h=>by simp at h,fun _ _=>rfl⟩
  low:=Nat.zero_le _
  sim:={
   below:=Below.refl _ _
   lt:=by intro _ _ h;cases h
   inj:=by intro _ _ _ _ h;cases h
   live:=by intro _ _ _ h;cases h
   ylt:=hY
   blk:=by intro _ _ _ _ h;cases h}
  env:=Gh hvr _
  sz:=by simp [hlen];omega
  dfr:=rfl
  fresh:=fun _ _=>rfl}
 refine wp_mono (k _ w (Eo Y) _ w rfl rfl R) ?_
 rintro e a' w' ⟨env',h',μ',⟨keep,he,hnd,hS,hF,hfv⟩,R'⟩
 have hv:=IV R'.sim keep 9 _ _ _ hfv (Tg R'.env ts)
 have R2:=LX R' (keep:=keep) (env':=[]) (h':=S0 S) ⟨hnd,hS,hF,trivial⟩ (fun i hi=>by simp at hi)
 have hrun:=LB (P:=P) hr a'.tmps w'
 have hpost:a'.defers=[]∧ ∃v,(results fn a'.tmps).run P w'= .ok v w'∧ ∃v' μ'',(Ending.returned v)= .returned v'∧μ''.Y=Y∧VR w' μ'' r v'∧FM w μ'' w' (S0 S)∧(∀id,S.length≤id→μ'' id=none):=
  ⟨R'.dfr,_,hrun,_,μ'.fin keep,rfl,R'.snc.y,hv,R2.sim,R2.fresh⟩
 rcases he with rfl|rfl
 ·exact hpost
 ·exact hpost
end
end Go.Lift
namespace Go.Lift
noncomputable section
open Go Go.RowKit
section
variable {P:Program} {W:World} {T:Ep} {n:Nat} {ops:Array Oper} {d:Tmp} {op:Op} {ty:TypeId} {pos:String} {af:Array Edge} {gd:Option (Nat×Bool)} {r:List Oper} {env:C7} {h h':A7} {x:AV} {Q:C7→A7→Prop}
theorem A4.sq (e:Iz T (ev env) h ⟨some d,op,ty,pos,af,none⟩=some x) (hd:d<n) (k:A4 P W T n ops r ((d,x)::env) h Q):A4 P W T n ops (⟨some d,op,ty,pos,af,none⟩::r) env h Q:=by
 simp only [A4,Di];exact ⟨by simpa [DD] using hd,x,h,.x (.q e rfl),k⟩
theorem A4.sn (e:VH T (ev env) h ⟨some d,op,ty,pos,af,none⟩=some (x,h')) (hd:d<n) (k:A4 P W T n ops r ((d,x)::env) h' Q):A4 P W T n ops (⟨some d,op,ty,pos,af,none⟩::r) env h Q:=by
 simp only [A4,Di];exact ⟨by simpa [DD] using hd,x,h',.x (.n e),k⟩
theorem A4.se (e:Nv T (ev env) h ⟨some d,op,ty,pos,af,none⟩=some (x,h')) (hd:d<n) (k:A4 P W T n ops r ((d,x)::env) h' Q):A4 P W T n ops (⟨some d,op,ty,pos,af,none⟩::r) env h Q:=by
 simp only [A4,Di];exact ⟨by simpa [DD] using hd,x,h',.e e,k⟩
theorem A4.st (e:Nv T (ev env) h ⟨none,op,ty,pos,af,none⟩=some (x,h')) (k:A4 P W T n ops r env h' Q):A4 P W T n ops (⟨none,op,ty,pos,af,none⟩::r) env h Q:=by
 simp only [A4,Di];exact ⟨rfl,x,h',.e e,k⟩
theorem A4.sc {g:FuncId} {vs:List AV} {r0:AV} {S:List Obj} (hc:callee T (ev env) ⟨some d,op,ty,pos,af,none⟩=some (g,vs)) (hcl:Ab vs=true) (hp:Ar P W g vs r0 S) (hd:d<n)
  (k:A4 P W T n ops r ((d,r0.ren (· +h.next))::env) (h.add S) Q):A4 P W T n ops (⟨some d,op,ty,pos,af,none⟩::r) env h Q:=by
 simp only [A4,Di];exact ⟨by simpa [DD] using hd,_,_,.x (.c (.closed g vs r0 S hc hcl hp rfl rfl)),k⟩
theorem A4.sc0 {g:FuncId} {vs:List AV} {r0:AV} (hc:callee T (ev env) ⟨some d,op,ty,pos,af,none⟩=some (g,vs)) (hcl:Ab vs=true) (hp:Ar P W g vs r0 []) (hr:closed r0=true) (hd:d<n)
  (k:A4 P W T n ops r ((d,r0)::env) h Q):A4 P W T n ops (⟨some d,op,ty,pos,af,none⟩::r) env h Q:=by
 simp only [A4,Di];exact ⟨by simpa [DD] using hd,_,_,.x (.c (.closed g vs r0 [] hc hcl hp (Jh _ _ hr).symm rfl)),k⟩
theorem A4.sf {g:FuncId} {vs ss:List AV} {r0:AV} {S:List Obj} (hc:callee T (ev env) ⟨some d,op,ty,pos,af,none⟩=some (g,vs)) (hs:mapC (BU [] h 8) vs=some ss) (hp:Ar P W g ss r0 S)
  (hf:flat r0=true) (hF:S.all (fun o=>o.els.all fun y=>y.cells.all flat)=true) (hd:d<n)
  (k:A4 P W T n ops r ((d,r0.ren (· +h.next))::env) (h.add S) Q):A4 P W T n ops (⟨some d,op,ty,pos,af,none⟩::r) env h Q:=by
 simp only [A4,Di];exact ⟨by simpa [DD] using hd,_,_,.x (.c (.flat g vs ss r0 S hc hs hp hf hF rfl rfl)),k⟩
theorem A4.sf0 {g:FuncId} {vs ss:List AV} {r0:AV} (hc:callee T (ev env) ⟨some d,op,ty,pos,af,none⟩=some (g,vs)) (hs:mapC (BU [] h 8) vs=some ss) (hp:Ar P W g ss r0 [])
  (hf:flat r0=true) (hr:closed r0=true) (hd:d<n)
  (k:A4 P W T n ops r ((d,r0)::env) h Q):A4 P W T n ops (⟨some d,op,ty,pos,af,none⟩::r) env h Q:=by
 simp only [A4,Di];exact ⟨by simpa [DD] using hd,_,_,.x (.c (.flat g vs ss r0 [] hc hs hp hf rfl (Jh _ _ hr).symm rfl)),k⟩
theorem A4.sm {g:FuncId} {vs:List AV} (hc:callee T (ev env) ⟨some d,op,ty,pos,af,none⟩=some (g,vs)) (hp:Sk P W g vs h x h') (hd:d<n)
  (k:A4 P W T n ops r ((d,x)::env) h' Q):A4 P W T n ops (⟨some d,op,ty,pos,af,none⟩::r) env h Q:=by
 simp only [A4,Di];exact ⟨by simpa [DD] using hd,x,h',.c g vs hc hp,k⟩
theorem A4.sgy {j:Nat} {want t:Bool} {o:Oper} {t':Tmp} (hj:ops[j]? =some o) (ho:o.dst=some t') (ht:env.get t'= .b t) (e:t=want)
  (k1:A4 P W T n ops (⟨some d,op,ty,pos,af,none⟩::r) env h Q):A4 P W T n ops (⟨some d,op,ty,pos,af,some (j,want)⟩::r) env h Q:=by
 have hw:Di ops env ⟨some d,op,ty,pos,af,some (j,want)⟩=some true:=by
  simp only [Di,hj,Option.bind_some,ho,ht,e,BEq.rfl]
 simp only [A4,Di] at k1
 simp only [A4,hw]
 obtain ⟨a,x,h',b,c⟩:=k1
 refine ⟨a,x,h',?_,c⟩
 cases b with
 |x b=>cases b with
  |q b e=>exact .x (.q b e)
  |n b=>exact .x (.n b)
  |s b e hh=>exact .x (.s b e hh)
  |g b e=>exact .x (.g b e)
  |c b=>cases b with
   |closed g vs r0 S h1 h2 h3 h4 h5=>exact .x (.c (.closed g vs r0 S h1 h2 h3 h4 h5))
   |flat g vs ss r0 S h1 h2 h3 h4 h5 h6 h7=>exact .x (.c (.flat g vs ss r0 S h1 h2 h3 h4 h5 h6 h7))
 |e b=>exact .e b
 |c g vs b c=>exact .c g vs b c
theorem Se {j:Nat} {want t:Bool} {o:Oper} {t':Tmp} (hj:ops[j]? =some o) (ho:o.dst=some t') (ht:env.get t'= .b t) (e:t= !want) (hd:d<n)
  (k2:A4 P W T n ops r ((d,.tup [])::env) h Q):A4 P W T n ops (⟨some d,op,ty,pos,af,some (j,want)⟩::r) env h Q:=by
 have hw:Di ops env ⟨some d,op,ty,pos,af,some (j,want)⟩=some false:=by
  simp only [Di,hj,Option.bind_some,ho,ht,e];cases want<;>rfl
 simp only [A4,hw]
 exact ⟨by simpa [DD] using hd,k2⟩
theorem VI {j:Nat} {want:Bool} {o:Oper} {t':Tmp} (hj:ops[j]? =some o) (ho:o.dst=some t') (ht:env.get t'= .tup []) (hd:d<n)
  (k2:A4 P W T n ops r ((d,.tup [])::env) h Q):A4 P W T n ops (⟨some d,op,ty,pos,af,some (j,want)⟩::r) env h Q:=by
 have hw:Di ops env ⟨some d,op,ty,pos,af,some (j,want)⟩=some false:=by
  simp only [Di,hj,Option.bind_some,ho,ht]
 simp only [A4,hw]
 exact ⟨by simpa [DD] using hd,k2⟩
end
section
variable {P:Program} {W:World} {T:Ep} {n:Nat} {ops:Array Oper} {m i:Nat} {d:Tmp} {op:Op} {ty:TypeId} {pos:String} {af:Array Edge} {gd:Option (Nat×Bool)} {r:List Oper} {env:C7} {h h':A7} {x:AV} {Q:C7→A7→Prop}
theorem GM {o:Oper} (k:MD P W T (ev env) h o x h'):if i<m then MD P W T (ev env) h o x h' else Sm P W T (ev env) h o x h':=by
 split
 ·exact k
 ·exact .x k
theorem Aw.sq (e:Iz T (ev env) h ⟨some d,op,ty,pos,af,none⟩=some x) (hd:d<n) (k:Aw P W T n ops m (i+1) r ((d,x)::env) h Q):Aw P W T n ops m i (⟨some d,op,ty,pos,af,none⟩::r) env h Q:=by
 simp only [Aw,Di];exact ⟨by simpa [DD] using hd,x,h,GM (.q e rfl),k⟩
theorem VJ (e: ∀(w:World) (μ:Mu) (c:Operand→Value),Ga W w→(∀x∈op.operands,∀k y,ev env k x=some y→VR w μ y (c x))→ ∃z,(execOp c ⟨some d,op,ty,pos,af,none⟩).run P w= .ok (.value z) w∧VR w μ x z) (hd:d<n) (k:Aw P W T n ops m (i+1) r ((d,x)::env) h Q):Aw P W T n ops m i (⟨some d,op,ty,pos,af,none⟩::r) env h Q:=by
 simp only [Aw,Di];exact ⟨by simpa [DD] using hd,x,h,GM (.g e rfl),k⟩
theorem Aw.sn (e:VH T (ev env) h ⟨some d,op,ty,pos,af,none⟩=some (x,h')) (hd:d<n) (k:Aw P W T n ops m (i+1) r ((d,x)::env) h' Q):Aw P W T n ops m i (⟨some d,op,ty,pos,af,none⟩::r) env h Q:=by
 simp only [Aw,Di];exact ⟨by simpa [DD] using hd,x,h',GM (.n e),k⟩
theorem Aw.se (hm: ¬i<m) (e:Nv T (ev env) h ⟨some d,op,ty,pos,af,none⟩=some (x,h')) (hd:d<n) (k:Aw P W T n ops m (i+1) r ((d,x)::env) h' Q):Aw P W T n ops m i (⟨some d,op,ty,pos,af,none⟩::r) env h Q:=by
 simp only [Aw,Di];exact ⟨by simpa [DD] using hd,x,h',(by rw [if_neg hm];exact .e e),k⟩
theorem Aw.st (hm: ¬i<m) (e:Nv T (ev env) h ⟨none,op,ty,pos,af,none⟩=some (x,h')) (k:Aw P W T n ops m (i+1) r env h' Q):Aw P W T n ops m i (⟨none,op,ty,pos,af,none⟩::r) env h Q:=by
 simp only [Aw,Di];exact ⟨rfl,x,h',(by rw [if_neg hm];exact .e e),k⟩
theorem Aw.sc {g:FuncId} {vs:List AV} {r0:AV} {S:List Obj} (hc:callee T (ev env) ⟨some d,op,ty,pos,af,none⟩=some (g,vs)) (hcl:Ab vs=true) (hp:Ar P W g vs r0 S) (hd:d<n)
  (k:Aw P W T n ops m (i+1) r ((d,r0.ren (· +h.next))::env) (h.add S) Q):Aw P W T n ops m i (⟨some d,op,ty,pos,af,none⟩::r) env h Q:=by
 simp only [Aw,Di];exact ⟨by simpa [DD] using hd,_,_,GM (.c (.closed g vs r0 S hc hcl hp rfl rfl)),k⟩
theorem Aw.sc0 {g:FuncId} {vs:List AV} {r0:AV} (hc:callee T (ev env) ⟨some d,op,ty,pos,af,none⟩=some (g,vs)) (hcl:Ab vs=true) (hp:Ar P W g vs r0 []) (hr:closed r0=true) (hd:d<n)
  (k:Aw P W T n ops m (i+1) r ((d,r0)::env) h Q):Aw P W T n ops m i (⟨some d,op,ty,pos,af,none⟩::r) env h Q:=by
 simp only [Aw,Di];exact ⟨by simpa [DD] using hd,_,_,GM (.c (.closed g vs r0 [] hc hcl hp (Jh _ _ hr).symm rfl)),k⟩
theorem Aw.sf {g:FuncId} {vs ss:List AV} {r0:AV} {S:List Obj} (hc:callee T (ev env) ⟨some d,op,ty,pos,af,none⟩=some (g,vs)) (hs:mapC (BU [] h 8) vs=some ss) (hp:Ar P W g ss r0 S)
  (hf:flat r0=true) (hF:S.all (fun o=>o.els.all fun y=>y.cells.all flat)=true) (hd:d<n)
  (k:Aw P W T n ops m (i+1) r ((d,r0.ren (· +h.next))::env) (h.add S) Q):Aw P W T n ops m i (⟨some d,op,ty,pos,af,none⟩::r) env h Q:=by
 simp only [Aw,Di];exact ⟨by simpa [DD] using hd,_,_,GM (.c (.flat g vs ss r0 S hc hs hp hf hF rfl rfl)),k⟩
theorem Aw.sf0 {g:FuncId} {vs ss:List AV} {r0:AV} (hc:callee T (ev env) ⟨some d,op,ty,pos,af,none⟩=some (g,vs)) (hs:mapC (BU [] h 8) vs=some ss) (hp:Ar P W g ss r0 [])
  (hf:flat r0=true) (hr:closed r0=true) (hd:d<n)
  (k:Aw P W T n ops m (i+1) r ((d,r0)::env) h Q):Aw P W T n ops m i (⟨some d,op,ty,pos,af,none⟩::r) env h Q:=by
 simp only [Aw,Di];exact ⟨by simpa [DD] using hd,_,_,GM (.c (.flat g vs ss r0 [] hc hs hp hf rfl (Jh _ _ hr).symm rfl)),k⟩
theorem Aw.sgy {j:Nat} {want t:Bool} {o:Oper} {t':Tmp} (hj:ops[j]? =some o) (ho:o.dst=some t') (ht:env.get t'= .b t) (e:t=want)
  (k1:Aw P W T n ops m i (⟨some d,op,ty,pos,af,none⟩::r) env h Q):Aw P W T n ops m i (⟨some d,op,ty,pos,af,some (j,want)⟩::r) env h Q:=by
 have hw:Di ops env ⟨some d,op,ty,pos,af,some (j,want)⟩=some true:=by
  simp only [Di,hj,Option.bind_some,ho,ht,e,BEq.rfl]
 simp only [Aw,Di] at k1
 simp only [Aw,hw]
 obtain ⟨a,x,h',b,c⟩:=k1
 refine ⟨a,x,h',?_,c⟩
 have hx: ∀ {h'},MD P W T (ev env) h ⟨some d,op,ty,pos,af,none⟩ x h'→MD P W T (ev env) h ⟨some d,op,ty,pos,af,some (j,want)⟩ x h':=by
  intro h' b
  cases b with
  |q b e=>exact .q b e
  |n b=>exact .n b
  |s b e hh=>exact .s b e hh
  |g b e=>exact .g b e
  |c b=>cases b with
   |closed g vs r0 S h1 h2 h3 h4 h5=>exact .c (.closed g vs r0 S h1 h2 h3 h4 h5)
   |flat g vs ss r0 S h1 h2 h3 h4 h5 h6 h7=>exact .c (.flat g vs ss r0 S h1 h2 h3 h4 h5 h6 h7)
 by_cases hm:i<m
 ·rw [if_pos hm] at b ⊢
  exact hx b
 ·rw [if_neg hm] at b ⊢
  cases b with
  |x b=>exact .x (hx b)
  |e b=>exact .e b
  |c g vs b c=>exact .c g vs b c
end
theorem BD (t:Nat) (x:AV) (env:C7) (u:Nat):C7.get ((t,x)::env) u=if u=t then x else env.get u:=by
 unfold C7.get;rw [Cg];split<;>rfl
theorem get_nil (u:Nat):C7.get [] u= .und:=rfl
end
end Go.Lift
namespace Go.Lift
noncomputable section
open Go Go.RowKit
mutual
def lim:AV→Prop
 | .s x=>x.size≤Gb
 | .sl _ nl xs=>xs.length≤Gb∧(nl=true→xs=[])∧Hx xs
 | .st fs=>Hx fs
 | .tup fs=>Hx fs
 | .pt cs=>Hx cs
 | .fn _ cs=>Hx cs
 |_=>True
def Hx:List AV→Prop
 | []=>True
 |x::xs=>lim x∧Hx xs
end
mutual
theorem Gk {w:World} {μ:Mu}: ∀(x:AV) (v:Value),CR w μ x v→lim x
 | .und,_,_=>by simp only [lim]
 | .b x,v,k=>by simp only [lim]
 | .i x y,v,k=>by simp only [lim]
 | .s x,v,k=>by simp only [CR] at k;simp only [lim];exact k.2
 | .sl n nl xs,v,k=>by
   simp only [CR] at k
   simp only [lim]
   rcases k with ⟨e,_⟩|⟨e,a,c,_,_,h3,h4⟩
   ·subst e;exact ⟨Nat.zero_le _,fun _=>rfl,trivial⟩
   ·exact ⟨h3,(fun h=>by rw [e] at h;cases h),Dx n xs a h4⟩
 | .own _ _ _,v,k=>by simp only [lim]
 | .st fs,v,k=>by
   simp only [CR] at k
   simp only [lim]
   obtain ⟨cs,_,k⟩:=k
   exact MC fs _ k
 | .tup fs,v,k=>by
   simp only [CR] at k
   simp only [lim]
   obtain ⟨cs,_,k⟩:=k
   exact MC fs _ k
 | .pt cs,v,k=>by
   simp only [CR] at k
   simp only [lim]
   obtain ⟨a,_,k⟩:=k
   exact L8 cs a k
 | .loc _ _ _,v,k=>by simp only [lim]
 | .fn f fs,v,k=>by
   simp only [CR] at k
   simp only [lim]
   obtain ⟨cs,_,k⟩:=k
   exact MC fs _ k
 | .nilp,_,_=>by simp only [lim]
 | .nilf,_,_=>by simp only [lim]
 | .raw _,_,_=>by simp only [lim]
theorem MC {w:World} {μ:Mu}: ∀(xs:List AV) (vs:List Value),FL w μ xs vs→Hx xs
 | [],vs,k=>by simp only [Hx]
 |x::xs,vs,k=>by
  simp only [FL] at k
  simp only [Hx]
  obtain ⟨v,r,_,k1,k2⟩:=k
  exact ⟨Gk x v k1,MC xs r k2⟩
theorem L8 {w:World} {μ:Mu}: ∀(cs:List AV) (a:Addr),BL w μ cs a→Hx cs
 | [],a,k=>by simp only [Hx]
 |x::xs,a,k=>by
  simp only [BL] at k
  simp only [Hx]
  obtain ⟨⟨u,_,k2⟩,k3⟩:=k
  exact ⟨Gk x u k2,L8 xs _ k3⟩
theorem Dx {w:World} {μ:Mu} (n:Nat): ∀(cs:List AV) (a:Addr),BR w μ n cs a→Hx cs
 | [],a,k=>by simp only [Hx]
 |x::xs,a,k=>by
  simp only [Hx]
  cases x with
  |st fs=>simp only [BR] at k;exact ⟨by simp only [lim];exact L8 fs a k.1.2,Dx n xs _ k.2⟩
  |und=>simp only [BR] at k;obtain ⟨⟨_,u,_,q2⟩,q3⟩:=k;exact ⟨Gk _ u q2,Dx n xs _ q3⟩
  |b x=>simp only [BR] at k;obtain ⟨⟨_,u,_,q2⟩,q3⟩:=k;exact ⟨Gk _ u q2,Dx n xs _ q3⟩
  |i x y=>simp only [BR] at k;obtain ⟨⟨_,u,_,q2⟩,q3⟩:=k;exact ⟨Gk _ u q2,Dx n xs _ q3⟩
  |s x=>simp only [BR] at k;obtain ⟨⟨_,u,_,q2⟩,q3⟩:=k;exact ⟨Gk _ u q2,Dx n xs _ q3⟩
  |sl p q zs=>simp only [BR] at k;obtain ⟨⟨_,u,_,q2⟩,q3⟩:=k;exact ⟨Gk (.sl p q zs) u q2,Dx n xs _ q3⟩
  |own p q r=>simp only [BR,CR] at k;obtain ⟨⟨_,u,_,q2⟩,_⟩:=k;exact q2.elim
  |tup zs=>simp only [BR] at k;obtain ⟨⟨_,u,_,q2⟩,q3⟩:=k;exact ⟨Gk (.tup zs) u q2,Dx n xs _ q3⟩
  |pt zs=>simp only [BR] at k;obtain ⟨⟨_,u,_,q2⟩,q3⟩:=k;exact ⟨Gk (.pt zs) u q2,Dx n xs _ q3⟩
  |loc p q r=>simp only [BR,CR] at k;obtain ⟨⟨_,u,_,q2⟩,_⟩:=k;exact q2.elim
  |fn f zs=>simp only [BR] at k;obtain ⟨⟨_,u,_,q2⟩,q3⟩:=k;exact ⟨Gk (.fn f zs) u q2,Dx n xs _ q3⟩
  |nilp=>simp only [BR] at k;obtain ⟨⟨_,u,_,q2⟩,q3⟩:=k;exact ⟨Gk _ u q2,Dx n xs _ q3⟩
  |nilf=>simp only [BR] at k;obtain ⟨⟨_,u,_,q2⟩,q3⟩:=k;exact ⟨Gk _ u q2,Dx n xs _ q3⟩
  |raw _=>simp only [BR] at k;obtain ⟨⟨_,u,_,q2⟩,q3⟩:=k;exact ⟨Gk _ u q2,Dx n xs _ q3⟩
end
mutual
theorem VN {w:World} {μ:Mu}: ∀(x:AV) (v:Value),VR w μ x v→lim x
 | .und,_,_=>by simp only [lim]
 | .b x,v,k=>by simp only [lim]
 | .i x y,v,k=>by simp only [lim]
 | .s x,v,k=>by simp only [VR] at k;exact Gk _ v k
 | .sl n nl xs,v,k=>by simp only [VR] at k;exact Gk _ v k
 | .pt cs,v,k=>by simp only [VR] at k;exact Gk _ v k
 | .own _ _ _,v,k=>by simp only [lim]
 | .loc _ _ _,v,k=>by simp only [lim]
 | .st fs,v,k=>by
   simp only [VR] at k
   simp only [lim]
   obtain ⟨cs,_,k⟩:=k
   exact Ov fs _ k
 | .tup fs,v,k=>by
   simp only [VR] at k
   simp only [lim]
   obtain ⟨cs,_,k⟩:=k
   exact Ov fs _ k
 | .fn f fs,v,k=>by
   simp only [VR] at k
   simp only [lim]
   obtain ⟨cs,_,k⟩:=k
   exact Ov fs _ k
 | .nilp,_,_=>by simp only [lim]
 | .nilf,_,_=>by simp only [lim]
 | .raw _,_,_=>by simp only [lim]
theorem Ov {w:World} {μ:Mu}: ∀(xs:List AV) (vs:List Value),D2 w μ xs vs→Hx xs
 | [],vs,k=>by simp only [Hx]
 |x::xs,vs,k=>by
  simp only [D2] at k
  simp only [Hx]
  obtain ⟨v,r,_,k1,k2⟩:=k
  exact ⟨VN x v k1,Ov xs r k2⟩
end
theorem Ah.lim {P:Program} {W:World} {n N:Nat} {env:C7} {h:A7} {Q:EL} {c:Code} (t:Nat) {x:AV} (ht:env.get t=x) (k:Go.Lift.lim x→Ah P W n N c env h Q):Ah P W n N c env h Q:=
 fun B w0 μ a w hW hB R=>k (ht ▸ VN _ _ (R.env t)) B w0 μ a w hW hB R
theorem Fg {P:Program} {W:World} {f:FuncId} (he: ∀(vs:Array Value) (w:World),(callFunc f vs).run P w= .ok (.enter f vs) w) {args:List AV} {r:AV} {S:List Obj} (k:Hx args→Ar P W f args r S) (hM:f<1000000:=by decide):Ar P W f args r S:= .plain hM he<|fun w Y vs hG hY hvs=>(k (MC _ _ hvs)).callsP hM w Y vs hG hY hvs
end
end Go.Lift
namespace Go.Lift
noncomputable section
open Go Go.RowKit
section
variable {P:Program} {W:World} {f:FuncId}
theorem DE (he: ∀(vs:Array Value) (w:World),(callFunc f vs).run P w= .ok (.enter f vs) w) {args:List AV} {r:AV}
 (k: ∀(w:World) (Y:Nat→Prop) (vs:List Value),Ga W w→FL w (Eo Y) args vs→Calls P f vs.toArray w fun e w'=> ∃v,e= .returned v∧VR w' (Eo Y) r v∧Below w.heap.size w w') (hM:f<1000000:=by decide):Ar P W f args r []:= .plain hM he<|fun w Y vs hG hY hvs=>(k w Y vs hG hvs).mono fun e w' ⟨v,e1,e2,e3⟩=>
 ⟨v,Eo Y,e1,rfl,e2,{below:=e3,lt:=(by intro _ _ h;cases h),inj:=(by intro _ _ _ _ h;cases h),live:=(by intro _ _ _ h;cases h),ylt:=hY,blk:=(by intro _ _ _ _ h;cases h)},fun _ _=>rfl⟩
def mu1 (Y:Nat→Prop) (s:MF):Mu:=⟨fun i=>if i=0 then some (some s) else none,Y⟩
theorem O2 (he: ∀(vs:Array Value) (w:World),(callFunc f vs).run P w= .ok (.enter f vs) w) {args:List AV} {et:TypeId} {k:Nat} (hk:0<k) {els:List AV}
 (kk: ∀(w:World) (Y:Nat→Prop) (vs:List Value),Ga W w→FL w (Eo Y) args vs→Calls P f vs.toArray w fun e w'=> ∃v news,e= .returned v∧w'.ownsRow w.heap.size et k v els.length news∧v≠ .slice none 0 0∧Below w.heap.size w w'∧
   ∀(j:Nat) x,els[j]? =some x→x.cells.length=k∧ ∀(i:Nat) y,x.cells[i]? =some y→ ∃u,news[j*k+i]? =some u∧CR w (Eo Y) y u∧u.oneCell'=true) (hM:f<1000000:=by decide):Ar P W f args (.own 0 0 els.length) [⟨et,k,els⟩]:= .plain hM he<|fun w Y vs hG hY hvs=>(kk w Y vs hG hvs).mono fun e w' ⟨v,news,e1,e2,e3,e4,e5⟩=>by
 obtain ⟨hl,e2|⟨g,cap,cur,rfl,hg,hb,hn,hc,hs,ht⟩⟩:=e2
 ·exact absurd e2.1 e3
 have hext:ID w (Eo Y) w' (mu1 Y ⟨g,cap,k⟩):=by
  refine ID.of (fun g' hg' _=>e4.block g' hg') (by intro _ _ h;cases h) ?_
  rintro g' (hy|⟨id,s,hs',rfl⟩)
  ·exact Or.inl (Or.inl hy)
  ·dsimp only [mu1] at hs';split at hs'<;>cases hs';exact Or.inr hg
 have hglt:g<w'.heap.size:=(Array.getElem?_eq_some_iff.1 hb).1
 refine ⟨_,mu1 Y ⟨g,cap,k⟩,e1,rfl,?_,{below:=e4,lt:= ?_,inj:= ?_,live:= ?_,ylt:=hY,blk:= ?_},?_⟩
 ·simp only [VR,mu1,if_true]
  exact ⟨_,_,rfl,hn,by omega,rfl,fun _=>by simp⟩
 ·intro id s h;dsimp only [mu1] at h;split at h<;>cases h;exact ⟨hg,hglt⟩
 ·intro id id' s s' h h' _;dsimp only [mu1] at h h';split at h<;>cases h;split at h'<;>cases h';omega
 ·intro id o h;dsimp only [mu1];split<;>simp
 ·intro id o s ho h
  dsimp only [mu1] at h;split at h<;>cases h
  rename_i hid;subst hid
  rw [Fh] at ho
  simp at ho;subst ho
  refine ⟨rfl,hk,hn,hc,cur,hb,hs,fun j x hx=> ?_⟩
  obtain ⟨q1,q2⟩:=e5 j x hx
  refine ⟨q1,fun i y hy=> ?_⟩
  obtain ⟨u,u1,u2,u3⟩:=q2 i y hy
  refine ⟨u,?_,Eb _ _ (KD hext _ _ u2),u3⟩
  rw [←ht] at u1
  rw [List.getElem?_take] at u1
  split at u1
  ·simpa using u1
  ·cases u1
 ·intro id hid;dsimp only [mu1];rw [if_neg (by simp at hid;omega)]
end
theorem H3 {w:World} {μ:Mu} {x:AV} {xs:List AV} {vs:List Value}:FL w μ (x::xs) vs↔ ∃v r,vs=v::r∧CR w μ x v∧FL w μ xs r:=by simp only [FL]
theorem IO {w:World} {μ:Mu} {vs:List Value}:FL w μ [] vs↔vs=[]:=by simp only [FL]
theorem Tw {w:World} {μ:Mu} {x:ByteArray} {v:Value}:CR w μ (.s x) v↔v= .string x∧x.size≤Gb:=by simp only [CR]
theorem CR_i {w:World} {μ:Mu} {k:IntKind} {n:Int} {v:Value}:CR w μ (.i k n) v↔v= .int k n:=by simp only [CR]
theorem Qv {w:World} {μ:Mu} {k:Nat} {nl:Bool} {xs:List AV} {v:Value}:CR w μ (.sl k nl xs) v↔(xs=[]∧v= .slice none 0 0)∨
 (nl=false∧ ∃a c,v= .slice (some a) xs.length c∧xs.length≤c∧xs.length≤Gb∧BR w μ k xs a):=by simp only [CR]
theorem Tz {w:World} {a:Addr} {u:Value} (h:w.cell? a=some u):a=⟨a.block,a.off,none⟩:=by
 obtain ⟨b,o,sp⟩:=a
 unfold World.cell? at h
 cases sp with
 |none=>rfl
 |some s=>simp only [Option.isSome_some,if_true] at h;split at h<;>cases h
theorem Re {w:World} {μ:Mu} {k:Nat} {xs:List AV} {a:Addr} (h:BR w μ k xs a) (hk:0<k) (hx:xs≠ []):
  a=⟨a.block,a.off,none⟩∧a.block<w.heap.size∧ ∀(j:Nat) x,xs[j]? =some x→x.cells.length=k∧ ∀(i:Nat) y,x.cells[i]? =some y→ ∃u,w.cell? ⟨a.block,a.off+(j*k+i),none⟩=some u∧CR w μ y u∧u.oneCell'=true:=by
 cases xs with
 |nil=>exact absurd rfl hx
 |cons x xs=>
  obtain ⟨h1,h2⟩:=HE h 0 x rfl
  rw [Nat.zero_mul,add_zero] at h2
  obtain ⟨u,⟨hu,_,_⟩,_⟩:=GT h2 0 _ (List.getElem?_eq_getElem (by omega))
  rw [add_zero] at hu
  have ha:=Tz hu
  refine ⟨ha,Js hu,fun j y hy=> ?_⟩
  obtain ⟨q1,q2⟩:=HE h j y hy
  refine ⟨q1,fun i z hz=> ?_⟩
  obtain ⟨u,⟨r1,_,r3⟩,r4⟩:=GT q2 i z hz
  rw [H6,ha,Er] at r1
  exact ⟨u,r1,r4,r3⟩
theorem NW {w:World} {μ:Mu} {xs:List ByteArray} {a:Addr} (h:BR w μ 1 (xs.map .s) a) (hx:xs≠ []):
  a=⟨a.block,a.off,none⟩∧a.block<w.heap.size∧ ∀(j:Nat) x,xs[j]? =some x→w.cell? ⟨a.block,a.off+j,none⟩=some (.string x)∧x.size≤Gb:=by
 obtain ⟨h1,h2,h3⟩:=Re h (by omega) (by simpa using hx)
 refine ⟨h1,h2,fun j x hj=> ?_⟩
 obtain ⟨q1,q2⟩:=h3 j (.s x) (by simp [hj])
 obtain ⟨u,r1,r2,_⟩:=q2 0 (.s x) rfl
 rw [Tw] at r2
 obtain ⟨rfl,r2⟩:=r2
 exact ⟨by simpa using r1,r2⟩
end
end Go.Lift
namespace Go.Lift
noncomputable section
open Go Go.RowKit
theorem ev_tmp (env:C7) (k:Nat) (t:Tmp):ev env k (.tmp t)=some (env.get t):=rfl
theorem Wh (env:C7) (k:Nat) (v:Value):ev env k (.const v)=lit k v:=rfl
theorem ev_func (env:C7) (k:Nat) (f:FuncId) (h:f≤999999):ev env k (.func f)=some (.fn f []):=by
 show cond (Nat.ble f 999999) (some (AV.fn f [])) none=_
 rw [Nat.ble_eq_true_of_le h];rfl
theorem lit_b (k:Nat) (b:Bool):lit k (.bool b)=some (.b b):=rfl
theorem lit_i (k:Nat) (t:IntKind) (n:Int):lit k (.int t n)=some (.i t n):=rfl
theorem lit_nil (k:Nat):lit k (.slice none 0 0)=some (.sl k true []):=rfl
theorem lit_np (k:Nat):lit k (.pointer none)=some .nilp:=rfl
theorem lit_nf (k:Nat):lit k .nilFunc=some .nilf:=rfl
theorem lit_s (k:Nat) (l:List UInt8):lit k (.string ⟨⟨l⟩⟩)=if l.length≤Gb then some (.s ⟨⟨l⟩⟩) else none:=rfl
theorem agg_1:TD.agg .bool=false:=rfl
theorem agg_2 (k:IntKind):TD.agg (.int k)=false:=rfl
theorem agg_3:TD.agg .str=false:=rfl
theorem agg_4 (e:TypeId):TD.agg (.slice e)=false:=rfl
theorem agg_5 (l:List (Nat×TypeId)):TD.agg (.struct l)=true:=rfl
theorem agg_6 (n:Nat) (e:TypeId):TD.agg (.arr n e)=true:=rfl
theorem agg_7:TD.agg .other=false:=rfl
theorem W9 (fs:List AV):AV.cells (.st fs)=fs:=rfl
theorem cells_i (k:IntKind) (n:Int):AV.cells (.i k n)=[.i k n]:=rfl
theorem cells_s (x:ByteArray):AV.cells (.s x)=[.s x]:=rfl
theorem cells_b (x:Bool):AV.cells (.b x)=[.b x]:=rfl
theorem W8 (k:Nat) (nl:Bool) (xs:List AV):AV.cells (.sl k nl xs)=[.sl k nl xs]:=rfl
theorem UN (a b c:Nat):AV.cells (.own a b c)=[.own a b c]:=rfl
theorem UM (a b c:Nat):AV.cells (.loc a b c)=[.loc a b c]:=rfl
theorem W7 (cs:List AV):AV.cells (.pt cs)=[.pt cs]:=rfl
theorem TC:AV.cells .nilp=[.nilp]:=rfl
theorem TB:AV.cells .nilf=[.nilf]:=rfl
theorem W6 (f:FuncId) (cs:List AV):AV.cells (.fn f cs)=[.fn f cs]:=rfl
theorem oneIn_i (h:A7) (k:IntKind) (n:Int):He h (.i k n)=true:=rfl
theorem oneIn_b (h:A7) (b:Bool):He h (.b b)=true:=rfl
theorem oneIn_s (h:A7) (b:ByteArray):He h (.s b)=true:=rfl
theorem WJ (h:A7) (k:Nat) (b:Bool) (xs:List AV):He h (.sl k b xs)=true:=rfl
theorem Vr (h:A7) (a b c:Nat):He h (.own a b c)=(h.get a).isSome:=rfl
theorem Vq (h:A7) (a b c:Nat):He h (.loc a b c)=(h.get a).isSome:=rfl
theorem WI (h:A7) (cs:List AV):He h (.pt cs)=true:=rfl
theorem WF (h:A7) (f:FuncId) (cs:List AV):He h (.fn f cs)=true:=rfl
theorem WH (h:A7):He h .nilp=true:=rfl
theorem WG (h:A7):He h .nilf=true:=rfl
def BB:=And.intro @BD (And.intro @get_nil (And.intro @Iz.eq_1 (And.intro @VH.eq_1 (And.intro @Nv.eq_1 (And.intro @callee.eq_1 (And.intro @K0.eq_1 (And.intro @K0.eq_2 (And.intro @K0.eq_3 (And.intro @ev_tmp (And.intro @Wh (And.intro @ev_func (And.intro @lit_b (And.intro @lit_i (And.intro @lit_nil (And.intro @lit_np (And.intro @lit_nf (And.intro @lit_s (And.intro @Kb.eq_1 (And.intro @En.eq_1 (And.intro @Eg.eq_1 (And.intro @Ci.eq_1 (And.intro @agg_1 (And.intro @agg_2 (And.intro @agg_3 (And.intro @agg_4 (And.intro @agg_5 (And.intro @agg_6 (And.intro @agg_7 (And.intro @Dt.eq_1 (And.intro @Dt.eq_2 (And.intro @QP.eq_1 (And.intro @Lg.eq_1 (And.intro @Lg.eq_2 (And.intro @Jt.eq_1 (And.intro @Jt.eq_2 (And.intro @puny.eq_def (And.intro @EP.eq_1 (And.intro @Qg.eq_def (And.intro @RT.eq_def (And.intro @WQ.eq_def (And.intro @Lr.eq_1 (And.intro @NJ.eq_1 (And.intro @evs.eq_1 (And.intro @evs.eq_2 (And.intro @JW.eq_1 (And.intro @RK.eq_1 (And.intro @UC.eq_def (And.intro @Kk.eq_1 (And.intro @W9 (And.intro @cells_i (And.intro @cells_s (And.intro @cells_b (And.intro @W8 (And.intro @UN (And.intro @UM (And.intro @W7 (And.intro @TC (And.intro @W6 (And.intro @TB (And.intro @oneIn_i (And.intro @oneIn_b (And.intro @oneIn_s (And.intro @WJ (And.intro @Vr (And.intro @Vq (And.intro @WI (And.intro @WF (And.intro @WH (And.intro @WG (And.intro @Kk.eq_2 (And.intro @Lr.eq_2 (And.intro @JW.eq_2 (And.intro @A7.new.eq_1 (And.intro @A7.put.eq_1 (And.intro @Tc (And.intro @QO (And.intro @A7.get.eq_1 (And.intro @Lk (And.intro @Cg (And.intro @Ki.eq_def (@UK.eq_1)))))))))))))))))))))))))))))))))))))))))))))))))))))))))))))))))))))))))))))))))
def BC:=And.intro @Option.bind_some.{0,0} (And.intro @Option.bind_none.{0,0} (And.intro @Option.map_some.{0,0} (And.intro @Option.isSome_some.{0} (And.intro @List.all_cons.{0} (And.intro @List.all_nil.{0} (And.intro @Bool.and_true (And.intro @Bool.true_and (And.intro @List.getElem?_cons_zero.{0} (And.intro @List.getElem?_cons_succ.{0} (And.intro @List.drop_zero.{0} (And.intro @List.drop_succ_cons.{0} (And.intro @List.take_zero.{0} (And.intro @List.take_succ_cons.{0} (And.intro @List.length_cons.{0} (And.intro @List.length_nil.{0} (And.intro @List.nil_append.{0} (And.intro @List.cons_append.{0} (And.intro @List.append_nil.{0} (And.intro @List.toList_toArray.{0} (And.intro @Int.toNat_natCast (And.intro @true_and (And.intro @and_true (And.intro @ne_eq.{1} (And.intro @not_false_eq_true (And.intro @not_true_eq_false (And.intro @Int.natCast_nonneg (And.intro @and_self (And.intro @false_and (And.intro @and_false (And.intro @List.getElem?_map.{0,0} (And.intro @List.length_map.{0,0} (And.intro @List.length_append.{0} (And.intro @List.length_take.{0} (And.intro @List.length_drop.{0} (And.intro @Bool.false_and (And.intro @Bool.and_false (And.intro @Bool.not_true (And.intro @Bool.not_false (And.intro @List.all_append.{0} (And.intro @List.length_replicate.{0} (And.intro @Option.join_some.{0} (And.intro @Option.getD_some.{0} (And.intro @Option.getD_none.{0} (And.intro @Option.isSome_none.{0} (And.intro @List.replicate_succ.{0} (And.intro @List.replicate_zero.{0} (And.intro @List.set_cons_zero.{0} (And.intro @List.set_cons_succ.{0} (And.intro @Int.toNat_zero (And.intro @Nat.sub_zero (And.intro @Nat.zero_add (And.intro @Nat.add_zero (@Int.le_refl)))))))))))))))))))))))))))))))))))))))))))))))))))))
end
end Go.Lift
namespace Go.Lift
noncomputable section
open Go Go.RowKit
structure Strs where
 nl:Bool
 xs:List ByteArray
def Strs.av (s:Strs):AV:= .sl 1 s.nl (s.xs.map .s)
structure Ea where
 outs:Strs
 ins:Strs
 implicit:Strs
 order:Strs
 command:ByteArray
 deps:Bool
 pool:ByteArray
def Ea.av (e:Ea):AV:= .st [e.outs.av,e.ins.av,e.implicit.av,e.order.av,.s e.command,.b e.deps,.s e.pool]
structure Fd where
 name:ByteArray
 depth:Int
def Fd.av (p:Fd):AV:= .st [.s p.name,.i .i64 p.depth]
structure BW where
 enl:Bool
 edges:List Ea
 pnl:Bool
 pools:List Fd
 defaults:Strs
def BW.av (g:BW):AV:= .st [.sl 7 g.enl (g.edges.map Ea.av),.sl 2 g.pnl (g.pools.map Fd.av),g.defaults.av]
theorem DY {n:Int} (h1: -9223372036854775808≤n) (h2:n<9223372036854775808):IntKind.i64.wrap n=n:=by
 show (if (true&&decide (n % (18446744073709551616:Int)≥(9223372036854775808:Int)))=true then n % (18446744073709551616:Int)-(18446744073709551616:Int) else n % (18446744073709551616:Int))=n
 simp only [Bool.true_and,decide_eq_true_eq]
 split<;>omega
theorem H1 {i n:Nat} (h:i<n) (hn:n≤281474976710656):IntKind.i64.wrap ((i:Int)+1)=((i+1:Nat):Int):=by
 rw [DY (by omega) (by omega)];omega
theorem Kg {α:Type} {xs:List α} {i:Nat} {x:α} {f:α→Bool} (hx:xs[i]? =some x) (h:f x=false):xs.all f=false:=by
 rw [List.all_eq_false]
 exact ⟨x,List.mem_of_getElem? hx,by simp [h]⟩
theorem Fo {α:Type} {xs:List α} {i:Nat} {x:α} {f:α→Bool} (hx:xs[i]? =some x) (hp:(xs.take i).all f=true) (h:f x=true):(xs.take (i+1)).all f=true:=by
 rw [List.take_add_one,hx]
 simp [hp,h]
theorem H7 {α:Type} {xs:List α} {i:Nat} {f:α→Bool} (hp:(xs.take i).all f=true) (h:xs.length≤i):xs.all f=true:=by
 rwa [List.take_of_length_le h] at hp
theorem fits0 {env env':C7} {h:A7} (k:LP [] h env env'):VL [] env h env' ⟨0,[]⟩:=⟨List.nodup_nil,rfl,trivial,k⟩
theorem A8 {keep:List Nat} {h:A7} {d:Nat} {x:AV} (hc:closed x=true):C3 keep h (d+1) x=some x:=by
 cases x with
 |own _ _ _=>simp [closed] at hc
 |loc _ _ _=>simp [closed] at hc
 |st fs=>simp only [closed] at hc;simp only [C3,mapC,hc,if_true,Option.map_some]
 |tup fs=>simp only [closed] at hc;simp only [C3,mapC,hc,if_true,Option.map_some]
 |fn f fs=>simp only [closed] at hc;simp only [C3,mapC,hc,if_true,Option.map_some]
 |_=>rfl
def X5 (b:Int):Bool:=decide (97≤b)&&decide (b≤122)||decide (48≤b)&&decide (b≤57)||decide (b=95)
def KG (env:C7):C7→Prop
 | []=>True
 |(t,x)::r=>env.get t=x∧closed x=true∧KG env r
theorem KG.fits {keep:List Nat} {h:A7} {env:C7}: ∀ {env':C7},KG env env'→LP keep h env env'
 | [],_=>trivial
 |(t,x)::r,k=>⟨by rw [k.1];exact A8 k.2.1,KG.fits k.2.2⟩
theorem fitsC {env env':C7} {h:A7} (k:KG env env'):VL [] env h env' ⟨0,[]⟩:=fits0 k.fits
theorem B4 {keep:List Nat}: ∀i,i<0→keep[i]? =some i:=fun i h=>absurd h (Nat.not_lt_zero i)
end
end Go.Lift
namespace Go.Lift
noncomputable section
open Go Go.RowKit
def CN (c:UInt8):List UInt8→List (List UInt8)
 | []=>[[]]
 |b::l=>if b=c then []::CN c l else match CN c l with
  | []=>[[b]]
  |p::r=>(b::p)::r
theorem UZ (c:UInt8):Lib.index [] [c]= -1:=by simp [Lib.index]
theorem TT (c b:UInt8) (l:List UInt8):Lib.index (b::l) [c]=if b=c then 0 else if Lib.index l [c]= -1 then -1 else Lib.index l [c]+1:=by
 conv=>lhs;unfold Lib.index
 by_cases h:b=c
 ·subst h;simp
 ·have:(c==b)=false:=by simpa using fun e=>h e.symm
  have h': ¬c=b:=fun e=>h e.symm
  simp [h,h',this]
theorem O7 (c:UInt8): ∀l:List UInt8,Lib.splitK [c] 0 (Lib.count l [c]) l=CN c l∧(Lib.splitK [c] 0 (Lib.count l [c]) l).length=Lib.count l [c]+1
 | []=>by rw [Lib.count_miss (UZ c)];exact ⟨rfl,rfl⟩
 |b::l=>by
  obtain ⟨ih1,ih2⟩:=O7 c l
  have hx:=TT c b l
  by_cases h:b=c
  ·rw [if_pos h] at hx
   have hc:=Lib.count_hit (sub:=[c]) (i:=0) (by simp) hx
   simp only [Nat.zero_add,List.length_singleton,List.drop_succ_cons,List.drop_zero] at hc
   rw [hc,Nat.add_comm 1]
   have e:Lib.splitK [c] 0 (Lib.count l [c]+1) (b::l)=[]::Lib.splitK [c] 0 (Lib.count l [c]) l:=by
    conv=>lhs;unfold Lib.splitK
    rw [hx];simp
   rw [e,ih1]
   refine ⟨by simp [CN,h],?_⟩
   rw [←ih1];simp only [List.length_cons,ih2]
  ·rw [if_neg h] at hx
   by_cases hm:Lib.index l [c]= -1
   ·rw [if_pos hm] at hx
    rw [Lib.count_miss hx]
    rw [Lib.count_miss hm] at ih1
    refine ⟨?_,rfl⟩
    simp only [CN,if_neg h]
    rw [←ih1];rfl
   ·rw [if_neg hm] at hx
    obtain ⟨i,hi⟩: ∃i:Nat,Lib.index l [c]=i:=⟨(Lib.index l [c]).toNat,by have:=Lib.index_ge l [c];omega⟩
    rw [hi] at hx
    have hc:=Lib.count_hit (sub:=[c]) (i:=i+1) (by simp) (by rw [hx];rfl)
    have hc2:=Lib.count_hit (sub:=[c]) (i:=i) (by simp) hi
    simp only [List.length_singleton,List.drop_succ_cons] at hc hc2
    rw [hc2] at ih1 ih2
    rw [hc]
    have hn: ∀n,Lib.splitK [c] 0 (n+1) (b::l)=(b::l.take i)::Lib.splitK [c] 0 n (l.drop (i+1)):=by
     intro n
     conv=>lhs;unfold Lib.splitK
     rw [hx,if_neg (by simp only [beq_iff_eq];omega)]
     have:((i:Int)+1).toNat=i+1:=by omega
     simp [this]
    have hn2: ∀n,Lib.splitK [c] 0 (n+1) l=l.take i::Lib.splitK [c] 0 n (l.drop (i+1)):=by
     intro n
     conv=>lhs;unfold Lib.splitK
     rw [hi,if_neg (by simp only [beq_iff_eq];omega)]
     simp
    rw [Nat.add_comm 1] at ih1 ih2 ⊢
    rw [hn2] at ih1 ih2
    rw [hn]
    simp only [CN,if_neg h]
    rw [←ih1]
    refine ⟨rfl,?_⟩
    simpa using ih2
theorem Jj (c:UInt8): ∀(l p:List UInt8),p∈CN c l→p.length≤l.length
 | [],p,h=>by simp [CN] at h;simp [h]
 |b::l,p,h=>by
  simp only [CN] at h
  split at h
  ·rcases List.mem_cons.1 h with rfl|h
   ·simp
   ·have:=Jj c l p h;simp;omega
  ·split at h
   ·simp at h;simp [h]
   ·rename_i q r hq
    rcases List.mem_cons.1 h with rfl|h
    ·have:=Jj c l q (by rw [hq];simp);simp;omega
    ·have:=Jj c l p (by rw [hq];simp [h]);simp;omega
def H2 (l:List UInt8):ByteArray:=⟨l.toArray⟩
theorem QY (l:List UInt8):(H2 l).data.toList=l:=by simp [H2]
theorem LH (s:ByteArray):H2 s.data.toList=s:=rfl
theorem Rm {a b:ByteArray} (h:a.data.toList=b.data.toList):a=b:=by
 rw [←LH a,←LH b,h]
theorem Tm (c:UInt8) (s:ByteArray):Lib.splitB ⟨#[c]⟩ 0 (Lib.countB s ⟨#[c]⟩) s=(CN c s.data.toList).map H2∧(Lib.splitB ⟨#[c]⟩ 0 (Lib.countB s ⟨#[c]⟩) s).length=Lib.countB s ⟨#[c]⟩+1:=by
 have hd:=Lib.splitB_data ⟨#[c]⟩ 0 (Lib.countB s ⟨#[c]⟩) s
 obtain ⟨h1,h2⟩:=O7 c s.data.toList
 have e:Lib.splitB ⟨#[c]⟩ 0 (Lib.countB s ⟨#[c]⟩) s=(CN c s.data.toList).map H2:=by
  rw [←h1]
  have hd':(Lib.splitB ⟨#[c]⟩ 0 (Lib.countB s ⟨#[c]⟩) s).map (·.data.toList)=Lib.splitK [c] 0 (Lib.count s.data.toList [c]) s.data.toList:=hd
  rw [←hd',List.map_map]
  conv=>lhs;rw [←List.map_id (Lib.splitB ⟨#[c]⟩ 0 (Lib.countB s ⟨#[c]⟩) s)]
  rfl
 refine ⟨e,?_⟩
 rw [e,List.length_map,←h1]
 exact h2
theorem wrap_u8 {n:Nat} (h:n<256):IntKind.u8.wrap (n:Int)=(n:Int):=by
 show (if (false&&decide ((n:Int) % (256:Int)≥(128:Int)))=true then (n:Int) % (256:Int)-(256:Int) else (n:Int) % (256:Int))=(n:Int)
 simp only [Bool.false_and,Bool.false_eq_true,if_false]
 omega
def N3 (x:Nat):Bool:=decide (x<128)&&(X5 x||(x==46||x==45||x==47))
theorem index3 {x:Nat} (h:x<128):decide (0≤Lib.indexByte [46,45,47] (Int.toNat (x:Int)).toUInt8)=(x==46||x==45||x==47):=by
 rw [Int.toNat_natCast]
 have: ∀x:_root_.Fin 128,decide (0≤Lib.indexByte [46,45,47] (x.1).toUInt8)=(x.1==46||x.1==45||x.1==47):=by decide
 exact this ⟨x,h⟩
end
end Go.Lift
namespace Go.Lift
noncomputable section
open Go Go.RowKit
def HI (b:UInt8):Bool:=N3 b.toNat
def mayL (l:List UInt8):Bool:= !l.isEmpty&&decide (l.length≤16)&&l.all HI
def Ix (s:ByteArray):Bool:=mayL s.data.toList
theorem T8 {x:Nat} (h:128≤x):N3 x=false:=by
 unfold N3
 have: ¬x<128:=by omega
 simp [this]
theorem P8 (s:ByteArray): ∀(f pos:Nat),s.size≤pos+f→(0≤Lib.idxFuncFrom (fun r=> !N3 r) true s f pos↔(s.data.toList.drop pos).all HI=false)
 |0,pos,h=>by
  have:s.data.toList.drop pos=[]:=List.drop_eq_nil_of_le (by rw [Array.length_toList];exact h)
  rw [this]
  simp [Lib.idxFuncFrom]
 |f+1,pos,h=>by
  unfold Lib.idxFuncFrom
  by_cases hp:pos<s.size
  ·rw [if_pos hp]
   have hp':pos<s.data.toList.length:=by rw [Array.length_toList];exact hp
   have hg:s.data.toList.drop pos=(s[pos]'hp)::s.data.toList.drop (pos+1):=by
    rw [List.drop_eq_getElem_cons hp'];rfl
   rw [hg]
   simp only [List.all_cons]
   by_cases ha:(s[pos]'hp).toNat<128
   ·rw [decode_ascii s pos hp ha]
    simp only []
    have ih:=P8 s f (pos+1) (by omega)
    have hb:HI (s[pos]'hp)=N3 (s[pos]'hp).toNat:=rfl
    by_cases ho:N3 (s[pos]'hp).toNat=true
    ·rw [if_neg (by simp [ho]),ih,hb,ho];simp
    ·simp only [Bool.not_eq_true] at ho
     rw [if_pos (by simp [ho]),hb,ho];simp
   ·obtain ⟨h1,h2⟩:=decode_high s pos hp (by omega)
    have hb:HI (s[pos]'hp)=false:=T8 (by omega)
    rw [if_pos (by rw [T8 h1];rfl),hb];simp
  ·rw [if_neg hp]
   have:s.data.toList.drop pos=[]:=List.drop_eq_nil_of_le (by rw [Array.length_toList];have:s.data.size=s.size:=rfl;omega)
   rw [this];simp
theorem mayS_eq (s:ByteArray):Ix s=(!decide (s=⟨#[]⟩)&&decide ((s.size:Int)≤16)&& !decide (0≤Lib.idxFunc (fun r=> !N3 r) true s)):=by
 have h:=P8 s s.size 0 (by omega)
 rw [List.drop_zero] at h
 have hl:s.data.toList.length=s.size:=by rw [Array.length_toList];rfl
 unfold Ix mayL
 rw [hl]
 have e1:s.data.toList.isEmpty=decide (s=⟨#[]⟩):=by
  rw [Bool.eq_iff_iff,decide_eq_true_eq,List.isEmpty_iff]
  constructor
  ·intro e;exact Rm (by simpa using e)
  ·rintro rfl;rfl
 have e2:decide (s.size≤16)=decide ((s.size:Int)≤16):=by rw [decide_eq_decide];omega
 have e3:s.data.toList.all HI= !decide (0≤Lib.idxFunc (fun r=> !N3 r) true s):=by
  unfold Lib.idxFunc
  cases e:s.data.toList.all HI with
  |false=>rw [decide_eq_true (h.2 e)];rfl
  |true=>rw [decide_eq_false (fun q=>by rw [h.1 q] at e;cases e)];rfl
 rw [e1,e2,e3]
end
end Go.Lift
namespace Go.Lift
noncomputable section
open Go Go.RowKit
def LG (kept:List ByteArray) (p:ByteArray):Option (List ByteArray):=
 if p=⟨#[]⟩∨p=⟨#[46]⟩ then some kept else if p≠⟨#[46,46]⟩ then some (kept++[p]) else if kept=[] then none else some kept.dropLast
def Lh:List ByteArray→List ByteArray→Option (List ByteArray)
 | [],kept=>some kept
 |p::ps,kept=>(LG kept p).bind (Lh ps)
def SK (xs:List ByteArray):ByteArray:=⟨(Lib.join (xs.map (·.data.toList)) [47]).toArray⟩
def CM (s:ByteArray):ByteArray×Int:=
 if Ix s=false∨s.data.toList.head? =some 47 then (⟨#[]⟩,200) else
 match Lh ((CN 47 s.data.toList).map H2) [] with
 |some (k::ks)=>(SK (k::ks),0)
 |_=>(⟨#[]⟩,200)
theorem TP {ps:List ByteArray} {i:Nat} {p:ByteArray} (h:ps[i]? =some p) (kept:List ByteArray):Lh (ps.drop i) kept=(LG kept p).bind (Lh (ps.drop (i+1))):=by
 have hlt:=(List.getElem?_eq_some_iff.1 h).1
 have e:=(List.getElem?_eq_some_iff.1 h).2
 rw [List.drop_eq_getElem_cons hlt,e];rfl
theorem Nc (c:UInt8): ∀l:List UInt8,(CN c l).length≤l.length+1
 | []=>by simp [CN]
 |b::l=>by
  have:=Nc c l
  simp only [CN]
  split
  ·simp;omega
  ·split
   ·simp
   ·rename_i p r h;rw [h] at this;simp at this ⊢;omega
theorem J2 (xs:List ByteArray):Ab (xs.map AV.s)=true:=by
 rw [GU];simp [closed]
def KeptIs (T:TypeId) (x:AV) (h:A7) (kept:List ByteArray):Prop:=
 (x= .sl 1 true []∧kept=[]∧h=⟨0,[]⟩)∨ ∃junk:List ByteArray,x= .own 0 0 kept.length∧h=⟨1,[(0,some ⟨T,1,(kept++junk).map AV.s⟩)]⟩
end
end Go.Lift
namespace Go.Lift
noncomputable section
open Go Go.RowKit
theorem Ug (h:A7) (e k:Nat) (els:List AV) (hc:Ab els=true):h.add [⟨e,k,els⟩]=⟨h.next+1,(h.next,some ⟨e,k,els⟩)::h.objs⟩:=by
 have:Obj.ren (· +h.next) ⟨e,k,els⟩=⟨e,k,els⟩:=by simp only [Obj.ren,LA,hc,if_true]
 simp only [A7.add,IU,List.length_singleton,this]
theorem UD (n id off len:Nat):(AV.own id off len).ren (· +n)= .own (id+n) off len:=rfl
section
variable {P:Program} {W:World} {T:Ep} {n:Nat} {ops:Array Oper} {d:Tmp} {op:Op} {ty:TypeId} {pos:String} {af:Array Edge} {r:List Oper} {env:C7} {h:A7} {Q:C7→A7→Prop}
theorem A4.sr {g:FuncId} {vs:List AV} {e k len:Nat} {els:List AV} (hc:callee T (ev env) ⟨some d,op,ty,pos,af,none⟩=some (g,vs)) (hcl:Ab vs=true) (hp:Ar P W g vs (.own 0 0 len) [⟨e,k,els⟩]) (he:Ab els=true) (hd:d<n)
  (kk:A4 P W T n ops r ((d,.own h.next 0 len)::env) ⟨h.next+1,(h.next,some ⟨e,k,els⟩)::h.objs⟩ Q):A4 P W T n ops (⟨some d,op,ty,pos,af,none⟩::r) env h Q:=
 A4.sc hc hcl hp hd (by rw [Ug _ _ _ _ he,UD,Nat.zero_add];exact kk)
theorem Sd {g:FuncId} {vs ss:List AV} {e k len:Nat} {els:List AV} (hc:callee T (ev env) ⟨some d,op,ty,pos,af,none⟩=some (g,vs)) (hs:mapC (BU [] h 8) vs=some ss) (hp:Ar P W g ss (.own 0 0 len) [⟨e,k,els⟩]) (he:Ab els=true)
  (hF:els.all (fun y=>y.cells.all flat)=true) (hd:d<n)
  (kk:A4 P W T n ops r ((d,.own h.next 0 len)::env) ⟨h.next+1,(h.next,some ⟨e,k,els⟩)::h.objs⟩ Q):A4 P W T n ops (⟨some d,op,ty,pos,af,none⟩::r) env h Q:=
 A4.sf hc hs hp rfl (by simpa using hF) hd (by rw [Ug _ _ _ _ he,UD,Nat.zero_add];exact kk)
end
theorem TN {keep:List Nat} {h:A7} {d id off len e:Nat} {xs:List ByteArray} (hk:FR keep id=none) (hn:keep.contains id=false) (hg:h.get id=some ⟨e,1,xs.map .s⟩) (hl:off+len≤xs.length) (hL:len≤Gb):
  C3 keep h (d+1) (.own id off len)=some (.sl 1 false (((xs.drop off).take len).map .s)):=by
 simp only [C3,hk,BU,hn,hg]
 have:((xs.map AV.s).drop off).take len=((xs.drop off).take len).map AV.s:=by rw [←List.map_drop,←List.map_take]
 rw [if_neg (by simp),if_pos ⟨by rw [List.length_map];exact hl,hL⟩,this]
 simp only [mapC,J2,if_true,Option.map_some]
theorem O6 {h:A7} {d id off len e:Nat} {xs:List ByteArray} (hg:h.get id=some ⟨e,1,xs.map .s⟩) (hl:off+len≤xs.length) (hL:len≤Gb):
  BU [] h (d+1) (.own id off len)=some (.sl 1 false (((xs.drop off).take len).map .s)):=by
 simp only [BU,hg]
 have:((xs.map AV.s).drop off).take len=((xs.drop off).take len).map AV.s:=by rw [←List.map_drop,←List.map_take]
 rw [if_neg (by simp),if_pos ⟨by rw [List.length_map];exact hl,hL⟩,this]
 simp only [mapC,J2,if_true,Option.map_some]
theorem finO_s {keep:List Nat} {h:A7} {d e k:Nat} {xs:List ByteArray}:Jo keep h d ⟨e,k,xs.map .s⟩=some ⟨e,k,xs.map .s⟩:=by
 simp only [Jo,mapC,J2,if_true,Option.map_some]
theorem Ju {keep:List Nat} {h h':A7} {d id q e k:Nat} {xs:List ByteArray} (hg:h.get id=some ⟨e,k,xs.map .s⟩) (hg':h'.get q=some ⟨e,k,xs.map .s⟩):(h.get id).bind (Jo keep h d)=h'.get q:=by
 rw [hg,hg'];exact finO_s
theorem MP: ∀(r:List (List UInt8)),(∀x∈r,x.length≤16)→(Lib.joinTail [47] r).length≤17*r.length
 | [],_=>by simp [Lib.joinTail]
 |x::r,h=>by
  have ih:=MP r fun y hy=>h y (by simp [hy])
  have hx:=h x (by simp)
  simp only [Lib.joinTail,List.map_cons,List.flatten_cons,List.length_append,List.length_cons] at ih ⊢
  simp only [List.length_nil]
  omega
theorem Ws (xs:List (List UInt8)) (h: ∀x∈xs,x.length≤16):(Lib.join xs [47]).length≤17*xs.length:=by
 cases xs with
 |nil=>simp [Lib.join_nil]
 |cons x r=>
  rw [Lib.join_cons]
  have:=MP r fun y hy=>h y (by simp [hy])
  have:=h x (by simp)
  simp only [List.length_append,List.length_cons]
  omega
theorem Vw {h:A7} {e n:Nat} {xs:List ByteArray} {sep:ByteArray} (hg:h.get 0=some ⟨e,1,xs.map .s⟩) (hl:n≤xs.length) (hL:n≤Gb):
  mapC (BU [] h 8) [.own 0 0 n,.s sep]=some [.sl 1 false ((xs.take n).map .s),.s sep]:=by
 have h1:=O6 (d:=7) (off:=0) hg (by omega) hL
 rw [List.drop_zero] at h1
 simp only [mapC,Ab,closed,Bool.false_and,Bool.false_eq_true,if_false,Hd,h1]
 rfl
theorem VE {n:Nat} (h:0<n) (hn:n≤281474976710656):IntKind.i64.wrap ((n:Int)-1)=((n-1:Nat):Int):=by
 rw [DY (by omega) (by omega)];omega
end
end Go.Lift
namespace Go.Lift
noncomputable section
open Go Go.RowKit
def TU (s:ByteArray):Bool:=decide ((CM s).2=0)&&decide ((CM s).1=s)
theorem Ce (s:Strs):closed s.av=true:=rfl
theorem Sy (p:Fd):closed p.av=true:=rfl
theorem H8 (g:BW):closed g.av=true:=rfl
def KO {α:Type} (p:α→Bool) (xs:List α):Int:=match xs.findIdx? p with
 |some i=>(i:Int)
 |none=> -1
theorem idxS_at {α:Type} {p:α→Bool} {xs:List α} {i:Nat} {x:α} (hx:xs[i]? =some x) (hp:(xs.take i).all (fun x=> !p x)=true) (h:p x=true):KO p xs=i:=by
 obtain ⟨hlt,rfl⟩:=List.getElem?_eq_some_iff.1 hx
 have:xs.findIdx? p=some i:=by
  rw [List.findIdx?_eq_some_iff_getElem]
  refine ⟨hlt,h,fun j hj=> ?_⟩
  have:=List.all_eq_true.1 hp xs[j] (by
   rw [List.mem_take_iff_getElem]
   exact ⟨j,by omega,rfl⟩)
  simpa using this
 unfold KO;rw [this]
theorem UY {α:Type} {p:α→Bool} {xs:List α} (hp:xs.all (fun x=> !p x)=true):KO p xs= -1:=by
 have:xs.findIdx? p=none:=by
  rw [List.findIdx?_eq_none_iff]
  intro x hx
  simpa using List.all_eq_true.1 hp x hx
 unfold KO;rw [this]
end
end Go.Lift
namespace Go.Lift
noncomputable section
open Go Go.RowKit
def BW.pt (g:BW):AV:= .pt [.sl 7 g.enl (g.edges.map Ea.av),.sl 2 g.pnl (g.pools.map Fd.av),g.defaults.av]
def Iy (g:BW) (name:ByteArray):Int:=KO (fun p=>decide (p.name=name)) g.pools
end
end Go.Lift
namespace Go.Lift
noncomputable section
open Go Go.RowKit
def GQ (b:UInt8):Bool:=decide (32≤b.toNat)&&decide (b.toNat≤126)
def NL (s:ByteArray) (most:Int):Bool:=s.data.toList.all GQ&&decide ((s.size:Int)≤most)
def H9 (s:ByteArray):Bool:= !decide (s=⟨#[]⟩)&&NL s 256
def Mj (ss:Strs):Bool:=ss.xs.all TU&&decide ((ss.xs.length:Int)≤8)
def HB (e:Ea):Bool:=[e.outs,e.ins,e.implicit,e.order].all Mj&&(decide ((e.outs.xs.length:Int)>0)&&H9 e.command&&(decide (e.pool=⟨#[]⟩)||Ix e.pool))
def HH {α:Type} (f:Nat→α→Bool):Nat→List α→Bool
 |_,[]=>true
 |i,x::xs=>f i x&&HH f (i+1) xs
theorem Sw {α:Type} {f:Nat→α→Bool} {xs:List α} {i:Nat} {x:α} (h:xs[i]? =some x):HH f i (xs.drop i)=(f i x&&HH f (i+1) (xs.drop (i+1))):=by
 have hlt:=(List.getElem?_eq_some_iff.1 h).1
 have e:=(List.getElem?_eq_some_iff.1 h).2
 rw [List.drop_eq_getElem_cons hlt,e];rfl
def Mx (g:BW) (k:Nat) (p:Fd):Bool:=Ix p.name&& !decide (p.depth<1)&& !decide (p.depth>8)&&decide (Iy g p.name=k)
def K6 (g:BW):Bool:=HH (Mx g) 0 g.pools&&decide ((g.pools.length:Int)≤4)
def GL (g:BW) (e:Ea):Bool:=HB e&&(decide (e.pool=⟨#[]⟩)|| !decide (Iy g e.pool<0))
def NG (g:BW):Bool:=g.edges.all (GL g)&&(decide ((g.edges.length:Int)≤16)&&K6 g&&Mj g.defaults)
theorem OV {s:ByteArray} {i:Nat} (h:i<s.size): ∃b,s.data[i]? =some b∧s.data.toList[i]? =some b:=by
 have h':i<s.data.size:=h
 exact ⟨s.data[i],Array.getElem?_eq_getElem h',by simp [h']⟩
theorem Gv (s:ByteArray):s.data.toList.length=s.size:=by rw [Array.length_toList];rfl
theorem KJ (g:BW):closed g.pt=true:=rfl
def Ea.pt (e:Ea):AV:= .pt [e.outs.av,e.ins.av,e.implicit.av,e.order.av,.s e.command,.b e.deps,.s e.pool]
theorem KI (e:Ea):closed e.pt=true:=rfl
theorem Rq (L:List Strs):Ab (L.map Strs.av)=true:=by
 rw [GU];simp [closed,Ce]
theorem Q1 {keep:List Nat} {h:A7} {d id off len e:Nat} {xs:List Strs} (hk:FR keep id=none) (hn:keep.contains id=false) (hg:h.get id=some ⟨e,1,xs.map Strs.av⟩) (hl:off+len≤xs.length) (hL:len≤Gb):
  C3 keep h (d+1) (.own id off len)=some (.sl 1 false (((xs.drop off).take len).map Strs.av)):=by
 simp only [C3,hk,BU,hn,hg]
 have:((xs.map Strs.av).drop off).take len=((xs.drop off).take len).map Strs.av:=by rw [←List.map_drop,←List.map_take]
 rw [if_neg (by simp),if_pos ⟨by rw [List.length_map];exact hl,hL⟩,this]
 simp only [mapC,Rq,if_true,Option.map_some]
end
end Go.Lift
namespace Go.Lift
noncomputable section
open Go Go.RowKit
theorem P3 {keep:List Nat} {h:A7} {d:Nat} {ob:Obj} (hc:Ab ob.els=true):Jo keep h d ob=some ob:=by
 simp only [Jo,mapC,hc,if_true,Option.map_some]
theorem Oz {keep:List Nat} {h h':A7} {d id q:Nat} {ob:Obj} (hg:h.get id=some ob) (hg':h'.get q=some ob) (hc:Ab ob.els=true):(h.get id).bind (Jo keep h d)=h'.get q:=by
 rw [hg,hg'];exact P3 hc
theorem UF {h:A7} {d id e:Nat} {g:BW} (hg:h.get id=some ⟨e,3,[g.av]⟩):BU [] h (d+1) (.loc id 0 0)=some g.pt:=by
 simp only [BU,hg]
 rfl
theorem WX {h:A7} {id e:Nat} {g:BW} (hg:h.get id=some ⟨e,3,[g.av]⟩):mapC (BU [] h 8) [.loc id 0 0]=some [g.pt]:=by
 simp only [mapC,Ab,closed,Bool.false_and,Bool.false_eq_true,if_false,Hd,UF hg]
theorem snap_gs {h:A7} {id e:Nat} {g:BW} {s:ByteArray} (hg:h.get id=some ⟨e,3,[g.av]⟩):mapC (BU [] h 8) [.loc id 0 0,.s s]=some [g.pt,.s s]:=by
 simp only [mapC,Ab,closed,Bool.false_and,Bool.false_eq_true,if_false,Hd,UF hg]
 rfl
end
end Go.Lift
namespace Go.Lift
noncomputable section
open Go Go.RowKit
def rowR (xs:List ByteArray):AV:=if xs=[] then .sl 1 true [] else .own 0 0 xs.length
def rowS (T:TypeId) (xs:List ByteArray):List Obj:=if xs=[] then [] else [⟨T,1,xs.map .s⟩]
def RowIs (T:TypeId) (x:AV) (h:A7) (kept:List ByteArray):Prop:=
 (x= .sl 1 true []∧kept=[]∧h=⟨0,[]⟩)∨(kept≠ []∧x= .own 0 0 kept.length∧h=⟨1,[(0,some ⟨T,1,kept.map AV.s⟩)]⟩)
theorem Th:rowR []= .sl 1 true []:=rfl
theorem Tj (T:TypeId):rowS T []=[]:=rfl
theorem Ti {xs:List ByteArray} (h:xs≠ []):rowR xs= .own 0 0 xs.length:=if_neg h
theorem Tk {T:TypeId} {xs:List ByteArray} (h:xs≠ []):rowS T xs=[⟨T,1,xs.map .s⟩]:=if_neg h
def EM (es:List Ea):List ByteArray:=es.flatMap fun e=>e.outs.xs
theorem Ta {es:List Ea} {i:Nat} {e:Ea} (h:es[i]? =some e):EM (es.take (i+1))=EM (es.take i)++e.outs.xs:=by
 unfold EM
 rw [List.take_add_one,h]
 simp
theorem U4 {es:List Ea} (i:Nat):(EM (es.take i)).length≤(EM es).length:=by
 conv=>rhs;rw [←List.take_append_drop i es]
 unfold EM
 rw [List.flatMap_append,List.length_append];omega
theorem TR (ob:Obj):(S0 [ob]).get 0=some ob:=by rw [Fh];rfl
end
end Go.Lift
namespace Go.Lift
noncomputable section
open Go Go.RowKit
theorem Vy {w0 w:World} {μ:Mu} {h:A7} (s:FM w0 μ w h) (os:Array Go.Obj):Mh w0 μ w h μ (Sort.grow w os) h:=by
 have hold: ∀g,g<w.heap.size→(Sort.grow w os).heap[g]? =w.heap[g]? :=fun g hg=>by
  show (w.heap++os)[g]? =_
  rw [Array.getElem?_append_left hg]
 have hsz:w.heap.size≤(Sort.grow w os).heap.size:=by
  show _≤(w.heap++os).size
  rw [Array.size_append];omega
 have e:ID w μ (Sort.grow w os) μ:=ID.of (fun g hg _=>hold g hg) (fun _ _ h=>Or.inl h) (fun g hg=>Or.inl hg)
 refine ⟨⟨⟨s.below.os,s.below.tape,s.below.output,Nat.le_trans s.below.size hsz,fun k hk=> ?_⟩,fun id t ht=> ?_,s.inj,s.live,s.ylt,fun id o t ho ht=> ?_⟩,e,Nat.le_refl _,fun id p q=>absurd p q,rfl⟩
 ·rw [hold k (by have:=s.below.size;omega)];exact s.below.block k hk
 ·have:=s.lt id t ht;exact ⟨this.1,by omega⟩
 ·exact (s.blk id o t ho ht).mono e (hold _ (s.lt id t ht).2)
theorem OR {xs:List ByteArray} {j:Nat} {x:AV} (h:(xs.map AV.s)[j]? =some x): ∃b,xs[j]? =some b∧x= .s b:=by
 rw [List.getElem?_map] at h
 obtain ⟨b,hb,rfl⟩:=Option.map_eq_some_iff.1 h
 exact ⟨b,hb,rfl⟩
theorem Tn {w0 w:World} {μ:Mu} {h:A7} (s:FM w0 μ w h) {id:Nat} {T:TypeId} {xs:List ByteArray} (hg:h.get id=some ⟨T,1,xs.map .s⟩) (hne:xs≠ []) {v:Value} (hv:VR w μ (.own id 0 xs.length) v):
  ∃b c,v= .slice (some ⟨b,0,none⟩) xs.length c∧xs.length≤c∧c≤maxLen∧b<w.heap.size∧Sort.Holds Go.Proofs.encStr w b 0 (xs.map (·.data.toList)).toArray∧(∀x∈xs,x.size≤Gb)∧
   (∃sl,μ id=some (some sl)∧sl.g=b∧sl.cap=c∧sl.k=1)∧
   ∀(ys:List (List UInt8)) (k:Nat),ys.length=xs.length→(∀y∈ys,y.length≤Gb)→
    Mh w0 μ w h μ (Sort.putRow Go.Proofs.encStr (Sort.ahead w k) b 0 ys.toArray) (h.put id (some ⟨T,1,ys.map (fun y=>AV.s (H2 y))⟩)):=by
 have hpos:0<xs.length:=List.length_pos_iff.2 hne
 have hm:μ id≠none:=by intro e;simp only [VR,e] at hv
 cases hmm:μ id with
 |none=>exact absurd hmm hm
 |some t=>cases t with
  |none=>exact absurd hmm (s.live id _ hg)
  |some sl=>
   have B:=s.blk id _ sl hg hmm
   simp only [VR,hmm] at hv
   obtain ⟨a,c,rfl,h2,h3,h4,h5⟩:=hv
   have ha:=h5 (by omega)
   have hk1:sl.k=1:=B.k
   rw [Nat.zero_mul] at ha
   obtain ⟨cs,c1,c2,c3⟩:=B.blk
   simp only [Nat.mul_one] at c2 c3
   have hget: ∀(j:Nat) (x:ByteArray),xs[j]? =some x→cs[j]? =some (Value.string x)∧x.size≤Gb:=by
    intro j x hx
    obtain ⟨q1,q2⟩:=c3 j (.s x) (by rw [List.getElem?_map,hx];rfl)
    obtain ⟨u,u1,u2,_⟩:=q2 0 (.s x) rfl
    simp only [VR,CR] at u2
    rw [Nat.add_zero] at u1
    rw [u1,u2.1];exact ⟨rfl,u2.2⟩
   have hlt:=s.lt id sl hmm
   refine ⟨sl.g,c,by rw [ha],h2,by have:=B.cap;omega,hlt.2,fun j hj=> ?_,fun x hx=> ?_,⟨sl,rfl,rfl,by omega,hk1⟩,fun ys k hy hyl=> ?_⟩
   ·simp only [List.size_toArray,List.length_map] at hj
    obtain ⟨x,hx⟩: ∃x,xs[j]? =some x:=⟨xs[j],List.getElem?_eq_getElem hj⟩
    have hc:=(hget j x hx).1
    have hd:(xs.map (·.data.toList)).toArray[j]! =x.data.toList:=by
     rw [getElem!_pos _ _ (by simpa using hj)]
     have:=(List.getElem?_eq_some_iff.1 hx).2
     simp [this]
    refine ⟨?_,?_⟩
    ·simp only [World.cell?,c1,Option.isSome_none,Bool.false_eq_true,if_false,Nat.zero_add,hc,hd]
    ·simp only [World.frozen?,c1];simp
   ·obtain ⟨j,hj⟩:=List.getElem?_of_mem hx
    exact (hget j x hj).2
   ·have hcs:xs.length≤cs.size:=by have:=B.len;simp only [List.length_map] at this;omega
    let cs':=Sort.putCells Go.Proofs.encStr 0 ys.toArray cs
    have hsz:cs'.size=cs.size:=by simp [cs',Sort.putCells]
    have hb:(Sort.putRow Go.Proofs.encStr (Sort.ahead w k) sl.g 0 ys.toArray).heap[sl.g]? =some (.cells cs' T (0,0)):=by
     show (w.heap.modify sl.g _)[sl.g]? =_
     rw [Array.getElem?_modify,if_pos rfl,c1];rfl
    have ht:Turned w (Sort.putRow Go.Proofs.encStr (Sort.ahead w k) sl.g 0 ys.toArray) sl.g:=
     ⟨rfl,rfl,rfl,by simp [Sort.putRow,Sort.mapBlock,Sort.ahead],fun q hq=>by
       show (w.heap.modify sl.g _)[q]? =_
       rw [Array.getElem?_modify,if_neg (fun e=>hq e.symm)]⟩
    refine PH s hg hmm ht rfl rfl (by simp only [List.length_map,hy];have:=B.len;simpa using this) hb (by rw [hsz,c2,Nat.mul_one]) fun j x hx=> ?_
    rw [List.getElem?_map] at hx
    obtain ⟨y,hy',rfl⟩:=Option.map_eq_some_iff.1 hx
    have hj:j<ys.length:=(List.getElem?_eq_some_iff.1 hy').1
    have hyj:=(List.getElem?_eq_some_iff.1 hy').2
    refine ⟨rfl,fun i z hz=> ?_⟩
    cases i with
    |succ i=>simp [AV.cells] at hz
    |zero=>
     simp [AV.cells] at hz
     subst hz
     refine ⟨Go.Proofs.encStr y,?_,?_,rfl⟩
     ·simp only [Nat.mul_one,Nat.add_zero]
      show (Array.mapIdx _ cs)[j]? =_
      rw [Array.getElem?_mapIdx]
      have:cs[j]? =some cs[j]:=Array.getElem?_eq_getElem (by omega)
      rw [this]
      simp only [Option.map_some,Nat.zero_le,true_and,Nat.zero_add,List.size_toArray,hj,if_true,Nat.sub_zero]
      rw [getElem!_pos _ _ (by simpa using hj)]
      simp [hyj]
     ·simp only [VR,CR]
      refine ⟨rfl,?_⟩
      have:=hyl y (List.mem_of_getElem? hy')
      show y.toArray.size≤Gb
      simpa using this
end
end Go.Lift
namespace Go.Lift
noncomputable section
open Go Go.RowKit
def K1:List (List UInt8)→Bool
 | []=>false
 |x::xs=>xs.contains x||K1 xs
theorem Mn: ∀xs:List (List UInt8),K1 xs=true↔ ¬xs.Nodup
 | []=>by simp [K1]
 |x::xs=>by
  simp only [K1,Bool.or_eq_true,List.contains_iff_mem,List.nodup_cons,Mn xs]
  by_cases h:x∈xs
  ·simp [h]
  ·simp [h]
theorem TF (zs:List (List UInt8)):(Lib.compact zs).length≤zs.length:=by
 unfold Lib.compact Lib.compactUpTo
 rw [List.length_map]
 exact Nat.le_trans (List.length_filter_le _ _) (by simp)
theorem SB (zs:List (List UInt8)): ∀y∈Lib.compact zs,y∈zs:=by
 intro y hy
 unfold Lib.compact Lib.compactUpTo at hy
 obtain ⟨j,hj,rfl⟩:=List.mem_map.1 hy
 have hlt:j<zs.length:=List.mem_range.1 (List.mem_filter.1 hj).1
 rw [getElem!_pos _ _ (by simpa using hlt)]
 simp
theorem TG (zs:List (List UInt8)):(Lib.compact zs).length<zs.length↔ ∃j,0<j∧ ∃h:j<zs.length,zs[j]=zs[j-1]:=by
 unfold Lib.compact Lib.compactUpTo
 rw [List.length_map]
 conv=>lhs;rhs;rw [←List.length_range (n:=zs.length)]
 rw [List.length_filter_lt_length_iff_exists]
 constructor
 ·rintro ⟨j,hj,hk⟩
  have hlt:=List.mem_range.1 hj
  unfold Lib.keeps at hk
  simp only [decide_eq_true_eq,not_or,Decidable.not_not] at hk
  obtain ⟨h0,h1⟩:=hk
  refine ⟨j,by omega,hlt,?_⟩
  rw [getElem!_pos _ _ (by simpa using hlt),getElem!_pos _ _ (by simp;omega)] at h1
  simpa using h1
 ·rintro ⟨j,h0,hlt,h1⟩
  refine ⟨j,List.mem_range.2 hlt,?_⟩
  unfold Lib.keeps
  simp only [decide_eq_true_eq,not_or,Decidable.not_not]
  refine ⟨by omega,?_⟩
  rw [getElem!_pos _ _ (by simpa using hlt),getElem!_pos _ _ (by simp;omega)]
  simpa using h1
def KC (zs:List (List UInt8)):List (List UInt8):=zs.mergeSort fun x y=>decide (x≤y)
theorem WZ (zs:List (List UInt8)):decide ((Lib.compact (KC zs)).length<zs.length)=K1 zs:=by
 have hp:(KC zs).Perm zs:=List.mergeSort_perm _ _
 have hs:(KC zs).Pairwise fun a b=>a≤b:=by
  have:=List.pairwise_mergeSort (le:=fun x y:List UInt8=>decide (x≤y)) (fun a b c h1 h2=>by
   simp only [decide_eq_true_eq] at h1 h2 ⊢;exact List.le_trans h1 h2) (fun a b=>by
   simp only [Bool.or_eq_true,decide_eq_true_eq];exact List.le_total a b) zs
  unfold KC
  simpa using this
 have hl:(KC zs).length=zs.length:=hp.length_eq
 rw [Bool.eq_iff_iff,decide_eq_true_eq,Mn,←hp.nodup_iff,←hl,TG]
 generalize KC zs=ys at hs
 rw [List.pairwise_iff_getElem] at hs
 rw [List.nodup_iff_pairwise_ne,List.pairwise_iff_getElem]
 constructor
 ·rintro ⟨j,h0,hlt,he⟩ hn
  exact hn (j-1) j (by omega) hlt (by omega) he.symm
 ·intro hn
  simp only [Classical.not_forall,Decidable.not_not] at hn
  obtain ⟨i,j,hi,hj,hij,he⟩:=hn
  refine ⟨j,by omega,hj,?_⟩
  have hle:=hs (j-1) j (by omega) hj (by omega)
  rcases Nat.lt_or_ge i (j-1) with h|h
  ·have h1:=hs i (j-1) hi (by omega) h
   rw [he] at h1
   exact List.le_antisymm h1 hle
  ·have:j-1=i:=by omega
   simp only [this];exact he.symm
def Ld (g:BW):Int:=if NG g=false then 900 else if K1 ((EM g.edges).map fun x=>x.data.toList) then 901 else 0
theorem UB: ∀es:List Ea,(∀e∈es,e.outs.xs.length≤8)→(EM es).length≤8*es.length
 | [],_=>by simp [EM]
 |e::es,h=>by
  have h1:=h e (by simp)
  have ih:=UB es fun x hx=>h x (by simp [hx])
  unfold EM at ih ⊢
  simp only [List.flatMap_cons,List.length_append,List.length_cons];omega
theorem Vm {g:BW} (h:NG g=true):(EM g.edges).length≤128:=by
 unfold NG at h
 simp only [Bool.and_eq_true,decide_eq_true_eq] at h
 obtain ⟨h1,⟨h2,_⟩,_⟩:=h
 have:=UB g.edges fun e he=>by
  have:=List.all_eq_true.1 h1 e he
  unfold GL HB at this
  simp only [Bool.and_eq_true,List.all_cons] at this
  have h3:=this.1.1.1
  unfold Mj at h3
  simp only [Bool.and_eq_true,decide_eq_true_eq] at h3
  omega
 omega
theorem Qe (zs:List (List UInt8)):(zs.map H2).map (fun x:ByteArray=>x.data.toList)=zs:=by
 rw [List.map_map]
 conv=>rhs;rw [←List.map_id zs]
 exact List.map_congr_left fun x _=>QY x
theorem WY {h:A7} {id e n:Nat} {xs:List ByteArray} (hg:h.get id=some ⟨e,1,xs.map .s⟩) (hl:n=xs.length) (hL:n≤Gb):
  mapC (BU [] h 8) [.own id 0 n]=some [.sl 1 false (xs.map .s)]:=by
 have h1:=O6 (d:=7) (off:=0) hg (by omega) hL
 rw [List.drop_zero,hl,List.take_length] at h1
 rw [hl]
 simp only [mapC,Ab,closed,Bool.false_and,Bool.false_eq_true,if_false,Hd,h1]
theorem Vx (zs:List (List UInt8)):(KC zs).length=zs.length:=(List.mergeSort_perm _ _).length_eq
end
end Go.Lift
namespace Go.Lift
noncomputable section
open Go Go.RowKit
def PF (n:Int):Bool:=decide (97≤n)&&decide (n≤122)||decide (48≤n)&&decide (n≤57)
theorem UL (b:UInt8):HI b=(PF b.toNat||decide ((b.toNat:Int)=46)||decide ((b.toNat:Int)=95)||decide ((b.toNat:Int)=45)||decide ((b.toNat:Int)=47)):=by
 have hb:b.toNat<256:=b.toNat_lt
 unfold HI N3 X5 PF
 generalize b.toNat=n at hb
 rw [Bool.eq_iff_iff]
 simp only [Bool.and_eq_true,Bool.or_eq_true,decide_eq_true_eq,beq_iff_eq]
 omega
theorem T3 (s:ByteArray):Ix s=(s.data.toList.all HI&&(decide ((s.size:Int)≥1)&&decide ((s.size:Int)≤16))):=by
 unfold Ix mayL
 rw [Gv]
 have e1:(!s.data.toList.isEmpty)=decide ((s.size:Int)≥1):=by
  rw [Bool.eq_iff_iff,decide_eq_true_eq,Bool.not_eq_true',←Gv]
  cases s.data.toList with
  |nil=>simp
  |cons x l=>simp;omega
 have e2:decide (s.size≤16)=decide ((s.size:Int)≤16):=by rw [decide_eq_decide];omega
 rw [e1,e2]
 cases s.data.toList.all HI<;>simp
end
end Go.Lift
namespace Go.Lift
noncomputable section
open Go Go.RowKit
end
end Go.Lift
namespace Go.Lift
noncomputable section
open Go Go.RowKit
def bs (l:List UInt8):ByteArray:=⟨l.toArray⟩
end
end Go.Lift
namespace Go.Lift
noncomputable section
open Go Go.RowKit
section
variable {P:Program} {W:World} {T:Ep} {n:Nat} {ops:Array Oper} {d:Tmp} {op:Op} {ty:TypeId} {pos:String} {af:Array Edge} {r:List Oper} {env:C7} {h:A7} {Q:C7→A7→Prop}
end
end
end Go.Lift
namespace Go.Lift
noncomputable section
open Go Go.RowKit
end
end Go.Lift
namespace Go.Lift
noncomputable section
open Go Go.RowKit
end
end Go.Lift
namespace Go.Lift
noncomputable section
open Go Go.RowKit
end
end Go.Lift
namespace Go.Lift
noncomputable section
open Go Go.RowKit
def QU (T:Ep) (env:C7) (h:A7):ResultVar→Option AV
 | .tmp t=>some (env.get t)
 | .cell a t=>match AJ T t with
   |some i=>(Lr h (env.get a)).bind (NJ i.desc.agg i.size)
   |none=>none
def Pz (T:Ep) (env:C7) (h:A7) (rs:List ResultVar):Option AV:=match Hd (QU T env h) rs with
 |some [x]=>some x
 |some xs=>some (.tup xs)
 |none=>none
section
variable {P:Program} {T:Ep} (hT:Dh P T=true) {n:Nat} {B:HD} {w0 w:World} {μ:Mu} {env:C7} {h:A7} {a:Act}
include hT
theorem WT (R:ER n B w0 μ env h a w) {r:ResultVar} {x:AV} (hr:QU T env h r=some x):
  ∃v,((match r with| .tmp t=>pure (a.tmps.getD t undef)| .cell p t=>do loadVar t (←asAddr (a.tmps.getD p undef)):Sem Value)).run P w= .ok v w∧VR w μ x v:=by
 cases r with
 |tmp t=>simp only [QU,Option.some.injEq] at hr;subst hr;exact ⟨_,rfl,R.env t⟩
 |cell p t=>
  simp only [QU] at hr
  split at hr
  ·rename_i i hi
   obtain ⟨cs,hm,hp⟩:=Option.bind_eq_some_iff.1 hr
   obtain ⟨u,hu,hvu⟩:=Uv hT R.sim hi hm hp (R.env p)
   obtain ⟨ad,ha,_⟩:=WA hT R.sim hm (R.env p)
   refine ⟨u,?_,hvu⟩
   rw [ha] at hu
   simp only [Instr.loadAt,Instr.sureAddr] at hu
   simp only [Sem.run_bind,ha,asAddr,Result.andThen_ok] at hu ⊢
   exact hu
  ·cases hr
theorem NP (R:ER n B w0 μ env h a w) {fn:Func} {x:AV} (hr:Pz T env h fn.results.toList=some x):
  ∃v,(results fn a.tmps).run P w= .ok v w∧VR w μ x v:=by
 have key: ∀(rs:List ResultVar) (xs:List AV),Hd (QU T env h) rs=some xs→ ∃vs,(rs.mapM (fun r=>(match r with| .tmp t=>pure (a.tmps.getD t undef)| .cell p t=>do loadVar t (←asAddr (a.tmps.getD p undef)):Sem Value))).run P w= .ok vs w∧D2 w μ xs vs:=by
  intro rs
  induction rs with
  |nil=>intro xs h;simp [Hd] at h;subst h;exact ⟨[],by simp,by simp [D2]⟩
  |cons r rs ih=>
   intro xs h
   simp only [Hd] at h
   split at h
   ·rename_i y ys h1 h2
    cases h
    obtain ⟨v,e1,e2⟩:=WT hT R h1
    obtain ⟨vs,e3,e4⟩:=ih _ h2
    refine ⟨v::vs,?_,by simp only [D2];exact ⟨v,vs,rfl,e2,e4⟩⟩
    simp only [List.mapM_cons,Sem.run_bind,e1,e3,Result.andThen_ok,Sem.run_pure]
   ·cases h
 unfold Pz at hr
 have hfn:fn.results=(fn.results.toList).toArray:=by simp
 have fin: ∀(xs:List AV) (vs:List Value),D2 w μ xs vs→(match (some xs:Option (List AV)) with
   |some [x]=>some x
   |some xs=>some (AV.tup xs)
   |none=>none)=some x→VR w μ x (if h:vs.toArray.size=1 then vs.toArray[0] else .tuple vs.toArray):=by
  intro xs vs hv hx
  cases xs with
  |nil=>simp only [D2] at hv;subst hv;cases hx;simp [VR,D2]
  |cons y ys=>
   simp only [D2] at hv
   obtain ⟨v,r,rfl,h1,h2⟩:=hv
   cases ys with
   |nil=>simp only [D2] at h2;subst h2;cases hx;simpa using h1
   |cons z zs=>
    cases hx
    simp only [D2] at h2
    obtain ⟨v2,r2,rfl,h3,h4⟩:=h2
    simp only [VR]
    refine ⟨_,by simp;rfl,?_⟩
    simp only [D2]
    exact ⟨_,_,rfl,h1,_,_,rfl,h3,h4⟩
 cases e:Hd (QU T env h) fn.results.toList with
 |none=>rw [e] at hr;cases hr
 |some xs=>
  rw [e] at hr
  obtain ⟨vs,h1,h2⟩:=key _ _ e
  refine ⟨if h:vs.toArray.size=1 then vs.toArray[0] else .tuple vs.toArray,?_,fin xs vs h2 hr⟩
  unfold results
  rw [hfn]
  simp only [List.mapM_toArray,Sem.run_bind,map_eq_pure_bind,Sem.run_pure]
  erw [h1]
  simp only [Result.andThen_ok,Sem.run_pure]
end
def FinR (T:Ep) (rs:List ResultVar) (keep:List Nat) (r:AV) (S:List Obj):EL:=fun e env h=>
 (e= .normal∨e= .ret)∧keep.Nodup∧S.length=keep.length∧A3 keep h (S0 S) 0 keep∧ ∃r0,Pz T env h rs=some r0∧C3 keep h 9 r0=some r
theorem O3 {P:Program} {W:World} {T:Ep} (hT:Dh P T=true) {f:FuncId} {fn:Func} {c:Code} (hf:P.funcs[f]? =some fn) (hb:fn.body=some c) (he: ∀(vs:Array Value) (w:World),(callFunc f vs).run P w= .ok (.enter f vs) w)
 {args:List AV} (hn:args.length≤fn.ntmps) {r:AV} {S:List Obj}
 (k:Ah P W fn.ntmps 0 c (Dt 0 args) ⟨0,[]⟩ (fun e env h=> ∃keep,FinR T fn.results.toList keep r S e env h)) (hM:f<1000000:=by decide):Ar P W f args r S:= .plain hM he<|fun w Y vs hG hY hvs=>by
 have hvr:=CV _ _ hvs
 have hlen:=Dm hvr
 refine calls_of_wp hf hb ?_
 have R:ER fn.ntmps ⟨W,w,Eo Y,0⟩ w (Eo Y) (Dt 0 args) ⟨0,[]⟩ {tmps:=vs.toArray++Array.replicate (fn.ntmps-vs.toArray.size) undef,defers:=[]} w:={
  glob:=hG
  snc:=⟨ID.refl _ _,rfl,fun _ h=>by simp at h,fun _ _=>rfl⟩
  low:=Nat.zero_le _
  sim:={
   below:=Below.refl _ _
   lt:=by intro _ _ h;cases h
   inj:=by intro _ _ _ _ h;cases h
   live:=by intro _ _ _ h;cases h
   ylt:=hY
   blk:=by intro _ _ _ _ h;cases h}
  env:=Gh hvr _
  sz:=by simp [hlen];omega
  dfr:=rfl
  fresh:=fun _ _=>rfl}
 refine wp_mono (k _ w (Eo Y) _ w rfl rfl R) ?_
 rintro e a' w' ⟨env',h',μ',⟨keep,he,hnd,hS,hF,r0,hr0,hfv⟩,R'⟩
 obtain ⟨v,hrun,hv0⟩:=NP hT R' hr0
 have hv:=IV R'.sim keep 9 _ _ _ hfv hv0
 have R2:=LX R' (keep:=keep) (env':=[]) (h':=S0 S) ⟨hnd,hS,hF,trivial⟩ (fun i hi=>by simp at hi)
 have hpost:a'.defers=[]∧ ∃v,(results fn a'.tmps).run P w'= .ok v w'∧ ∃v' μ'',(Ending.returned v)= .returned v'∧μ''.Y=Y∧VR w' μ'' r v'∧FM w μ'' w' (S0 S)∧(∀id,S.length≤id→μ'' id=none):=
  ⟨R'.dfr,_,hrun,_,μ'.fin keep,rfl,R'.snc.y,hv,R2.sim,R2.fresh⟩
 rcases he with rfl|rfl
 ·exact hpost
 ·exact hpost
end
end Go.Lift
namespace Go.Lift
noncomputable section
open Go Go.ChangeShapes Go.WideShapes Go.RowKit
theorem Q2 {W W':World} (h:Below W.heap.size W W') (may:MemPlace→Prop):W.keptBut W' may:=h.frame may
theorem RD {W W':World} (h:Below W.heap.size W W') (a:Addr) (ha:a.block<W.heap.size):W'.frozen? a=W.frozen? a:=by
 unfold World.frozen?;rw [h.block _ ha]
section
variable {H:Type} {enc:TypeId×Value→H} {P:Program}
theorem Qh {f:Func} {s:ChangeSpec} {apart fresh handsOn again:Bool} {W W':World} {args:Array Value} {v:Value} {ds gs:List (DataW H)} {before pa pv:List MemPlace}
  (hW:DataW.Whole enc P f.params.toList s.vars apart W args.toList ds gs before)
  (hres: ∀(b:Nat) (sp:Nat→Bool) (hd:Bool),DataW.TrodAll enc P W' b sp hd f.resultTypes.toList (v.resultList f.resultTypes.size) (s.fn H (ds++gs)).results [])
  (hargs: ∀sp:Nat→Bool,(∀p∈before,sp p.block=true)→DataW.TrodAll enc P W' 0 sp true f.params.toList args.toList (s.fn H (ds++gs)).args pa)
  (hvars: ∀sp:Nat→Bool,(∀p∈before,sp p.block=true)→DataW.TrodVars enc P W' sp s.vars (s.fn H (ds++gs)).vars pv)
  (hps:before=pa++pv) (hb:Below W.heap.size W W')
  (hok: ∀(j:Nat) (t:TypeId) (r:Value),f.resultTypes[j]? =some t→(v.resultList f.resultTypes.size)[j]? =some r→Value.okWide P W' .any 0 t r):
  s.post enc P f apart fresh handsOn again W args v W':=by
 have hold: ∀p∈before,(fun b=>decide (b<W.heap.size)) p.block=true:=fun p hp=>by simpa using hW.lt p hp
 have hlt:=hW.lt
 refine ⟨ds,gs,before,[],pa,pv,hW,hres _ _ _,hargs _ hold,hvars _ hold,World.keptBut_mono (fun p hp=>⟨hp,?_⟩) (Q2 hb (· ∈before)),fun _=> ?_⟩
 ·rw [hps,List.mem_append] at hp
  exact Or.inr hp
 ·obtain ⟨_,_,_,_,_,hz,hn⟩:=hW
  refine ⟨hok,_,_,([]++pa)++pv,⟨[]++pa,pv,trodAll_append (hargs _ (fun _ _=>rfl)) (hres _ _ _),hvars _ (fun _ _=>rfl),rfl,?_,?_⟩,?_⟩
  ·intro b off hp
   have hp':MemPlace.cell b off∈before:=by rw [hps];simpa using hp
   rw [RD hb _ (hlt _ hp')]
   exact hz b off hp'
  ·intro ha
   have:=hn ha
   rw [hps] at this
   simpa using this
  ·intro p hp _
   rw [hps]
   simpa using hp
theorem Me (hl:laidOutB P=true) {W W':World}: ∀ {ts:List TypeId} {vs:List Value} {ds:List (DataW H)} {ps:List MemPlace},(∀t∈ts,P.readableRec t=true∧t<P.types.size)→DataW.TrodAll enc P W 0 (fun _=>true) true ts vs ds ps→
  Below W.heap.size W W'→(∀p∈ps,p.block<W.heap.size)→ ∀sp:Nat→Bool,(∀p∈ps,sp p.block=true)→DataW.TrodAll enc P W' 0 sp true ts vs ds ps
 | [],vs,ds,ps,ht,h,hb,hlt,sp,hs=>by
   obtain ⟨rfl,rfl,rfl⟩:=trodAll_nil h
   exact trodAll_mk0
 |t::ts,vs,ds,ps,ht,h,hb,hlt,sp,hs=>by
  obtain ⟨v,vs',d,ds',p,q,rfl,rfl,rfl,h1,h2⟩:=trodAll_cons h
  have k1:=WideElems.Trod_stays hl (ht t (by simp)).1 (ht t (by simp)).2 h1 (fun x hx=>hb.same (hlt x (by simp [hx]))) (sp':=sp) (fun x hx=>hs x (by simp [hx]))
  exact ⟨p,q,k1,Me hl (fun t' h'=>ht t' (by simp [h'])) h2 hb (fun x hx=>hlt x (by simp [hx])) sp (fun x hx=>hs x (by simp [hx])),rfl⟩
theorem RL {fn:Func} {f:FuncId} {spec:ChangeSpec} {apart fresh handsOn again:Bool} {tb:TypeId} (hl:laidOutB P=true) (hp:(fn.params.toList.all fun t=>P.readableRec t&&decide (t<P.types.size))=true) (hr:fn.resultTypes= #[tb]) (hb:P.underlying tb=some .bool)
  (hv:spec.vars=[]) {W:World} {args:Array Value} {ds gs:List (DataW H)} {before:List MemPlace} (hspec:spec.fn H (ds++[])={results:=[.lit (.bool true)],args:=ds})
  (hW:DataW.Whole enc P fn.params.toList spec.vars apart W args.toList ds gs before)
  (walk:Calls P f args W fun e w'=>e= .returned (.bool true)∧Below W.heap.size W w'):
  Calls P f args W fun e W'=> ∃v,e= .returned v∧spec.post enc P fn apart fresh handsOn again W args v W':=by
 refine walk.mono fun e W' ⟨he,hg⟩=> ?_
 subst he
 have hlt:=hW.lt
 have hW':=hW
 obtain ⟨p,q,hA,hV,rfl,hfz,hnd⟩:=hW
 rw [hv] at hV
 obtain ⟨rfl,rfl⟩:=trodVars_none hV
 have hts: ∀t∈fn.params.toList,P.readableRec t=true∧t<P.types.size:=by
  intro t ht
  have:=List.all_eq_true.1 hp t ht
  simpa using this
 refine ⟨_,rfl,Qh (pa:=p) (pv:=[]) hW' ?_ ?_ ?_ rfl hg ?_⟩
 ·intro b sp hd
  rw [hspec,hr]
  exact trodAll_cons_mk (shut_bool hb true) trodAll_mk0
 ·intro sp hs
  rw [hspec]
  exact Me hl hts hA hg (fun x hx=>hlt x (by simp [hx])) sp (fun x hx=>hs x (by simp [hx]))
 ·intro sp hs
  rw [hspec,hv]
  rfl
 ·exact ok_one hr rfl (okWide_bool_mk hb _)
end
theorem V0 {P:Program} {W:World} {f:FuncId} {args:List AV} (k:Ar P W f args (.b true) []) {vs:List Value} (hvs:FL W (Eo fun _=>False) args vs) (hM:f<1000000:=by decide):Calls P f vs.toArray W fun e w'=>e= .returned (.bool true)∧Below W.heap.size W w':=
 (k.callsP hM W (fun _=>False) vs (Ga.refl W) (fun _ h=>h.elim) hvs).mono fun e w' ⟨v,μ',e1,_,hv,hs,_⟩=>by
   simp only [VR,CR] at hv
   subst hv
   exact ⟨e1,hs.below⟩
end
end Go.Lift
namespace Go.Lift
noncomputable section
open Go Go.RowKit
def AH (x y:AV):Prop:= ∀(w:World) (μ:Mu) (v:Value),CR w μ x v→CR w μ y v
def Ed:List AV→List AV→Prop
 | [],[]=>True
 |x::xs,y::ys=>AH x y∧Ed xs ys
 |_,_=>False
theorem AH.refl (x:AV):AH x x:=fun _ _ _ h=>h
theorem Ed.refl: ∀xs:List AV,Ed xs xs
 | []=>trivial
 |x::xs=>⟨AH.refl x,Ed.refl xs⟩
theorem AH.nil (k:Nat):AH (.sl k true []) (.sl k false []):=fun w μ v h=>by
 simp only [CR] at h ⊢
 rcases h with h|⟨h,_⟩
 ·exact Or.inl h
 ·cases h
theorem Ed.crs {w:World} {μ:Mu}: ∀ {xs ys:List AV} {vs:List Value},Ed xs ys→FL w μ xs vs→FL w μ ys vs
 | [],[],vs,_,h=>h
 |x::xs,y::ys,vs,k,h=>by
  simp only [FL] at h ⊢
  obtain ⟨v,r,e,h1,h2⟩:=h
  exact ⟨v,r,e,k.1 w μ v h1,Ed.crs k.2 h2⟩
theorem AH.st {xs ys:List AV} (h:Ed xs ys):AH (.st xs) (.st ys):=fun w μ v k=>by
 simp only [CR] at k ⊢
 obtain ⟨cs,e,k⟩:=k
 exact ⟨cs,e,h.crs k⟩
theorem AH.tup {xs ys:List AV} (h:Ed xs ys):AH (.tup xs) (.tup ys):=fun w μ v k=>by
 simp only [CR] at k ⊢
 obtain ⟨cs,e,k⟩:=k
 exact ⟨cs,e,h.crs k⟩
theorem Ar.wk {P:Program} {W:World} {f:FuncId} {xs ys:List AV} {r:AV} {S:List Obj} (k:Ar P W f ys r S) (h:Ed xs ys):Ar P W f xs r S where
 enters:=k.enters
 calls:=fun w Y vs hG hY hvs=>k.calls w Y vs hG hY (h.crs hvs)
def Cz (d:Nat) (keep:List Nat) (h:A7) (x y:AV):Prop:= ∃z,C3 keep h d x=some z∧(z=y∨(closed z=true∧AH z y))
abbrev BM (keep:List Nat) (h:A7) (x y:AV):Prop:=Cz 9 keep h x y
theorem BM.c {d:Nat} {keep:List Nat} {h:A7} {x y:AV} (e:x=y) (hc:closed y=true):Cz (d+1) keep h x y:=by subst e;exact ⟨x,A8 hc,Or.inl rfl⟩
theorem BM.f {d:Nat} {keep:List Nat} {h:A7} {x y:AV} (e:C3 keep h (d+1) x=some y):Cz (d+1) keep h x y:=⟨y,e,Or.inl rfl⟩
theorem BM.w {d:Nat} {keep:List Nat} {h:A7} {x y:AV} (hc:closed x=true) (hw:AH x y):Cz (d+1) keep h x y:=⟨x,A8 hc,Or.inr ⟨hc,hw⟩⟩
theorem BM.cast {d:Nat} {keep:List Nat} {h:A7} {x y x' y':AV} (ex:x=x') (ey:y'=y) (k:Cz d keep h x' y'):Cz d keep h x y:=by subst ex;subst ey;exact k
def Ud (d:Nat) (keep:List Nat) (h:A7):List AV→List AV→Prop
 | [],[]=>True
 |x::xs,y::ys=>Cz d keep h x y∧Ud d keep h xs ys
 |_,_=>False
theorem P0 {d:Nat} {keep:List Nat} {h:A7}: ∀ {xs ys:List AV},Ud (d+1) keep h xs ys→Ab ys=true→ ∃zs,Hd (C3 keep h (d+1)) xs=some zs∧(Ab xs=true→zs=xs)∧Ab zs=true∧Ed zs ys
 | [],[],_,_=>⟨[],rfl,fun _=>rfl,rfl,trivial⟩
 | [],_::_,k,_=>k.elim
 |_::_,[],k,_=>k.elim
 |x::xs,y::ys,k,hc=>by
  obtain ⟨⟨z,e1,e2⟩,k2⟩:=k
  simp only [Ab,Bool.and_eq_true] at hc
  obtain ⟨zs,e3,e4,e5,e6⟩:=P0 k2 hc.2
  refine ⟨z::zs,by simp only [Hd,e1,e3],fun hx=> ?_,?_,?_,e6⟩
  ·simp only [Ab,Bool.and_eq_true] at hx
   rw [A8 hx.1] at e1
   cases e1
   rw [e4 hx.2]
  ·rcases e2 with rfl|⟨c1,_⟩
   ·simp only [Ab,hc.1,e5,Bool.and_self]
   ·simp only [Ab,c1,e5,Bool.and_self]
  ·rcases e2 with rfl|⟨_,w1⟩
   ·exact AH.refl _
   ·exact w1
theorem BM.tup {d:Nat} {keep:List Nat} {h:A7} {xs ys:List AV} (k:Ud (d+1) keep h xs ys) (hc:Ab ys=true):Cz (d+2) keep h (.tup xs) (.tup ys):=by
 obtain ⟨zs,e1,e2,e3,e4⟩:=P0 k hc
 refine ⟨.tup zs,?_,Or.inr ⟨e3,AH.tup e4⟩⟩
 simp only [C3]
 unfold mapC
 split
 ·rename_i hx;rw [e2 hx];rfl
 ·rw [e1];rfl
theorem BM.st {d:Nat} {keep:List Nat} {h:A7} {xs ys:List AV} (k:Ud (d+1) keep h xs ys) (hc:Ab ys=true):Cz (d+2) keep h (.st xs) (.st ys):=by
 obtain ⟨zs,e1,e2,e3,e4⟩:=P0 k hc
 refine ⟨.st zs,?_,Or.inr ⟨e3,AH.st e4⟩⟩
 simp only [C3]
 unfold mapC
 split
 ·rename_i hx;rw [e2 hx];rfl
 ·rw [e1];rfl
def AM (keep:List Nat) (h:A7) (env:C7):C7→Prop
 | []=>True
 |(t,x)::r=>BM keep h (env.get t) x∧AM keep h env r
theorem AM.nil {keep:List Nat} {h:A7} {env:C7}:AM keep h env []:=trivial
theorem AM.cons {keep:List Nat} {h:A7} {env:C7} {t:Nat} {x:AV} {r:C7} (a:BM keep h (env.get t) x) (b:AM keep h env r):AM keep h env ((t,x)::r):=⟨a,b⟩
def Jr:List AV→List AV→Prop
 |_,[]=>True
 |x::xs,y::ys=>(Ab x.cells=true∧Ed x.cells y.cells)∧Jr xs ys
 | [],_::_=>False
theorem Jr.get: ∀ {xs ys:List AV} (_:Jr xs ys),ys.length≤xs.length∧ ∀(j:Nat) (y:AV),ys[j]? =some y→ ∃x,xs[j]? =some x∧Ab x.cells=true∧Ed x.cells y.cells
 |_,[],_=>⟨Nat.zero_le _,fun j y hy=>by simp at hy⟩
 | [],_::_,k=>k.elim
 |x::xs,y::ys,k=>by
  obtain ⟨h1,h2⟩:=Jr.get k.2
  refine ⟨by simp [h1],fun j z hz=> ?_⟩
  cases j with
  |zero=>simp at hz;subst hz;exact ⟨x,rfl,k.1⟩
  |succ j=>simp at hz;obtain ⟨q,q1,q2⟩:=h2 j z hz;exact ⟨q,by simpa using q1,q2⟩
theorem Ed.len: ∀ {xs ys:List AV},Ed xs ys→xs.length=ys.length
 | [],[],_=>rfl
 |_::_,_::_,k=>by simp [Ed.len k.2]
def VM (keep:List Nat) (h h':A7) (id q:Nat):Prop:=(h.get id).bind (Jo keep h 9)=h'.get q∨
 ∃o o1 o',h.get id=some o∧Jo keep h 9 o=some o1∧h'.get q=some o'∧o1.e=o'.e∧o1.k=o'.k∧Jr o1.els o'.els
def G9 (keep:List Nat) (h h':A7):Nat→List Nat→Prop
 |_,[]=>True
 |p,id::r=>VM keep h h' id p∧G9 keep h h' (p+1) r
theorem JU {keep:List Nat} {h h':A7}: ∀ {l:List Nat} {q:Nat},G9 keep h h' q l→ ∀p id,l[p]? =some id→VM keep h h' id (q+p)
 | [],q,_,p,id,hp=>by simp at hp
 |i::r,q,k,p,id,hp=>by
  simp only [G9] at k
  cases p with
  |zero=>simp at hp;subst hp;exact k.1
  |succ p=>
   simp at hp
   have:=JU k.2 p id hp
   rwa [show q+1+p=q+(p+1) by omega] at this
theorem Tt {w:World} {μ:Mu} {o o':Obj} {sl:MF} (he:o.e=o'.e) (hk:o.k=o'.k) (hw:Jr o.els o'.els) (B:KW w μ o sl):KW w μ o' sl:=by
 obtain ⟨h1,h2⟩:=hw.get
 obtain ⟨cs,c1,c2,c3⟩:=B.blk
 refine ⟨B.k.trans hk,by rw [←hk];exact B.pos,Nat.le_trans h1 B.len,B.cap,cs,by rw [←he];exact c1,by rw [←hk];exact c2,fun j y hy=> ?_⟩
 obtain ⟨x,x1,x2,x3⟩:=h2 j y hy
 obtain ⟨q1,q2⟩:=c3 j x x1
 refine ⟨by rw [←x3.len,q1,hk],fun i z hz=> ?_⟩
 have hi:i<x.cells.length:=by rw [x3.len];exact (List.getElem?_eq_some_iff.1 hz).1
 have hx:=List.getElem?_eq_getElem hi
 obtain ⟨u,u1,u2,u3⟩:=q2 i _ hx
 refine ⟨u,by rw [←hk];exact u1,?_,u3⟩
 have key: ∀ {xs ys:List AV},Ab xs=true→Ed xs ys→ ∀(i:Nat) (a b:AV),xs[i]? =some a→ys[i]? =some b→closed a=true∧AH a b:=by
  intro xs
  induction xs with
  |nil=>intro ys _ _ i a b ha;simp at ha
  |cons a0 xs ih=>
   intro ys hc hw i a b ha hb
   cases ys with
   |nil=>exact hw.elim
   |cons b0 ys=>
    simp only [Ab,Bool.and_eq_true] at hc
    cases i with
    |zero=>simp at ha hb;subst ha;subst hb;exact ⟨hc.1,hw.1⟩
    |succ i=>simp at ha hb;exact ih hc.2 hw.2 i a b ha hb
 obtain ⟨e1,e2⟩:=key x2 x3 i _ _ hx hz
 exact Eb _ _ (e2 _ _ _ (Cd _ _ e1 u2))
theorem A3.nil {keep:List Nat} {h h':A7} {p:Nat}:G9 keep h h' p []:=trivial
theorem A3.cons {keep:List Nat} {h h':A7} {p id:Nat} {r:List Nat} (a:(h.get id).bind (Jo keep h 9)=h'.get p) (b:G9 keep h h' (p+1) r):G9 keep h h' p (id::r):=⟨Or.inl a,b⟩
theorem H4 {keep:List Nat} {h h':A7} {p id:Nat} {r:List Nat} (a:VM keep h h' id p) (b:G9 keep h h' (p+1) r):G9 keep h h' p (id::r):=⟨a,b⟩
theorem A4.done {P:Program} {W:World} {T:Ep} {n:Nat} {ops:Array Oper} {env:C7} {h:A7} {Q:C7→A7→Prop} (k:Q env h):A4 P W T n ops [] env h Q:=k
theorem Aw.fin {P:Program} {W:World} {T:Ep} {n m i:Nat} {ops:Array Oper} {env:C7} {h:A7} {Q:C7→A7→Prop} (k:Q env h):Aw P W T n ops m i [] env h Q:=k
structure OG (keep:List Nat) (env:C7) (h:A7) (env':C7) (h':A7):Prop where
 nodup:keep.Nodup
 next:h'.next=keep.length
 objs:G9 keep h h' 0 keep
 vars:AM keep h env env'
theorem Sn {keep:List Nat} {h:A7} {env:C7}: ∀ {env':C7},AM keep h env env'→ ∀t,env'.get t= .und∨BM keep h (env.get t) (env'.get t)
 | [],_,t=>Or.inl rfl
 |(t',x)::r,k,t=>by
  simp only [AM] at k
  rw [BD]
  by_cases ht:t=t'
  ·subst ht;right;rw [if_pos rfl];exact k.1
  ·rw [if_neg ht];exact Sn k.2 t
theorem Ry {w0 w:World} {μ:Mu} {h:A7} (s:FM w0 μ w h) {keep:List Nat} {x y:AV} (e:BM keep h x y) {v:Value} (hv:VR w μ x v):VR w (μ.fin keep) y v:=by
 obtain ⟨z,e1,e2⟩:=e
 have h1:=IV s keep 9 _ _ _ e1 hv
 rcases e2 with rfl|⟨hc,hw⟩
 ·exact h1
 ·exact Eb _ _ (hw _ _ _ (Cd _ _ hc h1))
theorem Jg {n:Nat} {B:HD} {w0 w:World} {μ:Mu} {env env':C7} {h h':A7} {a:Act} (R:ER n B w0 μ env h a w) {keep:List Nat} (F:OG keep env h env' h')
  (hN: ∀i,i<B.N→keep[i]? =some i):ER n B w0 (μ.fin keep) env' h' a w where
 glob:=R.glob
 snc:={
  ext:=⟨fun x u hr=>Dv (Gc μ keep).less _ _ (R.snc.ext.rd x u hr),fun id t ht=>by
   have:id<B.N:=by
    rcases Nat.lt_or_ge id B.N with q|q
    ·exact q
    ·rw [R.snc.top id q] at ht;cases ht
   have e:(μ.fin keep) id=μ id:=by dsimp only [Mu.fin];rw [hN id this];rfl
   rw [e];exact R.snc.ext.mu id t ht,R.snc.ext.bl,fun g q=>R.snc.ext.mt g ((Gc μ keep).less g q)⟩
  y:=R.snc.y
  dom:=fun id hi h0=>by
   have e:(μ.fin keep) id=μ id:=by dsimp only [Mu.fin];rw [hN id hi];rfl
   rw [e];exact R.snc.dom id hi h0
  top:=R.snc.top}
 low:=by
  rw [F.next]
  cases e:B.N with
  |zero=>omega
  |succ k=>have:=(List.getElem?_eq_some_iff.1 (hN k (by omega))).1;omega
 sim:={
  below:=R.sim.below
  lt:=fun p t ht=>by
   obtain ⟨id,h1,h2⟩:=Option.bind_eq_some_iff.1 ht
   exact R.sim.lt id t h2
  inj:=fun p p' t t' ht ht' e=>by
   obtain ⟨id,h1,h2⟩:=Option.bind_eq_some_iff.1 ht
   obtain ⟨id',h1',h2'⟩:=Option.bind_eq_some_iff.1 ht'
   have:=R.sim.inj id id' t t' h2 h2' e
   subst this
   exact NI F.nodup h1 h1'
  live:=fun p o ho hp=>by
   obtain ⟨id,h1,h2⟩:=Option.bind_eq_some_iff.1 hp
   have:=JU F.objs p id h1
   rw [Nat.zero_add] at this
   rcases this with this|⟨o0,o1,o2,e1,_⟩
   ·rw [ho] at this
    obtain ⟨o',h3,_⟩:=Option.bind_eq_some_iff.1 this
    exact R.sim.live id o' h3 h2
   ·exact R.sim.live id o0 e1 h2
  ylt:=R.sim.ylt
  blk:=fun p o t ho hp=>by
   obtain ⟨id,h1,h2⟩:=Option.bind_eq_some_iff.1 hp
   have:=JU F.objs p id h1
   rw [Nat.zero_add] at this
   rcases this with this|⟨o0,o1,o2,e1,e2,e3,e4,e5,e6⟩
   ·rw [ho] at this
    obtain ⟨o',h3,h4⟩:=Option.bind_eq_some_iff.1 this
    exact Rz R.sim keep h4 (R.sim.blk id o' t h3 h2)
   ·rw [ho] at e3;cases e3
    exact Tt e4 e5 e6 (Rz R.sim keep e2 (R.sim.blk id o0 t e1 h2))}
 env:=fun t=>by
  rcases Sn F.vars t with e|e
  ·rw [e];simp only [VR]
  ·exact Ry R.sim e (R.env t)
 sz:=R.sz
 dfr:=R.dfr
 fresh:=fun p hp=>by
  dsimp only [Mu.fin]
  rw [List.getElem?_eq_none (by rw [F.next] at hp;exact hp)];rfl
def NoGoto (Q:EL):EL
 | .goto _,_,_=>False
 |e,env,h=>Q e env h
theorem Tv {P:Program} {W:World} {n N:Nat} {c:Code} {env:C7} {h:A7} {Q:EL} (k:Ah P W n N c env h (NoGoto Q)):Ah P W n N (.scope c) env h Q:=
 Ah.scope (k.mono fun e env h q=>by
  cases e with
  |goto l=>exact q.elim
  |_=>exact ⟨fun l=>by simp,q⟩)
theorem Qu {P:Program} {W:World} {n N:Nat} {Q:EL} {c:Code} {env:C7} {h:A7} (keep:List Nat) {env':C7} {h':A7} (F:OG keep env h env' h') (hN: ∀i,i<N→keep[i]? =some i) (k:Ah P W n N c env' h' Q):Ah P W n N c env h Q:=
 fun B w0 μ a w hW hB R=>k B w0 _ a w hW hB (Jg R (by exact F) (by rw [hB];exact hN))
def CutP (N:Nat) (E:C7) (H:A7) (Q:EL):EL
 | .normal,env,h=> ∃keep,OG keep env h E H∧ ∀i,i<N→keep[i]? =some i
 |e,env,h=>Q e env h
theorem Ra {P:Program} {W:World} {n N:Nat} {env:C7} {h:A7} {Q:EL} {x y:Code} (E:C7) (H:A7)
  (kx:Ah P W n N x env h (CutP N E H Q)) (ky:Ah P W n N y E H Q):Ah P W n N (.seq x y) env h Q:=by
 have key:Ah P W n N x env h (fun e env1 h1=>(e= .normal∧env1=E∧h1=H)∨(e≠ .normal∧Q e env1 h1)):=fun B w0 μ a w hW hB R=>wp_mono (kx B w0 μ a w hW hB R) fun e a' w' hh=>by
  obtain ⟨env',h',μ',q,r⟩:=hh
  cases e with
  |normal=>
   obtain ⟨keep,F,hN⟩:=q
   exact ⟨E,H,μ'.fin keep,Or.inl ⟨rfl,rfl,rfl⟩,Jg r F (by rw [hB];exact hN)⟩
  |_=>exact ⟨env',h',μ',Or.inr ⟨by simp,q⟩,r⟩
 refine Ah.seq (key.mono fun e env' h' q=> ?_)
 rcases q with ⟨rfl,rfl,rfl⟩|⟨hne,q⟩
 ·exact ky
 ·cases e<;>first|exact q|exact absurd rfl hne
def LoopP (N:Nat) {σ:Type} (E:σ→C7) (H:σ→A7) (Inv:σ→Prop) (m:σ→Nat) (k:Nat) (Q:EL):EL
 | .normal,env,h=> ∃s',m s'<k∧Inv s'∧ ∃keep,OG keep env h (E s') (H s')∧ ∀i,i<N→keep[i]? =some i
 |e,env,h=>Q e env h
theorem BN {P:Program} {W:World} {n N:Nat} {env:C7} {h:A7} {Q:EL} {c:Code} {σ:Type} (E:σ→C7) (H:σ→A7) (Inv:σ→Prop) (m:σ→Nat) (s0:σ)
  (h0: ∃keep,OG keep env h (E s0) (H s0)∧ ∀i,i<N→keep[i]? =some i) (i0:Inv s0)
  (round: ∀s,Inv s→Ah P W n N c (E s) (H s) (LoopP N E H Inv m (m s) Q)):Ah P W n N (.loop c) env h Q:=
 fun B w0 μ a w hW hB R=>by
  obtain ⟨keep,F,hN⟩:=h0
  refine J4 (fun k a w=> ∃s μ,m s=k∧Inv s∧ER n B w0 μ (E s) (H s) a w) (k0:=m s0) ⟨s0,_,rfl,i0,Jg R F (by rw [hB];exact hN)⟩ fun k a w ⟨s,μ,hk,hI,R⟩=>
   wp_mono (round s hI B w0 μ a w hW hB R) fun e a' w' hh=> ?_
  obtain ⟨env',h',μ',q,r⟩:=hh
  cases e with
  |normal=>
   obtain ⟨s',hm,hI',keep,F,hN⟩:=q
   exact ⟨m s',by omega,s',_,rfl,hI',Jg r F (by rw [hB];exact hN)⟩
  |_=>exact ⟨env',h',μ',q,r⟩
def UI (ts:List Nat) (r:AV):EL:=fun e env h=>(e= .normal∨e= .ret)∧BM [] h (Cm ts env) r
theorem As {P:Program} {W:World} {f:FuncId} {fn:Func} {c:Code} (hf:P.funcs[f]? =some fn) (hb:fn.body=some c) (he: ∀(vs:Array Value) (w:World),(callFunc f vs).run P w= .ok (.enter f vs) w)
 {ts:List Nat} (hr:I5 fn.results.toList=some ts) {args:List AV} (hn:args.length≤fn.ntmps) {r:AV}
 (k:Ah P W fn.ntmps 0 c (Dt 0 args) ⟨0,[]⟩ (UI ts r)) (hM:f<1000000:=by decide):Ar P W f args r []:= .plain hM he<|fun w Y vs hG hY hvs=>by
 have hvr:=CV _ _ hvs
 have hlen:=Dm hvr
 refine calls_of_wp hf hb ?_
 have R:ER fn.ntmps ⟨W,w,Eo Y,0⟩ w (Eo Y) (Dt 0 args) ⟨0,[]⟩ {tmps:=vs.toArray++Array.replicate (fn.ntmps-vs.toArray.size) undef,defers:=[]} w:={
  glob:=hG
  snc:=⟨ID.refl _ _,rfl,fun _ h=>by simp at h,fun _ _=>rfl⟩
  low:=Nat.zero_le _
  sim:={
   below:=Below.refl _ _
   lt:=by intro _ _ h;cases h
   inj:=by intro _ _ _ _ h;cases h
   live:=by intro _ _ _ h;cases h
   ylt:=hY
   blk:=by intro _ _ _ _ h;cases h}
  env:=Gh hvr _
  sz:=by simp [hlen];omega
  dfr:=rfl
  fresh:=fun _ _=>rfl}
 refine wp_mono (k _ w (Eo Y) _ w rfl rfl R) ?_
 rintro e a' w' ⟨env',h',μ',⟨he,hE⟩,R'⟩
 have hv:=Ry R'.sim hE (Tg R'.env ts)
 have R2:=LX R' (keep:=[]) (env':=[]) (h':=S0 []) ⟨List.nodup_nil,rfl,trivial,trivial⟩ (fun i hi=>by simp at hi)
 have hrun:=LB (P:=P) hr a'.tmps w'
 have hpost:a'.defers=[]∧ ∃v,(results fn a'.tmps).run P w'= .ok v w'∧ ∃v' μ'',(Ending.returned v)= .returned v'∧μ''.Y=Y∧VR w' μ'' r v'∧FM w μ'' w' (S0 [])∧(∀id,([]:List Obj).length≤id→μ'' id=none):=
  ⟨R'.dfr,_,hrun,_,μ'.fin [],rfl,R'.snc.y,hv,R2.sim,R2.fresh⟩
 rcases he with rfl|rfl
 ·exact hpost
 ·exact hpost
end
end Go.Lift
namespace Go.Lift
noncomputable section
open Go Go.RowKit
def AY {α:Type} (k:Nat) (A:α→AV) (xs:List α):AV:= .sl k false (xs.map A)
def ptA {α:Type} (A:α→AV) (x:α):AV:= .pt (A x).cells
def Ch {α:Type} (p k:Nat) (A:α→AV) (xs:List α):AV:=match xs with
 | []=> .sl k true []
 |x::r=> .own p 0 (r.length+1)
def L3 {α:Type} (e k:Nat) (A:α→AV) (xs:List α):Option Obj:=match xs with
 | []=>none
 |x::r=>some ⟨e,k,(x::r).map A⟩
section
variable {T:Ep} {ρ:E3} {h:A7} {dst:Option Tmp} {ty:TypeId} {pos:String} {af:Array Edge} {gd:Option (Nat×Bool)} {α:Type} {A:α→AV}
theorem BH {t yt:TypeId} {x y:Operand} {i m:Nat} (ex:ρ (Kb T t) x=some (.i .i64 (i:Int))) (ey:ρ (Kb T t) y=some (.i .i64 (m:Int))) (hb:i+m≤9223372036854775807):
  Iz T ρ h ⟨dst,.binOp .add t x y yt,ty,pos,af,gd⟩=some (.i .i64 ((i+m:Nat):Int)):=by
 simp only [Iz,ex,ey,Qg,RT,if_true]
 rw [DY (by omega) (by omega)];rfl
theorem RI {t yt:TypeId} {x y:Operand} {i m:Nat} (ex:ρ (Kb T t) x=some (.i .i64 (i:Int))) (ey:ρ (Kb T t) y=some (.i .i64 (m:Int))) (hle:m≤i) (hb:i≤9223372036854775807):
  Iz T ρ h ⟨dst,.binOp .sub t x y yt,ty,pos,af,gd⟩=some (.i .i64 ((i-m:Nat):Int)):=by
 simp only [Iz,ex,ey,Qg,RT,if_true]
 rw [DY (by omega) (by omega)]
 congr 2;omega
theorem CA {x:Operand} {t e:TypeId} {k:Nat} {nl:Bool} {xs:List α} (ex:ρ 0 x=some (.sl k nl (xs.map A))) (et:Ci T t= .slice e):
  Iz T ρ h ⟨dst,.call ⟨.builtin .len,#[x],#[t]⟩,ty,pos,af,gd⟩=some (.i .i64 (xs.length:Int)):=by
 simp only [Iz,QP,ex,et,List.length_map]
theorem SG {x:Operand} {t e:TypeId} {p k:Nat} {xs:List α} (ex:ρ 0 x=some (Ch p k A xs)) (et:Ci T t= .slice e) (hg:xs≠ []→(h.get p).isSome=true):
  Iz T ρ h ⟨dst,.call ⟨.builtin .len,#[x],#[t]⟩,ty,pos,af,gd⟩=some (.i .i64 (xs.length:Int)):=by
 cases xs with
 |nil=>simp only [Ch] at ex;simp only [Iz,QP,ex,et,List.length_nil]
 |cons x r=>simp only [Ch] at ex;simp only [Iz,QP,ex,et,List.length_cons,hg (by simp),if_true]
theorem N0 {xs:List α} {i:Nat} {y:α} (hy:xs[i]? =some y):(xs.map A)[i]? =some (A y):=by rw [List.getElem?_map,hy];rfl
theorem CP {x ix:Operand} {t e:TypeId} {k:Nat} {nl:Bool} {kk:IntKind} {xs:List α} {i:Nat} {y:α} (et:En T t=some e) (ex:ρ 0 x=some (.sl k nl (xs.map A))) (ei:ρ 0 ix=some (.i kk (i:Int))) (hk:k=Eg T e∧k≠0) (hy:xs[i]? =some y):
  Iz T ρ h ⟨dst,.indexAddr t x ix,ty,pos,af,gd⟩=some (.pt (A y).cells):=by
 simp only [Iz,et,ex,ei,Int.toNat_natCast,N0 hy]
 rw [if_pos ⟨hk.1,hk.2,by omega⟩]
theorem Li {x ix:Operand} {t e:TypeId} {k:Nat} {nl:Bool} {kk:IntKind} {xs:List α} {n:Int} {y:α} (et:En T t=some e) (ex:ρ 0 x=some (.sl k nl (xs.map A))) (ei:ρ 0 ix=some (.i kk n)) (hk:k=Eg T e∧k≠0) (hn:0≤n) (hy:xs[n.toNat]? =some y):
  Iz T ρ h ⟨dst,.indexAddr t x ix,ty,pos,af,gd⟩=some (.pt (A y).cells):=by
 simp only [Iz,et,ex,ei,N0 hy]
 rw [if_pos ⟨hk.1,hk.2,hn⟩]
theorem Ft {x ix:Operand} {t e:TypeId} {id len:Nat} {kk:IntKind} {i:Nat} {ob:Obj} (et:En T t=some e) (ex:ρ 0 x=some (.own id 0 len)) (ei:ρ 0 ix=some (.i kk (i:Int))) (hg:h.get id=some ob) (hk:ob.k=Eg T e) (hl:i<len):
  Iz T ρ h ⟨dst,.indexAddr t x ix,ty,pos,af,gd⟩=some (.loc id i 0):=by
 simp only [Iz,et,ex,ei,hg,Int.toNat_natCast,Nat.zero_add]
 rw [if_pos ⟨hk,by omega,by omega⟩]
theorem GD {x ix:Operand} {t e:TypeId} {id len:Nat} {kk:IntKind} {n:Int} {ob:Obj} (et:En T t=some e) (ex:ρ 0 x=some (.own id 0 len)) (ei:ρ 0 ix=some (.i kk n)) (hg:h.get id=some ob) (hk:ob.k=Eg T e) (h0:0≤n) (hl:n<len):
  Iz T ρ h ⟨dst,.indexAddr t x ix,ty,pos,af,gd⟩=some (.loc id n.toNat 0):=by
 simp only [Iz,et,ex,ei,hg,Nat.zero_add]
 rw [if_pos ⟨hk,h0,hl⟩]
theorem D4 {x:Operand} {t e k:Nat} {i:TI} {id j:Nat} {xs:List α} {y:α} {r:AV} (et:AJ T t=some i) (ex:ρ 0 x=some (.loc id j 0)) (hg:h.get id=some ⟨e,k,xs.map A⟩) (hy:xs[j]? =some y) (hp:NJ i.desc.agg i.size (A y).cells=some r):
  Iz T ρ h ⟨dst,.load t x,ty,pos,af,gd⟩=some r:=by
 simp only [Iz,et,ex,Option.bind_some,Lr,hg,N0 hy,List.drop_zero,hp]
theorem MN {x ix:Operand} {t:TypeId} {kk:IntKind} {s:ByteArray} {i:Nat} {b:UInt8} (et:Ci T t= .str) (ex:ρ 0 x=some (.s s)) (ei:ρ 0 ix=some (.i kk (i:Int))) (hy:s.data[i]? =some b):
  Iz T ρ h ⟨dst,.index t x ix,ty,pos,af,gd⟩=some (.i .u8 (b.toNat:Int)):=by
 simp only [Iz,et,ex,ei,Int.toNat_natCast,hy]
 rw [if_pos (by omega)]
theorem TQ {t yt:TypeId} {x y:Operand} {a b:ByteArray} (ex:ρ (Kb T t) x=some (.s a)) (ey:ρ (Kb T t) y=some (.s b)) (hb:a.size+b.size≤Gb):
  Iz T ρ h ⟨dst,.binOp .add t x y yt,ty,pos,af,gd⟩=some (.s (a++b)):=by
 simp only [Iz,ex,ey,Qg,WQ,hb,if_true]
theorem LS {n m:Nat} (hn:n≤m):UK (n:Int) m=some n:=by
 unfold UK;rw [if_pos ⟨by omega,by omega⟩];simp
theorem g_sub {x:Operand} {t:TypeId} {lo hi:Option Operand} {s:ByteArray} {l g:Option Int} {a b:Nat} (ex:ρ 0 x=some (.s s)) (et:Ci T t= .str) (el:JW ρ lo=some l) (eg:JW ρ hi=some g)
  (ha:l.getD 0=(a:Int)) (hb:g.getD s.size=(b:Int)) (h1:a≤b) (h2:b≤s.size):
  Iz T ρ h ⟨dst,.slice t x lo hi none,ty,pos,af,gd⟩=some (.s (s.extract a b)):=by
 simp only [Iz,Option.isSome_none,Bool.false_eq_true,if_false,ex,el,eg,et,if_true,Ki,ha,hb,LS h2,Option.bind_some,LS h1,Option.map_some]
theorem g_cutL {x:Operand} {t e:TypeId} {lo hi:Option Operand} {k:Nat} {nl:Bool} {xs:List α} {l g:Option Int} {a b:Nat} (ex:ρ 0 x=some (.sl k nl (xs.map A))) (et:En T t=some e) (hk:k=Eg T e∧k≠0) (el:JW ρ lo=some l) (eg:JW ρ hi=some g)
  (ha:l.getD 0=(a:Int)) (hb:g.getD ((xs.length:Nat):Int)=(b:Int)) (h1:a≤b) (h2:b≤xs.length):
  Iz T ρ h ⟨dst,.slice t x lo hi none,ty,pos,af,gd⟩=some (.sl k nl (((xs.take b).drop a).map A)):=by
 simp only [Iz,Option.isSome_none,Bool.false_eq_true,if_false,ex,el,eg,et]
 rw [if_pos hk]
 simp only [Ki,List.length_map,ha,hb,LS h2,Option.bind_some,LS h1,Option.map_some,List.map_drop,List.map_take]
theorem P6 {s x:Operand} {t e:TypeId} {i:TI} {p:Nat} {xs ys:List α} {X:AV} (et:En T t=some e) (ei:AJ T e=some i) (es:ρ (Kb T t) s=some (Ch p i.size A xs)) (hx:ρ (Kb T t) x=some X) (hX:Kk h X=some (i.size,ys.map A)) (hy:ys≠ [])
  (h0:(i.size≠0∧i.zero.cells.length=i.size)) (hg:h.get p=L3 e i.size A xs) (hp:xs=[]→h.put p none=h) (hb:(xs.length+ys.length)*i.bytes≤140737488355328) (hl:xs.length+ys.length≤Gb):
  Nv T ρ h ⟨dst,.call ⟨.builtin .append,#[s,x],#[t,t]⟩,ty,pos,af,gd⟩=some (.own h.next 0 ((xs++ys).length),(h.put p none).new ⟨e,i.size,(xs++ys).map A⟩):=by
 cases ys with
 |nil=>exact absurd rfl hy
 |cons y ys=>
  cases xs with
  |nil=>
   simp only [Ch] at es
   simp only [Nv,ne_eq,not_true,if_false,et,ei,es,hx,Option.bind_some,hX]
   simp only [List.length_nil,Nat.zero_add,List.length_cons] at hb hl
   rw [if_pos ⟨trivial,h0.1,h0.2,by simpa using hb,by simpa using hl⟩,hp rfl]
   simp
  |cons z zs=>
   simp only [Ch] at es
   simp only [L3] at hg
   simp only [Nv,ne_eq,not_true,if_false,et,ei,es,hx,Option.bind_some,hX,hg]
   simp only [List.length_cons] at hb hl
   rw [if_pos ⟨trivial,h0.1,trivial,trivial,by simp,h0.2,by simpa using hb,by simpa using hl⟩]
   have e1:List.take (zs.length+1) ((z::zs).map A)++(y::ys).map A=(z::zs++y::ys).map A:=by
    rw [List.take_of_length_le (by simp),List.map_append]
   rw [e1]
   have e2:zs.length+1+(List.map A (y::ys)).length=(z::zs++y::ys).length:=by simp;omega
   rw [e2]
theorem KL {s x:Operand} {t e:TypeId} {i:TI} {p len:Nat} {xs ys:List α} {X:AV} (et:En T t=some e) (ei:AJ T e=some i) (es:ρ (Kb T t) s=some (.own p 0 len)) (hx:ρ (Kb T t) x=some X) (hX:Kk h X=some (i.size,ys.map A))
  (h0:(i.size≠0∧i.zero.cells.length=i.size)) (hg:h.get p=some ⟨e,i.size,xs.map A⟩) (hlen:len=xs.length) (hb:(xs.length+ys.length)*i.bytes≤140737488355328) (hl:xs.length+ys.length≤Gb):
  Nv T ρ h ⟨dst,.call ⟨.builtin .append,#[s,x],#[t,t]⟩,ty,pos,af,gd⟩=some (.own h.next 0 ((xs++ys).length),(h.put p none).new ⟨e,i.size,(xs++ys).map A⟩):=by
 subst hlen
 simp only [Nv,ne_eq,not_true,if_false,et,ei,es,hx,Option.bind_some,hX,hg]
 rw [if_pos ⟨trivial,h0.1,trivial,trivial,by simp,h0.2,by simpa using hb,by simpa using hl⟩]
 simp [List.take_of_length_le]
theorem Ut {a v:Operand} {t e k:Nat} {i:TI} {id j:Nat} {xs:List α} {y:α} (et:AJ T t=some i) (ea:ρ 0 a=some (.loc id j 0)) (ev:ρ (Kb T t) v=some (A y)) (hg:h.get id=some ⟨e,k,xs.map A⟩) (hj:j<xs.length)
  (hc: ∀z:α,(A z).cells.length=i.size) (hin:EP h (A y)=true) (hf: ∀z:α,I8 (A z) (A y)=true) (hw: ∀z:α,(A z).withCells (A y).cells=A y):
  Nv T ρ h ⟨dst,.store t a v,ty,pos,af,gd⟩=some (.und,h.put id (some ⟨e,k,(xs.set j y).map A⟩)):=by
 have hx:xs[j]? =some xs[j]:=List.getElem?_eq_getElem hj
 simp only [Nv,et,ea,ev,hg,N0 hx]
 rw [if_pos ⟨hc y,by rw [hc];omega,hin,hf _⟩]
 simp only [List.take_zero,List.nil_append,Nat.zero_add]
 rw [List.drop_of_length_le (by rw [hc];exact Nat.le_refl _),List.append_nil,hw,List.map_set]
theorem Wp {l c:Operand} {t e:TypeId} {i:TI} {z:α} {n:Nat} (et:En T t=some e) (ei:AJ T e=some i) (el:ρ 0 l=some (.i .i64 (n:Int))) (ec:ρ 0 c=some (.i .i64 (n:Int))) (h0:(i.size≠0∧i.zero.cells.length=i.size)) (hz:i.zero=A z) (hb:n*i.bytes≤140737488355328) (hl:n≤140737488355328):
  VH T ρ h ⟨dst,.makeSlice t l c,ty,pos,af,gd⟩=some (.own h.next 0 n,h.new ⟨e,i.size,(List.replicate n z).map A⟩):=by
 simp only [VH,et,ei,el,ec]
 rw [if_pos ⟨h0.2,h0.1,by omega,by omega,by omega,by omega⟩]
 simp [List.map_replicate,hz]
end
theorem Ff {α:Type} {A:α→AV} (hA: ∀x,closed (A x)=true) (xs:List α):Ab (xs.map A)=true:=by
 rw [GU];simp [hA]
theorem Up {d:Nat} {α:Type} {A:α→AV} (hA: ∀x,closed (A x)=true) {keep:List Nat} {h:A7} {id e k len:Nat} {xs:List α} (hk:FR keep id=none) (hn:keep.contains id=false) (hg:h.get id=some ⟨e,k,xs.map A⟩) (hlen:len=xs.length) (hL:len≤Gb):
  Cz (d+1) keep h (.own id 0 len) (AY k A xs):=BM.f (by
 subst hlen
 simp only [C3,hk,BU,hn,hg,Bool.false_eq_true,if_false,List.length_map,Nat.zero_add,Nat.le_refl,hL,and_self,if_true,List.drop_zero]
 rw [List.take_of_length_le (by simp)]
 simp only [mapC,Ff hA,if_true,Option.map_some];rfl)
theorem Rx {d:Nat} {α:Type} {A:α→AV} (hA: ∀x,closed (A x)=true) {keep:List Nat} {h:A7} {id e k:Nat} {xs:List α} (hk:FR keep id=none) (hn:keep.contains id=false) (hg:h.get id=L3 e k A xs) (hL:xs.length≤Gb):
  Cz (d+1) keep h (Ch id k A xs) (AY k A xs):=by
 cases xs with
 |nil=>exact BM.w rfl (AH.nil k)
 |cons x r=>exact Up hA hk hn hg rfl hL
theorem SD {α:Type} {A:α→AV} {keep:List Nat} {h:A7} {id k p len:Nat} {xs:List α} (hp:FR keep id=some p) (hx:xs≠ []) (hlen:len=xs.length):BM keep h (.own id 0 len) (Ch p k A xs):=by
 cases xs with
 |nil=>exact absurd rfl hx
 |cons x r=>subst hlen;exact BM.f (by simp only [C3,hp,Ch,List.length_cons])
theorem Kl {α:Type} {A:α→AV} {keep:List Nat} {h:A7} {id k p:Nat} {xs:List α} (hp:FR keep id=some p):BM keep h (Ch id k A xs) (Ch p k A xs):=by
 cases xs with
 |nil=>exact BM.c rfl rfl
 |cons x r=>exact BM.f (by simp only [C3,hp,Ch])
theorem I2 {α:Type} {A:α→AV} (hA: ∀x,closed (A x)=true) {keep:List Nat} {h h':A7} {id q e k d:Nat} {xs:List α} (hg:h.get id=L3 e k A xs) (hg':h'.get q=L3 e k A xs):(h.get id).bind (Jo keep h d)=h'.get q:=by
 rw [hg,hg']
 cases xs with
 |nil=>rfl
 |cons x r=>exact P3 (Ff hA (x::r))
theorem BA {α:Type} {A:α→AV} (hA: ∀x,closed (A x)=true) {keep:List Nat} {h h':A7} {id q e k d:Nat} {xs:List α} (hg:h.get id=some ⟨e,k,xs.map A⟩) (hg':h'.get q=some ⟨e,k,xs.map A⟩):(h.get id).bind (Jo keep h d)=h'.get q:=by
 rw [hg,hg'];exact P3 (Ff hA xs)
theorem Ja {α:Type} {A:α→AV} (hA: ∀x,closed (A x)=true) {keep:List Nat} {h h':A7} {id q e k d:Nat} {xs:List α} (hx:xs≠ []) (hg:h.get id=some ⟨e,k,xs.map A⟩) (hg':h'.get q=L3 e k A xs):(h.get id).bind (Jo keep h d)=h'.get q:=by
 cases xs with
 |nil=>exact absurd rfl hx
 |cons x r=>exact BA hA hg hg'
def Sr (h:A7):List AV→List AV→Prop
 | [],[]=>True
 |x::xs,y::ys=>BU [] h 8 x=some y∧Sr h xs ys
 |_,_=>False
theorem Na {no:List Nat} {h:A7} {d:Nat} {x:AV} (hc:closed x=true):BU no h (d+1) x=some x:=by
 cases x with
 |own _ _ _=>simp [closed] at hc
 |loc _ _ _=>simp [closed] at hc
 |st fs=>simp only [closed] at hc;simp only [BU,mapC,hc,if_true,Option.map_some]
 |tup fs=>simp only [closed] at hc;simp only [BU,mapC,hc,if_true,Option.map_some]
 |fn f fs=>simp only [closed] at hc;simp only [BU,mapC,hc,if_true,Option.map_some]
 |_=>rfl
theorem Sr.ok {h:A7} {xs ys:List AV} (k:Sr h xs ys):mapC (BU [] h 8) xs=some ys:=by
 have key: ∀ {xs ys:List AV},Sr h xs ys→Hd (BU [] h 8) xs=some ys∧(Ab xs=true→xs=ys):=by
  intro xs
  induction xs with
  |nil=>intro ys k;cases ys with
   |nil=>exact ⟨rfl,fun _=>rfl⟩
   |cons y ys=>exact k.elim
  |cons x xs ih=>intro ys k;cases ys with
   |nil=>exact k.elim
   |cons y ys=>
    obtain ⟨h1,h2⟩:=ih k.2
    refine ⟨by simp only [Hd,k.1,h1],fun hc=> ?_⟩
    simp only [Ab,Bool.and_eq_true] at hc
    have:=k.1
    rw [Na hc.1] at this
    cases this
    rw [h2 hc.2]
 obtain ⟨h1,h2⟩:=key k
 unfold mapC
 split
 ·rename_i hc;rw [h2 hc]
 ·exact h1
theorem WC {α:Type} {B:α→AV} {keep:List Nat} {h h':A7} {id q e k n:Nat} (hg:h.get id=some ⟨e,1,(List.replicate n ([]:List α)).map (fun _=>AV.sl k true [])⟩) (hg':h'.get q=some ⟨e,1,(List.replicate n ([]:List α)).map (AY k B)⟩):VM keep h h' id q:=by
 refine Or.inr ⟨_,_,_,hg,P3 (Ff (fun _=>rfl) _),hg',rfl,rfl,?_⟩
 simp only [List.map_replicate]
 clear hg hg'
 induction n with
 |zero=>trivial
 |succ n ih=>exact ⟨⟨rfl,AH.nil k,trivial⟩,ih⟩
end
end Go.Lift
namespace Go.Lift
noncomputable section
open Go Go.RowKit
inductive Lp (α β:Type) where
 |ret (a:α)
 |brk (b:β)
theorem BO {α:Type} {xs:List α} {i:Nat} {x:α} (h:xs[i]? =some x):xs.drop i=x::xs.drop (i+1):=by
 have hlt:=(List.getElem?_eq_some_iff.1 h).1
 have e:=(List.getElem?_eq_some_iff.1 h).2
 rw [List.drop_eq_getElem_cons hlt,e]
theorem Sx {s:ByteArray} {i:Nat} (h:s.size≤i):s.data.toList.length≤i:=by rw [Gv];exact h
theorem getD_some {α:Type} [Inhabited α] {xs:List α} {i:Nat} (h:i<xs.length):xs[i]? =some (xs.getD i default):=by
 rw [List.getD_eq_getElem?_getD,List.getElem?_eq_getElem h];rfl
theorem OP {s:ByteArray} {i:Nat} (h:i<s.size):s.data[i]? =some (s.data.getD i 0):=by
 have h':i<s.data.size:=h
 rw [Array.getD_eq_getD_getElem?,Array.getElem?_eq_getElem h'];rfl
theorem Sv {α:Type} {e k:Nat} {A:α→AV} {xs:List α} (h:xs≠ []) {o:Option Obj} (ho:o=L3 e k A xs):o.isSome=true:=by
 cases xs with
 |nil=>exact absurd rfl h
 |cons x r=>rw [ho];rfl
def VV {α:Type} (p k:Nat) (A:α→AV) (b:Bool) (xs:List α):AV:=match b with
 |false=> .sl k true []
 |true=> .own p 0 xs.length
def Su {α:Type} (e k:Nat) (A:α→AV) (b:Bool) (xs:List α):Option Obj:=match b with
 |false=>none
 |true=>some ⟨e,k,xs.map A⟩
theorem Dz {d:Nat} {keep:List Nat} {h:A7} {id p len len':Nat} (hp:FR keep id=some p) (hlen:len=len'):Cz (d+1) keep h (.own id 0 len) (.own p 0 len'):=by
 subst hlen;exact BM.f (by simp only [C3,hp])
theorem RR {α:Type} {A:α→AV} (hA: ∀x,closed (A x)=true) (hc: ∀x,Ab (A x).cells=true) {keep:List Nat} {h h':A7} {id q e k:Nat} {xs ys:List α} (hp: ∃r,xs=ys++r) (hg:h.get id=some ⟨e,k,xs.map A⟩) (hg':h'.get q=some ⟨e,k,ys.map A⟩):VM keep h h' id q:=by
 obtain ⟨r,rfl⟩:=hp
 refine Or.inr ⟨_,_,_,hg,P3 (Ff hA _),hg',rfl,rfl,?_⟩
 clear hg hg'
 induction ys with
 |nil=>cases r<;>trivial
 |cons y ys ih=>exact ⟨⟨hc y,Ed.refl _⟩,ih⟩
theorem PL {α:Type} (xs:List α) (n:Nat): ∃r,xs=xs.take n++r:=⟨xs.drop n,(List.take_append_drop n xs).symm⟩
theorem Wo {T:Ep} {ρ:E3} {h:A7} {dst:Option Tmp} {ty:TypeId} {pos:String} {af:Array Edge} {gd:Option (Nat×Bool)} {x:Operand} {t e:TypeId} {lo hi:Option Operand} {id len:Nat} {ob:Obj} {l g:Option Int} {b:Nat} (ex:ρ 0 x=some (.own id 0 len)) (hg:h.get id=some ob) (et:En T t=some e) (hk:ob.k=Eg T e) (el:JW ρ lo=some l) (eg:JW ρ hi=some g)
  (ha:l.getD 0=0) (hb:g.getD (len:Int)=(b:Int)) (h2:b≤ob.els.length):
  Iz T ρ h ⟨dst,.slice t x lo hi none,ty,pos,af,gd⟩=some (.own id 0 b):=by
 simp only [Iz,Option.isSome_none,Bool.false_eq_true,if_false,ex,el,eg,hg,et]
 rw [if_pos hk]
 simp only [Ki,hg,ha,hb,Nat.sub_zero,LS h2,Option.bind_some]
 have:=LS (n:=0) (m:=b) (Nat.zero_le _)
 simp only [Int.natCast_zero] at this
 rw [this];rfl
theorem boxO {e k:Nat} {keep:List Nat} {h h':A7} {i q id len p len':Nat} (hg:h.get i=some ⟨e,k,[.own id 0 len]⟩) (hp:FR keep id=some p) (hl:len=len') (hg':h'.get q=some ⟨e,k,[.own p 0 len']⟩):(h.get i).bind (Jo keep h 9)=h'.get q:=by
 subst hl
 rw [hg,hg']
 simp only [Option.bind_some,Jo,mapC,Ab,closed,Bool.false_and,Bool.false_eq_true,if_false,Hd,C3,hp,Option.map_some]
theorem boxA {α:Type} {A:α→AV} {e k ek:Nat} {keep:List Nat} {h h':A7} {i q id len p:Nat} {xs:List α} (hx:xs≠ []) (hg:h.get i=some ⟨e,k,[.own id 0 len]⟩) (hp:FR keep id=some p) (hl:len=xs.length) (hg':h'.get q=some ⟨e,k,[Ch p ek A xs]⟩):(h.get i).bind (Jo keep h 9)=h'.get q:=by
 cases xs with
 |nil=>exact absurd rfl hx
 |cons x r=>exact boxO hg hp hl hg'
theorem VY {α:Type} {A:α→AV} {e k ek:Nat} {keep:List Nat} {h h':A7} {i q id p:Nat} {xs:List α} (hg:h.get i=some ⟨e,k,[Ch id ek A xs]⟩) (hp:FR keep id=some p) (hg':h'.get q=some ⟨e,k,[Ch p ek A xs]⟩):(h.get i).bind (Jo keep h 9)=h'.get q:=by
 cases xs with
 |nil=>rw [hg,hg'];rfl
 |cons x r=>exact boxO hg hp rfl hg'
def DW:List ByteArray→Nat→Nat
 | [],_=>0
 |x::r,k=>x.size+k+DW r k
def BP (h:A7):List AV→List AV→Prop
 | [],[]=>True
 |x::xs,y::ys=>(∃z,BU [] h 8 x=some z∧AH z y)∧BP h xs ys
 |_,_=>False
theorem BP.ok {h:A7}: ∀ {xs ys:List AV},BP h xs ys→ ∃zs,Sr h xs zs∧Ed zs ys
 | [],[],_=>⟨[],trivial,trivial⟩
 | [],_::_,k=>k.elim
 |_::_,[],k=>k.elim
 |x::xs,y::ys,k=>by
  obtain ⟨⟨z,e1,e2⟩,k2⟩:=k
  obtain ⟨zs,e3,e4⟩:=BP.ok k2
  exact ⟨z::zs,⟨e1,e3⟩,e2,e4⟩
theorem BP.e {h:A7} {x y:AV} (e:BU [] h 8 x=some y): ∃z,BU [] h 8 x=some z∧AH z y:=⟨y,e,AH.refl y⟩
section
variable {P:Program} {W:World} {T:Ep} {n m i:Nat} {ops:Array Oper} {d:Tmp} {op:Op} {ty:TypeId} {pos:String} {af:Array Edge} {r:List Oper} {env:C7} {h:A7} {Q:C7→A7→Prop}
theorem A4.sfw {g:FuncId} {vs ss:List AV} {r0:AV} (hc:callee T (ev env) ⟨some d,op,ty,pos,af,none⟩=some (g,vs)) (hs:BP h vs ss) (hp:Ar P W g ss r0 [])
  (hf:flat r0=true) (hr:closed r0=true) (hd:d<n)
  (k:A4 P W T n ops r ((d,r0)::env) h Q):A4 P W T n ops (⟨some d,op,ty,pos,af,none⟩::r) env h Q:=by
 obtain ⟨zs,h1,h2⟩:=hs.ok
 exact A4.sf0 hc h1.ok (hp.wk h2) hf hr hd k
theorem Aw.sfw {g:FuncId} {vs ss:List AV} {r0:AV} (hc:callee T (ev env) ⟨some d,op,ty,pos,af,none⟩=some (g,vs)) (hs:BP h vs ss) (hp:Ar P W g ss r0 [])
  (hf:flat r0=true) (hr:closed r0=true) (hd:d<n)
  (k:Aw P W T n ops m (i+1) r ((d,r0)::env) h Q):Aw P W T n ops m i (⟨some d,op,ty,pos,af,none⟩::r) env h Q:=by
 obtain ⟨zs,h1,h2⟩:=hs.ok
 exact Aw.sf0 hc h1.ok (hp.wk h2) hf hr hd k
end
theorem QX (xs:List ByteArray):xs.length≤DW xs 1:=by
 induction xs with
 |nil=>exact Nat.le_refl _
 |cons x xs ih=>simp only [DW,List.length_cons];omega
theorem Dj {α:Type} {k:Nat} {A:α→AV} {xs:List α} (h:lim (AY k A xs)):xs.length≤281474976710656:=by
 unfold AY at h
 simp only [lim,List.length_map] at h
 exact h.1
theorem Wv {s:ByteArray} (h:lim (.s s)):s.size≤281474976710656:=by
 simp only [lim] at h
 exact h
end
end Go.Lift
namespace Go.Lift
noncomputable section
open Go Go.RowKit
section
variable {T:Ep} {ρ:E3} {h:A7} {dst:Option Tmp} {ty:TypeId} {pos:String} {af:Array Edge} {gd:Option (Nat×Bool)} {α:Type} {A:α→AV}
theorem RE {s x:Operand} {t e:TypeId} {i:TI} {k:Nat} {ys:List α} {X:AV} (et:En T t=some e) (ei:AJ T e=some i) (es:ρ (Kb T t) s=some (.sl k true [])) (hx:ρ (Kb T t) x=some X) (hX:Kk h X=some (i.size,ys.map A)) (hy:ys=[])
  (h0:(i.size≠0∧i.zero.cells.length=i.size)):
  Nv T ρ h ⟨dst,.call ⟨.builtin .append,#[s,x],#[t,t]⟩,ty,pos,af,gd⟩=some (.sl i.size true [],h):=by
 subst hy
 simp only [Nv,ne_eq,not_true,if_false,et,ei,es,hx,Option.bind_some,hX,List.map_nil]
 rw [if_pos ⟨trivial,h0.1,h0.2,by simp,by simp⟩]
theorem RF {s x:Operand} {t e:TypeId} {i:TI} {k:Nat} {ys:List α} {X:AV} (et:En T t=some e) (ei:AJ T e=some i) (es:ρ (Kb T t) s=some (.sl k true [])) (hx:ρ (Kb T t) x=some X) (hX:Kk h X=some (i.size,ys.map A)) (hy:ys≠ [])
  (h0:(i.size≠0∧i.zero.cells.length=i.size)) (hb:ys.length*i.bytes≤140737488355328) (hl:ys.length≤Gb):
  Nv T ρ h ⟨dst,.call ⟨.builtin .append,#[s,x],#[t,t]⟩,ty,pos,af,gd⟩=some (.own h.next 0 ys.length,h.new ⟨e,i.size,ys.map A⟩):=by
 cases ys with
 |nil=>exact absurd rfl hy
 |cons y ys=>
  simp only [Nv,ne_eq,not_true,if_false,et,ei,es,hx,Option.bind_some,hX]
  rw [if_pos ⟨trivial,h0.1,h0.2,by simpa using hb,by simpa using hl⟩]
  simp
theorem g_appZ {s x:Operand} {t t' e:TypeId} {i:TI} {z:α} {n k:Nat} {kn kk:IntKind} (htt:t≠t') (et:En T t=some e) (ed:Ci T t'= .int kn) (ei:AJ T e=some i) (es:ρ (Kb T t) s=some (.sl k true [])) (hx:ρ 0 x=some (.i kk (n:Int)))
  (hn:0<n) (h0:(i.size≠0∧i.zero.cells.length=i.size)) (hz:i.zero=A z) (hb:n*i.bytes≤140737488355328) (hl:n≤Gb):
  Nv T ρ h ⟨dst,.call ⟨.builtin .append,#[s,x],#[t,t']⟩,ty,pos,af,gd⟩=some (.own h.next 0 n,h.new ⟨e,i.size,(List.replicate n z).map A⟩):=by
 simp only [Nv,if_pos htt,et,ed,es,hx,ei]
 rw [if_pos ⟨by omega,by omega,by omega,h0.1,h0.2⟩]
 simp [List.map_replicate,hz]
theorem RH {t yt:TypeId} {x y:Operand} {a b:Int} (ex:ρ (Kb T t) x=some (.i .i64 a)) (ey:ρ (Kb T t) y=some (.i .i64 b)) (h1: -9223372036854775808≤a-b) (h2:a-b<9223372036854775808):
  Iz T ρ h ⟨dst,.binOp .sub t x y yt,ty,pos,af,gd⟩=some (.i .i64 (a-b)):=by
 simp only [Iz,ex,ey,Qg,RT,if_true]
 rw [DY h1 h2]
theorem g_rem {t yt:TypeId} {x y:Operand} {k:IntKind} {a b:Int} (ex:ρ (Kb T t) x=some (.i k a)) (ey:ρ (Kb T t) y=some (.i k b)) (hb:b≠0):
  Iz T ρ h ⟨dst,.binOp .rem t x y yt,ty,pos,af,gd⟩=some (.i k (a.tmod b)):=by
 simp only [Iz,ex,ey,Qg,RT,if_true]
 rw [if_neg hb]
theorem RG {a:Operand} {t id j:Nat} {i:TI} {ob:Obj} {x:AV} (et:AJ T t=some i) (ha:ρ 0 a=some (.loc id j 0)) (hg:h.get id=some ob) (hx:ob.els[j]? =some x) (hc:x.cells=[x]) (hi:i.desc.agg=false):
  Iz T ρ h ⟨dst,.load t a,ty,pos,af,gd⟩=some x:=by
 simp only [Iz,et,ha,Option.bind_some,Lr,hg,hx,hc,hi,List.drop_zero]
 rfl
theorem g_setC {a v:Operand} {t id j e k:Nat} {i:TI} {els:List AV} {x y:AV} (et:AJ T t=some i) (ea:ρ 0 a=some (.loc id j 0)) (ev:ρ (Kb T t) v=some y) (hg:h.get id=some ⟨e,k,els⟩) (hx:els[j]? =some x) (cx:x.cells=[x]∧(∀y,x.withCells [y]=y)∧ ∀y,(∀fs,y≠ .st fs)→I8 x y=true) (cy:y.cells=[y]) (ny: ∀fs,y≠ .st fs) (hs:i.size=1) (hin:EP h y=true):
  Nv T ρ h ⟨dst,.store t a v,ty,pos,af,gd⟩=some (.und,h.put id (some ⟨e,k,els.set j y⟩)):=by
 simp only [Nv,et,ea,ev,hg,hx]
 rw [if_pos ⟨by rw [cy,hs];rfl,by rw [cx.1,hs];exact Nat.le_refl _,hin,cx.2.2 y ny⟩]
 rw [cx.1,cy,hs]
 show some (AV.und,h.put id (some ⟨e,k,els.set j (x.withCells ([]++[y]++[]))⟩))=_
 rw [List.nil_append,List.append_nil,cx.2.1]
end
theorem Sb {P:Program} {W:World} {T:Ep} {n:Nat} {ops:Array Oper} {d:Tmp} {op:Op} {ty:TypeId} {pos:String} {af:Array Edge} {r:List Oper} {env:C7} {h:A7} {Q:C7→A7→Prop} {α:Type} {A:α→AV}
  {g:FuncId} {vs:List AV} {e k len:Nat} {xs:List α} (hc:callee T (ev env) ⟨some d,op,ty,pos,af,none⟩=some (g,vs)) (hcl:Ab vs=true) (hp:Ar P W g vs (.own 0 0 len) [⟨e,k,xs.map A⟩])
  (hA: ∀x:α,closed (A x)=true) (hd:d<n)
  (q:A4 P W T n ops r ((d,.own h.next 0 len)::env) (h.new ⟨e,k,xs.map A⟩) Q):A4 P W T n ops (⟨some d,op,ty,pos,af,none⟩::r) env h Q:=by
 refine A4.sc hc hcl hp hd ?_
 have e1:(AV.own 0 0 len).ren (· +h.next)= .own h.next 0 len:=by simp [AV.ren]
 have e2:h.add [⟨e,k,xs.map A⟩]=h.new ⟨e,k,xs.map A⟩:=by
  simp only [A7.add,IU,A7.new,Obj.ren,List.length_cons,List.length_nil,Nat.zero_add]
  rw [show LA (· +h.next) (xs.map A)=xs.map A from by simp only [LA,Ff hA,if_true]]
 rw [e1,e2];exact q
theorem Ni {P:Program} {W:World} {T:Ep} {n m j:Nat} {ops:Array Oper} {d:Tmp} {op:Op} {ty:TypeId} {pos:String} {af:Array Edge} {r:List Oper} {env:C7} {h:A7} {Q:C7→A7→Prop} {α:Type} {A:α→AV}
  {g:FuncId} {vs ss:List AV} {e k len:Nat} {xs:List α} (hc:callee T (ev env) ⟨some d,op,ty,pos,af,none⟩=some (g,vs)) (hs:BP h vs ss) (hp:Ar P W g ss (.own 0 0 len) [⟨e,k,xs.map A⟩])
  (hA: ∀x:α,closed (A x)=true) (hF: ∀x:α,(A x).cells.all flat=true) (hd:d<n)
  (q:Aw P W T n ops m (j+1) r ((d,.own h.next 0 len)::env) (h.new ⟨e,k,xs.map A⟩) Q):Aw P W T n ops m j (⟨some d,op,ty,pos,af,none⟩::r) env h Q:=by
 obtain ⟨zs,h1,h2⟩:=hs.ok
 refine Aw.sf hc h1.ok (hp.wk h2) rfl ?_ hd ?_
 ·simp only [List.all_cons,List.all_nil,Bool.and_true,List.all_map,List.all_eq_true,Function.comp]
  intro x _;simpa using hF x
 ·have e1:(AV.own 0 0 len).ren (· +h.next)= .own h.next 0 len:=by simp [AV.ren]
  have e2:h.add [⟨e,k,xs.map A⟩]=h.new ⟨e,k,xs.map A⟩:=by
   simp only [A7.add,IU,A7.new,Obj.ren,List.length_cons,List.length_nil,Nat.zero_add]
   rw [show LA (· +h.next) (xs.map A)=xs.map A from by simp only [LA,Ff hA,if_true]]
  rw [e1,e2];exact q
def FinO (ts:List Nat) (len e k:Nat) (els:List AV):EL:=fun x env h=>(x= .normal∨x= .ret)∧ ∃id,Cm ts env= .own id 0 len∧h.get id=some ⟨e,k,els⟩
theorem M8 {P:Program} {W:World} {f:FuncId} {fn:Func} {c:Code} (hf:P.funcs[f]? =some fn) (hb:fn.body=some c) (he: ∀(vs:Array Value) (w:World),(callFunc f vs).run P w= .ok (.enter f vs) w)
  {ts:List Nat} (hr:I5 fn.results.toList=some ts) {args:List AV} (hn:args.length≤fn.ntmps) {len e k:Nat} {α:Type} {A:α→AV} {xs:List α} (hA: ∀x,closed (A x)=true)
  (q:Ah P W fn.ntmps 0 c (Dt 0 args) ⟨0,[]⟩ (FinO ts len e k (xs.map A))) (hM:f<1000000:=by decide):Ar P W f args (.own 0 0 len) [⟨e,k,xs.map A⟩]:=by
 refine C8 hf hb he hr hn (q.mono fun x env h hh=> ?_) hM
 obtain ⟨h1,id,h2,h3⟩:=hh
 refine ⟨[id],h1,by simp,rfl,⟨BA hA h3 (by rw [Fh];rfl),trivial⟩,?_⟩
 rw [h2]
 show (match FR [id] id with|some p=>_|none=>_)=_
 have:FR [id] id=some 0:=by simp [FR]
 rw [this]
theorem AH.fn {f:FuncId} {xs ys:List AV} (h:Ed xs ys):AH (.fn f xs) (.fn f ys):=fun w μ v k=>by
 simp only [CR] at k ⊢
 obtain ⟨cs,e,k⟩:=k
 exact ⟨cs,e,h.crs k⟩
theorem Ed.cells {w:World} {μ:Mu}: ∀ {xs ys:List AV} {a:Addr},Ed xs ys→BL w μ xs a→BL w μ ys a
 | [],[],a,_,h=>h
 |x::xs,y::ys,a,k,h=>by
  simp only [BL] at h ⊢
  obtain ⟨⟨u,h1,h2⟩,h3⟩:=h
  exact ⟨⟨u,h1,k.1 w μ u h2⟩,Ed.cells k.2 h3⟩
theorem AH.pt {xs ys:List AV} (h:Ed xs ys):AH (.pt xs) (.pt ys):=fun w μ v k=>by
 simp only [CR] at k ⊢
 obtain ⟨a,e,k⟩:=k
 exact ⟨a,e,h.cells k⟩
def Rf (x:AV):Prop:=x.cells=[x]∧(∀y,x.withCells [y]=y)∧ ∀y,(∀fs,y≠ .st fs)→I8 x y=true
theorem Rf.sl {k:Nat} {nl:Bool} {xs:List AV}:Rf (.sl k nl xs):=⟨rfl,fun _=>rfl,fun y h=>by cases y<;>first|rfl|exact absurd rfl (h _)⟩
theorem Rf.own {a b c:Nat}:Rf (.own a b c):=⟨rfl,fun _=>rfl,fun y h=>by cases y<;>first|rfl|exact absurd rfl (h _)⟩
theorem Rf.acc {α:Type} {p k:Nat} {A:α→AV} {xs:List α}:Rf (Ch p k A xs):=by cases xs<;>first|exact Rf.sl|exact Rf.own
theorem Kf {α:Type} {p k:Nat} {A:α→AV} {xs:List α}:(Ch p k A xs).cells=[Ch p k A xs]:=by cases xs<;>rfl
end
end Go.Lift
namespace Go.Lift
noncomputable section
open Go Go.RowKit
structure BulkOk {H:Type} (bk:DataW H→Nat):Prop where
 str: ∀bs,bk (.lit (.string bs))=bs.length+1
 one: ∀d,1≤bk d
 sl: ∀e s,(e.map bk).sum+1≤bk (.slice e s)
 agg: ∀ps,(ps.map bk).sum+1≤bk (.agg ps)
section
variable {H:Type} {enc:TypeId×Value→H} {P:Program} {w:World} {spare:Nat→Bool} {held:Bool} {bk:DataW H→Nat} {μ:Mu}
def Kc {α:Type} (sz:α→Nat) (xs:List α):Nat:=(xs.map sz).sum+1
end
end
end Go.Lift
namespace Go.Lift
noncomputable section
open Go Go.RowKit Go.WideShapes
section
variable {H:Type} {enc:TypeId×Value→H} {P:Program} {w:World} {spare:Nat→Bool} {held:Bool} {bk:DataW H→Nat} {μ:Mu} {r:Reach} {base:Nat} {t:TypeId} {v:Value} {d:DataW H} {ps:List MemPlace} {α:Type} {A:α→AV} {sz:α→Nat}
end
end
end Go.Lift
namespace Go.Lift
noncomputable section
open Go Go.RowKit
def Ke (n N:Nat) (env:C7) (h:A7) (env1:C7) (h1:A7):Prop:=
 ∀(B:HD) (w0:World) (μ:Mu) (a:Act) (w:World),B.N=N→ER n B w0 μ env h a w→ ∃μ1,ER n B w0 μ1 env1 h1 a w
theorem Ke.fits {n N:Nat} {env:C7} {h:A7} (keep:List Nat) {env1:C7} {h1:A7} (F:OG keep env h env1 h1) (hN: ∀i,i<N→keep[i]? =some i):Ke n N env h env1 h1:=
 fun B w0 μ a w hB R=>⟨μ.fin keep,Jg R F (by rw [hB];exact hN)⟩
theorem LE {P:Program} {W:World} {T:Ep} (hT:Dh P T=true) {n:Nat} {ops:Array Oper} {Q:Exit→Act→World→Prop} (l2:List Nat):
  ∀(l:List Nat) {os:List Oper} {env:C7} {h:A7} {R:C7→A7→Prop},l.map (fun i=>ops[i]?)=os.map some→A4 P W T n ops os env h R→
   ∀ {B:HD} (_:B.W=W) {w0:World} {μ:Mu} {a:Act} {w:World},ER n B w0 μ env h a w→(∀env' h' μ' a' w',R env' h'→ER n B w0 μ' env' h' a' w'→wpOps P ops Q l2 a' w')→wpOps P ops Q (l++l2) a w
 | [],os,env,h,R,hl,k,B,hB,w0,μ,a,w,rel,hQ=>by
   have:os=[]:=by cases os<;>simp at hl;rfl
   subst this
   exact hQ env h μ a w k rel
 |i::l,os,env,h,R,hl,k,B,hB,w0,μ,a,w,rel,hQ=>by
  cases os with
  |nil=>simp at hl
  |cons o os=>
   simp only [List.map_cons,List.cons.injEq] at hl
   obtain ⟨ho,hl⟩:=hl
   simp only [List.cons_append,wpOps,ho]
   simp only [A4] at k
   split at k
   ·rename_i hw
    obtain ⟨hd,x,h',he,k⟩:=k
    rw [if_pos (EZ hw (fun j want d _ _=>rel.env d))]
    exact Or.inl (OZ hT he hB rel hd fun a' w' μ' rel'=>LE hT l2 l hl k hB rel' hQ)
   ·rename_i hw
    obtain ⟨hd,k⟩:=k
    rw [if_neg (by rw [EZ hw (fun j want d _ _=>rel.env d)];simp)]
    exact LE hT l2 l hl k hB (FK hT rel (Hw.refl rel.sim).step (TL hd) (by simp only [VR,D2];exact ⟨#[],rfl,rfl⟩)) hQ
   ·exact k.elim
def DZ (P:Program) (W:World) (n N:Nat) (ops:Array Oper) (j:Nat) (env:C7) (h:A7) (R:C7→A7→Prop):Prop:=
 ∀(B:HD) (w0:World) (μ:Mu) (a:Act) (w:World) (Q:Exit→Act→World→Prop),B.W=W→B.N=N→ER n B w0 μ env h a w→
  (∀env' h' μ' a' w',R env' h'→ER n B w0 μ' env' h' a' w'→Q .normal a' w')→wpOps P ops Q (List.range' j (ops.size-j)) a w
section
variable {P:Program} {W:World} {T:Ep} {n N:Nat} {ops:Array Oper} {m j:Nat} {env:C7} {h:A7} {R:C7→A7→Prop}
theorem DZ.fin (hj:j=ops.size) (k:R env h):DZ P W n N ops j env h R:=fun B w0 μ a w Q hW hN rel hQ=>by
 subst hj;rw [Nat.sub_self];exact hQ _ _ _ _ _ k rel
theorem EQ {env1:C7} {h1:A7} (o:Ke n N env h env1 h1) (k:DZ P W n N ops j env1 h1 R):DZ P W n N ops j env h R:=fun B w0 μ a w Q hW hN rel hQ=>
 let ⟨μ1,r⟩:=o B w0 μ a w hN rel
 k B w0 μ1 a w Q hW hN r hQ
theorem DZ.run (hT:Dh P T=true) (c:Nat) (hc:j+c≤ops.size) (k:A4 P W T n ops ((ops.toList.drop j).take c) env h (fun e s=>DZ P W n N ops (j+c) e s R)):DZ P W n N ops j env h R:=fun B w0 μ a w Q hW hN rel hQ=>by
 have e:List.range' j (ops.size-j)=List.range' j c++List.range' (j+c) (ops.size-(j+c)):=by
  rw [show ops.size-j=c+(ops.size-(j+c)) by omega,←List.range'_append];simp
 rw [e]
 refine LE hT _ _ ?_ k hW rel fun env' h' μ' a' w' q r=>q B w0 μ' a' w' Q hW hN r hQ
 apply List.ext_getElem?
 intro i
 simp only [List.getElem?_map]
 by_cases hi:i<c
 ·have hlt:j+i<ops.size:=by omega
  rw [List.getElem?_range' hi,List.getElem?_take_of_lt hi,List.getElem?_drop]
  simp [hlt]
 ·rw [List.getElem?_eq_none (by simp;omega),List.getElem?_eq_none (by simp;omega)];rfl
end
theorem DG {P:Program} {W:World} {n N:Nat} {env:C7} {h:A7} {Q:EL} {id:Nat} {ops:Array Oper} (k:DZ P W n N ops 0 env h (Q .normal)):Ah P W n N (.region id ops false) env h Q:=
 fun B w0 μ a w hW hB R=>wp_region (by
  have:=k B w0 μ a w (fun e a' w'=> ∃env' h' μ',Q e env' h'∧ER n B w0 μ' env' h' a' w') hW hB R fun env' h' μ' a' w' q r=>⟨env',h',μ',q,r⟩
  rwa [Nat.sub_zero,←List.range_eq_range'] at this)
end
end Go.Lift
namespace Go.Lift
noncomputable section
open Go Go.RowKit
def VS (x y:AV):Prop:=(∃fs gs,x= .st fs∧y= .st gs∧Ed fs gs)∨((∀fs,x≠ .st fs)∧(∀fs,y≠ .st fs)∧AH x y)
def IR:List AV→List AV→Prop
 | [],[]=>True
 |x::xs,y::ys=>VS x y∧IR xs ys
 |_,_=>False
theorem IR.len: ∀ {xs ys:List AV},IR xs ys→xs.length=ys.length
 | [],[],_=>rfl
 |_::_,_::_,k=>by simp [IR.len k.2]
 | [],_::_,k=>k.elim
 |_::_,[],k=>k.elim
theorem IR.rows {w:World} {μ:Mu} {k:Nat}: ∀ {xs ys:List AV} {a:Addr},IR xs ys→BR w μ k xs a→BR w μ k ys a
 | [],[],a,_,h=>h
 | [],_::_,a,q,_=>q.elim
 |_::_,[],a,q,_=>q.elim
 |x::xs,y::ys,a,q,h=>by
  rcases q.1 with ⟨fs,gs,rfl,rfl,h1⟩|⟨h1,h2,h3⟩
  ·simp only [BR] at h ⊢
   exact ⟨⟨by rw [←h1.len];exact h.1.1,h1.cells h.1.2⟩,q.2.rows h.2⟩
  ·have e1:(k=1∧ ∃u,Rd w μ a u∧CR w μ x u)∧BR w μ k xs (a.add k):=by
     cases x<;>first|exact absurd rfl (h1 _)|(simp only [BR] at h;exact h)
   have e2:(k=1∧ ∃u,Rd w μ a u∧CR w μ y u)∧BR w μ k ys (a.add k):=by
    obtain ⟨⟨k1,u,u1,u2⟩,e⟩:=e1
    exact ⟨⟨k1,u,u1,h3 w μ u u2⟩,q.2.rows e⟩
   cases y<;>first|exact absurd rfl (h2 _)|(simp only [BR];exact e2)
theorem AH.sl {k:Nat} {xs ys:List AV} (h:IR xs ys):AH (.sl k false xs) (.sl k false ys):=fun w μ v q=>by
 simp only [CR] at q ⊢
 rcases q with ⟨e,q⟩|⟨_,a,c,e1,e2,e3,e4⟩
 ·subst e
  cases ys with
  |nil=>exact Or.inl ⟨rfl,q⟩
  |cons y ys=>exact h.elim
 ·exact Or.inr ⟨trivial,a,c,by rw [←h.len];exact e1,by rw [←h.len];exact e2,by rw [←h.len];exact e3,h.rows e4⟩
def A1 (no:List Nat) (h:A7) (d:Nat) (x y:AV):Prop:= ∃z,BU no h d x=some z∧closed z=true∧AH z y
def A0 (no:List Nat) (h:A7) (d:Nat):List AV→List AV→Prop
 | [],[]=>True
 |x::xs,y::ys=>A1 no h d x y∧A0 no h d xs ys
 |_,_=>False
def B7 (no:List Nat) (h:A7) (d:Nat) (x y:AV):Prop:= ∃z,BU no h d x=some z∧VS z y
def Am (no:List Nat) (h:A7) (d:Nat):List AV→List AV→Prop
 | [],[]=>True
 |x::xs,y::ys=>B7 no h d x y∧Am no h d xs ys
 |_,_=>False
section
variable {no:List Nat} {h:A7} {d:Nat}
theorem A0.ok: ∀ {xs ys:List AV},A0 no h (d+1) xs ys→ ∃zs,Hd (BU no h (d+1)) xs=some zs∧Ab zs=true∧Ed zs ys∧(Ab xs=true→zs=xs)
 | [],[],_=>⟨[],rfl,rfl,trivial,fun _=>rfl⟩
 | [],_::_,k=>k.elim
 |_::_,[],k=>k.elim
 |x::xs,y::ys,k=>by
  obtain ⟨⟨z,e1,e2,e3⟩,k2⟩:=k
  obtain ⟨zs,f1,f2,f3,f4⟩:=A0.ok k2
  refine ⟨z::zs,by simp only [Hd,e1,f1],by simp only [Ab,e2,f2,Bool.and_self],⟨e3,f3⟩,fun hc=> ?_⟩
  simp only [Ab,Bool.and_eq_true] at hc
  have:=e1.symm.trans (Na (no:=no) (h:=h) (d:=d) hc.1)
  rw [Option.some.inj this,f4 hc.2]
theorem A0.mapC {xs ys:List AV} (k:A0 no h (d+1) xs ys): ∃zs,mapC (BU no h (d+1)) xs=some zs∧Ab zs=true∧Ed zs ys:=by
 obtain ⟨zs,e1,e2,e3,e4⟩:=k.ok
 refine ⟨zs,?_,e2,e3⟩
 unfold Go.Lift.mapC
 by_cases hc:Ab xs=true
 ·rw [if_pos hc,e4 hc]
 ·rw [if_neg hc,e1]
theorem Am.mapC {xs ys:List AV} (k:Am no h (d+1) xs ys): ∃zs,mapC (BU no h (d+1)) xs=some zs∧IR zs ys:=by
 have key: ∀ {xs ys:List AV},Am no h (d+1) xs ys→ ∃zs,Hd (BU no h (d+1)) xs=some zs∧IR zs ys∧(Ab xs=true→zs=xs):=by
  intro xs
  induction xs with
  |nil=>intro ys k;cases ys with
   |nil=>exact ⟨[],rfl,trivial,fun _=>rfl⟩
   |cons y ys=>exact k.elim
  |cons x xs ih=>
   intro ys k
   cases ys with
   |nil=>exact k.elim
   |cons y ys=>
    obtain ⟨⟨z,e1,e3⟩,k2⟩:=k
    obtain ⟨zs,f1,f3,f4⟩:=ih k2
    refine ⟨z::zs,by simp only [Hd,e1,f1],⟨e3,f3⟩,fun hc=> ?_⟩
    simp only [Ab,Bool.and_eq_true] at hc
    have:=e1.symm.trans (Na (no:=no) (h:=h) (d:=d) hc.1)
    rw [Option.some.inj this,f4 hc.2]
 obtain ⟨zs,e1,e3,e4⟩:=key k
 refine ⟨zs,?_,e3⟩
 unfold Go.Lift.mapC
 by_cases hc:Ab xs=true
 ·rw [if_pos hc,e4 hc]
 ·rw [if_neg hc,e1]
theorem A1.c {x y:AV} (hc:closed x=true) (hw:AH x y):A1 no h (d+1) x y:=⟨x,Na hc,hc,hw⟩
theorem A2 {x:AV} (hc:closed x=true):A1 no h (d+1) x x:=⟨x,Na hc,hc,AH.refl x⟩
theorem A1.row {α:Type} {A:α→AV} (hA: ∀x,closed (A x)=true) {id e k len:Nat} {xs:List α} (hn:no.contains id=false) (hg:h.get id=some ⟨e,k,xs.map A⟩) (hlen:len=xs.length) (hL:len≤Gb):A1 no h (d+1) (.own id 0 len) (AY k A xs):=by
 refine ⟨AY k A xs,?_,rfl,AH.refl _⟩
 subst hlen
 simp only [BU,hn,hg,Bool.false_eq_true,if_false,List.length_map,Nat.zero_add,Nat.le_refl,hL,and_self,if_true,List.drop_zero]
 rw [List.take_of_length_le (by simp)]
 simp only [Go.Lift.mapC,Ff hA,if_true,Option.map_some];rfl
theorem A1.acc {α:Type} {A:α→AV} (hA: ∀x,closed (A x)=true) {id e k:Nat} {xs:List α} (hn:no.contains id=false) (hg:h.get id=L3 e k A xs) (hL:xs.length≤Gb):A1 no h (d+1) (Ch id k A xs) (AY k A xs):=by
 cases xs with
 |nil=>exact A1.c rfl (AH.nil k)
 |cons x r=>exact A1.row hA hn hg rfl hL
theorem A1.st {xs ys:List AV} (k:A0 no h (d+1) xs ys):A1 no h (d+2) (.st xs) (.st ys):=by
 obtain ⟨zs,e1,e2,e3⟩:=k.mapC
 exact ⟨.st zs,by simp only [BU,e1,Option.map_some],by simp only [closed];exact e2,AH.st e3⟩
theorem A1.fn {f:FuncId} {xs ys:List AV} (k:A0 no h (d+1) xs ys):A1 no h (d+2) (.fn f xs) (.fn f ys):=by
 obtain ⟨zs,e1,e2,e3⟩:=k.mapC
 exact ⟨.fn f zs,by simp only [BU,e1,Option.map_some],by simp only [closed];exact e2,AH.fn e3⟩
theorem A1.loc {id j o:Nat} {ob:Obj} {x:AV} {ys:List AV} (hn:no.contains id=false) (hg:h.get id=some ob) (hx:ob.els[j]? =some x) (k:A0 no h (d+1) (x.cells.drop o) ys):A1 no h (d+2) (.loc id j o) (.pt ys):=by
 obtain ⟨zs,e1,e2,e3⟩:=k.mapC
 exact ⟨.pt zs,by simp only [BU,hn,hg,hx,e1,Option.map_some,Bool.false_eq_true,if_false],rfl,AH.pt e3⟩
theorem Kd {id j:Nat} {ob:Obj} {x y:AV} (hn:no.contains id=false) (hg:h.get id=some ob) (hx:ob.els[j]? =some x) (hc:x.cells=[x]) (k:A1 no h (d+1) x y):A1 no h (d+2) (.loc id j 0) (.pt [y]):=
 A1.loc hn hg hx (by rw [hc];exact ⟨k,trivial⟩)
theorem B7.st {xs ys:List AV} (k:A0 no h (d+1) xs ys):B7 no h (d+2) (.st xs) (.st ys):=by
 obtain ⟨zs,e1,e2,e3⟩:=k.mapC
 exact ⟨.st zs,by simp only [BU,e1,Option.map_some],Or.inl ⟨_,_,rfl,rfl,e3⟩⟩
theorem A0.nil:A0 no h d [] []:=trivial
theorem A0.cons {x y:AV} {xs ys:List AV} (a:A1 no h d x y) (b:A0 no h d xs ys):A0 no h d (x::xs) (y::ys):=⟨a,b⟩
theorem Am.nil:Am no h d [] []:=trivial
theorem Am.cons {x y:AV} {xs ys:List AV} (a:B7 no h d x y) (b:Am no h d xs ys):Am no h d (x::xs) (y::ys):=⟨a,b⟩
theorem A1.w {x y:AV} (k:A1 [] h 8 x y): ∃z,BU [] h 8 x=some z∧AH z y:=let ⟨z,e,_,w⟩:=k;⟨z,e,w⟩
theorem A1.own {id e k len:Nat} {els ys:List AV} (hn:no.contains id=false) (hg:h.get id=some ⟨e,k,els⟩) (hlen:len=els.length) (hL:len≤Gb) (q:Am no h (d+1) els ys):A1 no h (d+2) (.own id 0 len) (.sl k false ys):=by
 obtain ⟨zs,e1,e2⟩:=q.mapC
 refine ⟨.sl k false zs,?_,rfl,AH.sl e2⟩
 subst hlen
 simp only [BU,hn,hg,Bool.false_eq_true,if_false,Nat.zero_add,Nat.le_refl,hL,and_self,if_true,List.drop_zero]
 rw [List.take_of_length_le (Nat.le_refl _),e1];rfl
theorem A1.cast {x y x' y':AV} (ex:x=x') (ey:y'=y) (k:A1 no h d x' y'):A1 no h d x y:=by subst ex;subst ey;exact k
end
def UA (keep:List Nat):AV→Bool
 | .own id _ _=>(FR keep id).isNone
 | .loc id _ _=>(FR keep id).isNone
 |_=>false
theorem Cz.kk {d:Nat} {keep:List Nat} {h:A7} {x y x' y':AV} (ex:x=x') (ey:y'=y) (hp:UA keep x'=true) (k:A1 keep h (d+1) x' y'):Cz (d+1) keep h x y:=by
 subst ex;subst ey
 obtain ⟨z,e1,e2,e3⟩:=k
 have key: ∀o:Option Nat,o.isNone=true→o=none:=by intro o;cases o<;>simp
 cases x<;>first|(cases hp;done)|exact ⟨z,by simp only [UA] at hp;simp only [C3,key _ hp];exact e1,Or.inr ⟨e2,e3⟩⟩
def Lc (x y:AV):Prop:= ∀(w:World) (μ:Mu) (v:Value),VR w μ x v→VR w μ y v
theorem Lc.refl (x:AV):Lc x x:=fun _ _ _ h=>h
theorem Lc.und (x:AV):Lc x .und:=fun _ _ _ _=>by simp only [VR]
def OK:List AV→List AV→Prop
 | [],[]=>True
 |x::xs,y::ys=>Lc x y∧OK xs ys
 |_,_=>False
theorem OK.vrs {w:World} {μ:Mu}: ∀ {xs ys:List AV} {vs:List Value},OK xs ys→D2 w μ xs vs→D2 w μ ys vs
 | [],[],vs,_,h=>h
 | [],_::_,_,k,_=>k.elim
 |_::_,[],_,k,_=>k.elim
 |x::xs,y::ys,vs,k,h=>by
  simp only [D2] at h ⊢
  obtain ⟨v,r,e,h1,h2⟩:=h
  exact ⟨v,r,e,k.1 w μ v h1,OK.vrs k.2 h2⟩
theorem Lc.tup {xs ys:List AV} (k:OK xs ys):Lc (.tup xs) (.tup ys):=fun w μ v h=>by
 simp only [VR] at h ⊢
 obtain ⟨cs,e,h⟩:=h
 exact ⟨cs,e,k.vrs h⟩
theorem Ar.res {P:Program} {W:World} {f:FuncId} {xs:List AV} {r r':AV} {S:List Obj} (k:Ar P W f xs r S) (h:Lc r r'):Ar P W f xs r' S where
 enters:=k.enters
 calls:=fun w Y vs hG hY hvs=>(k.calls w Y vs hG hY hvs).mono fun e w' ⟨v,μ',h1,h2,h3,h4⟩=>⟨v,μ',h1,h2,h w' μ' v h3,h4⟩
theorem A4.scD {P:Program} {W:World} {T:Ep} {n:Nat} {ops:Array Oper} {d:Tmp} {op:Op} {ty:TypeId} {pos:String} {af:Array Edge} {r:List Oper} {env:C7} {h h':A7} {Q:C7→A7→Prop} {x:AV}
 {g:FuncId} {vs:List AV} {r0:AV} {S:List Obj} (hc:callee T (ev env) ⟨some d,op,ty,pos,af,none⟩=some (g,vs)) (hcl:Ab vs=true) (hp:Ar P W g vs r0 S) (hx:r0.ren (· +h.next)=x) (hh:h.add S=h') (hd:d<n)
 (k:A4 P W T n ops r ((d,x)::env) h' Q):A4 P W T n ops (⟨some d,op,ty,pos,af,none⟩::r) env h Q:=A4.sc hc hcl hp hd (by rw [hx,hh];exact k)
theorem Aw.scD {P:Program} {W:World} {T:Ep} {n m i:Nat} {ops:Array Oper} {d:Tmp} {op:Op} {ty:TypeId} {pos:String} {af:Array Edge} {r:List Oper} {env:C7} {h h':A7} {Q:C7→A7→Prop} {x:AV}
 {g:FuncId} {vs:List AV} {r0:AV} {S:List Obj} (hc:callee T (ev env) ⟨some d,op,ty,pos,af,none⟩=some (g,vs)) (hcl:Ab vs=true) (hp:Ar P W g vs r0 S) (hx:r0.ren (· +h.next)=x) (hh:h.add S=h') (hd:d<n)
 (k:Aw P W T n ops m (i+1) r ((d,x)::env) h' Q):Aw P W T n ops m i (⟨some d,op,ty,pos,af,none⟩::r) env h Q:=Aw.sc hc hcl hp hd (by rw [hx,hh];exact k)
end
end Go.Lift
namespace Go.Lift
noncomputable section
open Go Go.RowKit
theorem Uh (a:Array UInt8):(⟨a⟩:ByteArray).size=a.size:=rfl
theorem Qz (ns:List Int):(Kh ns).size=ns.length:=by unfold Kh;rw [JX];simp
theorem kr {α:Sort _} {a b:α} (h:a=b:=by kernel_rfl):a=b:=h
theorem le {a b:Nat} (h:a≤b:=by exact Nat.le_of_ble_eq_true rfl):a≤b:=h
theorem lt {a b:Nat} (h:a<b:=by exact Nat.le_of_ble_eq_true rfl):a<b:=h
theorem sd {p:Prop} (h:p:=by first|omega|(unfold Gb;omega)|(simp only [List.length_append,List.length_cons,List.length_nil,List.length_set,List.length_replicate,ByteArray.size_append,List.length_take,List.length_drop,Uh,Qz,List.size_toArray,Gb];omega)|(simp [Gb];done)|(simp [Gb];omega)|decide+kernel):p:=h
theorem Ka {p:Prop} (h:p:=by (try dsimp only)<;>(first|omega|(unfold Gb;omega)|(simp only [List.length_append,List.length_cons,List.length_nil,List.length_set,List.length_replicate,ByteArray.size_append,List.length_take,List.length_drop,Uh,Qz,List.size_toArray,Gb];omega)|(simp [Gb];done)|(simp [Gb];omega)|decide+kernel)):p:=h
theorem od {p:Prop} (h:p:=by (try dsimp only);omega):p:=h
theorem Bl:(∀ {α:Type},([]:List α).length=0)∧(((0:Nat):Int)=0)∧(∀ {α:Type} (a:α),(a=a)=True)∧(∀h:Decidable True,@decide True h=true)∧(∀ {α:Type} (xs:List α),[]++xs=xs)∧(∀ {α:Type} (n:Nat),([]:List α).take n=[])∧(∀ {α:Type} (a b:α),cond true a b=a)∧(∀ {α:Type} (a b:α),cond false a b=b)∧(∀b:Bool,(true&&b)=b)∧(∀b:Bool,(false&&b)=false)∧(∀b:Bool,(true||b)=true)∧(∀b:Bool,(false||b)=b)∧((!true)=false)∧((!false)=true):=
 ⟨rfl,rfl,fun a=>eq_self a,fun h=>by cases h with|isTrue q=>rfl|isFalse q=>exact absurd trivial q,fun _=>rfl,fun n=>by simp,fun _ _=>rfl,fun _ _=>rfl,fun b=>Bool.true_and b,fun b=>Bool.false_and b,fun b=>Bool.true_or b,fun b=>Bool.false_or b,rfl,rfl⟩
end
end Go.Lift
namespace Go.Lift
noncomputable section
open Go Go.RowKit
def FinM (T:Ep) (rs:List ResultVar) (r:AV):EL:=fun e env h=>(e= .normal∨e= .ret)∧ ∃r0,Pz T env h rs=some r0∧BM [] h r0 r
theorem GA {P:Program} {W:World} {T:Ep} (hT:Dh P T=true) {f:FuncId} {fn:Func} {c:Code} (hf:P.funcs[f]? =some fn) (hb:fn.body=some c) (he: ∀(vs:Array Value) (w:World),(callFunc f vs).run P w= .ok (.enter f vs) w)
 {args:List AV} (hn:args.length≤fn.ntmps) {r:AV}
 (k:Ah P W fn.ntmps 0 c (Dt 0 args) ⟨0,[]⟩ (FinM T fn.results.toList r)) (hM:f<1000000:=by decide):Ar P W f args r []:= .plain hM he<|fun w Y vs hG hY hvs=>by
 have hvr:=CV _ _ hvs
 have hlen:=Dm hvr
 refine calls_of_wp hf hb ?_
 have R:ER fn.ntmps ⟨W,w,Eo Y,0⟩ w (Eo Y) (Dt 0 args) ⟨0,[]⟩ {tmps:=vs.toArray++Array.replicate (fn.ntmps-vs.toArray.size) undef,defers:=[]} w:={
  glob:=hG
  snc:=⟨ID.refl _ _,rfl,fun _ h=>by simp at h,fun _ _=>rfl⟩
  low:=Nat.zero_le _
  sim:={
   below:=Below.refl _ _
   lt:=by intro _ _ h;cases h
   inj:=by intro _ _ _ _ h;cases h
   live:=by intro _ _ _ h;cases h
   ylt:=hY
   blk:=by intro _ _ _ _ h;cases h}
  env:=Gh hvr _
  sz:=by simp [hlen];omega
  dfr:=rfl
  fresh:=fun _ _=>rfl}
 refine wp_mono (k _ w (Eo Y) _ w rfl rfl R) ?_
 rintro e a' w' ⟨env',h',μ',⟨he,r0,hr0,hE⟩,R'⟩
 obtain ⟨v,hrun,hv0⟩:=NP hT R' hr0
 have hv:=Ry R'.sim hE hv0
 have R2:=LX R' (keep:=[]) (env':=[]) (h':=S0 []) ⟨List.nodup_nil,rfl,trivial,trivial⟩ (fun i hi=>by simp at hi)
 have hpost:a'.defers=[]∧ ∃v,(results fn a'.tmps).run P w'= .ok v w'∧ ∃v' μ'',(Ending.returned v)= .returned v'∧μ''.Y=Y∧VR w' μ'' r v'∧FM w μ'' w' (S0 [])∧(∀id,([]:List Obj).length≤id→μ'' id=none):=
  ⟨R'.dfr,_,hrun,_,μ'.fin [],rfl,R'.snc.y,hv,R2.sim,R2.fresh⟩
 rcases he with rfl|rfl
 ·exact hpost
 ·exact hpost
theorem g_shr {T:Ep} {ρ:E3} {h:A7} {dst:Option Tmp} {ty:TypeId} {pos:String} {af:Array Edge} {gd:Option (Nat×Bool)} {t yt:TypeId} {x y:Operand} {k k':IntKind} {a:Int} {n:Nat} (ex:ρ (Kb T t) x=some (.i k a)) (ey:ρ (Kb T t) y=some (.i k' (n:Int))):
  Iz T ρ h ⟨dst,.binOp .shr t x y yt,ty,pos,af,gd⟩=some (.i k (a.fdiv (2^(min n k.bits)))):=by
 simp only [Iz,ex,ey,Qg,RT]
 rw [if_neg (by omega),Int.toNat_natCast]
def CO (keep:List Nat) (h:A7) (d:Nat):List AV→List AV→Prop
 | [],[]=>True
 |x::xs,y::ys=>C3 keep h d x=some y∧CO keep h d xs ys
 |_,_=>False
section
variable {keep:List Nat} {h h':A7} {d:Nat}
theorem CO.nil:CO keep h d [] []:=trivial
theorem CO.cons {x y:AV} {xs ys:List AV} (a:C3 keep h d x=some y) (b:CO keep h d xs ys):CO keep h d (x::xs) (y::ys):=⟨a,b⟩
theorem CO.ok: ∀ {xs ys:List AV},CO keep h (d+1) xs ys→Hd (C3 keep h (d+1)) xs=some ys∧(Ab xs=true→ys=xs)
 | [],[],_=>⟨rfl,fun _=>rfl⟩
 | [],_::_,k=>k.elim
 |_::_,[],k=>k.elim
 |x::xs,y::ys,k=>by
  obtain ⟨e1,e2⟩:=CO.ok k.2
  refine ⟨by simp only [Hd,k.1,e1],fun hc=> ?_⟩
  simp only [Ab,Bool.and_eq_true] at hc
  have:=k.1.symm.trans (A8 (keep:=keep) (h:=h) (d:=d) hc.1)
  rw [Option.some.inj this,e2 hc.2]
theorem CO.mapC {xs ys:List AV} (k:CO keep h (d+1) xs ys):mapC (C3 keep h (d+1)) xs=some ys:=by
 obtain ⟨e1,e2⟩:=k.ok
 unfold Go.Lift.mapC
 by_cases hc:Ab xs=true
 ·rw [if_pos hc,e2 hc]
 ·rw [if_neg hc,e1]
theorem P4 {x:AV} (hc:closed x=true):C3 keep h (d+1) x=some x:=A8 hc
theorem Us {α:Type} {A:α→AV} {id p k:Nat} {xs:List α} (hp:FR keep id=some p):C3 keep h (d+1) (Ch id k A xs)=some (Ch p k A xs):=by
 cases xs with
 |nil=>rfl
 |cons x r=>simp only [Ch,C3,hp]
theorem Oy {α:Type} {A:α→AV} {id p k len:Nat} {xs:List α} (hx:xs≠ []) (hp:FR keep id=some p) (hl:len=xs.length):C3 keep h (d+1) (.own id 0 len)=some (Ch p k A xs):=by
 cases xs with
 |nil=>exact absurd rfl hx
 |cons x r=>subst hl;simp only [Ch,C3,hp,List.length_cons]
theorem Ml {xs ys:List AV} (k:CO keep h (d+1) xs ys):C3 keep h (d+2) (.st xs)=some (.st ys):=by simp only [C3,k.mapC,Option.map_some]
theorem Ty {e k i q:Nat} {xs ys:List AV} (hg:h.get i=some ⟨e,k,xs⟩) (f:CO keep h 9 xs ys) (hg':h'.get q=some ⟨e,k,ys⟩):(h.get i).bind (Jo keep h 9)=h'.get q:=by
 rw [hg,hg']
 simp only [Option.bind_some,Jo,f.mapC,Option.map_some]
end
end
end Go.Lift
namespace Go.Lift
noncomputable section
open Go Go.RowKit
abbrev X4 {α:Type} [Inhabited α] (xs:List α) (j:Nat) (f:α→α):List α:=xs.set j (f (xs.getD j default))
theorem VU {α:Type} {A:α→AV} {xs:List α} (h:xs≠ []) (p k:Nat):Ch p k A xs= .own p 0 xs.length:=by
 cases xs with
 |nil=>exact absurd rfl h
 |cons x r=>rfl
theorem VT {α:Type} {A:α→AV} {xs:List α} (h:xs≠ []) (e k:Nat):L3 e k A xs=some ⟨e,k,xs.map A⟩:=by
 cases xs with
 |nil=>exact absurd rfl h
 |cons x r=>rfl
theorem Rh {n N:Nat} {env:C7} {h:A7} {id:Nat} {o o':Obj} (hg:h.get id=some o) (he:o.e=o'.e) (hk:o.k=o'.k) (hw:Jr o.els o'.els):Ke n N env h env (h.put id (some o')):=fun B w0 μ a w hB R=>by
 have hlt:=H5 hg
 refine ⟨μ,⟨R.glob,R.snc,R.low,?_,R.env,R.sz,R.dfr,R.fresh⟩⟩
 have hget: ∀j,(h.put id (some o')).get j=if j=id then some o' else h.get j:=fun j=>A7.get_put h id j (some o') (Or.inl hlt)
 exact {
  below:=R.sim.below
  lt:=R.sim.lt
  inj:=R.sim.inj
  ylt:=R.sim.ylt
  live:=fun j q hq=>by
   rw [hget] at hq
   split at hq
   ·rename_i e;subst e;exact R.sim.live _ o hg
   ·exact R.sim.live j q hq
  blk:=fun j q t hq ht=>by
   rw [hget] at hq
   split at hq
   ·rename_i e;subst e;cases hq;exact Tt he hk hw (R.sim.blk _ o t hg ht)
   ·exact R.sim.blk j q t hq ht}
theorem Ke.cast {n N:Nat} {env:C7} {h h1 h2:A7} (e:h1=h2) (k:Ke n N env h env h1):Ke n N env h env h2:=by subst e;exact k
theorem O9 {α:Type} {A:α→AV} (hA: ∀x,Ab (A x).cells=true) {x':α} {cs:List AV} (hc:Ab cs=true) (hw:Ed cs (A x').cells): ∀(xs:List α) (j:Nat),Jr ((xs.map A).set j (.st cs)) ((xs.set j x').map A)
 | [],j=>by cases j<;>trivial
 |x::xs,0=>by
  refine ⟨⟨hc,hw⟩,?_⟩
  clear hw
  induction xs with
  |nil=>trivial
  |cons y ys ih=>exact ⟨⟨hA y,Ed.refl _⟩,ih⟩
 |x::xs,j+1=>⟨⟨hA x,Ed.refl _⟩,O9 hA hc hw xs j⟩
theorem g_setF {T:Ep} {ρ:E3} {h:A7} {dst:Option Tmp} {ty:TypeId} {pos:String} {af:Array Edge} {gd:Option (Nat×Bool)} {α:Type} {A:α→AV} {a v:Operand} {t e k:Nat} {i:TI} {id j o:Nat} {xs:List α} {x:α} {y:AV} {cs cs':List AV}
  (et:AJ T t=some i) (ea:ρ 0 a=some (.loc id j o)) (ev:ρ (Kb T t) v=some y) (hg:h.get id=some ⟨e,k,xs.map A⟩) (hx:xs[j]? =some x) (hA:A x= .st cs)
  (hy:y.cells.length=i.size) (ho:o+i.size≤cs.length) (hin:EP h y=true) (hcs:cs.take o++y.cells++cs.drop (o+i.size)=cs'):
  Nv T ρ h ⟨dst,.store t a v,ty,pos,af,gd⟩=some (.und,h.put id (some ⟨e,k,(xs.map A).set j (.st cs')⟩)):=by
 simp only [Nv,et,ea,ev,hg,N0 (A:=A) hx,hA]
 rw [if_pos ⟨hy,ho,hin,rfl⟩]
 show some (AV.und,h.put id (some ⟨e,k,(xs.map A).set j (.st (cs.take o++y.cells++cs.drop (o+i.size)))⟩))=_
 rw [hcs]
end
end Go.Lift
namespace Go.Lift
noncomputable section
open Go Go.RowKit
theorem Np {xs ys:List AV} (n:Nat) (h:xs.take n=ys):AH (.pt xs) (.pt ys):=fun w μ v k=>by
 simp only [CR] at k ⊢
 obtain ⟨a,e,k⟩:=k
 exact ⟨a,e,h ▸ Rc k n⟩
end
end Go.Lift
namespace Go.Lift
noncomputable section
open Go Go.RowKit
def Ox (env:C7):Bool:=env.all fun p=>closed p.2
theorem NY: ∀ {env:C7},Ox env=true→ ∀t,closed (env.get t)=true
 | [],_,t=>rfl
 |(t',x)::r,h,t=>by
  simp only [Ox,List.all_cons,Bool.and_eq_true] at h
  rw [BD]
  by_cases ht:t=t'
  ·rw [if_pos ht];exact h.1
  ·rw [if_neg ht];exact NY (env:=r) h.2 t
structure CF (n:Nat) (W w0:World) (Y:Nat→Prop) (env:C7) (a:Act) (w:World):Prop where
 glob:Ga W w
 below:Below w0.heap.size w0 w
 env: ∀t,CR w (Eo Y) (env.get t) (a.tmps.getD t undef)
 sz:a.tmps.size=n
 dfr:a.defers=[]
 ylt: ∀g,Y g→g<w0.heap.size
def CQ (Q:Exit→C7→Prop):EL:=fun e env h=> ∃keep env' h',OG keep env h env' h'∧h'.next=0∧Ox env'=true∧Q e env'
section
variable {P:Program} {W w0 w:World} {n:Nat} {Y:Nat→Prop} {env:C7} {a:Act}
theorem CF.rel (F:CF n W w0 Y env a w):ER n ⟨w,w,Eo Y,0⟩ w (Eo Y) env ⟨0,[]⟩ a w where
 glob:=Ga.refl w
 snc:=⟨ID.refl _ _,rfl,fun _ h=>by simp at h,fun _ _=>rfl⟩
 low:=Nat.le_refl _
 sim:={
  below:=Below.refl _ _
  lt:=by intro _ _ h;cases h
  inj:=by intro _ _ _ _ h;cases h
  live:=by intro _ _ _ h;cases h
  ylt:=fun g hg=>Nat.lt_of_lt_of_le (F.ylt g hg) F.below.size
  blk:=by intro _ _ _ _ h;cases h}
 env:=fun t=>Eb _ _ (F.env t)
 sz:=F.sz
 dfr:=F.dfr
 fresh:=fun _ _=>rfl
theorem CF.of_rel (F:CF n W w0 Y env a w) {env':C7} {h':A7} {μ':Mu} {a':Act} {w':World} (hn:h'.next=0) (hc:Ox env'=true) (R:ER n ⟨w,w,Eo Y,0⟩ w μ' env' h' a' w'):CF n W w0 Y env' a' w'∧Below w.heap.size w w':=by
 refine ⟨⟨F.glob.mono R.sim.below,F.below.trans (R.sim.below.mono F.below.size),fun t=> ?_,R.sz,R.dfr,F.ylt⟩,R.sim.below⟩
 refine CG (fun x u hr=>⟨hr.1,fun q=>hr.2.1 ?_,hr.2.2⟩) _ _ (Cd _ _ (NY hc t) (R.env t))
 rcases q with q|⟨_,_,q,_⟩
 ·left;rw [R.snc.y];exact q
 ·cases q
theorem CF.run {c:Code} {Q:Exit→C7→Prop} (F:CF n W w0 Y env a w) (k:Ah P w n 0 c env ⟨0,[]⟩ (CQ Q)):
  c.wp P (fun e a' w'=> ∃env',Q e env'∧CF n W w0 Y env' a' w'∧Below w.heap.size w w') a w:=
 wp_mono (k ⟨w,w,Eo Y,0⟩ w (Eo Y) a w rfl rfl F.rel) fun e a' w' ⟨env1,h1,μ',⟨keep,env',h',hf,hn,hc,q⟩,R⟩=>
  ⟨env',q,F.of_rel hn hc (Jg R hf (fun i hi=>by simp at hi))⟩
end
theorem Lz {P:Program} {W:World} {T:Ep} (hT:Dh P T=true) {n:Nat} {ops:Array Oper} {Q:Exit→Act→World→Prop} (l2:List Nat):
  ∀(l:List Nat) {os:List Oper} {env:C7} {h:A7} {R:C7→A7→Prop},l.map (fun i=>ops[i]?)=os.map some→A4 P W T n ops os env h R→
   ∀ {B:HD} (_:B.W=W) {w0:World} {μ:Mu} {a:Act} {w:World},ER n B w0 μ env h a w→(∀env' h' μ' a' w',R env' h'→ER n B w0 μ' env' h' a' w'→wpOps P ops Q l2 a' w')→wpOps P ops Q (l++l2) a w
 | [],os,env,h,R,hl,k,B,hB,w0,μ,a,w,rel,hQ=>by
   have:os=[]:=by cases os<;>simp at hl;rfl
   subst this
   exact hQ env h μ a w k rel
 |i::l,os,env,h,R,hl,k,B,hB,w0,μ,a,w,rel,hQ=>by
  cases os with
  |nil=>simp at hl
  |cons o os=>
   simp only [List.map_cons,List.cons.injEq] at hl
   obtain ⟨ho,hl⟩:=hl
   simp only [List.cons_append,wpOps,ho]
   simp only [A4] at k
   split at k
   ·rename_i hw
    obtain ⟨hd,x,h',he,k⟩:=k
    rw [if_pos (EZ hw (fun j want d _ _=>rel.env d))]
    exact Or.inl (OZ hT he hB rel hd fun a' w' μ' rel'=>Lz hT l2 l hl k hB rel' hQ)
   ·rename_i hw
    obtain ⟨hd,k⟩:=k
    rw [if_neg (by rw [EZ hw (fun j want d _ _=>rel.env d)];simp)]
    have hdd: ∀t,o.dst=some t→t<n:=by
     intro t ht
     unfold DD at hd
     rw [ht] at hd
     simpa using hd
    exact Lz hT l2 l hl k hB (FK hT rel (Hw.refl rel.sim).step hdd (by simp only [VR,D2];exact ⟨#[],rfl,rfl⟩)) hQ
   ·exact k.elim
theorem RZ {P:Program} {W:World} {T:Ep} (hT:Dh P T=true) {n:Nat} {ops:Array Oper} {Q:Exit→Act→World→Prop} (m:Nat) (l2:List Nat) (hm:m≤ops.size) {env:C7} {h:A7} {R:C7→A7→Prop} (k:A4 P W T n ops (ops.toList.take m) env h R)
  {B:HD} (hB:B.W=W) {w0:World} {μ:Mu} {a:Act} {w:World} (rel:ER n B w0 μ env h a w) (hQ: ∀env' h' μ' a' w',R env' h'→ER n B w0 μ' env' h' a' w'→wpOps P ops Q l2 a' w'):wpOps P ops Q (List.range m++l2) a w:=
 Lz hT l2 (List.range m) (os:=ops.toList.take m) (by
  apply List.ext_getElem?
  intro i
  simp only [List.getElem?_map,List.getElem?_take]
  rcases Nat.lt_or_ge i m with q|q
  ·rw [List.getElem?_range q,if_pos q]
   simp [show i<ops.size by omega]
  ·rw [List.getElem?_eq_none (by simpa using q),if_neg (by omega)];rfl) k hB rel hQ
def OE (es:Array MapEntry) (ks:List Int):Prop:=es.toList.map (fun e=>(e.key,e.val))=ks.map fun k=>(Value.int .i64 k,Value.bool true)
theorem Mm (k:Int): ∀(es:List MapEntry) (ks:List Int) (i:Nat),es.map (fun e=>(e.key,e.val))=ks.map (fun k=>(Value.int .i64 k,Value.bool true))→
  (ks.any (fun t=>decide (t=k))=false→Instr.findNow (.int .i64) (.int .i64 k) es i=some none)∧
  (ks.any (fun t=>decide (t=k))=true→ ∃j,Instr.findNow (.int .i64) (.int .i64 k) es i=some (some (j,.bool true)))
 | [],ks,i,h=>by
   cases ks with
   |nil=>exact ⟨fun _=>rfl,fun q=>by simp at q⟩
   |cons t r=>simp at h
 |e::es,ks,i,h=>by
  cases ks with
  |nil=>simp at h
  |cons t r=>
   simp only [List.map_cons,List.cons.injEq,Prod.mk.injEq] at h
   obtain ⟨⟨h1,h2⟩,h3⟩:=h
   obtain ⟨a,b⟩:=Mm k es r (i+1) h3
   simp only [Instr.findNow,h1,Instr.sameNow,if_true,List.any_cons,h2]
   by_cases hk:k=t
   ·subst hk
    simp
   ·have hk': ¬t=k:=fun q=>hk q.symm
    have e1:(k==t)=false:=by simpa using hk
    rw [e1,decide_eq_false hk',Bool.false_or]
    exact ⟨a,b⟩
section
variable {P:Program} {mt kt vt:TypeId} (hm:P.underlying mt=some (.map kt vt)) (hk:P.underlying kt=some (.int .i64)) (hv:P.underlying vt=some .bool)
 (hz: ∀w,(zeroValue vt).run P w= .ok (.bool false) w)
include hm hk hz
theorem PC {w:World} {r:Nat} {es:Array MapEntry} {clock:Nat} {ks:List Int} (hr:w.heap[r]? =some (.map es clock)) (he:OE es ks) (k:Int):
  (Instr.lookup mt (.map (some r)) (.int .i64 k) false).run P w= .ok (.bool (ks.any fun t=>decide (t=k))) w:=by
 obtain ⟨a,b⟩:=Mm k es.toList ks 0 he
 have hck:(Instr.checkKey es.isEmpty 10000 kt (.int .i64 k)).run P w= .ok () w:=MapKept.run_checkKey (k:= .int .i64 k) (n:=9999) hk (show IntKind.i64=IntKind.i64 from rfl) _
 cases h:ks.any fun t=>decide (t=k) with
 |false=>
  have hf:(Instr.findKey kt (.int .i64 k) es.toList).run P w= .ok none w:=by
   simp [Instr.findKey,run_underlying hk,a h]
  simp only [Instr.lookup,Sem.run_bind,run_underlying hm,Result.andThen_ok,MapKept.run_getObj_map hr,Sem.run_pure,hck,hf,hz]
  simp
 |true=>
  obtain ⟨j,hj⟩:=b h
  have hf:(Instr.findKey kt (.int .i64 k) es.toList).run P w= .ok (some (j,.bool true)) w:=by
   simp [Instr.findKey,run_underlying hk,hj]
  simp only [Instr.lookup,Sem.run_bind,run_underlying hm,Result.andThen_ok,MapKept.run_getObj_map hr,Sem.run_pure,hck,hf]
  simp
theorem V4 {W:World} {r:Nat} {es:Array MapEntry} {clock:Nat} {ks:List Int} (hr:W.heap[r]? =some (.map es clock)) (he:OE es ks) {env:C7} {x y:Tmp} {key:Int}
  (ex:env.get x= .raw (.map (some r))) (ey:env.get y= .i .i64 key) {d:Tmp} {ty:TypeId} {pos:String} {af:Array Edge}:
  ∀(w:World) (μ:Mu) (c:Operand→Value),Ga W w→(∀z∈(Op.lookup mt (.tmp x) (.tmp y) false).operands,∀q u,ev env q z=some u→VR w μ u (c z))→
   ∃z,(execOp c ⟨some d,.lookup mt (.tmp x) (.tmp y) false,ty,pos,af,none⟩).run P w= .ok (.value z) w∧VR w μ (.b (ks.any fun t=>decide (t=key))) z:=by
 intro w μ c hG hx
 have hlt:r<W.heap.size:=by
  rcases Nat.lt_or_ge r W.heap.size with q|q
  ·exact q
  ·rw [Array.getElem?_eq_none q] at hr;cases hr
 have h1:=hx (.tmp x) (by simp [Op.operands]) 0 _ rfl
 have h2:=hx (.tmp y) (by simp [Op.operands]) 0 _ rfl
 rw [ex] at h1;rw [ey] at h2
 simp only [VR,CR] at h1 h2
 have hr':w.heap[r]? =some (.map es clock):=by rw [hG.block r hlt];exact hr
 refine ⟨.bool (ks.any fun t=>decide (t=key)),?_,by simp only [VR,CR]⟩
 unfold execOp
 exact Fm (by rw [h1,h2];exact PC hm hk hz hr' he key)
omit hz in
theorem N9 {w:World} {r:Nat} {es:Array MapEntry} {clock:Nat} {ks:List Int} (hr:w.heap[r]? =some (.map es clock)) (he:OE es ks) {k:Int} (hn:ks.any (fun t=>decide (t=k))=false):
  (Instr.mapUpdate mt (.map (some r)) (.int .i64 k) (.bool true)).run P w= .ok () {w with heap:=w.heap.setIfInBounds r (.map (es.push ⟨.int .i64 k,.bool true,clock⟩) (clock+1))}:=by
 obtain ⟨a,b⟩:=Mm k es.toList ks 0 he
 have hck:(Instr.checkKey false 10000 kt (.int .i64 k)).run P w= .ok () w:=MapKept.run_checkKey (k:= .int .i64 k) (n:=9999) hk (show IntKind.i64=IntKind.i64 from rfl) _
 have hf:(Instr.findKey kt (.int .i64 k) es.toList).run P w= .ok none w:=by
  simp [Instr.findKey,run_underlying hk,a hn]
 simp only [Instr.mapUpdate,Sem.run_bind,run_underlying hm,Result.andThen_ok,MapKept.run_getObj_map hr,Sem.run_pure,hck,hf]
 exact MapKept.run_setObj_map _ hr
end
theorem OE.push {es:Array MapEntry} {ks:List Int} (h:OE es ks) (k:Int) (c:Nat):OE (es.push ⟨.int .i64 k,.bool true,c⟩) (ks++[k]):=by
 unfold OE at h ⊢
 simp [h]
theorem OE.nil:OE #[] []:=rfl
theorem CF.turn {n:Nat} {W w0 w:World} {Y:Nat→Prop} {env:C7} {a:Act} (F:CF n W w0 Y env a w) {r:Nat} {es es':Array MapEntry} {clock c':Nat} (hr:w.heap[r]? =some (.map es clock)) (h0:w0.heap.size≤r) (hW:W.heap.size≤r):
  CF n W w0 Y env a {w with heap:=w.heap.setIfInBounds r (.map es' c')}∧({w with heap:=w.heap.setIfInBounds r (.map es' c')}:World).heap[r]? =some (.map es' c'):=by
 have hlt:r<w.heap.size:=by
  rcases Nat.lt_or_ge r w.heap.size with q|q
  ·exact q
  ·rw [Array.getElem?_eq_none q] at hr;cases hr
 have hb: ∀g,g≠r→({w with heap:=w.heap.setIfInBounds r (.map es' c')}:World).heap[g]? =w.heap[g]? :=by
  intro g hg
  simp only [Array.getElem?_setIfInBounds]
  rw [if_neg (fun q=>hg q.symm)]
 have e: ∀x u,Rd w (Eo Y) x u→Rd {w with heap:=w.heap.setIfInBounds r (.map es' c')} (Eo Y) x u:=by
  refine fun x u hu=>⟨?_,hu.2.1,hu.2.2⟩
  have hne:x.block≠r:=by
   intro q
   have h1:=hu.1
   unfold World.cell? at h1
   rw [q,hr] at h1
   simp at h1
  rw [Fe (hb _ hne)];exact hu.1
 refine ⟨⟨⟨?_,fun k hk=> ?_⟩,⟨F.below.os,F.below.tape,F.below.output,?_,fun k hk=> ?_⟩,fun t=>Du e _ _ (F.env t),F.sz,F.dfr,F.ylt⟩,?_⟩
 ·simp only [Array.size_setIfInBounds];exact F.glob.size
 ·rw [hb k (by omega)];exact F.glob.block k hk
 ·simp only [Array.size_setIfInBounds];exact F.below.size
 ·rw [hb k (by omega)];exact F.below.block k hk
 ·simp only [Array.getElem?_setIfInBounds];simp [hlt]
theorem CF.made {n:Nat} {W w0 w:World} {Y:Nat→Prop} {env:C7} {a:Act} (F:CF n W w0 Y env a w) (o:Go.Obj):CF n W w0 Y env a (w.alloc o) where
 glob:=⟨by have:=F.glob.size;simp;omega,fun k hk=>by rw [Gw _ _ _ (Nat.lt_of_lt_of_le hk F.glob.size)];exact F.glob.block k hk⟩
 below:=F.below.alloc F.below.size o
 env:=fun t=>KD (ID.of (fun g hg _=>Gw _ _ _ hg) (fun _ _ h=>Or.inl h) (fun g h=>Or.inl h)) _ _ (F.env t)
 sz:=F.sz
 dfr:=F.dfr
 ylt:=F.ylt
theorem Ga.cell {W w:World} (g:Ga W w) {a:Addr} {u:Value} (h:W.cell? a=some u):w.cell? a=some u:=by
 rw [Fe (g.block _ (Js h))];exact h
theorem R9 {P:Program} {ops:Array Oper} {Q:Exit→Act→World→Prop} {i:Nat} {rest:List Nat} {a:Act} {w:World} {o:Oper} (ho:ops[i]? =some o) (hg:o.guard=none) {v:Value} {w':World}
  (hr:(execOp a.eval o).run P w= .ok (.value v) w') (k:wpOps P ops Q rest (a.put o.dst v) w'):wpOps P ops Q (i::rest) a w:=by
 simp only [wpOps,ho]
 rw [if_pos (by unfold Region.wanted;rw [hg])]
 refine Or.inl ?_
 unfold Oper.wp
 rw [hr];exact k
theorem CF.put {n:Nat} {W w0 w:World} {Y:Nat→Prop} {env:C7} {a:Act} (F:CF n W w0 Y env a w) {t:Tmp} (ht:t<n) {x:AV} {v:Value} (hv:CR w (Eo Y) x v):CF n W w0 Y ((t,x)::env) (a.put (some t) v) w where
 glob:=F.glob
 below:=F.below
 env:=fun t'=>by
  have hs:=F.sz
  have e1:(a.put (some t) v).tmps.getD t' undef=if t=t' then v else a.tmps.getD t' undef:=by
   simp only [Act.put,Array.getD_eq_getD_getElem?,Array.getElem?_setIfInBounds]
   by_cases h:t=t'
   ·subst h;simp [hs,ht]
   ·rw [if_neg h,if_neg (by simpa using h)]
  rw [e1,BD]
  by_cases h:t'=t
  ·subst h;rw [if_pos rfl,if_pos rfl];exact hv
  ·rw [if_neg h,if_neg (fun q=>h q.symm)];exact F.env t'
 sz:=by simp only [Act.put,Array.size_setIfInBounds];exact F.sz
 dfr:=F.dfr
 ylt:=F.ylt
theorem VK {P:Program} {n:Nat} {W w:World} {Y:Nat→Prop} (hG:Ga W w) (hY: ∀g,Y g→g<w.heap.size) {args:List AV} {vs:List Value} (hc:Ab args=true) (h:FL w (Eo Y) args vs) (hn:args.length≤n):
  CF n W w Y (Dt 0 args) {tmps:=vs.toArray++Array.replicate (n-vs.toArray.size) undef,defers:=[]} w where
 glob:=hG
 below:=Below.refl _ _
 env:=fun t=>by
  have hl:=GJ h
  refine Cd _ _ ?_ (Gh (CV _ _ h) _ t)
  rw [Mk]
  split
  ·cases e:args[t-0]? with
   |none=>rfl
   |some x=>rw [GU] at hc;exact List.all_eq_true.1 hc x (List.mem_of_getElem? e)
  ·rfl
 sz:=by have hl:=GJ h;simp [hl];omega
 dfr:=rfl
 ylt:=hY
theorem CF.done {P:Program} {n:Nat} {W w0 w:World} {Y:Nat→Prop} {env:C7} {a:Act} (F:CF n W w0 Y env a w) {fn:Func} {t:Nat} (hr:I5 fn.results.toList=some [t]) {r:AV} (hc:closed r=true) (he:env.get t=r):
  a.defers=[]∧ ∃v,(results fn a.tmps).run P w= .ok v w∧ ∃v' μ',(Ending.returned v)= .returned v'∧μ'.Y=Y∧VR w μ' r v'∧FM w0 μ' w (S0 [])∧(∀id,([]:List Obj).length≤id→μ' id=none):=by
 refine ⟨F.dfr,_,LB (P:=P) hr a.tmps w,_,Eo Y,rfl,rfl,?_,?_,fun _ _=>rfl⟩
 ·have:=F.env t
  rw [he] at this
  exact Eb _ _ this
 ·exact {
   below:=F.below
   lt:=by intro _ _ h;cases h
   inj:=by intro _ _ _ _ h;cases h
   live:=by intro _ _ _ h;cases h
   ylt:=F.ylt
   blk:=by intro _ _ _ _ h;cases h}
theorem Ub {P:Program} {ops:Array Oper} {Q:Exit→Act→World→Prop} {i:Nat} {rest:List Nat} {a:Act} {w:World} {o:Oper} (ho:ops[i]? =some o) (hg:o.guard=none) {w':World}
  (hr:(execOp a.eval o).run P w= .ok .skip w') (k:wpOps P ops Q rest (a.put o.dst undef) w'):wpOps P ops Q (i::rest) a w:=by
 simp only [wpOps,ho]
 rw [if_pos (by unfold Region.wanted;rw [hg])]
 refine Or.inl ?_
 unfold Oper.wp
 rw [hr];exact k
theorem run_uu {P:Program} {m:Sem Unit} {w w':World} (h:m.run P w= .ok () w'):(do m;pure .skip:Sem Next).run P w= .ok .skip w':=by
 simp [h]
theorem CF.bool {n:Nat} {W w0 w:World} {Y:Nat→Prop} {env:C7} {a:Act} (F:CF n W w0 Y env a w) {t:Nat} {b:Bool} (h:env.get t= .b b):a.eval (.tmp t)= .bool b:=by
 have:=F.env t
 rw [h] at this;simp only [CR] at this;exact this
theorem CF.raw {n:Nat} {W w0 w:World} {Y:Nat→Prop} {env:C7} {a:Act} (F:CF n W w0 Y env a w) {t:Nat} {u:Value} (h:env.get t= .raw u):a.eval (.tmp t)=u:=by
 have:=F.env t
 rw [h] at this;simp only [CR] at this;exact this
theorem CF.int {n:Nat} {W w0 w:World} {Y:Nat→Prop} {env:C7} {a:Act} (F:CF n W w0 Y env a w) {t:Nat} {k:IntKind} {z:Int} (h:env.get t= .i k z):a.eval (.tmp t)= .int k z:=by
 have:=F.env t
 rw [h] at this;simp only [CR] at this;exact this
theorem CF.len {n:Nat} {W w0 w:World} {Y:Nat→Prop} {env:C7} {a:Act} (F:CF n W w0 Y env a w) {t:Nat} {k:Nat} {α:Type} {A:α→AV} {xs:List α} (h:env.get t=AY k A xs):xs.length≤281474976710656:=by
 have:=F.env t
 rw [h] at this
 simp only [AY,CR] at this
 rcases this with ⟨q,_⟩|⟨_,_,_,_,_,q,_⟩
 ·have:xs=[]:=by simpa using q
  rw [this];simp
 ·simpa [Gb] using q
theorem Below.blk {w w':World} (h:Below w.heap.size w w') {r:Nat} {o:Go.Obj} (hr:w.heap[r]? =some o):w'.heap[r]? =some o:=by
 have hlt:r<w.heap.size:=by
  rcases Nat.lt_or_ge r w.heap.size with q|q
  ·exact q
  ·rw [Array.getElem?_eq_none q] at hr;cases hr
 rw [h.block r hlt];exact hr
end
end Go.Lift
namespace Go.Lift
noncomputable section
open Go Go.RowKit
section
variable {P:Program} {W:World} {T:Ep} {n:Nat} {ops:Array Oper} {d:Tmp} {op:Op} {ty:TypeId} {pos:String} {af:Array Edge} {gd:Nat×Bool} {r:List Oper} {env:C7} {h h':A7} {Q:C7→A7→Prop} {m i:Nat}
theorem Aq (x:AV) (k:A4 P W T n ops r ((d,x)::env) h Q) (e:Iz T (ev env) h ⟨some d,op,ty,pos,af,none⟩=some x:=by kernel_rfl) (hd:d<n:=by exact Nat.le_of_ble_eq_true rfl):A4 P W T n ops (⟨some d,op,ty,pos,af,none⟩::r) env h Q:=A4.sq e hd k
theorem Ap (x:AV) (e:Iz T (ev env) h ⟨some d,op,ty,pos,af,none⟩=some x) (k:A4 P W T n ops r ((d,x)::env) h Q) (hd:d<n:=by exact Nat.le_of_ble_eq_true rfl):A4 P W T n ops (⟨some d,op,ty,pos,af,none⟩::r) env h Q:=A4.sq e hd k
theorem Dq (x:AV) (k:Aw P W T n ops m (i+1) r ((d,x)::env) h Q) (e:Iz T (ev env) h ⟨some d,op,ty,pos,af,none⟩=some x:=by kernel_rfl) (hd:d<n:=by exact Nat.le_of_ble_eq_true rfl):Aw P W T n ops m i (⟨some d,op,ty,pos,af,none⟩::r) env h Q:=Aw.sq e hd k
theorem Dp (x:AV) (e:Iz T (ev env) h ⟨some d,op,ty,pos,af,none⟩=some x) (k:Aw P W T n ops m (i+1) r ((d,x)::env) h Q) (hd:d<n:=by exact Nat.le_of_ble_eq_true rfl):Aw P W T n ops m i (⟨some d,op,ty,pos,af,none⟩::r) env h Q:=Aw.sq e hd k
theorem An (k:A4 P W T n ops r ((d,.tup [])::env) h Q) (e:Di ops env ⟨some d,op,ty,pos,af,some gd⟩=some false:=by kernel_rfl) (hd:d<n:=by exact Nat.le_of_ble_eq_true rfl):A4 P W T n ops (⟨some d,op,ty,pos,af,some gd⟩::r) env h Q:=by
 simp only [A4,e];exact ⟨by simpa [DD] using hd,k⟩
theorem Dn (k:Aw P W T n ops m (i+1) r ((d,.tup [])::env) h Q) (e:Di ops env ⟨some d,op,ty,pos,af,some gd⟩=some false:=by kernel_rfl) (hd:d<n:=by exact Nat.le_of_ble_eq_true rfl):Aw P W T n ops m i (⟨some d,op,ty,pos,af,some gd⟩::r) env h Q:=by
 simp only [Aw,e];exact ⟨by simpa [DD] using hd,k⟩
theorem Gy {j:Nat} {want t:Bool} {o:Oper} {t':Tmp} (hj:ops[j]? =some o) (ho:o.dst=some t') (k1:A4 P W T n ops (⟨some d,op,ty,pos,af,none⟩::r) env h Q) (ht:env.get t'= .b t:=by first|rfl|fail) (e:t=want:=by first|rfl|(simp [*];done)|fail):A4 P W T n ops (⟨some d,op,ty,pos,af,some (j,want)⟩::r) env h Q:=A4.sgy hj ho ht e k1
theorem Gn {j:Nat} {want t:Bool} {o:Oper} {t':Tmp} (hj:ops[j]? =some o) (ho:o.dst=some t') (hd:d<n) (k2:A4 P W T n ops r ((d,.tup [])::env) h Q) (ht:env.get t'= .b t:=by first|rfl|fail) (e:t= !want:=by first|rfl|(simp [*];done)|fail):A4 P W T n ops (⟨some d,op,ty,pos,af,some (j,want)⟩::r) env h Q:=Se hj ho ht e hd k2
theorem Gu {j:Nat} {want:Bool} {o:Oper} {t':Tmp} (hj:ops[j]? =some o) (ho:o.dst=some t') (hd:d<n) (k2:A4 P W T n ops r ((d,.tup [])::env) h Q) (ht:env.get t'= .tup []:=by first|rfl|fail):A4 P W T n ops (⟨some d,op,ty,pos,af,some (j,want)⟩::r) env h Q:=VI hj ho ht hd k2
theorem Ts {j:Nat} {want:Bool} {o:Oper} (hg:o.guard=some (j,want)) (e:Di ops env o=some true): ∃o' t',ops[j]? =some o'∧o'.dst=some t'∧env.get t'= .b want:=by
 unfold Di at e
 rw [hg] at e
 dsimp only at e
 cases hj:ops[j]? with
 |none=>rw [hj] at e;cases e
 |some o'=>
  rw [hj] at e
  simp only [Option.bind_some] at e
  cases ho:o'.dst with
  |none=>rw [ho] at e;cases e
  |some t'=>
   rw [ho] at e
   dsimp only at e
   refine ⟨o',t',rfl,ho,?_⟩
   split at e
   ·rename_i t ht
    rw [ht]
    cases t<;>cases want<;>first|rfl|cases e
   ·cases e
   ·cases e
theorem Ay (k:A4 P W T n ops (⟨some d,op,ty,pos,af,none⟩::r) env h Q) (e:Di ops env ⟨some d,op,ty,pos,af,some gd⟩=some true:=by kernel_rfl):A4 P W T n ops (⟨some d,op,ty,pos,af,some gd⟩::r) env h Q:=by
 obtain ⟨j,want⟩:=gd
 obtain ⟨o',t',h1,h2,h3⟩:=Ts rfl e
 exact A4.sgy h1 h2 h3 rfl k
theorem Dy (k:Aw P W T n ops m i (⟨some d,op,ty,pos,af,none⟩::r) env h Q) (e:Di ops env ⟨some d,op,ty,pos,af,some gd⟩=some true:=by kernel_rfl):Aw P W T n ops m i (⟨some d,op,ty,pos,af,some gd⟩::r) env h Q:=by
 obtain ⟨j,want⟩:=gd
 obtain ⟨o',t',h1,h2,h3⟩:=Ts rfl e
 exact Aw.sgy h1 h2 h3 rfl k
theorem Nn (x:AV) (ob:Obj) (k:A4 P W T n ops r ((d,x)::env) (h.new ob) Q) (e:VH T (ev env) h ⟨some d,op,ty,pos,af,none⟩=some (x,h.new ob):=by kernel_rfl) (hd:d<n:=by exact Nat.le_of_ble_eq_true rfl):A4 P W T n ops (⟨some d,op,ty,pos,af,none⟩::r) env h Q:=A4.sn e hd k
theorem Nb (x:AV) (k:A4 P W T n ops r ((d,x)::env) h Q) (e:VH T (ev env) h ⟨some d,op,ty,pos,af,none⟩=some (x,h):=by kernel_rfl) (hd:d<n:=by exact Nat.le_of_ble_eq_true rfl):A4 P W T n ops (⟨some d,op,ty,pos,af,none⟩::r) env h Q:=A4.sn e hd k
theorem Nd (x:AV) (k:Aw P W T n ops m (i+1) r ((d,x)::env) h Q) (e:VH T (ev env) h ⟨some d,op,ty,pos,af,none⟩=some (x,h):=by kernel_rfl) (hd:d<n:=by exact Nat.le_of_ble_eq_true rfl):Aw P W T n ops m i (⟨some d,op,ty,pos,af,none⟩::r) env h Q:=Aw.sn e hd k
theorem Sp (id:Nat) (ob:Obj) (k:A4 P W T n ops r env (h.put id (some ob)) Q) (e:Nv T (ev env) h ⟨none,op,ty,pos,af,none⟩=some (.und,h.put id (some ob)):=by kernel_rfl):A4 P W T n ops (⟨none,op,ty,pos,af,none⟩::r) env h Q:=A4.st e k
theorem Sc {g:FuncId} {r0:AV} {S:List Obj} (x:AV) (hp:Ar P W g [] r0 S) (k:A4 P W T n ops r ((d,x)::env) (h.add S) Q) (hc:callee T (ev env) ⟨some d,op,ty,pos,af,none⟩=some (g,[]):=by kernel_rfl) (hx:r0.ren (· +h.next)=x:=by kernel_rfl) (hd:d<n:=by exact Nat.le_of_ble_eq_true rfl):A4 P W T n ops (⟨some d,op,ty,pos,af,none⟩::r) env h Q:=A4.scD hc rfl hp hx rfl hd k
end
section
variable {P:Program} {W:World} {n N:Nat} {env:C7} {h:A7} {Q:EL}
theorem Ad {T:Ep} {ops:Array Oper} {Q:C7→A7→Prop} (k:Q env h):A4 P W T n ops [] env h Q:=A4.done k
theorem Sq {x y:Code} (k:Ah P W n N x env h (EL.then (fun env' h'=>Ah P W n N y env' h' Q) Q)):Ah P W n N (.seq x y) env h Q:=Ah.seq k
theorem Rt (k:Q .ret env h):Ah P W n N .ret env h Q:=Ah.ret k
theorem Ct {c:Operand} {x y:Code} (k:Ah P W n N x env h Q) (hc:ev env 0 c=some (.b true):=by kernel_rfl):Ah P W n N (.cond c x y) env h Q:=Ah.cond hc k
theorem Cf {c:Operand} {x y:Code} (k:Ah P W n N y env h Q) (hc:ev env 0 c=some (.b false):=by kernel_rfl):Ah P W n N (.cond c x y) env h Q:=Ah.cond hc k
end
theorem nde {p:Prop} [Decidable p] (h:(!decide p)=false):p:=by simpa using h
theorem ndt {p:Prop} [Decidable p] (h:(!decide p)=true): ¬p:=by simpa using h
theorem Ec {d:Nat} {keep:List Nat} {h:A7} {x y:AV} (e:x=y:=by kernel_rfl) (hc:closed y=true:=by kernel_rfl):Cz (d+1) keep h x y:=BM.c e hc
theorem Ee {keep:List Nat} {h:A7} {env:C7} {t:Nat} {x:AV} {r:C7} (b:AM keep h env r) (e:env.get t=x:=by kernel_rfl) (hc:closed x=true:=by kernel_rfl):AM keep h env ((t,x)::r):=AM.cons (BM.c e hc) b
abbrev Ai (n:Nat):AV:= .i .i64 (n:Int)
theorem Ar.freeze {P:Program} {W:World} {f:FuncId} {args:List AV} {r r':AV} {S:List Obj} (k:Ar P W f args r S) (e:BM [] (S0 S) r r'):Ar P W f args r' [] where
 enters:=k.enters
 calls:=fun w Y vs hG hY hvs=>by
  refine (k.calls w Y vs hG hY hvs).mono ?_
  rintro e' w' ⟨v,μ',rfl,hy,hv,hs,hf⟩
  refine ⟨v,μ'.fin [],rfl,hy,Ry hs e hv,?_,fun id _=>rfl⟩
  exact {
   below:=hs.below
   lt:=by intro _ _ h;cases h
   inj:=by intro _ _ _ _ h;cases h
   live:=by intro _ _ _ h;cases h
   ylt:=hs.ylt
   blk:=by intro _ _ _ _ h;cases h}
end
end Go.Lift
namespace Go.Lift
noncomputable section
open Go Go.RowKit
def Pv:AV→Bool
 | .b _=>true
 | .i _ _=>true
 | .s _=>true
 | .und=>true
 |_=>false
def NK:AV→Bool
 | .st fs=>fs.all Pv
 |x=>Pv x
theorem Vt {w w':World} {μ μ':Mu} {x:AV} {v:Value} (hx:Pv x=true) (k:VR w μ x v):VR w' μ' x v:=by
 cases x<;>first|(simp [Pv] at hx;done)|(simp only [VR];done)|(simp only [VR,CR] at k ⊢;exact k)
theorem RV {x y:AV} {i:Nat} (hx:NK x=true) (hy:x.cells[i]? =some y):Pv y=true:=by
 cases x with
 |st fs=>
  have hm:y∈fs:=List.mem_of_getElem? (by simpa only [AV.cells] using hy)
  simp only [NK,List.all_eq_true] at hx
  exact hx y hm
 |_=>
  simp only [AV.cells] at hy
  have:y∈ [_]:=List.mem_of_getElem? hy
  rw [List.mem_singleton] at this;subst this
  simpa only [NK] using hx
section
variable {keep:List Nat} {h h':A7} {d:Nat}
end
theorem HC {P:Program} {W:World} {T:Ep} {n N:Nat} {env:C7} {h:A7} {Q:EL} (hT:Dh P T=true) (hm:P.follows .mixedOrders=true) {id:Nat} {ops:Array Oper} (m:Nat) (l:List Nat)
  (hpo:Qi ops m (fun j=>l.contains j)=true) (hl:(l.all fun j=>Nat.blt j m)=true) (hr:IA ops m (fun j=>l.contains j)=true) (hmn:m≤ops.size) (k:Aw P W T n ops m 0 ops.toList env h (Q .normal)):Ah P W n N (.region id ops true) env h Q:=
 fun B w0 μ a w hW hB R=>Mb hT hm hpo (fun j hj=>by
  have:=List.all_eq_true.1 hl j (by simpa using hj)
  exact Nat.le_of_ble_eq_true this) hr hmn k hW R fun env' h' μ' a' w' q r=>⟨env',h',μ',q,r⟩
end
end Go.Lift
namespace Go.Lift
noncomputable section
open Go Go.RowKit
theorem OD {w:World} {μ:Mu}: ∀ {xs ys:List AV} {us:List Value},FL w μ (xs++ys) us→ ∃a b,us=a++b∧FL w μ xs a∧FL w μ ys b
 | [],ys,us,h=>⟨[],us,rfl,by simp only [FL],h⟩
 |x::xs,ys,us,h=>by
  simp only [List.cons_append,FL] at h
  obtain ⟨v,r,rfl,h1,h2⟩:=h
  obtain ⟨a,b,rfl,h3,h4⟩:=OD h2
  exact ⟨v::a,b,rfl,by simp only [FL];exact ⟨v,a,rfl,h1,h3⟩,h4⟩
theorem Sh {w:World} {μ:Mu}: ∀ {xs ys:List AV} {a b:List Value},FL w μ xs a→FL w μ ys b→FL w μ (xs++ys) (a++b)
 | [],ys,a,b,h,k=>by simp only [FL] at h;subst h;exact k
 |x::xs,ys,a,b,h,k=>by
  simp only [FL] at h
  obtain ⟨v,r,rfl,h1,h2⟩:=h
  simp only [List.cons_append,FL]
  exact ⟨v,r++b,rfl,h1,Sh h2 k⟩
theorem ME {P:Program} {W:World} {f g:FuncId} {bs ys:List AV} {r:AV} {S:List Obj} (k:Ar P W f (bs++ys) r S) (hM:f<1000000) (hb:bs≠ []) (hg':OO f bs=g):Ar P W g (ys++bs) r S:=by
 have hg:g=f+1000000*bs.length:=by rw [←hg',Nr]
 have h0:0<bs.length:=List.length_pos_iff.2 hb
 have e1:g % 1000000=f:=by
  have: ∀(f n:Nat),f<1000000→(f+1000000*n) % 1000000=f:=by intro f n h;omega
  rw [hg];exact this f _ hM
 have e2:g /1000000=bs.length:=by
  have: ∀(f n:Nat),f<1000000→(f+1000000*n) /1000000=n:=by intro f n h;omega
  rw [hg];exact this f _ hM
 have e3: ¬g<1000000:=by
  have: ∀(f n:Nat),0<n→ ¬f+1000000*n<1000000:=by intro f n h;omega
  rw [hg];exact this f _ h0
 refine ⟨by rw [e1];exact k.entersP hM,?_⟩
 rw [e1]
 intro w Y vs hG hY hvs
 obtain ⟨a,b,rfl,h1,h2⟩:=OD hvs
 have hl:b.length=bs.length:=GJ h2
 have:PN g (a++b)=(b++a).toArray:=by
  unfold PN
  rw [if_neg e3,e2]
  have:(a++b).length-bs.length=a.length:=by rw [List.length_append,hl];omega
  rw [this,List.drop_left,List.take_left]
 rw [this]
 exact k.callsP hM w Y (b++a) hG hY (Sh h2 h1)
theorem A1.wk {no:List Nat} {h:A7} {d:Nat} {x y y':AV} (k:A1 no h d x y) (q:AH y y'):A1 no h d x y':=by
 obtain ⟨z,e1,e2,e3⟩:=k
 exact ⟨z,e1,e2,fun w μ v hv=>q w μ v (e3 w μ v hv)⟩
end
end Go.Lift
namespace Go.Lift
noncomputable section
open Go Go.RowKit
def OI (F:Fence):Prop:=F=Fence.wide∨ ∃l,F=Fence.wide.inRound l
theorem OI.fn {F:Fence} (h:OI F) (f:FuncId):F.fn f:=by rcases h with rfl|⟨l,rfl⟩<;>exact trivial
theorem OI.depth {F:Fence} (h:OI F) (k:Nat):F.depth.isSome=true→1≤k:=by rcases h with rfl|⟨l,rfl⟩<;>exact fun q=>by cases q
theorem RS {F:Fence} (hF:OI F) {m:Nat} {P:Program} {o:Oper} {a:Act} {w:World} {K:Act→World→Prop} {Q:Exit→Act→World→Prop} (hd: ∀c,o.op≠ .defer c) (h:o.wp P a w K Q):o.wpIn F m P a w K Q:=by
 refine ⟨fun f _=>hF.fn f,?_⟩
 rw [Oper.semAt_eq _ _ _ hd]
 unfold Oper.wp at h
 generalize (execOp a.eval o).run P w=r at h ⊢
 cases r with
 |halt hh w'=>cases hh<;>first|exact h|exact h.elim
 |ok n w'=>
  cases n with
  |value v=>exact h
  |skip=>exact h
  |defer d=>exact h
  |enter f args=>
   refine ⟨hF.depth _,?_⟩
   have h2:CallsIn Fence.wide (m-1) P f args w' _:=callsIn_wide.2 h
   have h3:=CallsIn.mono h2 (R':=fun
    | .returned v,w''=>K (a.put o.dst v) w''
    | .panicked chain,w''=>Q (.panic chain) a w''
    | .outgrown,_=>LetsOut Q) (fun e w'' q=>by cases e<;>exact q)
   rcases hF with rfl|⟨l,rfl⟩
   ·exact h3
   ·exact CallsIn.inRound l h3
  |row row args=>
   refine ⟨hF.depth _,?_⟩
   rcases hF with rfl|⟨l,rfl⟩
   ·exact fun c cs _=>let ⟨v,w'',r,s⟩:=h c cs;⟨v,w'',r,stepsIn_wide.2 s⟩
   ·exact fun c cs _=>let ⟨v,w'',r,s⟩:=h c cs;⟨v,w'',r,stepsIn_wide.2 s⟩
  |_=>exact False.elim h
def JA (o:Oper):Bool:=match o.op with
 | .defer _=>false
 |_=>true
theorem KR {o:Oper} (h:JA o=true): ∀c,o.op≠ .defer c:=by
 intro c e;unfold JA at h;rw [e] at h;cases h
section
variable {F:Fence} {m:Nat} {P:Program} {W:World} {T:Ep} {n N:Nat} {ops:Array Oper}
theorem NO (hF:OI F) (hT:Dh P T=true) {Q:Exit→Act→World→Prop} (hnd:ops.toList.all JA=true):
  ∀(l:List Nat) {l':List Nat} {os:List Oper} {env:C7} {h:A7} {R:C7→A7→Prop},l.map (fun i=>ops[i]?)=os.map some→A4 P W T n ops os env h R→
   ∀ {B:HD} (_:B.W=W) {w0:World} {μ:Mu} {a:Act} {w:World},ER n B w0 μ env h a w→(∀env' h' μ' a' w',R env' h'→ER n B w0 μ' env' h' a' w'→wpOpsIn F m P ops Q l' a' w')→wpOpsIn F m P ops Q (l++l') a w
 | [],l',os,env,h,R,hl,k,B,hB,w0,μ,a,w,rel,hQ=>by
   have:os=[]:=by cases os<;>simp at hl;rfl
   subst this
   exact hQ env h μ a w k rel
 |i::l,l',os,env,h,R,hl,k,B,hB,w0,μ,a,w,rel,hQ=>by
  cases os with
  |nil=>simp at hl
  |cons o os=>
   simp only [List.map_cons,List.cons.injEq] at hl
   obtain ⟨ho,hl⟩:=hl
   have hdf: ∀c,o.op≠ .defer c:=KR (List.all_eq_true.1 hnd o (by
    obtain ⟨hi,e⟩:=Array.getElem?_eq_some_iff.1 ho
    rw [←e];simp))
   simp only [List.cons_append,wpOpsIn,ho]
   simp only [A4] at k
   split at k
   ·rename_i hw
    obtain ⟨hd,x,h',he,k⟩:=k
    rw [if_pos (EZ hw (fun j want d _ _=>rel.env d))]
    exact RS hF hdf (OZ hT he hB rel hd fun a' w' μ' rel'=>NO hF hT hnd l hl k hB rel' hQ)
   ·rename_i hw
    obtain ⟨hd,k⟩:=k
    rw [if_neg (by rw [EZ hw (fun j want d _ _=>rel.env d)];simp)]
    have hdd: ∀t,o.dst=some t→t<n:=by
     intro t ht
     unfold DD at hd
     rw [ht] at hd
     simpa using hd
    exact ⟨fun f _=>hF.fn f,NO hF hT hnd l hl k hB (FK hT rel (Hw.refl rel.sim).step hdd (by simp only [VR,D2];exact ⟨#[],rfl,rfl⟩)) hQ⟩
   ·exact k.elim
def L2 (F:Fence) (m:Nat) (P:Program) (W:World) (n N:Nat) (c:Code) (env:C7) (h:A7) (Q:EL):Prop:=
 ∀(B:HD) (w0:World) (μ:Mu) (a:Act) (w:World),B.W=W→B.N=N→ER n B w0 μ env h a w→
  c.wpIn F m P (fun e a' w'=> ∃env' h' μ',Q e env' h'∧ER n B w0 μ' env' h' a' w') a w
variable {env:C7} {h:A7} {Q:EL}
theorem L2.seq {x y:Code} (k:L2 F m P W n N x env h (EL.then (fun env' h'=>L2 F m P W n N y env' h' Q) Q)):L2 F m P W n N (.seq x y) env h Q:=
 fun B w0 μ a w hW hB R=>wpIn_seq (wpIn_mono (k B w0 μ a w hW hB R) fun e a' w' hh=>by
  obtain ⟨env',h',μ',q,r⟩:=hh
  cases e<;>first|exact q B w0 μ' a' w' hW hB r|exact ⟨env',h',μ',q,r⟩)
theorem L2.region (hF:OI F) (hT:Dh P T=true) {id:Nat} (hnd:ops.toList.all JA=true) (k:A4 P W T n ops ops.toList env h (Q .normal)):L2 F m P W n N (.region id ops false) env h Q:=
 fun B w0 μ a w hW hB R=>wpIn_region (by
  have:=NO (m:=m) (Q:=fun e a' w'=> ∃env' h' μ',Q e env' h'∧ER n B w0 μ' env' h' a' w') hF hT hnd (List.range ops.size) (l':=[]) (os:=ops.toList) (by
   apply List.ext_getElem?
   intro i
   simp only [List.getElem?_map,List.getElem?_range]
   rcases Nat.lt_or_ge i ops.size with q|q
   ·rw [List.getElem?_range q];simp [q]
   ·rw [List.getElem?_eq_none (by simpa using q),Array.getElem?_toList,Array.getElem?_eq_none q];rfl) k hW R fun env' h' μ' a' w' q r=>⟨env',h',μ',q,r⟩
  simpa using this)
end
def CU (T:Ep) (n:Nat) (h:A7):List Oper→C7→(C7→Prop)→Prop
 | [],env,Q=>Q env
 |o::r,env,Q=>o.guard=none∧DD n o=true∧ ∃x,Iz T (ev env) h o=some x∧CU T n h r (env.put o.dst x) Q
theorem CU.q {T:Ep} {n:Nat} {h:A7} {d:Tmp} {op:Op} {ty:TypeId} {pos:String} {af:Array Edge} {r:List Oper} {env:C7} {Q:C7→Prop} (x:AV) (k:CU T n h r ((d,x)::env) Q)
  (e:Iz T (ev env) h ⟨some d,op,ty,pos,af,none⟩=some x:=by kernel_rfl) (hd:d<n:=by exact Nat.le_of_ble_eq_true rfl):CU T n h (⟨some d,op,ty,pos,af,none⟩::r) env Q:=
 ⟨rfl,by simpa [DD] using hd,x,e,k⟩
theorem CU.p {T:Ep} {n:Nat} {h:A7} {d:Tmp} {op:Op} {ty:TypeId} {pos:String} {af:Array Edge} {r:List Oper} {env:C7} {Q:C7→Prop} (x:AV)
  (e:Iz T (ev env) h ⟨some d,op,ty,pos,af,none⟩=some x) (k:CU T n h r ((d,x)::env) Q) (hd:d<n:=by exact Nat.le_of_ble_eq_true rfl):CU T n h (⟨some d,op,ty,pos,af,none⟩::r) env Q:=
 ⟨rfl,by simpa [DD] using hd,x,e,k⟩
theorem CU.done {T:Ep} {n:Nat} {h:A7} {env:C7} {Q:C7→Prop} (k:Q env):CU T n h [] env Q:=k
theorem Io {F:Fence} {m:Nat} {P:Program} {T:Ep} {n:Nat} {ops:Array Oper} {h:A7} (hF:OI F) (hT:Dh P T=true) {Q:Exit→Act→World→Prop} (hnd:ops.toList.all JA=true):
  ∀(l:List Nat) {l':List Nat} {os:List Oper} {env:C7} {R:C7→Prop},l.map (fun i=>ops[i]?)=os.map some→CU T n h os env R→
   ∀ {B:HD} {w0:World} {μ:Mu} {a:Act} {w:World},ER n B w0 μ env h a w→(∀env' a',R env'→ER n B w0 μ env' h a' w→wpOpsIn F m P ops Q l' a' w)→wpOpsIn F m P ops Q (l++l') a w
 | [],l',os,env,R,hl,k,B,w0,μ,a,w,rel,hQ=>by
   have:os=[]:=by cases os<;>simp at hl;rfl
   subst this
   exact hQ env a k rel
 |i::l,l',os,env,R,hl,k,B,w0,μ,a,w,rel,hQ=>by
  cases os with
  |nil=>simp at hl
  |cons o os=>
   simp only [List.map_cons,List.cons.injEq] at hl
   obtain ⟨ho,hl⟩:=hl
   have hdf: ∀c,o.op≠ .defer c:=KR (List.all_eq_true.1 hnd o (by
    obtain ⟨hi,e⟩:=Array.getElem?_eq_some_iff.1 ho
    rw [←e];simp))
   obtain ⟨hg,hd,x,he,k⟩:=k
   simp only [List.cons_append,wpOpsIn,ho]
   rw [if_pos (by simp only [Region.wanted,hg])]
   have hdd: ∀t,o.dst=some t→t<n:=by
    intro t ht
    unfold DD at hd
    rw [ht] at hd
    simpa using hd
   obtain ⟨v,h1,h2⟩:=QQ hT he w0 μ w a.eval rel.sim (fun x _ k y hy=>SE (fun t _=>rel.env t) hy)
   refine RS hF hdf ?_
   unfold Oper.wp
   rw [h1]
   exact Io hF hT hnd l hl k (FK hT rel (Hw.refl rel.sim).step hdd h2) hQ
theorem GY {F:Fence} {m:Nat} {P:Program} {T:Ep} {n:Nat} {ops:Array Oper} {h:A7} {id:Nat} (hF:OI F) (hT:Dh P T=true) {Q:Exit→Act→World→Prop} (hnd:ops.toList.all JA=true) {env:C7} {R:C7→Prop}
  (k:CU T n h ops.toList env R) {B:HD} {w0:World} {μ:Mu} {a:Act} {w:World} (rel:ER n B w0 μ env h a w) (hQ: ∀env' a',R env'→ER n B w0 μ env' h a' w→Q .normal a' w):(Code.region id ops false).wpIn F m P Q a w:=
 wpIn_region (by
  have:=Io (m:=m) (Q:=Q) hF hT hnd (List.range ops.size) (l':=[]) (os:=ops.toList) (by
   apply List.ext_getElem?
   intro i
   simp only [List.getElem?_map,List.getElem?_range]
   rcases Nat.lt_or_ge i ops.size with q|q
   ·rw [List.getElem?_range q];simp [q]
   ·rw [List.getElem?_eq_none (by simpa using q),Array.getElem?_toList,Array.getElem?_eq_none q];rfl) k rel hQ
  simpa using this)
theorem Fq {n:Nat} {W w:World} {Y:Nat→Prop} {env:C7} {a:Act} (hG:Ga W w) (hY: ∀g,Y g→g<w.heap.size) (he: ∀t,VR w (Eo Y) (env.get t) (a.tmps.getD t undef)) (hs:a.tmps.size=n) (hd:a.defers=[]):
  ER n ⟨W,w,Eo Y,0⟩ w (Eo Y) env ⟨0,[]⟩ a w where
 glob:=hG
 snc:=⟨ID.refl _ _,rfl,fun _ h=>by simp at h,fun _ _=>rfl⟩
 low:=Nat.zero_le _
 sim:={
  below:=Below.refl _ _
  lt:=by intro _ _ h;cases h
  inj:=by intro _ _ _ _ h;cases h
  live:=by intro _ _ _ h;cases h
  ylt:=hY
  blk:=by intro _ _ _ _ h;cases h}
 env:=he
 sz:=hs
 dfr:=hd
 fresh:=fun _ _=>rfl
def La (n₀:Nat) (w1:World) (μ1:Mu) (A B:World):Prop:=Below n₀ A B∧ ∀g,g<w1.heap.size→ ¬μ1.mut g→B.heap[g]? =A.heap[g]?
theorem La.trans {n₀:Nat} {w1:World} {μ1:Mu} {A B C:World} (h:La n₀ w1 μ1 A B) (k:La n₀ w1 μ1 B C):La n₀ w1 μ1 A C:=
 ⟨h.1.trans k.1,fun g hg hm=>(k.2 g hg hm).trans (h.2 g hg hm)⟩
theorem La.put {n₀:Nat} {w1:World} {μ1:Mu} (hn:n₀≤w1.heap.size) (W:World) (l:Nat) (o o':Go.Obj) (hl:w1.heap.size≤l) (h:W.heap[l]? =some o) (h1:o.isCells=false) (h2:o.isWalk=false):La n₀ w1 μ1 W (W.putObj l o'):=
 ⟨belowK_b hn W l o o' hl h h1 h2,fun g hg _=>World.putObj_heap_other (by omega)⟩
def Yb (w1:World) (μ1:Mu) (W:World):Nat→Prop:=fun g=>(μ1.mut g∨w1.heap.size≤g)∧g<W.heap.size
def Gl (w1:World) (μ1:Mu) (W:World):Prop:=w1.heap.size≤W.heap.size∧ ∀g,g<w1.heap.size→ ¬μ1.mut g→W.heap[g]? =w1.heap[g]?
theorem Gl.rd {w1 W:World} {μ1:Mu} (h:Gl w1 μ1 W) (a:Addr) (u:Value) (k:Rd w1 μ1 a u):Rd W (Eo (Yb w1 μ1 W)) a u:=by
 obtain ⟨h1,h2,h3⟩:=k
 have hl:=Js h1
 refine ⟨by rw [Fe (h.2 _ hl h2)];exact h1,?_,h3⟩
 rintro (⟨q|q,_⟩|⟨_,_,q,_⟩)
 ·exact h2 q
 ·omega
 ·cases q
theorem Gl.step {w1 W W':World} {μ1:Mu} (h:Gl w1 μ1 W) {n₀:Nat} (k:La n₀ w1 μ1 W W'):Gl w1 μ1 W':=
 ⟨Nat.le_trans h.1 k.1.size,fun g hg hm=>(k.2 g hg hm).trans (h.2 g hg hm)⟩
theorem Gl.below {w1 W:World} {μ1:Mu} (h:Below w1.heap.size w1 W):Gl w1 μ1 W:=⟨h.size,fun g hg _=>h.block g hg⟩
theorem WS {w1 W W':World} {μ1:Mu} {n₀:Nat} (k:La n₀ w1 μ1 W W') (a:Addr) (u:Value) (h:Rd W (Eo (Yb w1 μ1 W)) a u):Rd W' (Eo (Yb w1 μ1 W')) a u:=by
 obtain ⟨h1,h2,h3⟩:=h
 have hl:=Js h1
 have hg:a.block<w1.heap.size∧ ¬μ1.mut a.block:=by
  refine ⟨?_,fun q=>h2 (Or.inl ⟨Or.inl q,hl⟩)⟩
  rcases Nat.lt_or_ge a.block w1.heap.size with q|q
  ·exact q
  ·exact absurd (Or.inl ⟨Or.inr q,hl⟩) h2
 refine ⟨by rw [Fe (k.2 _ hg.1 hg.2)];exact h1,?_,h3⟩
 rintro (⟨q|q,_⟩|⟨_,_,q,_⟩)
 ·exact hg.2 q
 ·omega
 ·cases q
theorem OS: ∀ {env:C7},(env.all fun p=>closed p.2)=true→ ∀t,closed (env.get t)=true
 | [],_,t=>rfl
 |(q,x)::r,h,t=>by
  simp only [List.all_cons,Bool.and_eq_true] at h
  have ih:=OS (env:=r) h.2 t
  unfold C7.get at ih ⊢
  rw [Cg]
  split
  ·exact h.1
  ·exact ih
theorem QD {n:Nat} {w1 W W':World} {μ1:Mu} {n₀:Nat} {B:HD} {w0:World} {h:A7} {env:C7} {a:Act} (k:La n₀ w1 μ1 W W') (R:ER n B w0 (Eo (Yb w1 μ1 W)) env h a W) (hc:(env.all fun p=>closed p.2)=true) (t:Nat):
  VR W' (Eo (Yb w1 μ1 W')) (env.get t) (a.tmps.getD t undef):=
 Eb _ _ (Du (WS k) _ _ (Cd _ _ (OS hc t) (R.env t)))
def Nk (env:C7):C7→Prop
 | []=>True
 |(t,x)::r=>env.get t=x∧Nk env r
theorem Qw {w:World} {μ:Mu} {env:C7} {f:Nat→Value} (k: ∀t,VR w μ (env.get t) (f t)): ∀ {env':C7},Nk env env'→ ∀t,VR w μ (env'.get t) (f t)
 | [],_,t=>by show VR w μ .und _;simp only [VR]
 |(q,x)::r,h,t=>by
  have ih:=Qw k (env':=r) h.2 t
  unfold C7.get at ih ⊢
  rw [Cg]
  split
  ·rename_i e;rw [e];have:=k q;rw [h.1] at this;exact this
  ·exact ih
theorem ER.sub {n:Nat} {B:HD} {w0 w:World} {μ:Mu} {env env':C7} {h:A7} {a:Act} (R:ER n B w0 μ env h a w) (k:Nk env env'):ER n B w0 μ env' h a w:=
 ⟨R.glob,R.snc,R.low,R.sim,Qw R.env k,R.sz,R.dfr,R.fresh⟩
theorem J0 {F:Fence} {m:Nat} {P:Program} {ops:Array Oper} {Q:Exit→Act→World→Prop} {i:Nat} {rest:List Nat} {o:Oper} {a:Act} {w:World} (ho:ops[i]? =some o) (hg:o.guard=none)
  (k:o.wpIn F m P a w (wpOpsIn F m P ops Q rest) Q):wpOpsIn F m P ops Q (i::rest) a w:=by
 simp only [wpOpsIn,ho]
 rw [if_pos (by simp only [Region.wanted,hg])]
 exact k
theorem PU {F:Fence} {m:Nat} {P:Program} {o:Oper} {a:Act} {w:World} {K:Act→World→Prop} {Q:Exit→Act→World→Prop} {l f:Nat} {tm:Array Value} {asg bd:Code} {R:Ending→World→Prop} (hF:OI F) (hd:JA o=true)
  (hrun:(execOp a.eval o).run P w= .ok (.round l f tm asg bd) w) (k:RoundIn F (m-1) P l f tm asg bd w R) (hK: ∀e w',R e w'→ ∃v,e= .returned v∧K (a.put o.dst v) w'):o.wpIn F m P a w K Q:=
 ⟨fun f _=>hF.fn f,by
   rw [Oper.semAt_eq _ _ _ (KR hd),hrun]
   exact ⟨hF.depth _,k.mono fun e w' r=>by obtain ⟨v,rfl,q⟩:=hK e w' r;exact q⟩⟩
def Qx (out:ByteArray) (v:Value):Prop:= ∃t y,v= .agg #[.string out,.int .i64 t,y]∧out.size≤Gb∧((∃s,y= .string s)∨ ∃p n c,y= .slice p n c)
def back (n j:Nat):List Nat:=(List.range j).map (fun i=>n-1-i)
theorem LR (n j:Nat):back n (j+1)=back n j++[n-1-j]:=by simp [back,List.range_succ]
end
end Go.Lift
namespace Go.Lift
noncomputable section
open Go Go.RowKit
def OC (P:Program) (W:World) (n N:Nat) (c:Code) (Q:EL):Nat→C7→A7→Prop
 |0,_,_=>False
 |m+1,env,h=>Ah P W n N c env h (EL.then (OC P W n N c Q m) Q)
theorem OC.next {P:Program} {W:World} {n N:Nat} {c:Code} {Q:EL} {m:Nat} {env:C7} {h:A7} (k:Ah P W n N c env h (EL.then (OC P W n N c Q m) Q)):OC P W n N c Q (m+1) env h:=k
theorem Tu {P:Program} {W:World} {n N:Nat} {c:Code} {Q:EL} (m:Nat) {env:C7} {h:A7} (k:OC P W n N c Q m env h):Ah P W n N (.loop c) env h Q:=
 fun B w0 μ a w hW hB R=>J4 (fun k a w=> ∃env h μ,OC P W n N c Q k env h∧ER n B w0 μ env h a w) (k0:=m) ⟨env,h,μ,k,R⟩ fun k a w ⟨env,h,μ,hI,R⟩=>by
  cases k with
  |zero=>exact hI.elim
  |succ k=>
   refine wp_mono (hI B w0 μ a w hW hB R) fun e a' w' hh=> ?_
   obtain ⟨env',h',μ',q,r⟩:=hh
   cases e with
   |normal=>exact ⟨k,Nat.lt_succ_self k,env',h',μ',q,r⟩
   |_=>exact ⟨env',h',μ',q,r⟩
theorem LQ {P:Program} {W:World} {f:FuncId} {xs:List AV} {r r':AV} {S:List Obj} (k:Ar P W f xs r S) (e:r=r'):Ar P W f xs r' S:=e ▸ k
def RU (h:A7):Prop:= ∀id o,h.get id=some o→o.els.all NK=true
theorem FM.keep {w0 W W':World} {μ:Mu} {h:A7} (s:FM w0 μ W h) (hp:RU h) (hb:Below w0.heap.size W W') (hk: ∀id sl,μ id=some (some sl)→W'.heap[sl.g]? =W.heap[sl.g]?):FM w0 μ W' h where
 below:=s.below.trans hb
 lt:=fun id sl e=>⟨(s.lt id sl e).1,Nat.lt_of_lt_of_le (s.lt id sl e).2 hb.size⟩
 inj:=s.inj
 live:=s.live
 ylt:=s.ylt
 blk:=fun id o sl ho e=>by
  have B:=s.blk id o sl ho e
  obtain ⟨cs,h1,h2,h3⟩:=B.blk
  refine ⟨B.k,B.pos,B.len,B.cap,cs,by rw [hk id sl e];exact h1,h2,fun j x hx=> ?_⟩
  obtain ⟨q1,q2⟩:=h3 j x hx
  refine ⟨q1,fun i y hy=> ?_⟩
  obtain ⟨u,u1,u2,u3⟩:=q2 i y hy
  exact ⟨u,u1,Vt (RV (List.all_eq_true.1 (hp id o ho) x (List.mem_of_getElem? hx)) hy) u2,u3⟩
theorem FM.grown {w0 W W':World} {μ:Mu} {h:A7} {row:Option Nat} (s:FM w0 μ W h) (hp:RU h) (hlive: ∀id sl,μ id=some (some sl)→ ∃o,h.get id=some o) (hg:W.grownBy W' row)
  (hr: ∀r,row=some r→w0.heap.size≤r∧ ∃o:Go.Obj,W.heap[r]? =some o∧o.isCells=false):FM w0 μ W' h:=
 s.keep hp ((Below.refl _ W).grown hg s.below.size (fun k e=>(hr k e).1)) fun id sl e=>hg.block _ (s.lt id sl e).2 (fun q=>by
  obtain ⟨o,ho⟩:=hlive id sl e
  obtain ⟨cs,h1,_⟩:=(s.blk id o sl ho e).blk
  obtain ⟨_,o',h2,h3⟩:=hr _ q.symm
  rw [h1] at h2;cases h2;cases h3)
theorem Gl.grown {w1 W W':World} {μ1:Mu} {row:Option Nat} (S:Gl w1 μ1 W) (hg:W.grownBy W' row) (hr: ∀r,row=some r→w1.heap.size≤r):Gl w1 μ1 W':=
 ⟨Nat.le_trans S.1 hg.size,fun g hl hm=>(hg.block g (Nat.lt_of_lt_of_le hl S.1) (fun q=>by have:=hr g q.symm;omega)).trans (S.2 g hl hm)⟩
theorem PE {w0 W W3:World} {μ μ3:Mu} {h h3:A7} (e:ID W μ W3 μ3) (s:FM w0 μ W h) (s3:FM w0 μ3 W3 h3) (hlive: ∀id sl,μ id=some (some sl)→μ3 id=some (some sl)):W.heap.size≤W3.heap.size:=by
 rcases Nat.lt_or_ge W3.heap.size W.heap.size with q|q
 ·exfalso
  by_cases hm:μ.mut W3.heap.size
  ·rcases hm with y|⟨id,sl,e1,e2⟩
   ·have:=s.ylt _ y;have:=s3.below.size;omega
   ·have:=(s3.lt id sl (hlive id sl e1)).2;omega
  ·have:=e.bl _ q hm
   rw [Array.getElem?_eq_none (Nat.le_refl _),Array.getElem?_eq_getElem q] at this;cases this
 ·exact q
theorem Uz {n:Nat} {V W2 w0 W3:World} {μ1 μ3:Mu} {env:C7} {h3:A7} {a:Act} (R:ER n ⟨V,W2,μ1,2⟩ w0 μ3 env h3 a W3) (hn:h3.next=2) (hl: ∀id,id<2→ ∃o,h3.get id=some o):μ3=μ1:=by
 have hf:μ3.f=μ1.f:=by
  funext id
  rcases Nat.lt_or_ge id 2 with q|q
  ·cases e:μ1 id with
   |none=>exact R.snc.dom id q e
   |some s=>
    rcases R.snc.ext.mu id s e with k|k
    ·exact k
    ·obtain ⟨o,ho⟩:=hl id q
     exact absurd k (R.sim.live id o ho)
  ·exact (R.fresh id (by rw [hn];exact q)).trans (R.snc.top id q).symm
 have hy:μ3.Y=μ1.Y:=R.snc.y
 cases μ3;cases μ1;simp only at hf hy;rw [hf,hy]
theorem To {F:Fence} {m:Nat} {P:Program} {T:Ep} (hF:OI F) (hT:Dh P T=true) {o:Oper} {env:C7} {h h':A7} {x:AV} (e:Nv T (ev env) h o=some (x,h')) (hnd:JA o=true) (hd:o.dst=none)
  {w0 W:World} {μ:Mu} {a:Act} (s:FM w0 μ W h) (hf: ∀id,h.next≤id→μ id=none) (henv: ∀t,VR W μ (env.get t) (a.tmps.getD t undef)) {K:Act→World→Prop} {Q:Exit→Act→World→Prop}
  (hK: ∀w' μ',Mh w0 μ W h μ' w' h'→K a w'):o.wpIn F m P a W K Q:=by
 refine RS hF (KR hnd) ?_
 obtain ⟨v,w',μ',h1,h2,h3⟩:=Wg hT e w0 μ W a.eval s hf (fun x _ k y hy=>SE (fun t _=>henv t) hy)
 unfold Oper.wp
 rcases h1 with h1|⟨h1,rfl⟩
 ·rw [h1];show K (a.put o.dst v) w';rw [hd];exact hK _ _ h3
 ·rw [h1];show K (a.put o.dst undef) w';rw [hd];exact hK _ _ h3
theorem SN {F:Fence} {n m:Nat} {P:Program} {T:Ep} (hT:Dh P T=true) {fn:Func} {w0 W3:World} {μ1:Mu} {h3:A7} {D:Nat} {tmps:Array Value} {R:Ending→World→Prop} {env:C7} {x:AV}
  (hK:W3.heap[D]? =some (.deferred (some []))) (hs:FM w0 μ1 W3 h3) (hp:RU h3) (hlive: ∀id sl,μ1 id=some (some sl)→ ∃o,h3.get id=some o) (hf: ∀id,h3.next≤id→μ1 id=none) (hD:w0.heap.size≤D)
  (henv: ∀W t,VR W μ1 (env.get t) (tmps.getD t undef)) (hsz:tmps.size=m) (hres:Pz T env h3 fn.results.toList=some x) (hR: ∀v W4,VR W4 μ1 x v→Below w0.heap.size w0 W4→R (.returned v) W4):
  LeavesInM F n P fn tmps R [{target:= .collected D,args:= #[]}] .returning W3:=by
 refine ⟨by simp,.inl ⟨D,_,rfl,run_takeDeferred hK,?_⟩⟩
 have hs4:FM w0 μ1 (W3.putObj D (.deferred none)) h3:=hs.grown hp hlive (grownBy_putObj' _ _ _) (fun r e=>by cases e;exact ⟨hD,_,hK,rfl⟩)
 have R4:ER m ⟨w0,W3.putObj D (.deferred none),μ1,h3.next⟩ w0 μ1 env h3 {tmps:=tmps,defers:=[]} (W3.putObj D (.deferred none)):=
  ⟨Ga.refl _,⟨ID.refl _ _,rfl,fun _ _ h=>h,hf⟩,Nat.le_refl _,hs4,henv _,hsz,rfl,hf⟩
 obtain ⟨v,e1,e2⟩:=NP hT R4 hres
 exact ⟨v,e1,hR v _ e2 hs4.below⟩
def OB (a b:Obj):A7:=⟨2,[(1,some b),(0,some a)]⟩
theorem LI (a b:Obj): ∀id,id<2→ ∃o,(OB a b).get id=some o
 |0,_=>⟨a,rfl⟩
 |1,_=>⟨b,rfl⟩
theorem two_get {a b o:Obj} {id:Nat} (h:(OB a b).get id=some o):o=a∨o=b:=by
 have:=H5 h
 match id,this with
 |0,_=>exact Or.inl (by cases h;rfl)
 |1,_=>exact Or.inr (by cases h;rfl)
theorem H0 {a b:Obj} (ha:a.els.all NK=true) (hb:b.els.all NK=true):RU (OB a b):=fun id o h=>by
 rcases two_get h with rfl|rfl<;>assumption
theorem JR {a b:Obj} {μ:Mu} (hf: ∀id,2≤id→μ id=none): ∀id sl,μ id=some (some sl)→ ∃o,(OB a b).get id=some o:=fun id sl e=>by
 rcases Nat.lt_or_ge id 2 with q|q
 ·exact LI a b id q
 ·rw [hf id q] at e;cases e
theorem Td {w0 W:World} {μ:Mu} {h:A7} (s:FM w0 μ W h) {id:Nat} {e k:Nat} {fs:List AV} {v:Value} (ho:h.get id=some ⟨e,k,[.st fs]⟩) (hv:VR W μ (.loc id 0 0) v) (out:ByteArray) (r:List AV) (hfs:fs= .s out::r) (hr:r.length=2):
  ∃p,v= .pointer (some p)∧w0.heap.size≤p.block∧BL W (Eo fun _=>False) [.s out,.und,.und] p:=by
 simp only [VR] at hv
 cases e1:μ id with
 |none=>rw [e1] at hv;exact hv.elim
 |some x=>
  cases x with
  |none=>exact absurd e1 (s.live id _ ho)
  |some sl=>
   rw [e1] at hv
   simp only at hv
   have B:=s.blk id _ sl ho e1
   obtain ⟨cs,h1,h2,h3⟩:=B.blk
   obtain ⟨q1,q2⟩:=h3 0 (.st fs) rfl
   refine ⟨_,hv,(s.lt id sl e1).1,?_⟩
   have cell: ∀i y,fs[i]? =some y→ ∃u,Rd W (Eo fun _=>False) (Addr.add ⟨sl.g,0*sl.k+0,none⟩ i) u∧VR W μ y u:=by
    intro i y hy
    obtain ⟨u,u1,u2,u3⟩:=q2 i y hy
    refine ⟨u,⟨?_,?_,u3⟩,u2⟩
    ·rw [Er]
     simp only [World.cell?,h1]
     simpa using u1
    ·rintro (q|⟨_,_,q,_⟩)
     ·exact q
     ·cases q
   subst hfs
   match r,hr with
   | [y1,y2],_=>
     obtain ⟨u0,c0,d0⟩:=cell 0 (.s out) rfl
     obtain ⟨u1,c1,_⟩:=cell 1 y1 rfl
     obtain ⟨u2,c2,_⟩:=cell 2 y2 rfl
     simp only [VR] at d0
     simp only [BL]
     refine ⟨⟨u0,by simpa [Addr.add] using c0,d0⟩,⟨u1,c1,by simp only [CR]⟩,⟨u2,by rw [H6];exact c2,by simp only [CR]⟩,trivial⟩
end
end Go.Lift
namespace Go.Lift
noncomputable section
open Go Go.RowKit
section
variable {ts:List Nat} {env:C7} {h:A7}
theorem Fb {m x:Bool} (hx:Cm ts env= .b x) (hm:m=x):UI ts (.b m) .ret env h:=⟨Or.inr rfl,by rw [hx,hm];exact BM.c rfl rfl⟩
theorem Fi {k:IntKind} {m x:Int} (hx:Cm ts env= .i k x) (hm:m=x):UI ts (.i k m) .ret env h:=⟨Or.inr rfl,by rw [hx,hm];exact BM.c rfl rfl⟩
theorem Fs {m x:ByteArray} (hx:Cm ts env= .s x) (hm:m=x):UI ts (.s m) .ret env h:=⟨Or.inr rfl,by rw [hx,hm];exact BM.c rfl rfl⟩
theorem Fbi {k:IntKind} {m:Bool×Int} {x:Bool} {y:Int} (hx:Cm ts env= .tup [.b x,.i k y]) (hm:m=(x,y)):UI ts (.tup [.b m.1,.i k m.2]) .ret env h:=⟨Or.inr rfl,by rw [hx,hm];exact BM.c rfl rfl⟩
theorem Fsi {k:IntKind} {m:ByteArray×Int} {x:ByteArray} {y:Int} (hx:Cm ts env= .tup [.s x,.i k y]) (hm:m=(x,y)):UI ts (.tup [.s m.1,.i k m.2]) .ret env h:=⟨Or.inr rfl,by rw [hx,hm];exact BM.c rfl rfl⟩
end
theorem accV_e {α:Type} {A:α→AV} {xs:List α} (h:xs=[]) (p k:Nat):Ch p k A xs= .sl k true []:=by rw [h];rfl
theorem accO_e {α:Type} {A:α→AV} {xs:List α} (h:xs=[]) (e k:Nat):L3 e k A xs=none:=by rw [h];rfl
theorem P1 {no:List Nat} {h:A7} {d:Nat}: ∀ {xs:List AV},Ab xs=true→A0 no h (d+1) xs xs
 | [],_=>A0.nil
 |x::xs,hc=>by
  simp only [Ab,Bool.and_eq_true] at hc
  exact A0.cons (A2 hc.1) (P1 hc.2)
theorem E9 {no:List Nat} {h:A7} {d:Nat} {α:Type} (A:α→AV) (x:α) {id e k:Nat} (hn:no.contains id=false) (hg:h.get id=some ⟨e,k,[A x]⟩) (hc:Ab (A x).cells=true):A1 no h (d+2) (.loc id 0 0) (.pt (A x).cells):=
 A1.loc hn hg rfl (by rw [List.drop_zero];exact P1 hc)
end
end Go.Lift
