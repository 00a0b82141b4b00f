/-
  Lemmas of this claim: a layer over the kit's calls, contracts of the functions that the law reaches, and the law's row. No condition of its own.
-/
import Derived.Test.YtjfhbchfhpgefaaGreatDoorLaDirtyDown
import Derived.Scope
import Derived.Laws.AppendOwn
import Derived.Lib.Split
import Derived.Shelf.GgClosure.StringsIndexFuncTop
import Derived.Laws.RangeAny
import Derived.Lib.Join
import Derived.Lib.SlicesS
import Derived.Sort.Row
import Derived.Sort.Grow
import Derived.Sort.EncStr
import Derived.Lib.SlicesCompact
import Derived.WalkKit
import Derived.ChangeSame
import Derived.RowKit3
import Derived.Carry
import Derived.OpenShut
import Derived.Deep.DeepHandedRow
import Derived.Shelf.Vars
import Derived.ChangeArms
import Derived.ChangeMaps5
import Derived.WideShapes
import Derived.MapKept
import Derived.RangeFuncNested
import Derived.RangeFuncLeaves
import Derived.RangeFuncCalls
set_option linter.unusedSimpArgs false
set_option linter.unusedVariables false
set_option linter.unusedSectionVars false
set_option linter.defProp false
namespace Go.Lift
noncomputable section
open Go Go.RowKit
def E3:List Nat→Nat→Option Nat
 | [],_=>none
 |i::r,id=>if id=i then some 0 else (E3 r id).map (· +1)
theorem LK: ∀ {keep:List Nat} {id p:Nat},E3 keep id=some p→keep[p]? =some id
 | [],_,_,h=>by simp [E3] at h
 |i::r,id,p,h=>by
  simp only [E3] at h
  split at h
  ·rename_i e;cases h;simp [e]
  ·obtain ⟨q,hq,rfl⟩:=Option.map_eq_some_iff.1 h
   simpa using LK hq
def Ba (keep:List Nat) (h:A5):Nat→AV→Option AV
 |0,x=>if closed x then some x else none
 |d+1,.own id off len=>match E3 keep id with
  |some p=>some (.own p off len)
  |none=>B2 keep h (d+1) (.own id off len)
 |d+1,.loc id j o=>match E3 keep id with
  |some p=>some (.loc p j o)
  |none=>B2 keep h (d+1) (.loc id j o)
 |d+1,.st fs=>(mapC (Ba keep h d) fs).map .st
 |d+1,.tup fs=>(mapC (Ba keep h d) fs).map .tup
 |d+1,.fn f fs=>(mapC (Ba keep h d) fs).map (.fn f)
 |_+1,x=>some x
def Hi (keep:List Nat) (h:A5) (d:Nat) (o:Obj):Option Obj:=(mapC (Ba keep h d) o.els).map fun ys=>⟨o.e,o.k,ys⟩
def Mu.fin (μ:Mu) (keep:List Nat):Mu:=⟨fun p=>(keep[p]?).bind μ.f,μ.Y⟩
theorem Ed (μ:Mu) (keep:List Nat):Qi μ (μ.fin keep) keep:=by
 rintro g (hy|⟨p,s,hs,rfl⟩)
 ·exact Or.inl hy
 ·dsimp only [Mu.fin] at hs
  obtain ⟨id,h1,h2⟩:=Option.bind_eq_some_iff.1 hs
  exact Or.inr ⟨id,List.mem_of_getElem? h1,s,h2,rfl⟩
section
variable {w0 w:World} {μ:Mu} {h:A5} (s:DY w0 μ w h) (keep:List Nat)
include s
theorem KX {f:AV→Option AV} (hf: ∀x y v,f x=some y→VR w μ x v→VR w (μ.fin keep) y v) {xs ys:List AV} (h:mapC f xs=some ys) {vs:List Value} (hv:BZ w μ xs vs):BZ w (μ.fin keep) ys vs:=by
 unfold mapC at h
 split at h
 ·rename_i hc
  cases h
  exact BQ _ _ (Eu (Cj (Ed μ keep).less) _ _ (C9 _ _ hc hv))
 ·rename_i hc
  clear hc
  induction xs generalizing ys vs with
  |nil=>simp [Fn] at h;subst h;simpa only [BZ] using hv
  |cons x xs ih=>
   simp only [Fn] at h
   split at h
   ·rename_i y zs h1 h2
    cases h
    simp only [BZ] at hv
    obtain ⟨v,r,rfl,k1,k2⟩:=hv
    simp only [BZ]
    exact ⟨v,r,rfl,hf x y v h1 k1,ih k2 h2⟩
   ·cases h
theorem BU {x:AV} {v:Value} (hc:closed x=true) (hv:VR w μ x v):VR w (μ.fin keep) x v:=
 CE _ _ (Bz (Cj (Ed μ keep).less) _ _ (Bh _ _ hc hv))
theorem GP: ∀(d:Nat) (x y:AV) (v:Value),Ba keep h d x=some y→VR w μ x v→VR w (μ.fin keep) y v
 |0,x,y,v,e,hv=>by
  simp only [Ba] at e
  split at e
  ·rename_i hc;cases e;exact BU s keep hc hv
  ·cases e
 |d+1,.own id off len,y,v,e,hv=>by
  simp only [Ba] at e
  split at e
  ·rename_i p hp
   cases e
   have hg:=LK hp
   simp only [VR] at hv ⊢
   have:(μ.fin keep) p=μ id:=by dsimp only [Mu.fin];rw [hg];rfl
   rw [this];exact hv
  ·exact CE _ _ (Gs s (Ed μ keep) (d+1) _ y v e hv)
 |d+1,.loc id j o,y,v,e,hv=>by
  simp only [Ba] at e
  split at e
  ·rename_i p hp
   cases e
   have hg:=LK hp
   simp only [VR] at hv ⊢
   have:(μ.fin keep) p=μ id:=by dsimp only [Mu.fin];rw [hg];rfl
   rw [this];exact hv
  ·exact CE _ _ (Gs s (Ed μ keep) (d+1) _ y v e hv)
 |d+1,.st fs,y,v,e,hv=>by
  simp only [Ba] at e
  obtain ⟨zs,h1,rfl⟩:=Option.map_eq_some_iff.1 e
  simp only [VR] at hv ⊢
  obtain ⟨cs,e,k⟩:=hv
  exact ⟨cs,e,KX s keep (fun x y v=>GP d x y v) h1 k⟩
 |d+1,.tup fs,y,v,e,hv=>by
  simp only [Ba] at e
  obtain ⟨zs,h1,rfl⟩:=Option.map_eq_some_iff.1 e
  simp only [VR] at hv ⊢
  obtain ⟨cs,e,k⟩:=hv
  exact ⟨cs,e,KX s keep (fun x y v=>GP d x y v) h1 k⟩
 |d+1,.fn f fs,y,v,e,hv=>by
  simp only [Ba] at e
  obtain ⟨zs,h1,rfl⟩:=Option.map_eq_some_iff.1 e
  simp only [VR] at hv ⊢
  obtain ⟨cs,e,k⟩:=hv
  exact ⟨cs,e,KX s keep (fun x y v=>GP d x y v) h1 k⟩
 |d+1,.und,y,v,e,hv=>by simp only [Ba] at e;cases e;exact BU s keep rfl hv
 |d+1,.b _,y,v,e,hv=>by simp only [Ba] at e;cases e;exact BU s keep rfl hv
 |d+1,.i _ _,y,v,e,hv=>by simp only [Ba] at e;cases e;exact BU s keep rfl hv
 |d+1,.s _,y,v,e,hv=>by simp only [Ba] at e;cases e;exact BU s keep rfl hv
 |d+1,.sl _ _ _,y,v,e,hv=>by simp only [Ba] at e;cases e;exact BU s keep rfl hv
 |d+1,.pt _,y,v,e,hv=>by simp only [Ba] at e;cases e;exact BU s keep rfl hv
 |d+1,.nilp,y,v,e,hv=>by simp only [Ba] at e;cases e;exact BU s keep rfl hv
 |d+1,.nilf,y,v,e,hv=>by simp only [Ba] at e;cases e;exact BU s keep rfl hv
 |d+1,.raw _,y,v,e,hv=>by simp only [Ba] at e;cases e;exact BU s keep rfl hv
omit s in
theorem UC {hh:A5} {d:Nat} {x y:AV} (h:Ba keep hh d x=some y) (hx:x.cells=[x]):y.cells=[y]:=by
 cases d with
 |zero=>simp only [Ba] at h;split at h<;>cases h;exact hx
 |succ d=>
  cases x with
  |st fs=>
   exfalso
   simp only [AV.cells] at hx
   have h1:SizeOf.sizeOf fs=SizeOf.sizeOf [AV.st fs]:=congrArg SizeOf.sizeOf hx
   simp at h1;omega
  |own id off len=>
   simp only [Ba] at h
   split at h
   ·cases h;rfl
   ·exact JV h rfl
  |loc id j o=>
   simp only [Ba] at h
   split at h
   ·cases h;rfl
   ·exact JV h rfl
  |tup fs=>simp only [Ba] at h;obtain ⟨zs,_,rfl⟩:=Option.map_eq_some_iff.1 h;rfl
  |fn f fs=>simp only [Ba] at h;obtain ⟨zs,_,rfl⟩:=Option.map_eq_some_iff.1 h;rfl
  |_=>simp only [Ba] at h;cases h;rfl
theorem Uu {d:Nat} {x y:AV} (hxy:(closed x=true∧y=x)∨Ba keep h d x=some y) {vs:List Value} (hv:BZ w μ x.cells vs):BZ w (μ.fin keep) y.cells vs:=by
 have hcl: ∀xs:List AV,A6 xs=true→ ∀vs,BZ w μ xs vs→BZ w (μ.fin keep) xs vs:=fun xs hc vs hv=>
  BQ _ _ (Eu (Cj (Ed μ keep).less) _ _ (C9 _ _ hc hv))
 by_cases hx: ∃fs,x= .st fs
 ·obtain ⟨fs,rfl⟩:=hx
  rcases hxy with ⟨hc,rfl⟩|hxy
  ·simp only [closed] at hc
   exact hcl _ hc _ hv
  ·cases d with
   |zero=>
    simp only [Ba] at hxy
    split at hxy
    ·rename_i hc;cases hxy
     simp only [closed] at hc
     exact hcl _ hc _ hv
    ·cases hxy
   |succ d=>
    simp only [Ba] at hxy
    obtain ⟨zs,h1,rfl⟩:=Option.map_eq_some_iff.1 hxy
    exact KX s keep (fun x y v=>GP s keep d x y v) h1 hv
 ·have hc:x.cells=[x]:=by cases x<;>first|rfl|exact absurd ⟨_,rfl⟩ hx
  rw [hc] at hv
  simp only [BZ] at hv
  obtain ⟨v,r,rfl,h1,rfl⟩:=hv
  rcases hxy with ⟨hcl,rfl⟩|hxy
  ·rw [hc]
   simp only [BZ]
   exact ⟨v,[],rfl,BU s keep hcl h1,rfl⟩
  ·rw [UC keep hxy hc]
   simp only [BZ]
   exact ⟨v,[],rfl,GP s keep d x y v hxy h1,rfl⟩
theorem Pq {d:Nat} {o o':Obj} {sl:KD} (he:Hi keep h d o=some o') (B:IV w μ o sl):IV w (μ.fin keep) o' sl:=by
 unfold Hi at he
 obtain ⟨ys,e1,rfl⟩:=Option.map_eq_some_iff.1 he
 obtain ⟨m1,m2⟩:=QZ e1
 obtain ⟨cs,c1,c2,c3⟩:=B.blk
 refine ⟨B.k,B.pos,by simp only [m1];exact B.len,B.cap,cs,c1,c2,fun j y hy=> ?_⟩
 have hj:j<o.els.length:=by have:=(List.getElem?_eq_some_iff.1 hy).1;simp only at this;omega
 have hxs:o.els[j]? =some o.els[j]:=List.getElem?_eq_getElem hj
 obtain ⟨y',y1,y2⟩:=m2 j _ hxs
 simp only at hy ⊢
 rw [hy] at y1;cases y1
 obtain ⟨q1,q2⟩:=c3 j _ hxs
 have hk:j*o.k+o.k≤cs.size:=by
  have h1:j*o.k+o.k≤o.els.length*o.k:=by
   have:=Nat.mul_le_mul_right o.k (Nat.succ_le_of_lt hj)
   rw [Nat.succ_mul] at this;exact this
  have h2:o.els.length*o.k≤cs.size:=by rw [c2];exact Nat.mul_le_mul_right _ B.len
  omega
 have hvs:BZ w μ (o.els[j]).cells ((cs.toList.drop (j*o.k)).take o.k):=by
  refine EI (by simp only [List.length_take,List.length_drop,Array.length_toList];omega) fun i z v hz hv=> ?_
  obtain ⟨u,u1,u2,_⟩:=q2 i z hz
  rw [List.getElem?_take] at hv
  split at hv
  ·rw [List.getElem?_drop] at hv
   have:cs.toList[j*o.k+i]? =some u:=by simpa using u1
   rw [this] at hv;cases hv;exact u2
  ·cases hv
 have hys:=Uu s keep y2 hvs
 have hlen:y.cells.length=o.k:=by
  rw [←Ca hys];simp only [List.length_take,List.length_drop,Array.length_toList];omega
 refine ⟨hlen,fun i z hz=> ?_⟩
 have hi:i<o.k:=by have:=(List.getElem?_eq_some_iff.1 hz).1;omega
 obtain ⟨u,u1,u2⟩:=EC hys i z hz
 rw [List.getElem?_take,if_pos hi,List.getElem?_drop] at u1
 obtain ⟨u',v1,_,v3⟩:=q2 i _ (List.getElem?_eq_getElem (by omega))
 have:cs.toList[j*o.k+i]? =some u':=by simpa using v1
 rw [this] at u1;cases u1
 exact ⟨_,v1,u2,v3⟩
end
def A0 (keep:List Nat) (h h':A5):Nat→List Nat→Prop
 |_,[]=>True
 |p,id::r=>(h.get id).bind (Hi keep h 9)=h'.get p∧A0 keep h h' (p+1) r
def JL (keep:List Nat) (h:A5) (env:Bd):Bd→Prop
 | []=>True
 |(t,x)::r=>Ba keep h 9 (env.get t)=some x∧JL keep h env r
structure U4 (keep:List Nat) (env:Bd) (h:A5) (env':Bd) (h':A5):Prop where
 nodup:keep.Nodup
 next:h'.next=keep.length
 objs:A0 keep h h' 0 keep
 vars:JL keep h env env'
theorem Iz {keep:List Nat} {h h':A5}: ∀ {l:List Nat} {q:Nat},A0 keep h h' q l→ ∀p id,l[p]? =some id→(h.get id).bind (Hi keep h 9)=h'.get (q+p)
 | [],q,_,p,id,hp=>by simp at hp
 |i::r,q,k,p,id,hp=>by
  simp only [A0] at k
  cases p with
  |zero=>simp at hp;subst hp;exact k.1
  |succ p=>
   simp at hp
   have:=Iz k.2 p id hp
   rwa [show q+1+p=q+(p+1) by omega] at this
theorem LT {keep:List Nat} {h:A5} {env:Bd}: ∀ {env':Bd},JL keep h env env'→ ∀t,env'.get t= .und∨Ba keep h 9 (env.get t)=some (env'.get t)
 | [],_,t=>Or.inl rfl
 |(t',x)::r,k,t=>by
  simp only [JL] at k
  unfold Bd.get
  simp only [Bj]
  by_cases ht:t=t'
  ·subst ht;right;simpa [Bd.get] using k.1
  ·rw [if_neg ht];exact LT k.2 t
theorem LG: ∀ {keep:List Nat} (_:keep.Nodup) {p q id:Nat} (_:keep[p]? =some id) (_:keep[q]? =some id),p=q
 | [],_,p,q,id,hp,hq=>by simp at hp
 |i::r,hn,p,q,id,hp,hq=>by
  rw [List.nodup_cons] at hn
  cases p with
  |zero=>
   cases q with
   |zero=>rfl
   |succ q=>simp at hp hq;subst hp;exact absurd (List.mem_of_getElem? hq) hn.1
  |succ p=>
   cases q with
   |zero=>simp at hp hq;subst hq;exact absurd (List.mem_of_getElem? hp) hn.1
   |succ q=>simp at hp hq;rw [LG hn.2 hp hq]
theorem JU {n:Nat} {B:FN} {w0 w:World} {μ:Mu} {env env':Bd} {h h':A5} {a:Act} (R:D5 n B w0 μ env h a w) {keep:List Nat} (F:U4 keep env h env' h')
  (hN: ∀i,i<B.N→keep[i]? =some i):D5 n B w0 (μ.fin keep) env' h' a w where
 glob:=R.glob
 snc:={
  ext:=⟨fun x u hr=>Cj (Ed μ keep).less _ _ (R.snc.ext.rd x u hr),fun id t ht=>by
   have:id<B.N:=by
    rcases Nat.lt_or_ge id B.N with q|q
    ·exact q
    ·rw [R.snc.top id q] at ht;cases ht
   have e:(μ.fin keep) id=μ id:=by dsimp only [Mu.fin];rw [hN id this];rfl
   rw [e];exact R.snc.ext.mu id t ht,R.snc.ext.bl,fun g q=>R.snc.ext.mt g ((Ed μ keep).less g q)⟩
  y:=R.snc.y
  dom:=fun id hi h0=>by
   have e:(μ.fin keep) id=μ id:=by dsimp only [Mu.fin];rw [hN id hi];rfl
   rw [e];exact R.snc.dom id hi h0
  top:=R.snc.top}
 low:=by
  rw [F.next]
  cases e:B.N with
  |zero=>omega
  |succ k=>have:=(List.getElem?_eq_some_iff.1 (hN k (by omega))).1;omega
 sim:={
  below:=R.sim.below
  lt:=fun p t ht=>by
   obtain ⟨id,h1,h2⟩:=Option.bind_eq_some_iff.1 ht
   exact R.sim.lt id t h2
  inj:=fun p p' t t' ht ht' e=>by
   obtain ⟨id,h1,h2⟩:=Option.bind_eq_some_iff.1 ht
   obtain ⟨id',h1',h2'⟩:=Option.bind_eq_some_iff.1 ht'
   have:=R.sim.inj id id' t t' h2 h2' e
   subst this
   exact LG F.nodup h1 h1'
  live:=fun p o ho hp=>by
   obtain ⟨id,h1,h2⟩:=Option.bind_eq_some_iff.1 hp
   have:=Iz F.objs p id h1
   rw [Nat.zero_add,ho] at this
   obtain ⟨o',h3,_⟩:=Option.bind_eq_some_iff.1 this
   exact R.sim.live id o' h3 h2
  ylt:=R.sim.ylt
  blk:=fun p o t ho hp=>by
   obtain ⟨id,h1,h2⟩:=Option.bind_eq_some_iff.1 hp
   have:=Iz F.objs p id h1
   rw [Nat.zero_add,ho] at this
   obtain ⟨o',h3,h4⟩:=Option.bind_eq_some_iff.1 this
   exact Pq R.sim keep h4 (R.sim.blk id o' t h3 h2)}
 env:=fun t=>by
  rcases LT F.vars t with e|e
  ·rw [e];simp only [VR]
  ·exact GP R.sim keep 9 _ _ _ e (R.env t)
 sz:=R.sz
 dfr:=R.dfr
 fresh:=fun p hp=>by
  dsimp only [Mu.fin]
  rw [List.getElem?_eq_none (by rw [F.next] at hp;exact hp)];rfl
end
end Go.Lift
namespace Go.Lift
noncomputable section
open Go Go.RowKit
theorem GZ {P:Program} {Q:Exit→Act→World→Prop} {a:Act} {w:World} {c:Code} (I:Nat→Act→World→Prop) {k0:Nat} (h₀:I k0 a w)
  (round: ∀k a w,I k a w→c.wp P (Exit.then (fun a' w'=> ∃k',k'<k∧I k' a' w') Q) a w):(Code.loop c).wp P Q a w:=by
 intro b k cs
 have key: ∀n a w,I n a w→
   ∃e a' w',Q e a' w'∧Arrives P (lone (b.at a (.code c:: .inLoop c::k)) cs w) b k cs e a' w':=by
  intro n
  induction n using Nat.strongRecOn with
  |_ n ih=>
   intro a w hI
   obtain ⟨e,a₁,w₁,hq,harr⟩:=round n a w hI b (.inLoop c::k) cs
   cases e with
   |normal=>
    obtain ⟨n',hlt,hI₁⟩:=hq
    obtain ⟨e₂,a₂,w₂,hq₂,harr₂⟩:=ih n' hlt a₁ w₁ hI₁
    exact ⟨e₂,a₂,w₂,hq₂,.of_steps (Steps.trans harr (.one step_inLoop)) harr₂⟩
   |exit id=>exact ⟨_,a₁,w₁,hq,.pass (x:= .inLoop c) rfl (fun _ _=> .inl (by simp)) harr⟩
   |goto l=>exact ⟨_,a₁,w₁,hq,.pass (x:= .inLoop c) rfl (fun _ _=> .inl (by simp)) harr⟩
   |ret=>exact ⟨_,a₁,w₁,hq,.pass (x:= .inLoop c) rfl (fun _ _=> .inl (by simp)) harr⟩
   |panic ch=>exact ⟨_,a₁,w₁,hq,.pass (x:= .inLoop c) rfl (fun _ _=> .inl (by simp)) harr⟩
   |outgrown=>exact ⟨_,a₁,w₁,hq,.pass (x:= .inLoop c) rfl (fun _ _=> .inl (by simp)) harr⟩
 obtain ⟨e,a',w',hq,harr⟩:=key k0 a w h₀
 exact ⟨e,a',w',hq,.of_steps (.one step_loop) harr⟩
abbrev D2:=Exit→Bd→A5→Prop
def A7 (P:Program) (W:World) (n N:Nat) (c:Code) (env:Bd) (h:A5) (Q:D2):Prop:=
 ∀(B:FN) (w0:World) (μ:Mu) (a:Act) (w:World),B.W=W→B.N=N→D5 n B w0 μ env h a w→
  c.wp P (fun e a' w'=> ∃env' h' μ',Q e env' h'∧D5 n B w0 μ' env' h' a' w') a w
def D2.then (k:Bd→A5→Prop) (Q:D2):D2
 | .normal,env,h=>k env h
 |e,env,h=>Q e env h
def D2.inBlock (id:Nat) (Q:D2):D2
 | .exit id',env,h=>if id'=id then Q .normal env h else Q (.exit id') env h
 |e,env,h=>Q e env h
section
variable {P:Program} {W:World} {n N:Nat} {env:Bd} {h:A5} {Q:D2}
theorem A7.mono {c:Code} {Q':D2} (k:A7 P W n N c env h Q) (hq: ∀e env h,Q e env h→Q' e env h):A7 P W n N c env h Q':=
 fun B w0 μ a w hW hB R=>wp_mono (k B w0 μ a w hW hB R) fun _ _ _ ⟨env',h',μ',q,r⟩=>⟨env',h',μ',hq _ _ _ q,r⟩
theorem A7.skip (k:Q .normal env h):A7 P W n N .skip env h Q:=fun B w0 μ a w hW hB R=>wp_skip ⟨env,h,μ,k,R⟩
theorem A7.label {l:Nat} (k:Q .normal env h):A7 P W n N (.label l) env h Q:=fun B w0 μ a w hW hB R=>wp_label ⟨env,h,μ,k,R⟩
theorem A7.exit {id:Nat} (k:Q (.exit id) env h):A7 P W n N (.exit id) env h Q:=fun B w0 μ a w hW hB R=>wp_exit ⟨env,h,μ,k,R⟩
theorem A7.ret (k:Q .ret env h):A7 P W n N .ret env h Q:=fun B w0 μ a w hW hB R=>wp_ret ⟨env,h,μ,k,R⟩
theorem A7.seq {x y:Code} (k:A7 P W n N x env h (D2.then (fun env' h'=>A7 P W n N y env' h' Q) Q)):A7 P W n N (.seq x y) env h Q:=
 fun B w0 μ a w hW hB R=>wp_seq (wp_mono (k B w0 μ a w hW hB R) fun e a' w' hh=>by
  obtain ⟨env',h',μ',q,r⟩:=hh
  cases e<;>first|exact q B w0 μ' a' w' hW hB r|exact ⟨env',h',μ',q,r⟩)
theorem A7.cond {c:Operand} {x y:Code} {t:Bool} (hc:ev env 0 c=some (.b t)) (k:A7 P W n N (if t then x else y) env h Q):A7 P W n N (.cond c x y) env h Q:=
 fun B w0 μ a w hW hB R=>by
  have hv:=Qz (w:=w) (μ:=μ) (a:=a) (x:=c) (fun t _=>R.env t) hc
  simp only [VR,CR] at hv
  exact wp_cond hv (k B w0 μ a w hW hB R)
theorem JJ {c:Operand} {x y:Code} {t:Bool} (hc:ev env 0 c=some (.b t)) (k1:t=true→A7 P W n N x env h Q) (k2:t=false→A7 P W n N y env h Q):A7 P W n N (.cond c x y) env h Q:=
 A7.cond hc (by cases t<;>simp_all)
theorem A7.block {id:Nat} {c:Code} (k:A7 P W n N c env h (D2.inBlock id Q)):A7 P W n N (.block id c) env h Q:=
 fun B w0 μ a w hW hB R=>wp_block (wp_mono (k B w0 μ a w hW hB R) fun e a' w' hh=>by
  obtain ⟨env',h',μ',q,r⟩:=hh
  cases e with
  |exit id'=>
   simp only [D2.inBlock,Exit.inBlock] at q ⊢
   split at q<;>rename_i hi
   ·rw [if_pos hi];exact ⟨env',h',μ',q,r⟩
   ·rw [if_neg hi];exact ⟨env',h',μ',q,r⟩
  |_=>exact ⟨env',h',μ',q,r⟩)
theorem A7.scope {c:Code} (k:A7 P W n N c env h fun e env h=>(∀l,e≠ .goto l)∧Q e env h):A7 P W n N (.scope c) env h Q:=
 fun B w0 μ a w hW hB R=>wp_scope_straight (wp_mono (k B w0 μ a w hW hB R) fun e a' w' hh=>by
  obtain ⟨env',h',μ',q,r⟩:=hh
  cases e with
  |goto l=>exact absurd rfl (q.1 l)
  |_=>exact ⟨env',h',μ',q.2,r⟩)
theorem A7.fits {c:Code} (keep:List Nat) {env':Bd} {h':A5} (F:U4 keep env h env' h') (hN: ∀i,i<N→keep[i]? =some i) (k:A7 P W n N c env' h' Q):A7 P W n N c env h Q:=
 fun B w0 μ a w hW hB R=>k B w0 _ a w hW hB (JU R F (by rw [hB];exact hN))
theorem A7.region {T:D1} (hT:C5 P T=true) {id:Nat} {ops:Array Oper} (k:A1 P W T n ops ops.toList env h (Q .normal)):A7 P W n N (.region id ops false) env h Q:=
 fun B w0 μ a w hW hB R=>wp_region (H9 hT _ (os:=ops.toList) (by
  apply List.ext_getElem?
  intro i
  simp only [List.getElem?_map,List.getElem?_range]
  rcases Nat.lt_or_ge i ops.size with q|q
  ·rw [List.getElem?_range q];simp [q]
  ·rw [List.getElem?_eq_none (by simpa using q),Array.getElem?_toList,Array.getElem?_eq_none q];rfl) k hW R fun env' h' μ' a' w' q r=>⟨env',h',μ',q,r⟩)
theorem A7.drawn {T:D1} (hT:C5 P T=true) (hm:P.follows .mixedOrders=true) {id:Nat} {ops:Array Oper} (m:Nat) (hr:regOk ops m=true) (hmn:m≤ops.size) (k:Ar P W T n ops m 0 ops.toList env h (Q .normal)):A7 P W n N (.region id ops true) env h Q:=
 fun B w0 μ a w hW hB R=>PR hT hm hr hmn k hW R fun env' h' μ' a' w' q r=>⟨env',h',μ',q,r⟩
theorem A7.loop {c:Code} (I:Nat→Bd→A5→Prop) (k0:Nat) (h0:I k0 env h)
  (round: ∀k env h,I k env h→A7 P W n N c env h (D2.then (fun env' h'=> ∃keep env'' h'',U4 keep env' h' env'' h''∧(∀i,i<N→keep[i]? =some i)∧ ∃k',k'<k∧I k' env'' h'') Q)):A7 P W n N (.loop c) env h Q:=
 fun B w0 μ a w hW hB R=>GZ (fun k a w=> ∃env h μ,I k env h∧D5 n B w0 μ env h a w) ⟨env,h,μ,h0,R⟩ fun k a w ⟨env,h,μ,hI,R⟩=>
  wp_mono (round k env h hI B w0 μ a w hW hB R) fun e a' w' hh=>by
   obtain ⟨env',h',μ',q,r⟩:=hh
   cases e with
   |normal=>
    obtain ⟨keep,env'',h'',F,hN,k',hk,hI'⟩:=q
    exact ⟨k',hk,env'',h'',_,hI',JU r F (by rw [hB];exact hN)⟩
   |_=>exact ⟨env',h',μ',q,r⟩
end
def Cg:Nat→List AV→Bd
 |_,[]=>[]
 |k,x::xs=>(k,x)::Cg (k+1) xs
theorem Kj: ∀(xs:List AV) (k t:Nat),(Cg k xs).get t=if k≤t then (xs[t-k]?).getD .und else .und
 | [],k,t=>by simp [Cg,Bd.get,Jh]
 |x::xs,k,t=>by
  unfold Bd.get Cg
  rw [Bj]
  by_cases h:t=k
  ·subst h;simp
  ·rw [if_neg h]
   have:=Kj xs (k+1) t
   unfold Bd.get at this
   rw [this]
   by_cases hk:k≤t
   ·rw [if_pos hk,if_pos (by omega)]
    obtain ⟨d,rfl⟩: ∃d,t=k+1+d:=⟨t-(k+1),by omega⟩
    rw [show k+1+d-(k+1)=d by omega,show k+1+d-k=d+1 by omega];rfl
   ·rw [if_neg hk,if_neg (by omega)]
def Gh:List ResultVar→Option (List Nat)
 | []=>some []
 | .tmp t::r=>(Gh r).map (t:: ·)
 | .cell _ _::_=>none
def Bm (ts:List Nat) (env:Bd):AV:=match ts with
 | [t]=>env.get t
 |ts=> .tup (ts.map env.get)
def PT (ts:List Nat) (tmps:Array Value):Value:=match ts with
 | [t]=>tmps.getD t undef
 |ts=> .tuple (ts.map (fun t=>tmps.getD t undef)).toArray
theorem Jv {P:Program} {fn:Func} {ts:List Nat} (h:Gh fn.results.toList=some ts) (tmps:Array Value) (w:World):
  (results fn tmps).run P w= .ok (PT ts tmps) w:=by
 have h1: ∀(rs:List ResultVar) (ts:List Nat),Gh rs=some ts→rs=ts.map ResultVar.tmp:=by
  intro rs
  induction rs with
  |nil=>intro ts h;simp [Gh] at h;subst h;rfl
  |cons r rs ih=>
   intro ts h
   cases r with
   |tmp t=>
    simp only [Gh] at h
    obtain ⟨us,hu,rfl⟩:=Option.map_eq_some_iff.1 h
    rw [ih us hu];rfl
   |cell _ _=>simp [Gh] at h
 have h2:fn.results=(ts.map ResultVar.tmp).toArray:=by
  apply Array.ext';rw [h1 _ _ h]
 have h3: ∀(f:ResultVar→Sem Value) (hf: ∀t w,(f (.tmp t)).run P w= .ok (tmps.getD t undef) w) (ts:List Nat) (w:World),
   ((ts.map ResultVar.tmp).mapM f).run P w= .ok (ts.map (fun t=>tmps.getD t undef)) w:=by
  intro f hf ts
  induction ts with
  |nil=>intro w;simp
  |cons t ts ih=>
   intro w
   simp only [List.map_cons,List.mapM_cons,Sem.run_bind,hf,ih,Result.andThen_ok,Sem.run_pure]
 unfold results
 rw [h2]
 simp only [List.mapM_toArray]
 simp only [Sem.run_bind,map_eq_pure_bind,Sem.run_pure]
 rw [h3 _ (fun t w=>rfl)]
 simp only [Result.andThen_ok,Sem.run_pure]
 clear h h1 h2
 unfold PT
 cases ts with
 |nil=>simp
 |cons t ts=>
  cases ts with
  |nil=>simp
  |cons t2 ts=>simp
theorem Ro {w:World} {μ:Mu} {env:Bd} {tmps:Array Value} (h: ∀t,VR w μ (env.get t) (tmps.getD t undef)) (ts:List Nat):
  VR w μ (Bm ts env) (PT ts tmps):=by
 have h1: ∀ts:List Nat,BZ w μ (ts.map env.get) (ts.map (fun t=>tmps.getD t undef)):=by
  intro ts
  induction ts with
  |nil=>simp [BZ]
  |cons t ts ih=>simp only [List.map_cons,BZ];exact ⟨_,_,rfl,h t,ih⟩
 unfold Bm PT
 split
 ·exact h _
 ·simp only [VR];exact ⟨_,rfl,h1 _⟩
theorem Ej {w:World} {μ:Mu} {args:List AV} {vs:List Value} (h:BZ w μ args vs) (m:Nat) (t:Nat):VR w μ ((Cg 0 args).get t) ((vs.toArray++Array.replicate m undef).getD t undef):=by
 rw [Kj,if_pos (Nat.zero_le _),Nat.sub_zero]
 cases e:args[t]? with
 |none=>simp only [Option.getD_none,VR]
 |some x=>
  obtain ⟨v,hv,hx⟩:=EC h t x e
  simp only [Option.getD_some]
  have:(vs.toArray++Array.replicate m undef).getD t undef=v:=by
   have hlt:=(List.getElem?_eq_some_iff.1 hv).1
   rw [Array.getD_eq_getD_getElem?,Array.getElem?_append_left (by simpa using hlt)]
   simp [hv]
  rw [this];exact hx
def Fin (keep:List Nat) (ts:List Nat) (r:AV) (S:List Obj):D2:=fun e env h=>
 (e= .normal∨e= .ret)∧keep.Nodup∧S.length=keep.length∧A0 keep h (S0 S) 0 keep∧Ba keep h 9 (Bm ts env)=some r
theorem Be {P:Program} {W:World} {f:FuncId} {fn:Func} {c:Code} (hf:P.funcs[f]? =some fn) (hb:fn.body=some c) (he: ∀(vs:Array Value) (w:World),(callFunc f vs).run P w= .ok (.enter f vs) w)
 {ts:List Nat} (hr:Gh fn.results.toList=some ts) {args:List AV} (hn:args.length≤fn.ntmps) {r:AV} {S:List Obj}
 (k:A7 P W fn.ntmps 0 c (Cg 0 args) ⟨0,[]⟩ (fun e env h=> ∃keep,Fin keep ts r S e env h)) (hM:f<1000000:=by decide):Ac P W f args r S:= .plain hM he<|fun w Y vs hG hY hvs=>by
 have hvr:=BQ _ _ hvs
 have hlen:=Ca hvr
 refine calls_of_wp hf hb ?_
 have R:D5 fn.ntmps ⟨W,w,CM Y,0⟩ w (CM Y) (Cg 0 args) ⟨0,[]⟩ {tmps:=vs.toArray++Array.replicate (fn.ntmps-vs.toArray.size) undef,defers:=[]} w:={
  glob:=hG
  snc:=⟨GI.refl _ _,rfl,fun _ h=>by simp at h,fun _ _=>rfl⟩
  low:=Nat.zero_le _
  sim:={
   below:=Below.refl _ _
   lt:=by intro _ _ h;cases h
   inj:=by intro _ _ _ _ h;cases h
   live:=by intro _ _ _ h;cases h
   ylt:=hY
   blk:=by intro _ _ _ _ h;cases h}
  env:=Ej hvr _
  sz:=by simp [hlen];omega
  dfr:=rfl
  fresh:=fun _ _=>rfl}
 refine wp_mono (k _ w (CM Y) _ w rfl rfl R) ?_
 rintro e a' w' ⟨env',h',μ',⟨keep,he,hnd,hS,hF,hfv⟩,R'⟩
 have hv:=GP R'.sim keep 9 _ _ _ hfv (Ro R'.env ts)
 have R2:=JU R' (keep:=keep) (env':=[]) (h':=S0 S) ⟨hnd,hS,hF,trivial⟩ (fun i hi=>by simp at hi)
 have hrun:=Jv (P:=P) hr a'.tmps w'
 have hpost:a'.defers=[]∧ ∃v,(results fn a'.tmps).run P w'= .ok v w'∧ ∃v' μ'',(Ending.returned v)= .returned v'∧μ''.Y=Y∧VR w' μ'' r v'∧DY w μ'' w' (S0 S)∧(∀id,S.length≤id→μ'' id=none):=
  ⟨R'.dfr,_,hrun,_,μ'.fin keep,rfl,R'.snc.y,hv,R2.sim,R2.fresh⟩
 rcases he with rfl|rfl
 ·exact hpost
 ·exact hpost
end
end Go.Lift
namespace Go.Lift
noncomputable section
open Go Go.RowKit
section
variable {P:Program} {W:World} {T:D1} {n:Nat} {ops:Array Oper} {d:Tmp} {op:Op} {ty:TypeId} {pos:String} {af:Array Edge} {gd:Option (Nat×Bool)} {r:List Oper} {env:Bd} {h h':A5} {x:AV} {Q:Bd→A5→Prop}
theorem A1.sq (e:GE T (ev env) h ⟨some d,op,ty,pos,af,none⟩=some x) (hd:d<n) (k:A1 P W T n ops r ((d,x)::env) h Q):A1 P W T n ops (⟨some d,op,ty,pos,af,none⟩::r) env h Q:=by
 simp only [A1,C8];exact ⟨by simpa [Cq] using hd,x,h,.x (.q e rfl),k⟩
theorem A1.sn (e:TZ T (ev env) h ⟨some d,op,ty,pos,af,none⟩=some (x,h')) (hd:d<n) (k:A1 P W T n ops r ((d,x)::env) h' Q):A1 P W T n ops (⟨some d,op,ty,pos,af,none⟩::r) env h Q:=by
 simp only [A1,C8];exact ⟨by simpa [Cq] using hd,x,h',.x (.n e),k⟩
theorem A1.se (e:M8 T (ev env) h ⟨some d,op,ty,pos,af,none⟩=some (x,h')) (hd:d<n) (k:A1 P W T n ops r ((d,x)::env) h' Q):A1 P W T n ops (⟨some d,op,ty,pos,af,none⟩::r) env h Q:=by
 simp only [A1,C8];exact ⟨by simpa [Cq] using hd,x,h',.e e,k⟩
theorem A1.st (e:M8 T (ev env) h ⟨none,op,ty,pos,af,none⟩=some (x,h')) (k:A1 P W T n ops r env h' Q):A1 P W T n ops (⟨none,op,ty,pos,af,none⟩::r) env h Q:=by
 simp only [A1,C8];exact ⟨rfl,x,h',.e e,k⟩
theorem P3 {g:FuncId} {vs:List AV} {r0:AV} {S:List Obj} (hc:callee T (ev env) ⟨some d,op,ty,pos,af,none⟩=some (g,vs)) (hcl:A6 vs=true) (hp:Ac P W g vs r0 S) (hd:d<n)
  (k:A1 P W T n ops r ((d,r0.ren (· +h.next))::env) (h.add S) Q):A1 P W T n ops (⟨some d,op,ty,pos,af,none⟩::r) env h Q:=by
 simp only [A1,C8];exact ⟨by simpa [Cq] using hd,_,_,.x (.c (.closed g vs r0 S hc hcl hp rfl rfl)),k⟩
theorem A1.sc0 {g:FuncId} {vs:List AV} {r0:AV} (hc:callee T (ev env) ⟨some d,op,ty,pos,af,none⟩=some (g,vs)) (hcl:A6 vs=true) (hp:Ac P W g vs r0 []) (hr:closed r0=true) (hd:d<n)
  (k:A1 P W T n ops r ((d,r0)::env) h Q):A1 P W T n ops (⟨some d,op,ty,pos,af,none⟩::r) env h Q:=by
 simp only [A1,C8];exact ⟨by simpa [Cq] using hd,_,_,.x (.c (.closed g vs r0 [] hc hcl hp (Hb _ _ hr).symm rfl)),k⟩
theorem A1.sf {g:FuncId} {vs ss:List AV} {r0:AV} {S:List Obj} (hc:callee T (ev env) ⟨some d,op,ty,pos,af,none⟩=some (g,vs)) (hs:mapC (B2 [] h 8) vs=some ss) (hp:Ac P W g ss r0 S)
  (hf:flat r0=true) (hF:S.all (fun o=>o.els.all fun y=>y.cells.all flat)=true) (hd:d<n)
  (k:A1 P W T n ops r ((d,r0.ren (· +h.next))::env) (h.add S) Q):A1 P W T n ops (⟨some d,op,ty,pos,af,none⟩::r) env h Q:=by
 simp only [A1,C8];exact ⟨by simpa [Cq] using hd,_,_,.x (.c (.flat g vs ss r0 S hc hs hp hf hF rfl rfl)),k⟩
theorem A1.sf0 {g:FuncId} {vs ss:List AV} {r0:AV} (hc:callee T (ev env) ⟨some d,op,ty,pos,af,none⟩=some (g,vs)) (hs:mapC (B2 [] h 8) vs=some ss) (hp:Ac P W g ss r0 [])
  (hf:flat r0=true) (hr:closed r0=true) (hd:d<n)
  (k:A1 P W T n ops r ((d,r0)::env) h Q):A1 P W T n ops (⟨some d,op,ty,pos,af,none⟩::r) env h Q:=by
 simp only [A1,C8];exact ⟨by simpa [Cq] using hd,_,_,.x (.c (.flat g vs ss r0 [] hc hs hp hf rfl (Hb _ _ hr).symm rfl)),k⟩
theorem A1.sm {g:FuncId} {vs:List AV} (hc:callee T (ev env) ⟨some d,op,ty,pos,af,none⟩=some (g,vs)) (hp:Qe P W g vs h x h') (hd:d<n)
  (k:A1 P W T n ops r ((d,x)::env) h' Q):A1 P W T n ops (⟨some d,op,ty,pos,af,none⟩::r) env h Q:=by
 simp only [A1,C8];exact ⟨by simpa [Cq] using hd,x,h',.c g vs hc hp,k⟩
theorem A1.sgy {j:Nat} {want t:Bool} {o:Oper} {t':Tmp} (hj:ops[j]? =some o) (ho:o.dst=some t') (ht:env.get t'= .b t) (e:t=want)
  (k1:A1 P W T n ops (⟨some d,op,ty,pos,af,none⟩::r) env h Q):A1 P W T n ops (⟨some d,op,ty,pos,af,some (j,want)⟩::r) env h Q:=by
 have hw:C8 ops env ⟨some d,op,ty,pos,af,some (j,want)⟩=some true:=by
  simp only [C8,hj,Option.bind_some,ho,ht,e,BEq.rfl]
 simp only [A1,C8] at k1
 simp only [A1,hw]
 obtain ⟨a,x,h',b,c⟩:=k1
 refine ⟨a,x,h',?_,c⟩
 cases b with
 |x b=>cases b with
  |q b e=>exact .x (.q b e)
  |n b=>exact .x (.n b)
  |s b e hh=>exact .x (.s b e hh)
  |g b e=>exact .x (.g b e)
  |c b=>cases b with
   |closed g vs r0 S h1 h2 h3 h4 h5=>exact .x (.c (.closed g vs r0 S h1 h2 h3 h4 h5))
   |flat g vs ss r0 S h1 h2 h3 h4 h5 h6 h7=>exact .x (.c (.flat g vs ss r0 S h1 h2 h3 h4 h5 h6 h7))
 |e b=>exact .e b
 |c g vs b c=>exact .c g vs b c
theorem Q8 {j:Nat} {want t:Bool} {o:Oper} {t':Tmp} (hj:ops[j]? =some o) (ho:o.dst=some t') (ht:env.get t'= .b t) (e:t= !want) (hd:d<n)
  (k2:A1 P W T n ops r ((d,.tup [])::env) h Q):A1 P W T n ops (⟨some d,op,ty,pos,af,some (j,want)⟩::r) env h Q:=by
 have hw:C8 ops env ⟨some d,op,ty,pos,af,some (j,want)⟩=some false:=by
  simp only [C8,hj,Option.bind_some,ho,ht,e];cases want<;>rfl
 simp only [A1,hw]
 exact ⟨by simpa [Cq] using hd,k2⟩
theorem U1 {j:Nat} {want:Bool} {o:Oper} {t':Tmp} (hj:ops[j]? =some o) (ho:o.dst=some t') (ht:env.get t'= .tup []) (hd:d<n)
  (k2:A1 P W T n ops r ((d,.tup [])::env) h Q):A1 P W T n ops (⟨some d,op,ty,pos,af,some (j,want)⟩::r) env h Q:=by
 have hw:C8 ops env ⟨some d,op,ty,pos,af,some (j,want)⟩=some false:=by
  simp only [C8,hj,Option.bind_some,ho,ht]
 simp only [A1,hw]
 exact ⟨by simpa [Cq] using hd,k2⟩
end
section
variable {P:Program} {W:World} {T:D1} {n:Nat} {ops:Array Oper} {m i:Nat} {d:Tmp} {op:Op} {ty:TypeId} {pos:String} {af:Array Edge} {gd:Option (Nat×Bool)} {r:List Oper} {env:Bd} {h h':A5} {x:AV} {Q:Bd→A5→Prop}
theorem FT {o:Oper} (k:KB P W T (ev env) h o x h'):if i<m then KB P W T (ev env) h o x h' else Qg P W T (ev env) h o x h':=by
 split
 ·exact k
 ·exact .x k
theorem Ar.sq (e:GE T (ev env) h ⟨some d,op,ty,pos,af,none⟩=some x) (hd:d<n) (k:Ar P W T n ops m (i+1) r ((d,x)::env) h Q):Ar P W T n ops m i (⟨some d,op,ty,pos,af,none⟩::r) env h Q:=by
 simp only [Ar,C8];exact ⟨by simpa [Cq] using hd,x,h,FT (.q e rfl),k⟩
theorem U2 (e: ∀(w:World) (μ:Mu) (c:Operand→Value),Ea W w→(∀x∈op.operands,∀k y,ev env k x=some y→VR w μ y (c x))→ ∃z,(execOp c ⟨some d,op,ty,pos,af,none⟩).run P w= .ok (.value z) w∧VR w μ x z) (hd:d<n) (k:Ar P W T n ops m (i+1) r ((d,x)::env) h Q):Ar P W T n ops m i (⟨some d,op,ty,pos,af,none⟩::r) env h Q:=by
 simp only [Ar,C8];exact ⟨by simpa [Cq] using hd,x,h,FT (.g e rfl),k⟩
theorem Ar.sn (e:TZ T (ev env) h ⟨some d,op,ty,pos,af,none⟩=some (x,h')) (hd:d<n) (k:Ar P W T n ops m (i+1) r ((d,x)::env) h' Q):Ar P W T n ops m i (⟨some d,op,ty,pos,af,none⟩::r) env h Q:=by
 simp only [Ar,C8];exact ⟨by simpa [Cq] using hd,x,h',FT (.n e),k⟩
theorem Ar.se (hm: ¬i<m) (e:M8 T (ev env) h ⟨some d,op,ty,pos,af,none⟩=some (x,h')) (hd:d<n) (k:Ar P W T n ops m (i+1) r ((d,x)::env) h' Q):Ar P W T n ops m i (⟨some d,op,ty,pos,af,none⟩::r) env h Q:=by
 simp only [Ar,C8];exact ⟨by simpa [Cq] using hd,x,h',(by rw [if_neg hm];exact .e e),k⟩
theorem Ar.st (hm: ¬i<m) (e:M8 T (ev env) h ⟨none,op,ty,pos,af,none⟩=some (x,h')) (k:Ar P W T n ops m (i+1) r env h' Q):Ar P W T n ops m i (⟨none,op,ty,pos,af,none⟩::r) env h Q:=by
 simp only [Ar,C8];exact ⟨rfl,x,h',(by rw [if_neg hm];exact .e e),k⟩
theorem Ar.sc0 {g:FuncId} {vs:List AV} {r0:AV} (hc:callee T (ev env) ⟨some d,op,ty,pos,af,none⟩=some (g,vs)) (hcl:A6 vs=true) (hp:Ac P W g vs r0 []) (hr:closed r0=true) (hd:d<n)
  (k:Ar P W T n ops m (i+1) r ((d,r0)::env) h Q):Ar P W T n ops m i (⟨some d,op,ty,pos,af,none⟩::r) env h Q:=by
 simp only [Ar,C8];exact ⟨by simpa [Cq] using hd,_,_,FT (.c (.closed g vs r0 [] hc hcl hp (Hb _ _ hr).symm rfl)),k⟩
theorem Ar.sf {g:FuncId} {vs ss:List AV} {r0:AV} {S:List Obj} (hc:callee T (ev env) ⟨some d,op,ty,pos,af,none⟩=some (g,vs)) (hs:mapC (B2 [] h 8) vs=some ss) (hp:Ac P W g ss r0 S)
  (hf:flat r0=true) (hF:S.all (fun o=>o.els.all fun y=>y.cells.all flat)=true) (hd:d<n)
  (k:Ar P W T n ops m (i+1) r ((d,r0.ren (· +h.next))::env) (h.add S) Q):Ar P W T n ops m i (⟨some d,op,ty,pos,af,none⟩::r) env h Q:=by
 simp only [Ar,C8];exact ⟨by simpa [Cq] using hd,_,_,FT (.c (.flat g vs ss r0 S hc hs hp hf hF rfl rfl)),k⟩
theorem Ar.sf0 {g:FuncId} {vs ss:List AV} {r0:AV} (hc:callee T (ev env) ⟨some d,op,ty,pos,af,none⟩=some (g,vs)) (hs:mapC (B2 [] h 8) vs=some ss) (hp:Ac P W g ss r0 [])
  (hf:flat r0=true) (hr:closed r0=true) (hd:d<n)
  (k:Ar P W T n ops m (i+1) r ((d,r0)::env) h Q):Ar P W T n ops m i (⟨some d,op,ty,pos,af,none⟩::r) env h Q:=by
 simp only [Ar,C8];exact ⟨by simpa [Cq] using hd,_,_,FT (.c (.flat g vs ss r0 [] hc hs hp hf rfl (Hb _ _ hr).symm rfl)),k⟩
theorem Ar.sgy {j:Nat} {want t:Bool} {o:Oper} {t':Tmp} (hj:ops[j]? =some o) (ho:o.dst=some t') (ht:env.get t'= .b t) (e:t=want)
  (k1:Ar P W T n ops m i (⟨some d,op,ty,pos,af,none⟩::r) env h Q):Ar P W T n ops m i (⟨some d,op,ty,pos,af,some (j,want)⟩::r) env h Q:=by
 have hw:C8 ops env ⟨some d,op,ty,pos,af,some (j,want)⟩=some true:=by
  simp only [C8,hj,Option.bind_some,ho,ht,e,BEq.rfl]
 simp only [Ar,C8] at k1
 simp only [Ar,hw]
 obtain ⟨a,x,h',b,c⟩:=k1
 refine ⟨a,x,h',?_,c⟩
 have hx: ∀ {h'},KB P W T (ev env) h ⟨some d,op,ty,pos,af,none⟩ x h'→KB P W T (ev env) h ⟨some d,op,ty,pos,af,some (j,want)⟩ x h':=by
  intro h' b
  cases b with
  |q b e=>exact .q b e
  |n b=>exact .n b
  |s b e hh=>exact .s b e hh
  |g b e=>exact .g b e
  |c b=>cases b with
   |closed g vs r0 S h1 h2 h3 h4 h5=>exact .c (.closed g vs r0 S h1 h2 h3 h4 h5)
   |flat g vs ss r0 S h1 h2 h3 h4 h5 h6 h7=>exact .c (.flat g vs ss r0 S h1 h2 h3 h4 h5 h6 h7)
 by_cases hm:i<m
 ·rw [if_pos hm] at b ⊢
  exact hx b
 ·rw [if_neg hm] at b ⊢
  cases b with
  |x b=>exact .x (hx b)
  |e b=>exact .e b
  |c g vs b c=>exact .c g vs b c
end
theorem AL (t:Nat) (x:AV) (env:Bd) (u:Nat):Bd.get ((t,x)::env) u=if u=t then x else env.get u:=by
 unfold Bd.get;rw [Bj];split<;>rfl
theorem get_nil (u:Nat):Bd.get [] u= .und:=rfl
end
end Go.Lift
namespace Go.Lift
noncomputable section
open Go Go.RowKit
mutual
def lim:AV→Prop
 | .s x=>x.size≤Eb
 | .sl _ nl xs=>xs.length≤Eb∧(nl=true→xs=[])∧FJ xs
 | .st fs=>FJ fs
 | .tup fs=>FJ fs
 | .pt cs=>FJ cs
 | .fn _ cs=>FJ cs
 |_=>True
def FJ:List AV→Prop
 | []=>True
 |x::xs=>lim x∧FJ xs
end
mutual
theorem Em {w:World} {μ:Mu}: ∀(x:AV) (v:Value),CR w μ x v→lim x
 | .und,_,_=>by simp only [lim]
 | .b x,v,k=>by simp only [lim]
 | .i x y,v,k=>by simp only [lim]
 | .s x,v,k=>by simp only [CR] at k;simp only [lim];exact k.2
 | .sl n nl xs,v,k=>by
   simp only [CR] at k
   simp only [lim]
   rcases k with ⟨e,_⟩|⟨e,a,c,_,_,h3,h4⟩
   ·subst e;exact ⟨Nat.zero_le _,fun _=>rfl,trivial⟩
   ·exact ⟨h3,(fun h=>by rw [e] at h;cases h),Ck n xs a h4⟩
 | .own _ _ _,v,k=>by simp only [lim]
 | .st fs,v,k=>by
   simp only [CR] at k
   simp only [lim]
   obtain ⟨cs,_,k⟩:=k
   exact KA fs _ k
 | .tup fs,v,k=>by
   simp only [CR] at k
   simp only [lim]
   obtain ⟨cs,_,k⟩:=k
   exact KA fs _ k
 | .pt cs,v,k=>by
   simp only [CR] at k
   simp only [lim]
   obtain ⟨a,_,k⟩:=k
   exact J6 cs a k
 | .loc _ _ _,v,k=>by simp only [lim]
 | .fn f fs,v,k=>by
   simp only [CR] at k
   simp only [lim]
   obtain ⟨cs,_,k⟩:=k
   exact KA fs _ k
 | .nilp,_,_=>by simp only [lim]
 | .nilf,_,_=>by simp only [lim]
 | .raw _,_,_=>by simp only [lim]
theorem KA {w:World} {μ:Mu}: ∀(xs:List AV) (vs:List Value),DX w μ xs vs→FJ xs
 | [],vs,k=>by simp only [FJ]
 |x::xs,vs,k=>by
  simp only [DX] at k
  simp only [FJ]
  obtain ⟨v,r,_,k1,k2⟩:=k
  exact ⟨Em x v k1,KA xs r k2⟩
theorem J6 {w:World} {μ:Mu}: ∀(cs:List AV) (a:Addr),AU w μ cs a→FJ cs
 | [],a,k=>by simp only [FJ]
 |x::xs,a,k=>by
  simp only [AU] at k
  simp only [FJ]
  obtain ⟨⟨u,_,k2⟩,k3⟩:=k
  exact ⟨Em x u k2,J6 xs _ k3⟩
theorem Ck {w:World} {μ:Mu} (n:Nat): ∀(cs:List AV) (a:Addr),B0 w μ n cs a→FJ cs
 | [],a,k=>by simp only [FJ]
 |x::xs,a,k=>by
  simp only [FJ]
  cases x with
  |st fs=>simp only [B0] at k;exact ⟨by simp only [lim];exact J6 fs a k.1.2,Ck n xs _ k.2⟩
  |und=>simp only [B0] at k;obtain ⟨⟨_,u,_,q2⟩,q3⟩:=k;exact ⟨Em _ u q2,Ck n xs _ q3⟩
  |b x=>simp only [B0] at k;obtain ⟨⟨_,u,_,q2⟩,q3⟩:=k;exact ⟨Em _ u q2,Ck n xs _ q3⟩
  |i x y=>simp only [B0] at k;obtain ⟨⟨_,u,_,q2⟩,q3⟩:=k;exact ⟨Em _ u q2,Ck n xs _ q3⟩
  |s x=>simp only [B0] at k;obtain ⟨⟨_,u,_,q2⟩,q3⟩:=k;exact ⟨Em _ u q2,Ck n xs _ q3⟩
  |sl p q zs=>simp only [B0] at k;obtain ⟨⟨_,u,_,q2⟩,q3⟩:=k;exact ⟨Em (.sl p q zs) u q2,Ck n xs _ q3⟩
  |own p q r=>simp only [B0,CR] at k;obtain ⟨⟨_,u,_,q2⟩,_⟩:=k;exact q2.elim
  |tup zs=>simp only [B0] at k;obtain ⟨⟨_,u,_,q2⟩,q3⟩:=k;exact ⟨Em (.tup zs) u q2,Ck n xs _ q3⟩
  |pt zs=>simp only [B0] at k;obtain ⟨⟨_,u,_,q2⟩,q3⟩:=k;exact ⟨Em (.pt zs) u q2,Ck n xs _ q3⟩
  |loc p q r=>simp only [B0,CR] at k;obtain ⟨⟨_,u,_,q2⟩,_⟩:=k;exact q2.elim
  |fn f zs=>simp only [B0] at k;obtain ⟨⟨_,u,_,q2⟩,q3⟩:=k;exact ⟨Em (.fn f zs) u q2,Ck n xs _ q3⟩
  |nilp=>simp only [B0] at k;obtain ⟨⟨_,u,_,q2⟩,q3⟩:=k;exact ⟨Em _ u q2,Ck n xs _ q3⟩
  |nilf=>simp only [B0] at k;obtain ⟨⟨_,u,_,q2⟩,q3⟩:=k;exact ⟨Em _ u q2,Ck n xs _ q3⟩
  |raw _=>simp only [B0] at k;obtain ⟨⟨_,u,_,q2⟩,q3⟩:=k;exact ⟨Em _ u q2,Ck n xs _ q3⟩
end
mutual
theorem U6 {w:World} {μ:Mu}: ∀(x:AV) (v:Value),VR w μ x v→lim x
 | .und,_,_=>by simp only [lim]
 | .b x,v,k=>by simp only [lim]
 | .i x y,v,k=>by simp only [lim]
 | .s x,v,k=>by simp only [VR] at k;exact Em _ v k
 | .sl n nl xs,v,k=>by simp only [VR] at k;exact Em _ v k
 | .pt cs,v,k=>by simp only [VR] at k;exact Em _ v k
 | .own _ _ _,v,k=>by simp only [lim]
 | .loc _ _ _,v,k=>by simp only [lim]
 | .st fs,v,k=>by
   simp only [VR] at k
   simp only [lim]
   obtain ⟨cs,_,k⟩:=k
   exact Mo fs _ k
 | .tup fs,v,k=>by
   simp only [VR] at k
   simp only [lim]
   obtain ⟨cs,_,k⟩:=k
   exact Mo fs _ k
 | .fn f fs,v,k=>by
   simp only [VR] at k
   simp only [lim]
   obtain ⟨cs,_,k⟩:=k
   exact Mo fs _ k
 | .nilp,_,_=>by simp only [lim]
 | .nilf,_,_=>by simp only [lim]
 | .raw _,_,_=>by simp only [lim]
theorem Mo {w:World} {μ:Mu}: ∀(xs:List AV) (vs:List Value),BZ w μ xs vs→FJ xs
 | [],vs,k=>by simp only [FJ]
 |x::xs,vs,k=>by
  simp only [BZ] at k
  simp only [FJ]
  obtain ⟨v,r,_,k1,k2⟩:=k
  exact ⟨U6 x v k1,Mo xs r k2⟩
end
theorem A7.lim {P:Program} {W:World} {n N:Nat} {env:Bd} {h:A5} {Q:D2} {c:Code} (t:Nat) {x:AV} (ht:env.get t=x) (k:Go.Lift.lim x→A7 P W n N c env h Q):A7 P W n N c env h Q:=
 fun B w0 μ a w hW hB R=>k (ht ▸ U6 _ _ (R.env t)) B w0 μ a w hW hB R
theorem Dk {P:Program} {W:World} {f:FuncId} (he: ∀(vs:Array Value) (w:World),(callFunc f vs).run P w= .ok (.enter f vs) w) {args:List AV} {r:AV} {S:List Obj} (k:FJ args→Ac P W f args r S) (hM:f<1000000:=by decide):Ac P W f args r S:= .plain hM he<|fun w Y vs hG hY hvs=>(k (KA _ _ hvs)).callsP hM w Y vs hG hY hvs
end
end Go.Lift
namespace Go.Lift
noncomputable section
open Go Go.RowKit
section
variable {P:Program} {W:World} {f:FuncId}
theorem Cp (he: ∀(vs:Array Value) (w:World),(callFunc f vs).run P w= .ok (.enter f vs) w) {args:List AV} {r:AV}
 (k: ∀(w:World) (Y:Nat→Prop) (vs:List Value),Ea W w→DX w (CM Y) args vs→Calls P f vs.toArray w fun e w'=> ∃v,e= .returned v∧VR w' (CM Y) r v∧Below w.heap.size w w') (hM:f<1000000:=by decide):Ac P W f args r []:= .plain hM he<|fun w Y vs hG hY hvs=>(k w Y vs hG hvs).mono fun e w' ⟨v,e1,e2,e3⟩=>
 ⟨v,CM Y,e1,rfl,e2,{below:=e3,lt:=(by intro _ _ h;cases h),inj:=(by intro _ _ _ _ h;cases h),live:=(by intro _ _ _ h;cases h),ylt:=hY,blk:=(by intro _ _ _ _ h;cases h)},fun _ _=>rfl⟩
def mu1 (Y:Nat→Prop) (s:KD):Mu:=⟨fun i=>if i=0 then some (some s) else none,Y⟩
theorem LY (he: ∀(vs:Array Value) (w:World),(callFunc f vs).run P w= .ok (.enter f vs) w) {args:List AV} {et:TypeId} {k:Nat} (hk:0<k) {els:List AV}
 (kk: ∀(w:World) (Y:Nat→Prop) (vs:List Value),Ea W w→DX w (CM Y) args vs→Calls P f vs.toArray w fun e w'=> ∃v news,e= .returned v∧w'.ownsRow w.heap.size et k v els.length news∧v≠ .slice none 0 0∧Below w.heap.size w w'∧
   ∀(j:Nat) x,els[j]? =some x→x.cells.length=k∧ ∀(i:Nat) y,x.cells[i]? =some y→ ∃u,news[j*k+i]? =some u∧CR w (CM Y) y u∧u.oneCell'=true) (hM:f<1000000:=by decide):Ac P W f args (.own 0 0 els.length) [⟨et,k,els⟩]:= .plain hM he<|fun w Y vs hG hY hvs=>(kk w Y vs hG hvs).mono fun e w' ⟨v,news,e1,e2,e3,e4,e5⟩=>by
 obtain ⟨hl,e2|⟨g,cap,cur,rfl,hg,hb,hn,hc,hs,ht⟩⟩:=e2
 ·exact absurd e2.1 e3
 have hext:GI w (CM Y) w' (mu1 Y ⟨g,cap,k⟩):=by
  refine GI.of (fun g' hg' _=>e4.block g' hg') (by intro _ _ h;cases h) ?_
  rintro g' (hy|⟨id,s,hs',rfl⟩)
  ·exact Or.inl (Or.inl hy)
  ·dsimp only [mu1] at hs';split at hs'<;>cases hs';exact Or.inr hg
 have hglt:g<w'.heap.size:=(Array.getElem?_eq_some_iff.1 hb).1
 refine ⟨_,mu1 Y ⟨g,cap,k⟩,e1,rfl,?_,{below:=e4,lt:= ?_,inj:= ?_,live:= ?_,ylt:=hY,blk:= ?_},?_⟩
 ·simp only [VR,mu1,if_true]
  exact ⟨_,_,rfl,hn,by omega,rfl,fun _=>by simp⟩
 ·intro id s h;dsimp only [mu1] at h;split at h<;>cases h;exact ⟨hg,hglt⟩
 ·intro id id' s s' h h' _;dsimp only [mu1] at h h';split at h<;>cases h;split at h'<;>cases h';omega
 ·intro id o h;dsimp only [mu1];split<;>simp
 ·intro id o s ho h
  dsimp only [mu1] at h;split at h<;>cases h
  rename_i hid;subst hid
  rw [Dl] at ho
  simp at ho;subst ho
  refine ⟨rfl,hk,hn,hc,cur,hb,hs,fun j x hx=> ?_⟩
  obtain ⟨q1,q2⟩:=e5 j x hx
  refine ⟨q1,fun i y hy=> ?_⟩
  obtain ⟨u,u1,u2,u3⟩:=q2 i y hy
  refine ⟨u,?_,CE _ _ (Ix hext _ _ u2),u3⟩
  rw [←ht] at u1
  rw [List.getElem?_take] at u1
  split at u1
  ·simpa using u1
  ·cases u1
 ·intro id hid;dsimp only [mu1];rw [if_neg (by simp at hid;omega)]
end
theorem Fc {w:World} {μ:Mu} {x:AV} {xs:List AV} {vs:List Value}:DX w μ (x::xs) vs↔ ∃v r,vs=v::r∧CR w μ x v∧DX w μ xs r:=by simp only [DX]
theorem GJ {w:World} {μ:Mu} {vs:List Value}:DX w μ [] vs↔vs=[]:=by simp only [DX]
theorem RG {w:World} {μ:Mu} {x:ByteArray} {v:Value}:CR w μ (.s x) v↔v= .string x∧x.size≤Eb:=by simp only [CR]
theorem CR_i {w:World} {μ:Mu} {k:IntKind} {n:Int} {v:Value}:CR w μ (.i k n) v↔v= .int k n:=by simp only [CR]
theorem Ov {w:World} {μ:Mu} {k:Nat} {nl:Bool} {xs:List AV} {v:Value}:CR w μ (.sl k nl xs) v↔(xs=[]∧v= .slice none 0 0)∨
 (nl=false∧ ∃a c,v= .slice (some a) xs.length c∧xs.length≤c∧xs.length≤Eb∧B0 w μ k xs a):=by simp only [CR]
theorem RI {w:World} {a:Addr} {u:Value} (h:w.cell? a=some u):a=⟨a.block,a.off,none⟩:=by
 obtain ⟨b,o,sp⟩:=a
 unfold World.cell? at h
 cases sp with
 |none=>rfl
 |some s=>simp only [Option.isSome_some,if_true] at h;split at h<;>cases h
theorem P7 {w:World} {μ:Mu} {k:Nat} {xs:List AV} {a:Addr} (h:B0 w μ k xs a) (hk:0<k) (hx:xs≠ []):
  a=⟨a.block,a.off,none⟩∧a.block<w.heap.size∧ ∀(j:Nat) x,xs[j]? =some x→x.cells.length=k∧ ∀(i:Nat) y,x.cells[i]? =some y→ ∃u,w.cell? ⟨a.block,a.off+(j*k+i),none⟩=some u∧CR w μ y u∧u.oneCell'=true:=by
 cases xs with
 |nil=>exact absurd rfl hx
 |cons x xs=>
  obtain ⟨h1,h2⟩:=FO h 0 x rfl
  rw [Nat.zero_mul,add_zero] at h2
  obtain ⟨u,⟨hu,_,_⟩,_⟩:=EQ h2 0 _ (List.getElem?_eq_getElem (by omega))
  rw [add_zero] at hu
  have ha:=RI hu
  refine ⟨ha,Hl hu,fun j y hy=> ?_⟩
  obtain ⟨q1,q2⟩:=FO h j y hy
  refine ⟨q1,fun i z hz=> ?_⟩
  obtain ⟨u,⟨r1,_,r3⟩,r4⟩:=EQ q2 i z hz
  rw [Fe,ha,CN] at r1
  exact ⟨u,r1,r4,r3⟩
theorem LS {w:World} {μ:Mu} {xs:List ByteArray} {a:Addr} (h:B0 w μ 1 (xs.map .s) a) (hx:xs≠ []):
  a=⟨a.block,a.off,none⟩∧a.block<w.heap.size∧ ∀(j:Nat) x,xs[j]? =some x→w.cell? ⟨a.block,a.off+j,none⟩=some (.string x)∧x.size≤Eb:=by
 obtain ⟨h1,h2,h3⟩:=P7 h (by omega) (by simpa using hx)
 refine ⟨h1,h2,fun j x hj=> ?_⟩
 obtain ⟨q1,q2⟩:=h3 j (.s x) (by simp [hj])
 obtain ⟨u,r1,r2,_⟩:=q2 0 (.s x) rfl
 rw [RG] at r2
 obtain ⟨rfl,r2⟩:=r2
 exact ⟨by simpa using r1,r2⟩
end
end Go.Lift
namespace Go.Lift
noncomputable section
open Go Go.RowKit
theorem ev_tmp (env:Bd) (k:Nat) (t:Tmp):ev env k (.tmp t)=some (env.get t):=rfl
theorem Uz (env:Bd) (k:Nat) (v:Value):ev env k (.const v)=lit k v:=rfl
theorem ev_func (env:Bd) (k:Nat) (f:FuncId) (h:f≤999999):ev env k (.func f)=some (.fn f []):=by
 show cond (Nat.ble f 999999) (some (AV.fn f [])) none=_
 rw [Nat.ble_eq_true_of_le h];rfl
theorem lit_b (k:Nat) (b:Bool):lit k (.bool b)=some (.b b):=rfl
theorem lit_i (k:Nat) (t:IntKind) (n:Int):lit k (.int t n)=some (.i t n):=rfl
theorem lit_nil (k:Nat):lit k (.slice none 0 0)=some (.sl k true []):=rfl
theorem lit_np (k:Nat):lit k (.pointer none)=some .nilp:=rfl
theorem lit_nf (k:Nat):lit k .nilFunc=some .nilf:=rfl
theorem lit_s (k:Nat) (l:List UInt8):lit k (.string ⟨⟨l⟩⟩)=if l.length≤Eb then some (.s ⟨⟨l⟩⟩) else none:=rfl
theorem agg_1:TD.agg .bool=false:=rfl
theorem agg_2 (k:IntKind):TD.agg (.int k)=false:=rfl
theorem agg_3:TD.agg .str=false:=rfl
theorem agg_4 (e:TypeId):TD.agg (.slice e)=false:=rfl
theorem agg_5 (l:List (Nat×TypeId)):TD.agg (.struct l)=true:=rfl
theorem agg_6 (n:Nat) (e:TypeId):TD.agg (.arr n e)=true:=rfl
theorem agg_7:TD.agg .other=false:=rfl
theorem Uq (fs:List AV):AV.cells (.st fs)=fs:=rfl
theorem cells_i (k:IntKind) (n:Int):AV.cells (.i k n)=[.i k n]:=rfl
theorem cells_s (x:ByteArray):AV.cells (.s x)=[.s x]:=rfl
theorem cells_b (x:Bool):AV.cells (.b x)=[.b x]:=rfl
theorem Up (k:Nat) (nl:Bool) (xs:List AV):AV.cells (.sl k nl xs)=[.sl k nl xs]:=rfl
theorem T0 (a b c:Nat):AV.cells (.own a b c)=[.own a b c]:=rfl
theorem SZ (a b c:Nat):AV.cells (.loc a b c)=[.loc a b c]:=rfl
theorem Uo (cs:List AV):AV.cells (.pt cs)=[.pt cs]:=rfl
theorem RL:AV.cells .nilp=[.nilp]:=rfl
theorem RK:AV.cells .nilf=[.nilf]:=rfl
theorem Un (f:FuncId) (cs:List AV):AV.cells (.fn f cs)=[.fn f cs]:=rfl
theorem oneIn_i (h:A5) (k:IntKind) (n:Int):Fo h (.i k n)=true:=rfl
theorem oneIn_b (h:A5) (b:Bool):Fo h (.b b)=true:=rfl
theorem oneIn_s (h:A5) (b:ByteArray):Fo h (.s b)=true:=rfl
theorem V1 (h:A5) (k:Nat) (b:Bool) (xs:List AV):Fo h (.sl k b xs)=true:=rfl
theorem TH (h:A5) (a b c:Nat):Fo h (.own a b c)=(h.get a).isSome:=rfl
theorem TG (h:A5) (a b c:Nat):Fo h (.loc a b c)=(h.get a).isSome:=rfl
theorem V0 (h:A5) (cs:List AV):Fo h (.pt cs)=true:=rfl
theorem UX (h:A5) (f:FuncId) (cs:List AV):Fo h (.fn f cs)=true:=rfl
theorem UZ (h:A5):Fo h .nilp=true:=rfl
theorem UY (h:A5):Fo h .nilf=true:=rfl
def BB:=And.intro @AL (And.intro @get_nil (And.intro @GE.eq_1 (And.intro @TZ.eq_1 (And.intro @M8.eq_1 (And.intro @callee.eq_1 (And.intro @HQ.eq_1 (And.intro @HQ.eq_2 (And.intro @HQ.eq_3 (And.intro @ev_tmp (And.intro @Uz (And.intro @ev_func (And.intro @lit_b (And.intro @lit_i (And.intro @lit_nil (And.intro @lit_np (And.intro @lit_nf (And.intro @lit_s (And.intro @Ib.eq_1 (And.intro @CL.eq_1 (And.intro @CH.eq_1 (And.intro @Bl.eq_1 (And.intro @agg_1 (And.intro @agg_2 (And.intro @agg_3 (And.intro @agg_4 (And.intro @agg_5 (And.intro @agg_6 (And.intro @agg_7 (And.intro @Cg.eq_1 (And.intro @Cg.eq_2 (And.intro @OP.eq_1 (And.intro @Jd.eq_1 (And.intro @Jd.eq_2 (And.intro @Hm.eq_1 (And.intro @Hm.eq_2 (And.intro @puny.eq_def (And.intro @Dm.eq_1 (And.intro @Od.eq_def (And.intro @PM.eq_def (And.intro @V9.eq_def (And.intro @Jl.eq_1 (And.intro @LH.eq_1 (And.intro @evs.eq_1 (And.intro @evs.eq_2 (And.intro @HM.eq_1 (And.intro @PA.eq_1 (And.intro @SN.eq_def (And.intro @I9.eq_1 (And.intro @Uq (And.intro @cells_i (And.intro @cells_s (And.intro @cells_b (And.intro @Up (And.intro @T0 (And.intro @SZ (And.intro @Uo (And.intro @RL (And.intro @Un (And.intro @RK (And.intro @oneIn_i (And.intro @oneIn_b (And.intro @oneIn_s (And.intro @V1 (And.intro @TH (And.intro @TG (And.intro @V0 (And.intro @UX (And.intro @UZ (And.intro @UY (And.intro @I9.eq_2 (And.intro @Jl.eq_2 (And.intro @HM.eq_2 (And.intro @A5.new.eq_1 (And.intro @A5.put.eq_1 (And.intro @Rk (And.intro @OO (And.intro @A5.get.eq_1 (And.intro @Jh (And.intro @Bj (And.intro @I7.eq_def (@SX.eq_1)))))))))))))))))))))))))))))))))))))))))))))))))))))))))))))))))))))))))))))))))
def BC:=And.intro @Option.bind_some.{0,0} (And.intro @Option.bind_none.{0,0} (And.intro @Option.map_some.{0,0} (And.intro @Option.isSome_some.{0} (And.intro @List.all_cons.{0} (And.intro @List.all_nil.{0} (And.intro @Bool.and_true (And.intro @Bool.true_and (And.intro @List.getElem?_cons_zero.{0} (And.intro @List.getElem?_cons_succ.{0} (And.intro @List.drop_zero.{0} (And.intro @List.drop_succ_cons.{0} (And.intro @List.take_zero.{0} (And.intro @List.take_succ_cons.{0} (And.intro @List.length_cons.{0} (And.intro @List.length_nil.{0} (And.intro @List.nil_append.{0} (And.intro @List.cons_append.{0} (And.intro @List.append_nil.{0} (And.intro @List.toList_toArray.{0} (And.intro @Int.toNat_natCast (And.intro @true_and (And.intro @and_true (And.intro @ne_eq.{1} (And.intro @not_false_eq_true (And.intro @not_true_eq_false (And.intro @Int.natCast_nonneg (And.intro @and_self (And.intro @false_and (And.intro @and_false (And.intro @List.getElem?_map.{0,0} (And.intro @List.length_map.{0,0} (And.intro @List.length_append.{0} (And.intro @List.length_take.{0} (And.intro @List.length_drop.{0} (And.intro @Bool.false_and (And.intro @Bool.and_false (And.intro @Bool.not_true (And.intro @Bool.not_false (And.intro @List.all_append.{0} (And.intro @List.length_replicate.{0} (And.intro @Option.join_some.{0} (And.intro @Option.getD_some.{0} (And.intro @Option.getD_none.{0} (And.intro @Option.isSome_none.{0} (And.intro @List.replicate_succ.{0} (And.intro @List.replicate_zero.{0} (And.intro @List.set_cons_zero.{0} (And.intro @List.set_cons_succ.{0} (And.intro @Int.toNat_zero (And.intro @Nat.sub_zero (And.intro @Nat.zero_add (And.intro @Nat.add_zero (@Int.le_refl)))))))))))))))))))))))))))))))))))))))))))))))))))))
end
end Go.Lift
namespace Go.Lift
noncomputable section
open Go Go.RowKit
structure Strs where
 nl:Bool
 xs:List ByteArray
def Strs.av (s:Strs):AV:= .sl 1 s.nl (s.xs.map .s)
structure CD where
 outs:Strs
 ins:Strs
 implicit:Strs
 order:Strs
 command:ByteArray
 deps:Bool
 pool:ByteArray
def CD.av (e:CD):AV:= .st [e.outs.av,e.ins.av,e.implicit.av,e.order.av,.s e.command,.b e.deps,.s e.pool]
structure Dh where
 name:ByteArray
 depth:Int
def Dh.av (p:Dh):AV:= .st [.s p.name,.i .i64 p.depth]
structure B4 where
 enl:Bool
 edges:List CD
 pnl:Bool
 pools:List Dh
 defaults:Strs
def B4.av (g:B4):AV:= .st [.sl 7 g.enl (g.edges.map CD.av),.sl 2 g.pnl (g.pools.map Dh.av),g.defaults.av]
theorem E8 {n:Int} (h1: -9223372036854775808≤n) (h2:n<9223372036854775808):IntKind.i64.wrap n=n:=by
 show (if (true&&decide (n % (18446744073709551616:Int)≥(9223372036854775808:Int)))=true then n % (18446744073709551616:Int)-(18446744073709551616:Int) else n % (18446744073709551616:Int))=n
 simp only [Bool.true_and,decide_eq_true_eq]
 split<;>omega
theorem EY {i n:Nat} (h:i<n) (hn:n≤281474976710656):IntKind.i64.wrap ((i:Int)+1)=((i+1:Nat):Int):=by
 rw [E8 (by omega) (by omega)];omega
theorem I5 {α:Type} {xs:List α} {i:Nat} {x:α} {f:α→Bool} (hx:xs[i]? =some x) (h:f x=false):xs.all f=false:=by
 rw [List.all_eq_false]
 exact ⟨x,List.mem_of_getElem? hx,by simp [h]⟩
theorem DB {α:Type} {xs:List α} {i:Nat} {x:α} {f:α→Bool} (hx:xs[i]? =some x) (hp:(xs.take i).all f=true) (h:f x=true):(xs.take (i+1)).all f=true:=by
 rw [List.take_add_one,hx]
 simp [hp,h]
theorem Fg {α:Type} {xs:List α} {i:Nat} {f:α→Bool} (hp:(xs.take i).all f=true) (h:xs.length≤i):xs.all f=true:=by
 rwa [List.take_of_length_le h] at hp
theorem fits0 {env env':Bd} {h:A5} (k:JL [] h env env'):U4 [] env h env' ⟨0,[]⟩:=⟨List.nodup_nil,rfl,trivial,k⟩
theorem A4 {keep:List Nat} {h:A5} {d:Nat} {x:AV} (hc:closed x=true):Ba keep h (d+1) x=some x:=by
 cases x with
 |own _ _ _=>simp [closed] at hc
 |loc _ _ _=>simp [closed] at hc
 |st fs=>simp only [closed] at hc;simp only [Ba,mapC,hc,if_true,Option.map_some]
 |tup fs=>simp only [closed] at hc;simp only [Ba,mapC,hc,if_true,Option.map_some]
 |fn f fs=>simp only [closed] at hc;simp only [Ba,mapC,hc,if_true,Option.map_some]
 |_=>rfl
def Vn (b:Int):Bool:=decide (97≤b)&&decide (b≤122)||decide (48≤b)&&decide (b≤57)||decide (b=95)
def IA (env:Bd):Bd→Prop
 | []=>True
 |(t,x)::r=>env.get t=x∧closed x=true∧IA env r
theorem IA.fits {keep:List Nat} {h:A5} {env:Bd}: ∀ {env':Bd},IA env env'→JL keep h env env'
 | [],_=>trivial
 |(t,x)::r,k=>⟨by rw [k.1];exact A4 k.2.1,IA.fits k.2.2⟩
theorem fitsC {env env':Bd} {h:A5} (k:IA env env'):U4 [] env h env' ⟨0,[]⟩:=fits0 k.fits
theorem Ax {keep:List Nat}: ∀i,i<0→keep[i]? =some i:=fun i h=>absurd h (Nat.not_lt_zero i)
end
end Go.Lift
namespace Go.Lift
noncomputable section
open Go Go.RowKit
def BI (c:UInt8):List UInt8→List (List UInt8)
 | []=>[[]]
 |b::l=>if b=c then []::BI c l else match BI c l with
  | []=>[[b]]
  |p::r=>(b::p)::r
theorem Te (c:UInt8):Lib.index [] [c]= -1:=by simp [Lib.index]
theorem RZ (c b:UInt8) (l:List UInt8):Lib.index (b::l) [c]=if b=c then 0 else if Lib.index l [c]= -1 then -1 else Lib.index l [c]+1:=by
 conv=>lhs;unfold Lib.index
 by_cases h:b=c
 ·subst h;simp
 ·have:(c==b)=false:=by simpa using fun e=>h e.symm
  have h': ¬c=b:=fun e=>h e.symm
  simp [h,h',this]
theorem M3 (c:UInt8): ∀l:List UInt8,Lib.splitK [c] 0 (Lib.count l [c]) l=BI c l∧(Lib.splitK [c] 0 (Lib.count l [c]) l).length=Lib.count l [c]+1
 | []=>by rw [Lib.count_miss (Te c)];exact ⟨rfl,rfl⟩
 |b::l=>by
  obtain ⟨ih1,ih2⟩:=M3 c l
  have hx:=RZ c b l
  by_cases h:b=c
  ·rw [if_pos h] at hx
   have hc:=Lib.count_hit (sub:=[c]) (i:=0) (by simp) hx
   simp only [Nat.zero_add,List.length_singleton,List.drop_succ_cons,List.drop_zero] at hc
   rw [hc,Nat.add_comm 1]
   have e:Lib.splitK [c] 0 (Lib.count l [c]+1) (b::l)=[]::Lib.splitK [c] 0 (Lib.count l [c]) l:=by
    conv=>lhs;unfold Lib.splitK
    rw [hx];simp
   rw [e,ih1]
   refine ⟨by simp [BI,h],?_⟩
   rw [←ih1];simp only [List.length_cons,ih2]
  ·rw [if_neg h] at hx
   by_cases hm:Lib.index l [c]= -1
   ·rw [if_pos hm] at hx
    rw [Lib.count_miss hx]
    rw [Lib.count_miss hm] at ih1
    refine ⟨?_,rfl⟩
    simp only [BI,if_neg h]
    rw [←ih1];rfl
   ·rw [if_neg hm] at hx
    obtain ⟨i,hi⟩: ∃i:Nat,Lib.index l [c]=i:=⟨(Lib.index l [c]).toNat,by have:=Lib.index_ge l [c];omega⟩
    rw [hi] at hx
    have hc:=Lib.count_hit (sub:=[c]) (i:=i+1) (by simp) (by rw [hx];rfl)
    have hc2:=Lib.count_hit (sub:=[c]) (i:=i) (by simp) hi
    simp only [List.length_singleton,List.drop_succ_cons] at hc hc2
    rw [hc2] at ih1 ih2
    rw [hc]
    have hn: ∀n,Lib.splitK [c] 0 (n+1) (b::l)=(b::l.take i)::Lib.splitK [c] 0 n (l.drop (i+1)):=by
     intro n
     conv=>lhs;unfold Lib.splitK
     rw [hx,if_neg (by simp only [beq_iff_eq];omega)]
     have:((i:Int)+1).toNat=i+1:=by omega
     simp [this]
    have hn2: ∀n,Lib.splitK [c] 0 (n+1) l=l.take i::Lib.splitK [c] 0 n (l.drop (i+1)):=by
     intro n
     conv=>lhs;unfold Lib.splitK
     rw [hi,if_neg (by simp only [beq_iff_eq];omega)]
     simp
    rw [Nat.add_comm 1] at ih1 ih2 ⊢
    rw [hn2] at ih1 ih2
    rw [hn]
    simp only [BI,if_neg h]
    rw [←ih1]
    refine ⟨rfl,?_⟩
    simpa using ih2
theorem Hd (c:UInt8): ∀(l p:List UInt8),p∈BI c l→p.length≤l.length
 | [],p,h=>by simp [BI] at h;simp [h]
 |b::l,p,h=>by
  simp only [BI] at h
  split at h
  ·rcases List.mem_cons.1 h with rfl|h
   ·simp
   ·have:=Hd c l p h;simp;omega
  ·split at h
   ·simp at h;simp [h]
   ·rename_i q r hq
    rcases List.mem_cons.1 h with rfl|h
    ·have:=Hd c l q (by rw [hq];simp);simp;omega
    ·have:=Hd c l p (by rw [hq];simp [h]);simp;omega
def Fa (l:List UInt8):ByteArray:=⟨l.toArray⟩
theorem OY (l:List UInt8):(Fa l).data.toList=l:=by simp [Fa]
theorem JC (s:ByteArray):Fa s.data.toList=s:=rfl
theorem Pd {a b:ByteArray} (h:a.data.toList=b.data.toList):a=b:=by
 rw [←JC a,←JC b,h]
theorem Rv (c:UInt8) (s:ByteArray):Lib.splitB ⟨#[c]⟩ 0 (Lib.countB s ⟨#[c]⟩) s=(BI c s.data.toList).map Fa∧(Lib.splitB ⟨#[c]⟩ 0 (Lib.countB s ⟨#[c]⟩) s).length=Lib.countB s ⟨#[c]⟩+1:=by
 have hd:=Lib.splitB_data ⟨#[c]⟩ 0 (Lib.countB s ⟨#[c]⟩) s
 obtain ⟨h1,h2⟩:=M3 c s.data.toList
 have e:Lib.splitB ⟨#[c]⟩ 0 (Lib.countB s ⟨#[c]⟩) s=(BI c s.data.toList).map Fa:=by
  rw [←h1]
  have hd':(Lib.splitB ⟨#[c]⟩ 0 (Lib.countB s ⟨#[c]⟩) s).map (·.data.toList)=Lib.splitK [c] 0 (Lib.count s.data.toList [c]) s.data.toList:=hd
  rw [←hd',List.map_map]
  conv=>lhs;rw [←List.map_id (Lib.splitB ⟨#[c]⟩ 0 (Lib.countB s ⟨#[c]⟩) s)]
  rfl
 refine ⟨e,?_⟩
 rw [e,List.length_map,←h1]
 exact h2
theorem wrap_u8 {n:Nat} (h:n<256):IntKind.u8.wrap (n:Int)=(n:Int):=by
 show (if (false&&decide ((n:Int) % (256:Int)≥(128:Int)))=true then (n:Int) % (256:Int)-(256:Int) else (n:Int) % (256:Int))=(n:Int)
 simp only [Bool.false_and,Bool.false_eq_true,if_false]
 omega
def L1 (x:Nat):Bool:=decide (x<128)&&(Vn x||(x==46||x==45||x==47))
theorem index3 {x:Nat} (h:x<128):decide (0≤Lib.indexByte [46,45,47] (Int.toNat (x:Int)).toUInt8)=(x==46||x==45||x==47):=by
 rw [Int.toNat_natCast]
 have: ∀x:_root_.Fin 128,decide (0≤Lib.indexByte [46,45,47] (x.1).toUInt8)=(x.1==46||x.1==45||x.1==47):=by decide
 exact this ⟨x,h⟩
end
end Go.Lift
namespace Go.Lift
noncomputable section
open Go Go.RowKit
def FS (b:UInt8):Bool:=L1 b.toNat
def mayL (l:List UInt8):Bool:= !l.isEmpty&&decide (l.length≤16)&&l.all FS
def GC (s:ByteArray):Bool:=mayL s.data.toList
theorem Re {x:Nat} (h:128≤x):L1 x=false:=by
 unfold L1
 have: ¬x<128:=by omega
 simp [this]
theorem N5 (s:ByteArray): ∀(f pos:Nat),s.size≤pos+f→(0≤Lib.idxFuncFrom (fun r=> !L1 r) true s f pos↔(s.data.toList.drop pos).all FS=false)
 |0,pos,h=>by
  have:s.data.toList.drop pos=[]:=List.drop_eq_nil_of_le (by rw [Array.length_toList];exact h)
  rw [this]
  simp [Lib.idxFuncFrom]
 |f+1,pos,h=>by
  unfold Lib.idxFuncFrom
  by_cases hp:pos<s.size
  ·rw [if_pos hp]
   have hp':pos<s.data.toList.length:=by rw [Array.length_toList];exact hp
   have hg:s.data.toList.drop pos=(s[pos]'hp)::s.data.toList.drop (pos+1):=by
    rw [List.drop_eq_getElem_cons hp'];rfl
   rw [hg]
   simp only [List.all_cons]
   by_cases ha:(s[pos]'hp).toNat<128
   ·rw [decode_ascii s pos hp ha]
    simp only []
    have ih:=N5 s f (pos+1) (by omega)
    have hb:FS (s[pos]'hp)=L1 (s[pos]'hp).toNat:=rfl
    by_cases ho:L1 (s[pos]'hp).toNat=true
    ·rw [if_neg (by simp [ho]),ih,hb,ho];simp
    ·simp only [Bool.not_eq_true] at ho
     rw [if_pos (by simp [ho]),hb,ho];simp
   ·obtain ⟨h1,h2⟩:=decode_high s pos hp (by omega)
    have hb:FS (s[pos]'hp)=false:=Re (by omega)
    rw [if_pos (by rw [Re h1];rfl),hb];simp
  ·rw [if_neg hp]
   have:s.data.toList.drop pos=[]:=List.drop_eq_nil_of_le (by rw [Array.length_toList];have:s.data.size=s.size:=rfl;omega)
   rw [this];simp
theorem mayS_eq (s:ByteArray):GC s=(!decide (s=⟨#[]⟩)&&decide ((s.size:Int)≤16)&& !decide (0≤Lib.idxFunc (fun r=> !L1 r) true s)):=by
 have h:=N5 s s.size 0 (by omega)
 rw [List.drop_zero] at h
 have hl:s.data.toList.length=s.size:=by rw [Array.length_toList];rfl
 unfold GC mayL
 rw [hl]
 have e1:s.data.toList.isEmpty=decide (s=⟨#[]⟩):=by
  rw [Bool.eq_iff_iff,decide_eq_true_eq,List.isEmpty_iff]
  constructor
  ·intro e;exact Pd (by simpa using e)
  ·rintro rfl;rfl
 have e2:decide (s.size≤16)=decide ((s.size:Int)≤16):=by rw [decide_eq_decide];omega
 have e3:s.data.toList.all FS= !decide (0≤Lib.idxFunc (fun r=> !L1 r) true s):=by
  unfold Lib.idxFunc
  cases e:s.data.toList.all FS with
  |false=>rw [decide_eq_true (h.2 e)];rfl
  |true=>rw [decide_eq_false (fun q=>by rw [h.1 q] at e;cases e)];rfl
 rw [e1,e2,e3]
end
end Go.Lift
namespace Go.Lift
noncomputable section
open Go Go.RowKit
def JB (kept:List ByteArray) (p:ByteArray):Option (List ByteArray):=
 if p=⟨#[]⟩∨p=⟨#[46]⟩ then some kept else if p≠⟨#[46,46]⟩ then some (kept++[p]) else if kept=[] then none else some kept.dropLast
def Je:List ByteArray→List ByteArray→Option (List ByteArray)
 | [],kept=>some kept
 |p::ps,kept=>(JB kept p).bind (Je ps)
def QF (xs:List ByteArray):ByteArray:=⟨(Lib.join (xs.map (·.data.toList)) [47]).toArray⟩
def BH (s:ByteArray):ByteArray×Int:=
 if GC s=false∨s.data.toList.head? =some 47 then (⟨#[]⟩,200) else
 match Je ((BI 47 s.data.toList).map Fa) [] with
 |some (k::ks)=>(QF (k::ks),0)
 |_=>(⟨#[]⟩,200)
theorem RV {ps:List ByteArray} {i:Nat} {p:ByteArray} (h:ps[i]? =some p) (kept:List ByteArray):Je (ps.drop i) kept=(JB kept p).bind (Je (ps.drop (i+1))):=by
 have hlt:=(List.getElem?_eq_some_iff.1 h).1
 have e:=(List.getElem?_eq_some_iff.1 h).2
 rw [List.drop_eq_getElem_cons hlt,e];rfl
theorem L9 (c:UInt8): ∀l:List UInt8,(BI c l).length≤l.length+1
 | []=>by simp [BI]
 |b::l=>by
  have:=L9 c l
  simp only [BI]
  split
  ·simp;omega
  ·split
   ·simp
   ·rename_i p r h;rw [h] at this;simp at this ⊢;omega
theorem GW (xs:List ByteArray):A6 (xs.map AV.s)=true:=by
 rw [ER];simp [closed]
def KeptIs (T:TypeId) (x:AV) (h:A5) (kept:List ByteArray):Prop:=
 (x= .sl 1 true []∧kept=[]∧h=⟨0,[]⟩)∨ ∃junk:List ByteArray,x= .own 0 0 kept.length∧h=⟨1,[(0,some ⟨T,1,(kept++junk).map AV.s⟩)]⟩
end
end Go.Lift
namespace Go.Lift
noncomputable section
open Go Go.RowKit
theorem Sn (h:A5) (e k:Nat) (els:List AV) (hc:A6 els=true):h.add [⟨e,k,els⟩]=⟨h.next+1,(h.next,some ⟨e,k,els⟩)::h.objs⟩:=by
 have:Obj.ren (· +h.next) ⟨e,k,els⟩=⟨e,k,els⟩:=by simp only [Obj.ren,Ju,hc,if_true]
 simp only [A5.add,GO,List.length_singleton,this]
theorem SO (n id off len:Nat):(AV.own id off len).ren (· +n)= .own (id+n) off len:=rfl
section
variable {P:Program} {W:World} {T:D1} {n:Nat} {ops:Array Oper} {d:Tmp} {op:Op} {ty:TypeId} {pos:String} {af:Array Edge} {r:List Oper} {env:Bd} {h:A5} {Q:Bd→A5→Prop}
theorem A1.sr {g:FuncId} {vs:List AV} {e k len:Nat} {els:List AV} (hc:callee T (ev env) ⟨some d,op,ty,pos,af,none⟩=some (g,vs)) (hcl:A6 vs=true) (hp:Ac P W g vs (.own 0 0 len) [⟨e,k,els⟩]) (he:A6 els=true) (hd:d<n)
  (kk:A1 P W T n ops r ((d,.own h.next 0 len)::env) ⟨h.next+1,(h.next,some ⟨e,k,els⟩)::h.objs⟩ Q):A1 P W T n ops (⟨some d,op,ty,pos,af,none⟩::r) env h Q:=
 P3 hc hcl hp hd (by rw [Sn _ _ _ _ he,SO,Nat.zero_add];exact kk)
theorem Q7 {g:FuncId} {vs ss:List AV} {e k len:Nat} {els:List AV} (hc:callee T (ev env) ⟨some d,op,ty,pos,af,none⟩=some (g,vs)) (hs:mapC (B2 [] h 8) vs=some ss) (hp:Ac P W g ss (.own 0 0 len) [⟨e,k,els⟩]) (he:A6 els=true)
  (hF:els.all (fun y=>y.cells.all flat)=true) (hd:d<n)
  (kk:A1 P W T n ops r ((d,.own h.next 0 len)::env) ⟨h.next+1,(h.next,some ⟨e,k,els⟩)::h.objs⟩ Q):A1 P W T n ops (⟨some d,op,ty,pos,af,none⟩::r) env h Q:=
 A1.sf hc hs hp rfl (by simpa using hF) hd (by rw [Sn _ _ _ _ he,SO,Nat.zero_add];exact kk)
end
theorem RU {keep:List Nat} {h:A5} {d id off len e:Nat} {xs:List ByteArray} (hk:E3 keep id=none) (hn:keep.contains id=false) (hg:h.get id=some ⟨e,1,xs.map .s⟩) (hl:off+len≤xs.length) (hL:len≤Eb):
  Ba keep h (d+1) (.own id off len)=some (.sl 1 false (((xs.drop off).take len).map .s)):=by
 simp only [Ba,hk,B2,hn,hg]
 have:((xs.map AV.s).drop off).take len=((xs.drop off).take len).map AV.s:=by rw [←List.map_drop,←List.map_take]
 rw [if_neg (by simp),if_pos ⟨by rw [List.length_map];exact hl,hL⟩,this]
 simp only [mapC,GW,if_true,Option.map_some]
theorem M2 {h:A5} {d id off len e:Nat} {xs:List ByteArray} (hg:h.get id=some ⟨e,1,xs.map .s⟩) (hl:off+len≤xs.length) (hL:len≤Eb):
  B2 [] h (d+1) (.own id off len)=some (.sl 1 false (((xs.drop off).take len).map .s)):=by
 simp only [B2,hg]
 have:((xs.map AV.s).drop off).take len=((xs.drop off).take len).map AV.s:=by rw [←List.map_drop,←List.map_take]
 rw [if_neg (by simp),if_pos ⟨by rw [List.length_map];exact hl,hL⟩,this]
 simp only [mapC,GW,if_true,Option.map_some]
theorem finO_s {keep:List Nat} {h:A5} {d e k:Nat} {xs:List ByteArray}:Hi keep h d ⟨e,k,xs.map .s⟩=some ⟨e,k,xs.map .s⟩:=by
 simp only [Hi,mapC,GW,if_true,Option.map_some]
theorem Hn {keep:List Nat} {h h':A5} {d id q e k:Nat} {xs:List ByteArray} (hg:h.get id=some ⟨e,k,xs.map .s⟩) (hg':h'.get q=some ⟨e,k,xs.map .s⟩):(h.get id).bind (Hi keep h d)=h'.get q:=by
 rw [hg,hg'];exact finO_s
theorem KO: ∀(r:List (List UInt8)),(∀x∈r,x.length≤16)→(Lib.joinTail [47] r).length≤17*r.length
 | [],_=>by simp [Lib.joinTail]
 |x::r,h=>by
  have ih:=KO r fun y hy=>h y (by simp [hy])
  have hx:=h x (by simp)
  simp only [Lib.joinTail,List.map_cons,List.flatten_cons,List.length_append,List.length_cons] at ih ⊢
  simp only [List.length_nil]
  omega
theorem UH (xs:List (List UInt8)) (h: ∀x∈xs,x.length≤16):(Lib.join xs [47]).length≤17*xs.length:=by
 cases xs with
 |nil=>simp [Lib.join_nil]
 |cons x r=>
  rw [Lib.join_cons]
  have:=KO r fun y hy=>h y (by simp [hy])
  have:=h x (by simp)
  simp only [List.length_append,List.length_cons]
  omega
theorem TN {h:A5} {e n:Nat} {xs:List ByteArray} {sep:ByteArray} (hg:h.get 0=some ⟨e,1,xs.map .s⟩) (hl:n≤xs.length) (hL:n≤Eb):
  mapC (B2 [] h 8) [.own 0 0 n,.s sep]=some [.sl 1 false ((xs.take n).map .s),.s sep]:=by
 have h1:=M2 (d:=7) (off:=0) hg (by omega) hL
 rw [List.drop_zero] at h1
 simp only [mapC,A6,closed,Bool.false_and,Bool.false_eq_true,if_false,Fn,h1]
 rfl
theorem TW {n:Nat} (h:0<n) (hn:n≤281474976710656):IntKind.i64.wrap ((n:Int)-1)=((n-1:Nat):Int):=by
 rw [E8 (by omega) (by omega)];omega
end
end Go.Lift
namespace Go.Lift
noncomputable section
open Go Go.RowKit
def S1 (s:ByteArray):Bool:=decide ((BH s).2=0)&&decide ((BH s).1=s)
theorem Bi (s:Strs):closed s.av=true:=rfl
theorem Qs (p:Dh):closed p.av=true:=rfl
theorem Fh (g:B4):closed g.av=true:=rfl
def IJ {α:Type} (p:α→Bool) (xs:List α):Int:=match xs.findIdx? p with
 |some i=>(i:Int)
 |none=> -1
theorem idxS_at {α:Type} {p:α→Bool} {xs:List α} {i:Nat} {x:α} (hx:xs[i]? =some x) (hp:(xs.take i).all (fun x=> !p x)=true) (h:p x=true):IJ p xs=i:=by
 obtain ⟨hlt,rfl⟩:=List.getElem?_eq_some_iff.1 hx
 have:xs.findIdx? p=some i:=by
  rw [List.findIdx?_eq_some_iff_getElem]
  refine ⟨hlt,h,fun j hj=> ?_⟩
  have:=List.all_eq_true.1 hp xs[j] (by
   rw [List.mem_take_iff_getElem]
   exact ⟨j,by omega,rfl⟩)
  simpa using this
 unfold IJ;rw [this]
theorem Td {α:Type} {p:α→Bool} {xs:List α} (hp:xs.all (fun x=> !p x)=true):IJ p xs= -1:=by
 have:xs.findIdx? p=none:=by
  rw [List.findIdx?_eq_none_iff]
  intro x hx
  simpa using List.all_eq_true.1 hp x hx
 unfold IJ;rw [this]
end
end Go.Lift
namespace Go.Lift
noncomputable section
open Go Go.RowKit
def B4.pt (g:B4):AV:= .pt [.sl 7 g.enl (g.edges.map CD.av),.sl 2 g.pnl (g.pools.map Dh.av),g.defaults.av]
def GD (g:B4) (name:ByteArray):Int:=IJ (fun p=>decide (p.name=name)) g.pools
end
end Go.Lift
namespace Go.Lift
noncomputable section
open Go Go.RowKit
def EN (b:UInt8):Bool:=decide (32≤b.toNat)&&decide (b.toNat≤126)
def LJ (s:ByteArray) (most:Int):Bool:=s.data.toList.all EN&&decide ((s.size:Int)≤most)
def Fj (s:ByteArray):Bool:= !decide (s=⟨#[]⟩)&&LJ s 256
def Ki (ss:Strs):Bool:=ss.xs.all S1&&decide ((ss.xs.length:Int)≤8)
def FL (e:CD):Bool:=[e.outs,e.ins,e.implicit,e.order].all Ki&&(decide ((e.outs.xs.length:Int)>0)&&Fj e.command&&(decide (e.pool=⟨#[]⟩)||GC e.pool))
def FR {α:Type} (f:Nat→α→Bool):Nat→List α→Bool
 |_,[]=>true
 |i,x::xs=>f i x&&FR f (i+1) xs
theorem Qo {α:Type} {f:Nat→α→Bool} {xs:List α} {i:Nat} {x:α} (h:xs[i]? =some x):FR f i (xs.drop i)=(f i x&&FR f (i+1) (xs.drop (i+1))):=by
 have hlt:=(List.getElem?_eq_some_iff.1 h).1
 have e:=(List.getElem?_eq_some_iff.1 h).2
 rw [List.drop_eq_getElem_cons hlt,e];rfl
def Kv (g:B4) (k:Nat) (p:Dh):Bool:=GC p.name&& !decide (p.depth<1)&& !decide (p.depth>8)&&decide (GD g p.name=k)
def HX (g:B4):Bool:=FR (Kv g) 0 g.pools&&decide ((g.pools.length:Int)≤4)
def EJ (g:B4) (e:CD):Bool:=FL e&&(decide (e.pool=⟨#[]⟩)|| !decide (GD g e.pool<0))
def LE (g:B4):Bool:=g.edges.all (EJ g)&&(decide ((g.edges.length:Int)≤16)&&HX g&&Ki g.defaults)
theorem MR {s:ByteArray} {i:Nat} (h:i<s.size): ∃b,s.data[i]? =some b∧s.data.toList[i]? =some b:=by
 have h':i<s.data.size:=h
 exact ⟨s.data[i],Array.getElem?_eq_getElem h',by simp [h']⟩
theorem Ew (s:ByteArray):s.data.toList.length=s.size:=by rw [Array.length_toList];rfl
theorem ID (g:B4):closed g.pt=true:=rfl
def CD.pt (e:CD):AV:= .pt [e.outs.av,e.ins.av,e.implicit.av,e.order.av,.s e.command,.b e.deps,.s e.pool]
theorem IC (e:CD):closed e.pt=true:=rfl
theorem Ph (L:List Strs):A6 (L.map Strs.av)=true:=by
 rw [ER];simp [closed,Bi]
theorem O0 {keep:List Nat} {h:A5} {d id off len e:Nat} {xs:List Strs} (hk:E3 keep id=none) (hn:keep.contains id=false) (hg:h.get id=some ⟨e,1,xs.map Strs.av⟩) (hl:off+len≤xs.length) (hL:len≤Eb):
  Ba keep h (d+1) (.own id off len)=some (.sl 1 false (((xs.drop off).take len).map Strs.av)):=by
 simp only [Ba,hk,B2,hn,hg]
 have:((xs.map Strs.av).drop off).take len=((xs.drop off).take len).map Strs.av:=by rw [←List.map_drop,←List.map_take]
 rw [if_neg (by simp),if_pos ⟨by rw [List.length_map];exact hl,hL⟩,this]
 simp only [mapC,Ph,if_true,Option.map_some]
end
end Go.Lift
namespace Go.Lift
noncomputable section
open Go Go.RowKit
theorem N0 {keep:List Nat} {h:A5} {d:Nat} {ob:Obj} (hc:A6 ob.els=true):Hi keep h d ob=some ob:=by
 simp only [Hi,mapC,hc,if_true,Option.map_some]
theorem Mt {keep:List Nat} {h h':A5} {d id q:Nat} {ob:Obj} (hg:h.get id=some ob) (hg':h'.get q=some ob) (hc:A6 ob.els=true):(h.get id).bind (Hi keep h d)=h'.get q:=by
 rw [hg,hg'];exact N0 hc
theorem SQ {h:A5} {d id e:Nat} {g:B4} (hg:h.get id=some ⟨e,3,[g.av]⟩):B2 [] h (d+1) (.loc id 0 0)=some g.pt:=by
 simp only [B2,hg]
 rfl
theorem Vg {h:A5} {id e:Nat} {g:B4} (hg:h.get id=some ⟨e,3,[g.av]⟩):mapC (B2 [] h 8) [.loc id 0 0]=some [g.pt]:=by
 simp only [mapC,A6,closed,Bool.false_and,Bool.false_eq_true,if_false,Fn,SQ hg]
theorem snap_gs {h:A5} {id e:Nat} {g:B4} {s:ByteArray} (hg:h.get id=some ⟨e,3,[g.av]⟩):mapC (B2 [] h 8) [.loc id 0 0,.s s]=some [g.pt,.s s]:=by
 simp only [mapC,A6,closed,Bool.false_and,Bool.false_eq_true,if_false,Fn,SQ hg]
 rfl
end
end Go.Lift
namespace Go.Lift
noncomputable section
open Go Go.RowKit
def rowR (xs:List ByteArray):AV:=if xs=[] then .sl 1 true [] else .own 0 0 xs.length
def rowS (T:TypeId) (xs:List ByteArray):List Obj:=if xs=[] then [] else [⟨T,1,xs.map .s⟩]
def RowIs (T:TypeId) (x:AV) (h:A5) (kept:List ByteArray):Prop:=
 (x= .sl 1 true []∧kept=[]∧h=⟨0,[]⟩)∨(kept≠ []∧x= .own 0 0 kept.length∧h=⟨1,[(0,some ⟨T,1,kept.map AV.s⟩)]⟩)
theorem Rp:rowR []= .sl 1 true []:=rfl
theorem Rr (T:TypeId):rowS T []=[]:=rfl
theorem Rq {xs:List ByteArray} (h:xs≠ []):rowR xs= .own 0 0 xs.length:=if_neg h
theorem Rs {T:TypeId} {xs:List ByteArray} (h:xs≠ []):rowS T xs=[⟨T,1,xs.map .s⟩]:=if_neg h
def D3 (es:List CD):List ByteArray:=es.flatMap fun e=>e.outs.xs
theorem Rh {es:List CD} {i:Nat} {e:CD} (h:es[i]? =some e):D3 (es.take (i+1))=D3 (es.take i)++e.outs.xs:=by
 unfold D3
 rw [List.take_add_one,h]
 simp
theorem Sa {es:List CD} (i:Nat):(D3 (es.take i)).length≤(D3 es).length:=by
 conv=>rhs;rw [←List.take_append_drop i es]
 unfold D3
 rw [List.flatMap_append,List.length_append];omega
theorem RX (ob:Obj):(S0 [ob]).get 0=some ob:=by rw [Dl];rfl
end
end Go.Lift
namespace Go.Lift
noncomputable section
open Go Go.RowKit
theorem TQ {w0 w:World} {μ:Mu} {h:A5} (s:DY w0 μ w h) (os:Array Go.Obj):Kg w0 μ w h μ (Sort.grow w os) h:=by
 have hold: ∀g,g<w.heap.size→(Sort.grow w os).heap[g]? =w.heap[g]? :=fun g hg=>by
  show (w.heap++os)[g]? =_
  rw [Array.getElem?_append_left hg]
 have hsz:w.heap.size≤(Sort.grow w os).heap.size:=by
  show _≤(w.heap++os).size
  rw [Array.size_append];omega
 have e:GI w μ (Sort.grow w os) μ:=GI.of (fun g hg _=>hold g hg) (fun _ _ h=>Or.inl h) (fun g hg=>Or.inl hg)
 refine ⟨⟨⟨s.below.os,s.below.tape,s.below.output,Nat.le_trans s.below.size hsz,fun k hk=> ?_⟩,fun id t ht=> ?_,s.inj,s.live,s.ylt,fun id o t ho ht=> ?_⟩,e,Nat.le_refl _,fun id p q=>absurd p q,rfl⟩
 ·rw [hold k (by have:=s.below.size;omega)];exact s.below.block k hk
 ·have:=s.lt id t ht;exact ⟨this.1,by omega⟩
 ·exact (s.blk id o t ho ht).mono e (hold _ (s.lt id t ht).2)
theorem MN {xs:List ByteArray} {j:Nat} {x:AV} (h:(xs.map AV.s)[j]? =some x): ∃b,xs[j]? =some b∧x= .s b:=by
 rw [List.getElem?_map] at h
 obtain ⟨b,hb,rfl⟩:=Option.map_eq_some_iff.1 h
 exact ⟨b,hb,rfl⟩
theorem Rw {w0 w:World} {μ:Mu} {h:A5} (s:DY w0 μ w h) {id:Nat} {T:TypeId} {xs:List ByteArray} (hg:h.get id=some ⟨T,1,xs.map .s⟩) (hne:xs≠ []) {v:Value} (hv:VR w μ (.own id 0 xs.length) v):
  ∃b c,v= .slice (some ⟨b,0,none⟩) xs.length c∧xs.length≤c∧c≤maxLen∧b<w.heap.size∧Sort.Holds Go.Proofs.encStr w b 0 (xs.map (·.data.toList)).toArray∧(∀x∈xs,x.size≤Eb)∧
   (∃sl,μ id=some (some sl)∧sl.g=b∧sl.cap=c∧sl.k=1)∧
   ∀(ys:List (List UInt8)) (k:Nat),ys.length=xs.length→(∀y∈ys,y.length≤Eb)→
    Kg w0 μ w h μ (Sort.putRow Go.Proofs.encStr (Sort.ahead w k) b 0 ys.toArray) (h.put id (some ⟨T,1,ys.map (fun y=>AV.s (Fa y))⟩)):=by
 have hpos:0<xs.length:=List.length_pos_iff.2 hne
 have hm:μ id≠none:=by intro e;simp only [VR,e] at hv
 cases hmm:μ id with
 |none=>exact absurd hmm hm
 |some t=>cases t with
  |none=>exact absurd hmm (s.live id _ hg)
  |some sl=>
   have B:=s.blk id _ sl hg hmm
   simp only [VR,hmm] at hv
   obtain ⟨a,c,rfl,h2,h3,h4,h5⟩:=hv
   have ha:=h5 (by omega)
   have hk1:sl.k=1:=B.k
   rw [Nat.zero_mul] at ha
   obtain ⟨cs,c1,c2,c3⟩:=B.blk
   simp only [Nat.mul_one] at c2 c3
   have hget: ∀(j:Nat) (x:ByteArray),xs[j]? =some x→cs[j]? =some (Value.string x)∧x.size≤Eb:=by
    intro j x hx
    obtain ⟨q1,q2⟩:=c3 j (.s x) (by rw [List.getElem?_map,hx];rfl)
    obtain ⟨u,u1,u2,_⟩:=q2 0 (.s x) rfl
    simp only [VR,CR] at u2
    rw [Nat.add_zero] at u1
    rw [u1,u2.1];exact ⟨rfl,u2.2⟩
   have hlt:=s.lt id sl hmm
   refine ⟨sl.g,c,by rw [ha],h2,by have:=B.cap;omega,hlt.2,fun j hj=> ?_,fun x hx=> ?_,⟨sl,rfl,rfl,by omega,hk1⟩,fun ys k hy hyl=> ?_⟩
   ·simp only [List.size_toArray,List.length_map] at hj
    obtain ⟨x,hx⟩: ∃x,xs[j]? =some x:=⟨xs[j],List.getElem?_eq_getElem hj⟩
    have hc:=(hget j x hx).1
    have hd:(xs.map (·.data.toList)).toArray[j]! =x.data.toList:=by
     rw [getElem!_pos _ _ (by simpa using hj)]
     have:=(List.getElem?_eq_some_iff.1 hx).2
     simp [this]
    refine ⟨?_,?_⟩
    ·simp only [World.cell?,c1,Option.isSome_none,Bool.false_eq_true,if_false,Nat.zero_add,hc,hd]
    ·simp only [World.frozen?,c1];simp
   ·obtain ⟨j,hj⟩:=List.getElem?_of_mem hx
    exact (hget j x hj).2
   ·have hcs:xs.length≤cs.size:=by have:=B.len;simp only [List.length_map] at this;omega
    let cs':=Sort.putCells Go.Proofs.encStr 0 ys.toArray cs
    have hsz:cs'.size=cs.size:=by simp [cs',Sort.putCells]
    have hb:(Sort.putRow Go.Proofs.encStr (Sort.ahead w k) sl.g 0 ys.toArray).heap[sl.g]? =some (.cells cs' T (0,0)):=by
     show (w.heap.modify sl.g _)[sl.g]? =_
     rw [Array.getElem?_modify,if_pos rfl,c1];rfl
    have ht:Turned w (Sort.putRow Go.Proofs.encStr (Sort.ahead w k) sl.g 0 ys.toArray) sl.g:=
     ⟨rfl,rfl,rfl,by simp [Sort.putRow,Sort.mapBlock,Sort.ahead],fun q hq=>by
       show (w.heap.modify sl.g _)[q]? =_
       rw [Array.getElem?_modify,if_neg (fun e=>hq e.symm)]⟩
    refine NG s hg hmm ht rfl rfl (by simp only [List.length_map,hy];have:=B.len;simpa using this) hb (by rw [hsz,c2,Nat.mul_one]) fun j x hx=> ?_
    rw [List.getElem?_map] at hx
    obtain ⟨y,hy',rfl⟩:=Option.map_eq_some_iff.1 hx
    have hj:j<ys.length:=(List.getElem?_eq_some_iff.1 hy').1
    have hyj:=(List.getElem?_eq_some_iff.1 hy').2
    refine ⟨rfl,fun i z hz=> ?_⟩
    cases i with
    |succ i=>simp [AV.cells] at hz
    |zero=>
     simp [AV.cells] at hz
     subst hz
     refine ⟨Go.Proofs.encStr y,?_,?_,rfl⟩
     ·simp only [Nat.mul_one,Nat.add_zero]
      show (Array.mapIdx _ cs)[j]? =_
      rw [Array.getElem?_mapIdx]
      have:cs[j]? =some cs[j]:=Array.getElem?_eq_getElem (by omega)
      rw [this]
      simp only [Option.map_some,Nat.zero_le,true_and,Nat.zero_add,List.size_toArray,hj,if_true,Nat.sub_zero]
      rw [getElem!_pos _ _ (by simpa using hj)]
      simp [hyj]
     ·simp only [VR,CR]
      refine ⟨rfl,?_⟩
      have:=hyl y (List.mem_of_getElem? hy')
      show y.toArray.size≤Eb
      simpa using this
end
end Go.Lift
namespace Go.Lift
noncomputable section
open Go Go.RowKit
def HR:List (List UInt8)→Bool
 | []=>false
 |x::xs=>xs.contains x||HR xs
theorem Km: ∀xs:List (List UInt8),HR xs=true↔ ¬xs.Nodup
 | []=>by simp [HR]
 |x::xs=>by
  simp only [HR,Bool.or_eq_true,List.contains_iff_mem,List.nodup_cons,Km xs]
  by_cases h:x∈xs
  ·simp [h]
  ·simp [h]
theorem RN (zs:List (List UInt8)):(Lib.compact zs).length≤zs.length:=by
 unfold Lib.compact Lib.compactUpTo
 rw [List.length_map]
 exact Nat.le_trans (List.length_filter_le _ _) (by simp)
theorem Qv (zs:List (List UInt8)): ∀y∈Lib.compact zs,y∈zs:=by
 intro y hy
 unfold Lib.compact Lib.compactUpTo at hy
 obtain ⟨j,hj,rfl⟩:=List.mem_map.1 hy
 have hlt:j<zs.length:=List.mem_range.1 (List.mem_filter.1 hj).1
 rw [getElem!_pos _ _ (by simpa using hlt)]
 simp
theorem RO (zs:List (List UInt8)):(Lib.compact zs).length<zs.length↔ ∃j,0<j∧ ∃h:j<zs.length,zs[j]=zs[j-1]:=by
 unfold Lib.compact Lib.compactUpTo
 rw [List.length_map]
 conv=>lhs;rhs;rw [←List.length_range (n:=zs.length)]
 rw [List.length_filter_lt_length_iff_exists]
 constructor
 ·rintro ⟨j,hj,hk⟩
  have hlt:=List.mem_range.1 hj
  unfold Lib.keeps at hk
  simp only [decide_eq_true_eq,not_or,Decidable.not_not] at hk
  obtain ⟨h0,h1⟩:=hk
  refine ⟨j,by omega,hlt,?_⟩
  rw [getElem!_pos _ _ (by simpa using hlt),getElem!_pos _ _ (by simp;omega)] at h1
  simpa using h1
 ·rintro ⟨j,h0,hlt,h1⟩
  refine ⟨j,List.mem_range.2 hlt,?_⟩
  unfold Lib.keeps
  simp only [decide_eq_true_eq,not_or,Decidable.not_not]
  refine ⟨by omega,?_⟩
  rw [getElem!_pos _ _ (by simpa using hlt),getElem!_pos _ _ (by simp;omega)]
  simpa using h1
def Iu (zs:List (List UInt8)):List (List UInt8):=zs.mergeSort fun x y=>decide (x≤y)
theorem Vi (zs:List (List UInt8)):decide ((Lib.compact (Iu zs)).length<zs.length)=HR zs:=by
 have hp:(Iu zs).Perm zs:=List.mergeSort_perm _ _
 have hs:(Iu zs).Pairwise fun a b=>a≤b:=by
  have:=List.pairwise_mergeSort (le:=fun x y:List UInt8=>decide (x≤y)) (fun a b c h1 h2=>by
   simp only [decide_eq_true_eq] at h1 h2 ⊢;exact List.le_trans h1 h2) (fun a b=>by
   simp only [Bool.or_eq_true,decide_eq_true_eq];exact List.le_total a b) zs
  unfold Iu
  simpa using this
 have hl:(Iu zs).length=zs.length:=hp.length_eq
 rw [Bool.eq_iff_iff,decide_eq_true_eq,Km,←hp.nodup_iff,←hl,RO]
 generalize Iu zs=ys at hs
 rw [List.pairwise_iff_getElem] at hs
 rw [List.nodup_iff_pairwise_ne,List.pairwise_iff_getElem]
 constructor
 ·rintro ⟨j,h0,hlt,he⟩ hn
  exact hn (j-1) j (by omega) hlt (by omega) he.symm
 ·intro hn
  simp only [Classical.not_forall,Decidable.not_not] at hn
  obtain ⟨i,j,hi,hj,hij,he⟩:=hn
  refine ⟨j,by omega,hj,?_⟩
  have hle:=hs (j-1) j (by omega) hj (by omega)
  rcases Nat.lt_or_ge i (j-1) with h|h
  ·have h1:=hs i (j-1) hi (by omega) h
   rw [he] at h1
   exact List.le_antisymm h1 hle
  ·have:j-1=i:=by omega
   simp only [this];exact he.symm
def Jb (g:B4):Int:=if LE g=false then 900 else if HR ((D3 g.edges).map fun x=>x.data.toList) then 901 else 0
theorem SM: ∀es:List CD,(∀e∈es,e.outs.xs.length≤8)→(D3 es).length≤8*es.length
 | [],_=>by simp [D3]
 |e::es,h=>by
  have h1:=h e (by simp)
  have ih:=SM es fun x hx=>h x (by simp [hx])
  unfold D3 at ih ⊢
  simp only [List.flatMap_cons,List.length_append,List.length_cons];omega
theorem Tz {g:B4} (h:LE g=true):(D3 g.edges).length≤128:=by
 unfold LE at h
 simp only [Bool.and_eq_true,decide_eq_true_eq] at h
 obtain ⟨h1,⟨h2,_⟩,_⟩:=h
 have:=SM g.edges fun e he=>by
  have:=List.all_eq_true.1 h1 e he
  unfold EJ FL at this
  simp only [Bool.and_eq_true,List.all_cons] at this
  have h3:=this.1.1.1
  unfold Ki at h3
  simp only [Bool.and_eq_true,decide_eq_true_eq] at h3
  omega
 omega
theorem Ob (zs:List (List UInt8)):(zs.map Fa).map (fun x:ByteArray=>x.data.toList)=zs:=by
 rw [List.map_map]
 conv=>rhs;rw [←List.map_id zs]
 exact List.map_congr_left fun x _=>OY x
theorem Vh {h:A5} {id e n:Nat} {xs:List ByteArray} (hg:h.get id=some ⟨e,1,xs.map .s⟩) (hl:n=xs.length) (hL:n≤Eb):
  mapC (B2 [] h 8) [.own id 0 n]=some [.sl 1 false (xs.map .s)]:=by
 have h1:=M2 (d:=7) (off:=0) hg (by omega) hL
 rw [List.drop_zero,hl,List.take_length] at h1
 rw [hl]
 simp only [mapC,A6,closed,Bool.false_and,Bool.false_eq_true,if_false,Fn,h1]
theorem TP (zs:List (List UInt8)):(Iu zs).length=zs.length:=(List.mergeSort_perm _ _).length_eq
end
end Go.Lift
namespace Go.Lift
noncomputable section
open Go Go.RowKit
def NE (n:Int):Bool:=decide (97≤n)&&decide (n≤122)||decide (48≤n)&&decide (n≤57)
theorem SY (b:UInt8):FS b=(NE b.toNat||decide ((b.toNat:Int)=46)||decide ((b.toNat:Int)=95)||decide ((b.toNat:Int)=45)||decide ((b.toNat:Int)=47)):=by
 have hb:b.toNat<256:=b.toNat_lt
 unfold FS L1 Vn NE
 generalize b.toNat=n at hb
 rw [Bool.eq_iff_iff]
 simp only [Bool.and_eq_true,Bool.or_eq_true,decide_eq_true_eq,beq_iff_eq]
 omega
theorem R8 (s:ByteArray):GC s=(s.data.toList.all FS&&(decide ((s.size:Int)≥1)&&decide ((s.size:Int)≤16))):=by
 unfold GC mayL
 rw [Ew]
 have e1:(!s.data.toList.isEmpty)=decide ((s.size:Int)≥1):=by
  rw [Bool.eq_iff_iff,decide_eq_true_eq,Bool.not_eq_true',←Ew]
  cases s.data.toList with
  |nil=>simp
  |cons x l=>simp;omega
 have e2:decide (s.size≤16)=decide ((s.size:Int)≤16):=by rw [decide_eq_decide];omega
 rw [e1,e2]
 cases s.data.toList.all FS<;>simp
end
end Go.Lift
namespace Go.Lift
noncomputable section
open Go Go.RowKit
end
end Go.Lift
namespace Go.Lift
noncomputable section
open Go Go.RowKit
def bs (l:List UInt8):ByteArray:=⟨l.toArray⟩
end
end Go.Lift
namespace Go.Lift
noncomputable section
open Go Go.RowKit
section
variable {P:Program} {W:World} {T:D1} {n:Nat} {ops:Array Oper} {d:Tmp} {op:Op} {ty:TypeId} {pos:String} {af:Array Edge} {r:List Oper} {env:Bd} {h:A5} {Q:Bd→A5→Prop}
end
end
end Go.Lift
namespace Go.Lift
noncomputable section
open Go Go.RowKit
end
end Go.Lift
namespace Go.Lift
noncomputable section
open Go Go.RowKit
end
end Go.Lift
namespace Go.Lift
noncomputable section
open Go Go.RowKit
end
end Go.Lift
namespace Go.Lift
noncomputable section
open Go Go.RowKit
def OU (T:D1) (env:Bd) (h:A5):ResultVar→Option AV
 | .tmp t=>some (env.get t)
 | .cell a t=>match Aj T t with
   |some i=>(Jl h (env.get a)).bind (LH i.desc.agg i.size)
   |none=>none
def Ny (T:D1) (env:Bd) (h:A5) (rs:List ResultVar):Option AV:=match Fn (OU T env h) rs with
 |some [x]=>some x
 |some xs=>some (.tup xs)
 |none=>none
section
variable {P:Program} {T:D1} (hT:C5 P T=true) {n:Nat} {B:FN} {w0 w:World} {μ:Mu} {env:Bd} {h:A5} {a:Act}
include hT
theorem Vc (R:D5 n B w0 μ env h a w) {r:ResultVar} {x:AV} (hr:OU T env h r=some x):
  ∃v,((match r with| .tmp t=>pure (a.tmps.getD t undef)| .cell p t=>do loadVar t (←asAddr (a.tmps.getD p undef)):Sem Value)).run P w= .ok v w∧VR w μ x v:=by
 cases r with
 |tmp t=>simp only [OU,Option.some.injEq] at hr;subst hr;exact ⟨_,rfl,R.env t⟩
 |cell p t=>
  simp only [OU] at hr
  split at hr
  ·rename_i i hi
   obtain ⟨cs,hm,hp⟩:=Option.bind_eq_some_iff.1 hr
   obtain ⟨u,hu,hvu⟩:=SG hT R.sim hi hm hp (R.env p)
   obtain ⟨ad,ha,_⟩:=US hT R.sim hm (R.env p)
   refine ⟨u,?_,hvu⟩
   rw [ha] at hu
   simp only [Instr.loadAt,Instr.sureAddr] at hu
   simp only [Sem.run_bind,ha,asAddr,Result.andThen_ok] at hu ⊢
   exact hu
  ·cases hr
theorem LN (R:D5 n B w0 μ env h a w) {fn:Func} {x:AV} (hr:Ny T env h fn.results.toList=some x):
  ∃v,(results fn a.tmps).run P w= .ok v w∧VR w μ x v:=by
 have key: ∀(rs:List ResultVar) (xs:List AV),Fn (OU T env h) rs=some xs→ ∃vs,(rs.mapM (fun r=>(match r with| .tmp t=>pure (a.tmps.getD t undef)| .cell p t=>do loadVar t (←asAddr (a.tmps.getD p undef)):Sem Value))).run P w= .ok vs w∧BZ w μ xs vs:=by
  intro rs
  induction rs with
  |nil=>intro xs h;simp [Fn] at h;subst h;exact ⟨[],by simp,by simp [BZ]⟩
  |cons r rs ih=>
   intro xs h
   simp only [Fn] at h
   split at h
   ·rename_i y ys h1 h2
    cases h
    obtain ⟨v,e1,e2⟩:=Vc hT R h1
    obtain ⟨vs,e3,e4⟩:=ih _ h2
    refine ⟨v::vs,?_,by simp only [BZ];exact ⟨v,vs,rfl,e2,e4⟩⟩
    simp only [List.mapM_cons,Sem.run_bind,e1,e3,Result.andThen_ok,Sem.run_pure]
   ·cases h
 unfold Ny at hr
 have hfn:fn.results=(fn.results.toList).toArray:=by simp
 have fin: ∀(xs:List AV) (vs:List Value),BZ w μ xs vs→(match (some xs:Option (List AV)) with
   |some [x]=>some x
   |some xs=>some (AV.tup xs)
   |none=>none)=some x→VR w μ x (if h:vs.toArray.size=1 then vs.toArray[0] else .tuple vs.toArray):=by
  intro xs vs hv hx
  cases xs with
  |nil=>simp only [BZ] at hv;subst hv;cases hx;simp [VR,BZ]
  |cons y ys=>
   simp only [BZ] at hv
   obtain ⟨v,r,rfl,h1,h2⟩:=hv
   cases ys with
   |nil=>simp only [BZ] at h2;subst h2;cases hx;simpa using h1
   |cons z zs=>
    cases hx
    simp only [BZ] at h2
    obtain ⟨v2,r2,rfl,h3,h4⟩:=h2
    simp only [VR]
    refine ⟨_,by simp;rfl,?_⟩
    simp only [BZ]
    exact ⟨_,_,rfl,h1,_,_,rfl,h3,h4⟩
 cases e:Fn (OU T env h) fn.results.toList with
 |none=>rw [e] at hr;cases hr
 |some xs=>
  rw [e] at hr
  obtain ⟨vs,h1,h2⟩:=key _ _ e
  refine ⟨if h:vs.toArray.size=1 then vs.toArray[0] else .tuple vs.toArray,?_,fin xs vs h2 hr⟩
  unfold results
  rw [hfn]
  simp only [List.mapM_toArray,Sem.run_bind,map_eq_pure_bind,Sem.run_pure]
  erw [h1]
  simp only [Result.andThen_ok,Sem.run_pure]
end
def FinR (T:D1) (rs:List ResultVar) (keep:List Nat) (r:AV) (S:List Obj):D2:=fun e env h=>
 (e= .normal∨e= .ret)∧keep.Nodup∧S.length=keep.length∧A0 keep h (S0 S) 0 keep∧ ∃r0,Ny T env h rs=some r0∧Ba keep h 9 r0=some r
theorem LZ {P:Program} {W:World} {T:D1} (hT:C5 P T=true) {f:FuncId} {fn:Func} {c:Code} (hf:P.funcs[f]? =some fn) (hb:fn.body=some c) (he: ∀(vs:Array Value) (w:World),(callFunc f vs).run P w= .ok (.enter f vs) w)
 {args:List AV} (hn:args.length≤fn.ntmps) {r:AV} {S:List Obj}
 (k:A7 P W fn.ntmps 0 c (Cg 0 args) ⟨0,[]⟩ (fun e env h=> ∃keep,FinR T fn.results.toList keep r S e env h)) (hM:f<1000000:=by decide):Ac P W f args r S:= .plain hM he<|fun w Y vs hG hY hvs=>by
 have hvr:=BQ _ _ hvs
 have hlen:=Ca hvr
 refine calls_of_wp hf hb ?_
 have R:D5 fn.ntmps ⟨W,w,CM Y,0⟩ w (CM Y) (Cg 0 args) ⟨0,[]⟩ {tmps:=vs.toArray++Array.replicate (fn.ntmps-vs.toArray.size) undef,defers:=[]} w:={
  glob:=hG
  snc:=⟨GI.refl _ _,rfl,fun _ h=>by simp at h,fun _ _=>rfl⟩
  low:=Nat.zero_le _
  sim:={
   below:=Below.refl _ _
   lt:=by intro _ _ h;cases h
   inj:=by intro _ _ _ _ h;cases h
   live:=by intro _ _ _ h;cases h
   ylt:=hY
   blk:=by intro _ _ _ _ h;cases h}
  env:=Ej hvr _
  sz:=by simp [hlen];omega
  dfr:=rfl
  fresh:=fun _ _=>rfl}
 refine wp_mono (k _ w (CM Y) _ w rfl rfl R) ?_
 rintro e a' w' ⟨env',h',μ',⟨keep,he,hnd,hS,hF,r0,hr0,hfv⟩,R'⟩
 obtain ⟨v,hrun,hv0⟩:=LN hT R' hr0
 have hv:=GP R'.sim keep 9 _ _ _ hfv hv0
 have R2:=JU R' (keep:=keep) (env':=[]) (h':=S0 S) ⟨hnd,hS,hF,trivial⟩ (fun i hi=>by simp at hi)
 have hpost:a'.defers=[]∧ ∃v,(results fn a'.tmps).run P w'= .ok v w'∧ ∃v' μ'',(Ending.returned v)= .returned v'∧μ''.Y=Y∧VR w' μ'' r v'∧DY w μ'' w' (S0 S)∧(∀id,S.length≤id→μ'' id=none):=
  ⟨R'.dfr,_,hrun,_,μ'.fin keep,rfl,R'.snc.y,hv,R2.sim,R2.fresh⟩
 rcases he with rfl|rfl
 ·exact hpost
 ·exact hpost
end
end Go.Lift
namespace Go.Lift
noncomputable section
open Go Go.ChangeShapes Go.WideShapes Go.RowKit
theorem O1 {W W':World} (h:Below W.heap.size W W') (may:MemPlace→Prop):W.keptBut W' may:=h.frame may
theorem Ps {W W':World} (h:Below W.heap.size W W') (a:Addr) (ha:a.block<W.heap.size):W'.frozen? a=W.frozen? a:=by
 unfold World.frozen?;rw [h.block _ ha]
section
variable {H:Type} {enc:TypeId×Value→H} {P:Program}
theorem Oe {f:Func} {s:ChangeSpec} {apart fresh handsOn again:Bool} {W W':World} {args:Array Value} {v:Value} {ds gs:List (DataW H)} {before pa pv:List MemPlace}
  (hW:DataW.Whole enc P f.params.toList s.vars apart W args.toList ds gs before)
  (hres: ∀(b:Nat) (sp:Nat→Bool) (hd:Bool),DataW.TrodAll enc P W' b sp hd f.resultTypes.toList (v.resultList f.resultTypes.size) (s.fn H (ds++gs)).results [])
  (hargs: ∀sp:Nat→Bool,(∀p∈before,sp p.block=true)→DataW.TrodAll enc P W' 0 sp true f.params.toList args.toList (s.fn H (ds++gs)).args pa)
  (hvars: ∀sp:Nat→Bool,(∀p∈before,sp p.block=true)→DataW.TrodVars enc P W' sp s.vars (s.fn H (ds++gs)).vars pv)
  (hps:before=pa++pv) (hb:Below W.heap.size W W')
  (hok: ∀(j:Nat) (t:TypeId) (r:Value),f.resultTypes[j]? =some t→(v.resultList f.resultTypes.size)[j]? =some r→Value.okWide P W' .any 0 t r):
  s.post enc P f apart fresh handsOn again W args v W':=by
 have hold: ∀p∈before,(fun b=>decide (b<W.heap.size)) p.block=true:=fun p hp=>by simpa using hW.lt p hp
 have hlt:=hW.lt
 refine ⟨ds,gs,before,[],pa,pv,hW,hres _ _ _,hargs _ hold,hvars _ hold,World.keptBut_mono (fun p hp=>⟨hp,?_⟩) (O1 hb (· ∈before)),fun _=> ?_⟩
 ·rw [hps,List.mem_append] at hp
  exact Or.inr hp
 ·obtain ⟨_,_,_,_,_,hz,hn⟩:=hW
  refine ⟨hok,_,_,([]++pa)++pv,⟨[]++pa,pv,trodAll_append (hargs _ (fun _ _=>rfl)) (hres _ _ _),hvars _ (fun _ _=>rfl),rfl,?_,?_⟩,?_⟩
  ·intro b off hp
   have hp':MemPlace.cell b off∈before:=by rw [hps];simpa using hp
   rw [Ps hb _ (hlt _ hp')]
   exact hz b off hp'
  ·intro ha
   have:=hn ha
   rw [hps] at this
   simpa using this
  ·intro p hp _
   rw [hps]
   simpa using hp
theorem Kd (hl:laidOutB P=true) {W W':World}: ∀ {ts:List TypeId} {vs:List Value} {ds:List (DataW H)} {ps:List MemPlace},(∀t∈ts,P.readableRec t=true∧t<P.types.size)→DataW.TrodAll enc P W 0 (fun _=>true) true ts vs ds ps→
  Below W.heap.size W W'→(∀p∈ps,p.block<W.heap.size)→ ∀sp:Nat→Bool,(∀p∈ps,sp p.block=true)→DataW.TrodAll enc P W' 0 sp true ts vs ds ps
 | [],vs,ds,ps,ht,h,hb,hlt,sp,hs=>by
   obtain ⟨rfl,rfl,rfl⟩:=trodAll_nil h
   exact trodAll_mk0
 |t::ts,vs,ds,ps,ht,h,hb,hlt,sp,hs=>by
  obtain ⟨v,vs',d,ds',p,q,rfl,rfl,rfl,h1,h2⟩:=trodAll_cons h
  have k1:=WideElems.Trod_stays hl (ht t (by simp)).1 (ht t (by simp)).2 h1 (fun x hx=>hb.same (hlt x (by simp [hx]))) (sp':=sp) (fun x hx=>hs x (by simp [hx]))
  exact ⟨p,q,k1,Kd hl (fun t' h'=>ht t' (by simp [h'])) h2 hb (fun x hx=>hlt x (by simp [hx])) sp (fun x hx=>hs x (by simp [hx])),rfl⟩
theorem PB {fn:Func} {f:FuncId} {spec:ChangeSpec} {apart fresh handsOn again:Bool} {tb:TypeId} (hl:laidOutB P=true) (hp:(fn.params.toList.all fun t=>P.readableRec t&&decide (t<P.types.size))=true) (hr:fn.resultTypes= #[tb]) (hb:P.underlying tb=some .bool)
  (hv:spec.vars=[]) {W:World} {args:Array Value} {ds gs:List (DataW H)} {before:List MemPlace} (hspec:spec.fn H (ds++[])={results:=[.lit (.bool true)],args:=ds})
  (hW:DataW.Whole enc P fn.params.toList spec.vars apart W args.toList ds gs before)
  (walk:Calls P f args W fun e w'=>e= .returned (.bool true)∧Below W.heap.size W w'):
  Calls P f args W fun e W'=> ∃v,e= .returned v∧spec.post enc P fn apart fresh handsOn again W args v W':=by
 refine walk.mono fun e W' ⟨he,hg⟩=> ?_
 subst he
 have hlt:=hW.lt
 have hW':=hW
 obtain ⟨p,q,hA,hV,rfl,hfz,hnd⟩:=hW
 rw [hv] at hV
 obtain ⟨rfl,rfl⟩:=trodVars_none hV
 have hts: ∀t∈fn.params.toList,P.readableRec t=true∧t<P.types.size:=by
  intro t ht
  have:=List.all_eq_true.1 hp t ht
  simpa using this
 refine ⟨_,rfl,Oe (pa:=p) (pv:=[]) hW' ?_ ?_ ?_ rfl hg ?_⟩
 ·intro b sp hd
  rw [hspec,hr]
  exact trodAll_cons_mk (shut_bool hb true) trodAll_mk0
 ·intro sp hs
  rw [hspec]
  exact Kd hl hts hA hg (fun x hx=>hlt x (by simp [hx])) sp (fun x hx=>hs x (by simp [hx]))
 ·intro sp hs
  rw [hspec,hv]
  rfl
 ·exact ok_one hr rfl (okWide_bool_mk hb _)
end
theorem Tf {P:Program} {W:World} {f:FuncId} {args:List AV} (k:Ac P W f args (.b true) []) {vs:List Value} (hvs:DX W (CM fun _=>False) args vs) (hM:f<1000000:=by decide):Calls P f vs.toArray W fun e w'=>e= .returned (.bool true)∧Below W.heap.size W w':=
 (k.callsP hM W (fun _=>False) vs (Ea.refl W) (fun _ h=>h.elim) hvs).mono fun e w' ⟨v,μ',e1,_,hv,hs,_⟩=>by
   simp only [VR,CR] at hv
   subst hv
   exact ⟨e1,hs.below⟩
end
end Go.Lift
namespace Go.Lift
noncomputable section
open Go Go.RowKit
def AM (x y:AV):Prop:= ∀(w:World) (μ:Mu) (v:Value),CR w μ x v→CR w μ y v
def D6:List AV→List AV→Prop
 | [],[]=>True
 |x::xs,y::ys=>AM x y∧D6 xs ys
 |_,_=>False
theorem AM.refl (x:AV):AM x x:=fun _ _ _ h=>h
theorem D6.refl: ∀xs:List AV,D6 xs xs
 | []=>trivial
 |x::xs=>⟨AM.refl x,D6.refl xs⟩
theorem AM.nil (k:Nat):AM (.sl k true []) (.sl k false []):=fun w μ v h=>by
 simp only [CR] at h ⊢
 rcases h with h|⟨h,_⟩
 ·exact Or.inl h
 ·cases h
theorem D6.crs {w:World} {μ:Mu}: ∀ {xs ys:List AV} {vs:List Value},D6 xs ys→DX w μ xs vs→DX w μ ys vs
 | [],[],vs,_,h=>h
 |x::xs,y::ys,vs,k,h=>by
  simp only [DX] at h ⊢
  obtain ⟨v,r,e,h1,h2⟩:=h
  exact ⟨v,r,e,k.1 w μ v h1,D6.crs k.2 h2⟩
theorem AM.st {xs ys:List AV} (h:D6 xs ys):AM (.st xs) (.st ys):=fun w μ v k=>by
 simp only [CR] at k ⊢
 obtain ⟨cs,e,k⟩:=k
 exact ⟨cs,e,h.crs k⟩
theorem AM.tup {xs ys:List AV} (h:D6 xs ys):AM (.tup xs) (.tup ys):=fun w μ v k=>by
 simp only [CR] at k ⊢
 obtain ⟨cs,e,k⟩:=k
 exact ⟨cs,e,h.crs k⟩
theorem Ac.wk {P:Program} {W:World} {f:FuncId} {xs ys:List AV} {r:AV} {S:List Obj} (k:Ac P W f ys r S) (h:D6 xs ys):Ac P W f xs r S where
 enters:=k.enters
 calls:=fun w Y vs hG hY hvs=>k.calls w Y vs hG hY (h.crs hvs)
def Dt (d:Nat) (keep:List Nat) (h:A5) (x y:AV):Prop:= ∃z,Ba keep h d x=some z∧(z=y∨(closed z=true∧AM z y))
abbrev AW (keep:List Nat) (h:A5) (x y:AV):Prop:=Dt 9 keep h x y
theorem AW.c {d:Nat} {keep:List Nat} {h:A5} {x y:AV} (e:x=y) (hc:closed y=true):Dt (d+1) keep h x y:=by subst e;exact ⟨x,A4 hc,Or.inl rfl⟩
theorem AW.f {d:Nat} {keep:List Nat} {h:A5} {x y:AV} (e:Ba keep h (d+1) x=some y):Dt (d+1) keep h x y:=⟨y,e,Or.inl rfl⟩
theorem AW.w {d:Nat} {keep:List Nat} {h:A5} {x y:AV} (hc:closed x=true) (hw:AM x y):Dt (d+1) keep h x y:=⟨x,A4 hc,Or.inr ⟨hc,hw⟩⟩
theorem AW.cast {d:Nat} {keep:List Nat} {h:A5} {x y x' y':AV} (ex:x=x') (ey:y'=y) (k:Dt d keep h x' y'):Dt d keep h x y:=by subst ex;subst ey;exact k
def Sk (d:Nat) (keep:List Nat) (h:A5):List AV→List AV→Prop
 | [],[]=>True
 |x::xs,y::ys=>Dt d keep h x y∧Sk d keep h xs ys
 |_,_=>False
theorem MX {d:Nat} {keep:List Nat} {h:A5}: ∀ {xs ys:List AV},Sk (d+1) keep h xs ys→A6 ys=true→ ∃zs,Fn (Ba keep h (d+1)) xs=some zs∧(A6 xs=true→zs=xs)∧A6 zs=true∧D6 zs ys
 | [],[],_,_=>⟨[],rfl,fun _=>rfl,rfl,trivial⟩
 | [],_::_,k,_=>k.elim
 |_::_,[],k,_=>k.elim
 |x::xs,y::ys,k,hc=>by
  obtain ⟨⟨z,e1,e2⟩,k2⟩:=k
  simp only [A6,Bool.and_eq_true] at hc
  obtain ⟨zs,e3,e4,e5,e6⟩:=MX k2 hc.2
  refine ⟨z::zs,by simp only [Fn,e1,e3],fun hx=> ?_,?_,?_,e6⟩
  ·simp only [A6,Bool.and_eq_true] at hx
   rw [A4 hx.1] at e1
   cases e1
   rw [e4 hx.2]
  ·rcases e2 with rfl|⟨c1,_⟩
   ·simp only [A6,hc.1,e5,Bool.and_self]
   ·simp only [A6,c1,e5,Bool.and_self]
  ·rcases e2 with rfl|⟨_,w1⟩
   ·exact AM.refl _
   ·exact w1
theorem AW.tup {d:Nat} {keep:List Nat} {h:A5} {xs ys:List AV} (k:Sk (d+1) keep h xs ys) (hc:A6 ys=true):Dt (d+2) keep h (.tup xs) (.tup ys):=by
 obtain ⟨zs,e1,e2,e3,e4⟩:=MX k hc
 refine ⟨.tup zs,?_,Or.inr ⟨e3,AM.tup e4⟩⟩
 simp only [Ba]
 unfold mapC
 split
 ·rename_i hx;rw [e2 hx];rfl
 ·rw [e1];rfl
theorem AW.st {d:Nat} {keep:List Nat} {h:A5} {xs ys:List AV} (k:Sk (d+1) keep h xs ys) (hc:A6 ys=true):Dt (d+2) keep h (.st xs) (.st ys):=by
 obtain ⟨zs,e1,e2,e3,e4⟩:=MX k hc
 refine ⟨.st zs,?_,Or.inr ⟨e3,AM.st e4⟩⟩
 simp only [Ba]
 unfold mapC
 split
 ·rename_i hx;rw [e2 hx];rfl
 ·rw [e1];rfl
def Am (keep:List Nat) (h:A5) (env:Bd):Bd→Prop
 | []=>True
 |(t,x)::r=>AW keep h (env.get t) x∧Am keep h env r
theorem Am.nil {keep:List Nat} {h:A5} {env:Bd}:Am keep h env []:=trivial
theorem Am.cons {keep:List Nat} {h:A5} {env:Bd} {t:Nat} {x:AV} {r:Bd} (a:AW keep h (env.get t) x) (b:Am keep h env r):Am keep h env ((t,x)::r):=⟨a,b⟩
def JN:List AV→List AV→Prop
 |_,[]=>True
 |x::xs,y::ys=>(A6 x.cells=true∧D6 x.cells y.cells)∧JN xs ys
 | [],_::_=>False
theorem JN.get: ∀ {xs ys:List AV} (_:JN xs ys),ys.length≤xs.length∧ ∀(j:Nat) (y:AV),ys[j]? =some y→ ∃x,xs[j]? =some x∧A6 x.cells=true∧D6 x.cells y.cells
 |_,[],_=>⟨Nat.zero_le _,fun j y hy=>by simp at hy⟩
 | [],_::_,k=>k.elim
 |x::xs,y::ys,k=>by
  obtain ⟨h1,h2⟩:=JN.get k.2
  refine ⟨by simp [h1],fun j z hz=> ?_⟩
  cases j with
  |zero=>simp at hz;subst hz;exact ⟨x,rfl,k.1⟩
  |succ j=>simp at hz;obtain ⟨q,q1,q2⟩:=h2 j z hz;exact ⟨q,by simpa using q1,q2⟩
theorem D6.len: ∀ {xs ys:List AV},D6 xs ys→xs.length=ys.length
 | [],[],_=>rfl
 |_::_,_::_,k=>by simp [D6.len k.2]
def U5 (keep:List Nat) (h h':A5) (id q:Nat):Prop:=(h.get id).bind (Hi keep h 9)=h'.get q∨
 ∃o o1 o',h.get id=some o∧Hi keep h 9 o=some o1∧h'.get q=some o'∧o1.e=o'.e∧o1.k=o'.k∧JN o1.els o'.els
def E9 (keep:List Nat) (h h':A5):Nat→List Nat→Prop
 |_,[]=>True
 |p,id::r=>U5 keep h h' id p∧E9 keep h h' (p+1) r
theorem HJ {keep:List Nat} {h h':A5}: ∀ {l:List Nat} {q:Nat},E9 keep h h' q l→ ∀p id,l[p]? =some id→U5 keep h h' id (q+p)
 | [],q,_,p,id,hp=>by simp at hp
 |i::r,q,k,p,id,hp=>by
  simp only [E9] at k
  cases p with
  |zero=>simp at hp;subst hp;exact k.1
  |succ p=>
   simp at hp
   have:=HJ k.2 p id hp
   rwa [show q+1+p=q+(p+1) by omega] at this
theorem Vo {w:World} {μ:Mu} {o o':Obj} {sl:KD} (he:o.e=o'.e) (hk:o.k=o'.k) (hw:JN o.els o'.els) (B:IV w μ o sl):IV w μ o' sl:=by
 obtain ⟨h1,h2⟩:=hw.get
 obtain ⟨cs,c1,c2,c3⟩:=B.blk
 refine ⟨B.k.trans hk,by rw [←hk];exact B.pos,Nat.le_trans h1 B.len,B.cap,cs,by rw [←he];exact c1,by rw [←hk];exact c2,fun j y hy=> ?_⟩
 obtain ⟨x,x1,x2,x3⟩:=h2 j y hy
 obtain ⟨q1,q2⟩:=c3 j x x1
 refine ⟨by rw [←x3.len,q1,hk],fun i z hz=> ?_⟩
 have hi:i<x.cells.length:=by rw [x3.len];exact (List.getElem?_eq_some_iff.1 hz).1
 have hx:=List.getElem?_eq_getElem hi
 obtain ⟨u,u1,u2,u3⟩:=q2 i _ hx
 refine ⟨u,by rw [←hk];exact u1,?_,u3⟩
 have key: ∀ {xs ys:List AV},A6 xs=true→D6 xs ys→ ∀(i:Nat) (a b:AV),xs[i]? =some a→ys[i]? =some b→closed a=true∧AM a b:=by
  intro xs
  induction xs with
  |nil=>intro ys _ _ i a b ha;simp at ha
  |cons a0 xs ih=>
   intro ys hc hw i a b ha hb
   cases ys with
   |nil=>exact hw.elim
   |cons b0 ys=>
    simp only [A6,Bool.and_eq_true] at hc
    cases i with
    |zero=>simp at ha hb;subst ha;subst hb;exact ⟨hc.1,hw.1⟩
    |succ i=>simp at ha hb;exact ih hc.2 hw.2 i a b ha hb
 obtain ⟨e1,e2⟩:=key x2 x3 i _ _ hx hz
 exact CE _ _ (e2 _ _ _ (Bh _ _ e1 u2))
theorem A0.nil {keep:List Nat} {h h':A5} {p:Nat}:E9 keep h h' p []:=trivial
theorem A0.cons {keep:List Nat} {h h':A5} {p id:Nat} {r:List Nat} (a:(h.get id).bind (Hi keep h 9)=h'.get p) (b:E9 keep h h' (p+1) r):E9 keep h h' p (id::r):=⟨Or.inl a,b⟩
theorem Fd {keep:List Nat} {h h':A5} {p id:Nat} {r:List Nat} (a:U5 keep h h' id p) (b:E9 keep h h' (p+1) r):E9 keep h h' p (id::r):=⟨a,b⟩
theorem A1.done {P:Program} {W:World} {T:D1} {n:Nat} {ops:Array Oper} {env:Bd} {h:A5} {Q:Bd→A5→Prop} (k:Q env h):A1 P W T n ops [] env h Q:=k
theorem Ar.fin {P:Program} {W:World} {T:D1} {n m i:Nat} {ops:Array Oper} {env:Bd} {h:A5} {Q:Bd→A5→Prop} (k:Q env h):Ar P W T n ops m i [] env h Q:=k
structure MC (keep:List Nat) (env:Bd) (h:A5) (env':Bd) (h':A5):Prop where
 nodup:keep.Nodup
 next:h'.next=keep.length
 objs:E9 keep h h' 0 keep
 vars:Am keep h env env'
theorem Qh {keep:List Nat} {h:A5} {env:Bd}: ∀ {env':Bd},Am keep h env env'→ ∀t,env'.get t= .und∨AW keep h (env.get t) (env'.get t)
 | [],_,t=>Or.inl rfl
 |(t',x)::r,k,t=>by
  simp only [Am] at k
  rw [AL]
  by_cases ht:t=t'
  ·subst ht;right;rw [if_pos rfl];exact k.1
  ·rw [if_neg ht];exact Qh k.2 t
theorem Pp {w0 w:World} {μ:Mu} {h:A5} (s:DY w0 μ w h) {keep:List Nat} {x y:AV} (e:AW keep h x y) {v:Value} (hv:VR w μ x v):VR w (μ.fin keep) y v:=by
 obtain ⟨z,e1,e2⟩:=e
 have h1:=GP s keep 9 _ _ _ e1 hv
 rcases e2 with rfl|⟨hc,hw⟩
 ·exact h1
 ·exact CE _ _ (hw _ _ _ (Bh _ _ hc h1))
theorem Ha {n:Nat} {B:FN} {w0 w:World} {μ:Mu} {env env':Bd} {h h':A5} {a:Act} (R:D5 n B w0 μ env h a w) {keep:List Nat} (F:MC keep env h env' h')
  (hN: ∀i,i<B.N→keep[i]? =some i):D5 n B w0 (μ.fin keep) env' h' a w where
 glob:=R.glob
 snc:={
  ext:=⟨fun x u hr=>Cj (Ed μ keep).less _ _ (R.snc.ext.rd x u hr),fun id t ht=>by
   have:id<B.N:=by
    rcases Nat.lt_or_ge id B.N with q|q
    ·exact q
    ·rw [R.snc.top id q] at ht;cases ht
   have e:(μ.fin keep) id=μ id:=by dsimp only [Mu.fin];rw [hN id this];rfl
   rw [e];exact R.snc.ext.mu id t ht,R.snc.ext.bl,fun g q=>R.snc.ext.mt g ((Ed μ keep).less g q)⟩
  y:=R.snc.y
  dom:=fun id hi h0=>by
   have e:(μ.fin keep) id=μ id:=by dsimp only [Mu.fin];rw [hN id hi];rfl
   rw [e];exact R.snc.dom id hi h0
  top:=R.snc.top}
 low:=by
  rw [F.next]
  cases e:B.N with
  |zero=>omega
  |succ k=>have:=(List.getElem?_eq_some_iff.1 (hN k (by omega))).1;omega
 sim:={
  below:=R.sim.below
  lt:=fun p t ht=>by
   obtain ⟨id,h1,h2⟩:=Option.bind_eq_some_iff.1 ht
   exact R.sim.lt id t h2
  inj:=fun p p' t t' ht ht' e=>by
   obtain ⟨id,h1,h2⟩:=Option.bind_eq_some_iff.1 ht
   obtain ⟨id',h1',h2'⟩:=Option.bind_eq_some_iff.1 ht'
   have:=R.sim.inj id id' t t' h2 h2' e
   subst this
   exact LG F.nodup h1 h1'
  live:=fun p o ho hp=>by
   obtain ⟨id,h1,h2⟩:=Option.bind_eq_some_iff.1 hp
   have:=HJ F.objs p id h1
   rw [Nat.zero_add] at this
   rcases this with this|⟨o0,o1,o2,e1,_⟩
   ·rw [ho] at this
    obtain ⟨o',h3,_⟩:=Option.bind_eq_some_iff.1 this
    exact R.sim.live id o' h3 h2
   ·exact R.sim.live id o0 e1 h2
  ylt:=R.sim.ylt
  blk:=fun p o t ho hp=>by
   obtain ⟨id,h1,h2⟩:=Option.bind_eq_some_iff.1 hp
   have:=HJ F.objs p id h1
   rw [Nat.zero_add] at this
   rcases this with this|⟨o0,o1,o2,e1,e2,e3,e4,e5,e6⟩
   ·rw [ho] at this
    obtain ⟨o',h3,h4⟩:=Option.bind_eq_some_iff.1 this
    exact Pq R.sim keep h4 (R.sim.blk id o' t h3 h2)
   ·rw [ho] at e3;cases e3
    exact Vo e4 e5 e6 (Pq R.sim keep e2 (R.sim.blk id o0 t e1 h2))}
 env:=fun t=>by
  rcases Qh F.vars t with e|e
  ·rw [e];simp only [VR]
  ·exact Pp R.sim e (R.env t)
 sz:=R.sz
 dfr:=R.dfr
 fresh:=fun p hp=>by
  dsimp only [Mu.fin]
  rw [List.getElem?_eq_none (by rw [F.next] at hp;exact hp)];rfl
def NoGoto (Q:D2):D2
 | .goto _,_,_=>False
 |e,env,h=>Q e env h
theorem RF {P:Program} {W:World} {n N:Nat} {c:Code} {env:Bd} {h:A5} {Q:D2} (k:A7 P W n N c env h (NoGoto Q)):A7 P W n N (.scope c) env h Q:=
 A7.scope (k.mono fun e env h q=>by
  cases e with
  |goto l=>exact q.elim
  |_=>exact ⟨fun l=>by simp,q⟩)
theorem ST {P:Program} {W:World} {n N:Nat} {Q:D2} {c:Code} {env:Bd} {h:A5} (keep:List Nat) {env':Bd} {h':A5} (F:MC keep env h env' h') (hN: ∀i,i<N→keep[i]? =some i) (k:A7 P W n N c env' h' Q):A7 P W n N c env h Q:=
 fun B w0 μ a w hW hB R=>k B w0 _ a w hW hB (Ha R (by exact F) (by rw [hB];exact hN))
def CutP (N:Nat) (E:Bd) (H:A5) (Q:D2):D2
 | .normal,env,h=> ∃keep,MC keep env h E H∧ ∀i,i<N→keep[i]? =some i
 |e,env,h=>Q e env h
theorem P4 {P:Program} {W:World} {n N:Nat} {env:Bd} {h:A5} {Q:D2} {x y:Code} (E:Bd) (H:A5)
  (kx:A7 P W n N x env h (CutP N E H Q)) (ky:A7 P W n N y E H Q):A7 P W n N (.seq x y) env h Q:=by
 have key:A7 P W n N x env h (fun e env1 h1=>(e= .normal∧env1=E∧h1=H)∨(e≠ .normal∧Q e env1 h1)):=fun B w0 μ a w hW hB R=>wp_mono (kx B w0 μ a w hW hB R) fun e a' w' hh=>by
  obtain ⟨env',h',μ',q,r⟩:=hh
  cases e with
  |normal=>
   obtain ⟨keep,F,hN⟩:=q
   exact ⟨E,H,μ'.fin keep,Or.inl ⟨rfl,rfl,rfl⟩,Ha r F (by rw [hB];exact hN)⟩
  |_=>exact ⟨env',h',μ',Or.inr ⟨by simp,q⟩,r⟩
 refine A7.seq (key.mono fun e env' h' q=> ?_)
 rcases q with ⟨rfl,rfl,rfl⟩|⟨hne,q⟩
 ·exact ky
 ·cases e<;>first|exact q|exact absurd rfl hne
def LoopP (N:Nat) {σ:Type} (E:σ→Bd) (H:σ→A5) (Inv:σ→Prop) (m:σ→Nat) (k:Nat) (Q:D2):D2
 | .normal,env,h=> ∃s',m s'<k∧Inv s'∧ ∃keep,MC keep env h (E s') (H s')∧ ∀i,i<N→keep[i]? =some i
 |e,env,h=>Q e env h
theorem AX {P:Program} {W:World} {n N:Nat} {env:Bd} {h:A5} {Q:D2} {c:Code} {σ:Type} (E:σ→Bd) (H:σ→A5) (Inv:σ→Prop) (m:σ→Nat) (s0:σ)
  (h0: ∃keep,MC keep env h (E s0) (H s0)∧ ∀i,i<N→keep[i]? =some i) (i0:Inv s0)
  (round: ∀s,Inv s→A7 P W n N c (E s) (H s) (LoopP N E H Inv m (m s) Q)):A7 P W n N (.loop c) env h Q:=
 fun B w0 μ a w hW hB R=>by
  obtain ⟨keep,F,hN⟩:=h0
  refine GZ (fun k a w=> ∃s μ,m s=k∧Inv s∧D5 n B w0 μ (E s) (H s) a w) (k0:=m s0) ⟨s0,_,rfl,i0,Ha R F (by rw [hB];exact hN)⟩ fun k a w ⟨s,μ,hk,hI,R⟩=>
   wp_mono (round s hI B w0 μ a w hW hB R) fun e a' w' hh=> ?_
  obtain ⟨env',h',μ',q,r⟩:=hh
  cases e with
  |normal=>
   obtain ⟨s',hm,hI',keep,F,hN⟩:=q
   exact ⟨m s',by omega,s',_,rfl,hI',Ha r F (by rw [hB];exact hN)⟩
  |_=>exact ⟨env',h',μ',q,r⟩
def SU (ts:List Nat) (r:AV):D2:=fun e env h=>(e= .normal∨e= .ret)∧AW [] h (Bm ts env) r
theorem Ae {P:Program} {W:World} {f:FuncId} {fn:Func} {c:Code} (hf:P.funcs[f]? =some fn) (hb:fn.body=some c) (he: ∀(vs:Array Value) (w:World),(callFunc f vs).run P w= .ok (.enter f vs) w)
 {ts:List Nat} (hr:Gh fn.results.toList=some ts) {args:List AV} (hn:args.length≤fn.ntmps) {r:AV}
 (k:A7 P W fn.ntmps 0 c (Cg 0 args) ⟨0,[]⟩ (SU ts r)) (hM:f<1000000:=by decide):Ac P W f args r []:= .plain hM he<|fun w Y vs hG hY hvs=>by
 have hvr:=BQ _ _ hvs
 have hlen:=Ca hvr
 refine calls_of_wp hf hb ?_
 have R:D5 fn.ntmps ⟨W,w,CM Y,0⟩ w (CM Y) (Cg 0 args) ⟨0,[]⟩ {tmps:=vs.toArray++Array.replicate (fn.ntmps-vs.toArray.size) undef,defers:=[]} w:={
  glob:=hG
  snc:=⟨GI.refl _ _,rfl,fun _ h=>by simp at h,fun _ _=>rfl⟩
  low:=Nat.zero_le _
  sim:={
   below:=Below.refl _ _
   lt:=by intro _ _ h;cases h
   inj:=by intro _ _ _ _ h;cases h
   live:=by intro _ _ _ h;cases h
   ylt:=hY
   blk:=by intro _ _ _ _ h;cases h}
  env:=Ej hvr _
  sz:=by simp [hlen];omega
  dfr:=rfl
  fresh:=fun _ _=>rfl}
 refine wp_mono (k _ w (CM Y) _ w rfl rfl R) ?_
 rintro e a' w' ⟨env',h',μ',⟨he,hE⟩,R'⟩
 have hv:=Pp R'.sim hE (Ro R'.env ts)
 have R2:=JU R' (keep:=[]) (env':=[]) (h':=S0 []) ⟨List.nodup_nil,rfl,trivial,trivial⟩ (fun i hi=>by simp at hi)
 have hrun:=Jv (P:=P) hr a'.tmps w'
 have hpost:a'.defers=[]∧ ∃v,(results fn a'.tmps).run P w'= .ok v w'∧ ∃v' μ'',(Ending.returned v)= .returned v'∧μ''.Y=Y∧VR w' μ'' r v'∧DY w μ'' w' (S0 [])∧(∀id,([]:List Obj).length≤id→μ'' id=none):=
  ⟨R'.dfr,_,hrun,_,μ'.fin [],rfl,R'.snc.y,hv,R2.sim,R2.fresh⟩
 rcases he with rfl|rfl
 ·exact hpost
 ·exact hpost
end
end Go.Lift
namespace Go.Lift
noncomputable section
open Go Go.RowKit
def Ao {α:Type} (k:Nat) (A:α→AV) (xs:List α):AV:= .sl k false (xs.map A)
def ptA {α:Type} (A:α→AV) (x:α):AV:= .pt (A x).cells
def Bk {α:Type} (p k:Nat) (A:α→AV) (xs:List α):AV:=match xs with
 | []=> .sl k true []
 |x::r=> .own p 0 (r.length+1)
def J1 {α:Type} (e k:Nat) (A:α→AV) (xs:List α):Option Obj:=match xs with
 | []=>none
 |x::r=>some ⟨e,k,(x::r).map A⟩
section
variable {T:D1} {ρ:CA} {h:A5} {dst:Option Tmp} {ty:TypeId} {pos:String} {af:Array Edge} {gd:Option (Nat×Bool)} {α:Type} {A:α→AV}
theorem AQ {t yt:TypeId} {x y:Operand} {i m:Nat} (ex:ρ (Ib T t) x=some (.i .i64 (i:Int))) (ey:ρ (Ib T t) y=some (.i .i64 (m:Int))) (hb:i+m≤9223372036854775807):
  GE T ρ h ⟨dst,.binOp .add t x y yt,ty,pos,af,gd⟩=some (.i .i64 ((i+m:Nat):Int)):=by
 simp only [GE,ex,ey,Od,PM,if_true]
 rw [E8 (by omega) (by omega)];rfl
theorem Px {t yt:TypeId} {x y:Operand} {i m:Nat} (ex:ρ (Ib T t) x=some (.i .i64 (i:Int))) (ey:ρ (Ib T t) y=some (.i .i64 (m:Int))) (hle:m≤i) (hb:i≤9223372036854775807):
  GE T ρ h ⟨dst,.binOp .sub t x y yt,ty,pos,af,gd⟩=some (.i .i64 ((i-m:Nat):Int)):=by
 simp only [GE,ex,ey,Od,PM,if_true]
 rw [E8 (by omega) (by omega)]
 congr 2;omega
theorem BV {x:Operand} {t e:TypeId} {k:Nat} {nl:Bool} {xs:List α} (ex:ρ 0 x=some (.sl k nl (xs.map A))) (et:Bl T t= .slice e):
  GE T ρ h ⟨dst,.call ⟨.builtin .len,#[x],#[t]⟩,ty,pos,af,gd⟩=some (.i .i64 (xs.length:Int)):=by
 simp only [GE,OP,ex,et,List.length_map]
theorem QB {x:Operand} {t e:TypeId} {p k:Nat} {xs:List α} (ex:ρ 0 x=some (Bk p k A xs)) (et:Bl T t= .slice e) (hg:xs≠ []→(h.get p).isSome=true):
  GE T ρ h ⟨dst,.call ⟨.builtin .len,#[x],#[t]⟩,ty,pos,af,gd⟩=some (.i .i64 (xs.length:Int)):=by
 cases xs with
 |nil=>simp only [Bk] at ex;simp only [GE,OP,ex,et,List.length_nil]
 |cons x r=>simp only [Bk] at ex;simp only [GE,OP,ex,et,List.length_cons,hg (by simp),if_true]
theorem Mw {xs:List α} {i:Nat} {y:α} (hy:xs[i]? =some y):(xs.map A)[i]? =some (A y):=by rw [List.getElem?_map,hy];rfl
theorem BK {x ix:Operand} {t e:TypeId} {k:Nat} {nl:Bool} {kk:IntKind} {xs:List α} {i:Nat} {y:α} (et:CL T t=some e) (ex:ρ 0 x=some (.sl k nl (xs.map A))) (ei:ρ 0 ix=some (.i kk (i:Int))) (hk:k=CH T e∧k≠0) (hy:xs[i]? =some y):
  GE T ρ h ⟨dst,.indexAddr t x ix,ty,pos,af,gd⟩=some (.pt (A y).cells):=by
 simp only [GE,et,ex,ei,Int.toNat_natCast,Mw hy]
 rw [if_pos ⟨hk.1,hk.2,by omega⟩]
theorem IG {x ix:Operand} {t e:TypeId} {k:Nat} {nl:Bool} {kk:IntKind} {xs:List α} {n:Int} {y:α} (et:CL T t=some e) (ex:ρ 0 x=some (.sl k nl (xs.map A))) (ei:ρ 0 ix=some (.i kk n)) (hk:k=CH T e∧k≠0) (hn:0≤n) (hy:xs[n.toNat]? =some y):
  GE T ρ h ⟨dst,.indexAddr t x ix,ty,pos,af,gd⟩=some (.pt (A y).cells):=by
 simp only [GE,et,ex,ei,Mw hy]
 rw [if_pos ⟨hk.1,hk.2,hn⟩]
theorem E0 {x ix:Operand} {t e:TypeId} {id len:Nat} {kk:IntKind} {i:Nat} {ob:Obj} (et:CL T t=some e) (ex:ρ 0 x=some (.own id 0 len)) (ei:ρ 0 ix=some (.i kk (i:Int))) (hg:h.get id=some ob) (hk:ob.k=CH T e) (hl:i<len):
  GE T ρ h ⟨dst,.indexAddr t x ix,ty,pos,af,gd⟩=some (.loc id i 0):=by
 simp only [GE,et,ex,ei,hg,Int.toNat_natCast,Nat.zero_add]
 rw [if_pos ⟨hk,by omega,by omega⟩]
theorem KL {x ix:Operand} {t e:TypeId} {id len:Nat} {kk:IntKind} {n:Int} {ob:Obj} (et:CL T t=some e) (ex:ρ 0 x=some (.own id 0 len)) (ei:ρ 0 ix=some (.i kk n)) (hg:h.get id=some ob) (hk:ob.k=CH T e) (h0:0≤n) (hl:n<len):
  GE T ρ h ⟨dst,.indexAddr t x ix,ty,pos,af,gd⟩=some (.loc id n.toNat 0):=by
 simp only [GE,et,ex,ei,hg,Nat.zero_add]
 rw [if_pos ⟨hk,h0,hl⟩]
theorem CJ {x:Operand} {t e k:Nat} {i:TI} {id j:Nat} {xs:List α} {y:α} {r:AV} (et:Aj T t=some i) (ex:ρ 0 x=some (.loc id j 0)) (hg:h.get id=some ⟨e,k,xs.map A⟩) (hy:xs[j]? =some y) (hp:LH i.desc.agg i.size (A y).cells=some r):
  GE T ρ h ⟨dst,.load t x,ty,pos,af,gd⟩=some r:=by
 simp only [GE,et,ex,Option.bind_some,Jl,hg,Mw hy,List.drop_zero,hp]
theorem KM {x ix:Operand} {t:TypeId} {kk:IntKind} {s:ByteArray} {i:Nat} {b:UInt8} (et:Bl T t= .str) (ex:ρ 0 x=some (.s s)) (ei:ρ 0 ix=some (.i kk (i:Int))) (hy:s.data[i]? =some b):
  GE T ρ h ⟨dst,.index t x ix,ty,pos,af,gd⟩=some (.i .u8 (b.toNat:Int)):=by
 simp only [GE,et,ex,ei,Int.toNat_natCast,hy]
 rw [if_pos (by omega)]
theorem RW {t yt:TypeId} {x y:Operand} {a b:ByteArray} (ex:ρ (Ib T t) x=some (.s a)) (ey:ρ (Ib T t) y=some (.s b)) (hb:a.size+b.size≤Eb):
  GE T ρ h ⟨dst,.binOp .add t x y yt,ty,pos,af,gd⟩=some (.s (a++b)):=by
 simp only [GE,ex,ey,Od,V9,hb,if_true]
theorem JP {n m:Nat} (hn:n≤m):SX (n:Int) m=some n:=by
 unfold SX;rw [if_pos ⟨by omega,by omega⟩];simp
theorem g_sub {x:Operand} {t:TypeId} {lo hi:Option Operand} {s:ByteArray} {l g:Option Int} {a b:Nat} (ex:ρ 0 x=some (.s s)) (et:Bl T t= .str) (el:HM ρ lo=some l) (eg:HM ρ hi=some g)
  (ha:l.getD 0=(a:Int)) (hb:g.getD s.size=(b:Int)) (h1:a≤b) (h2:b≤s.size):
  GE T ρ h ⟨dst,.slice t x lo hi none,ty,pos,af,gd⟩=some (.s (s.extract a b)):=by
 simp only [GE,Option.isSome_none,Bool.false_eq_true,if_false,ex,el,eg,et,if_true,I7,ha,hb,JP h2,Option.bind_some,JP h1,Option.map_some]
theorem g_cutL {x:Operand} {t e:TypeId} {lo hi:Option Operand} {k:Nat} {nl:Bool} {xs:List α} {l g:Option Int} {a b:Nat} (ex:ρ 0 x=some (.sl k nl (xs.map A))) (et:CL T t=some e) (hk:k=CH T e∧k≠0) (el:HM ρ lo=some l) (eg:HM ρ hi=some g)
  (ha:l.getD 0=(a:Int)) (hb:g.getD ((xs.length:Nat):Int)=(b:Int)) (h1:a≤b) (h2:b≤xs.length):
  GE T ρ h ⟨dst,.slice t x lo hi none,ty,pos,af,gd⟩=some (.sl k nl (((xs.take b).drop a).map A)):=by
 simp only [GE,Option.isSome_none,Bool.false_eq_true,if_false,ex,el,eg,et]
 rw [if_pos hk]
 simp only [I7,List.length_map,ha,hb,JP h2,Option.bind_some,JP h1,Option.map_some,List.map_drop,List.map_take]
theorem N3 {s x:Operand} {t e:TypeId} {i:TI} {p:Nat} {xs ys:List α} {X:AV} (et:CL T t=some e) (ei:Aj T e=some i) (es:ρ (Ib T t) s=some (Bk p i.size A xs)) (hx:ρ (Ib T t) x=some X) (hX:I9 h X=some (i.size,ys.map A)) (hy:ys≠ [])
  (h0:(i.size≠0∧i.zero.cells.length=i.size)) (hg:h.get p=J1 e i.size A xs) (hp:xs=[]→h.put p none=h) (hb:(xs.length+ys.length)*i.bytes≤140737488355328) (hl:xs.length+ys.length≤Eb):
  M8 T ρ h ⟨dst,.call ⟨.builtin .append,#[s,x],#[t,t]⟩,ty,pos,af,gd⟩=some (.own h.next 0 ((xs++ys).length),(h.put p none).new ⟨e,i.size,(xs++ys).map A⟩):=by
 cases ys with
 |nil=>exact absurd rfl hy
 |cons y ys=>
  cases xs with
  |nil=>
   simp only [Bk] at es
   simp only [M8,ne_eq,not_true,if_false,et,ei,es,hx,Option.bind_some,hX]
   simp only [List.length_nil,Nat.zero_add,List.length_cons] at hb hl
   rw [if_pos ⟨trivial,h0.1,h0.2,by simpa using hb,by simpa using hl⟩,hp rfl]
   simp
  |cons z zs=>
   simp only [Bk] at es
   simp only [J1] at hg
   simp only [M8,ne_eq,not_true,if_false,et,ei,es,hx,Option.bind_some,hX,hg]
   simp only [List.length_cons] at hb hl
   rw [if_pos ⟨trivial,h0.1,trivial,trivial,by simp,h0.2,by simpa using hb,by simpa using hl⟩]
   have e1:List.take (zs.length+1) ((z::zs).map A)++(y::ys).map A=(z::zs++y::ys).map A:=by
    rw [List.take_of_length_le (by simp),List.map_append]
   rw [e1]
   have e2:zs.length+1+(List.map A (y::ys)).length=(z::zs++y::ys).length:=by simp;omega
   rw [e2]
theorem IF {s x:Operand} {t e:TypeId} {i:TI} {p len:Nat} {xs ys:List α} {X:AV} (et:CL T t=some e) (ei:Aj T e=some i) (es:ρ (Ib T t) s=some (.own p 0 len)) (hx:ρ (Ib T t) x=some X) (hX:I9 h X=some (i.size,ys.map A))
  (h0:(i.size≠0∧i.zero.cells.length=i.size)) (hg:h.get p=some ⟨e,i.size,xs.map A⟩) (hlen:len=xs.length) (hb:(xs.length+ys.length)*i.bytes≤140737488355328) (hl:xs.length+ys.length≤Eb):
  M8 T ρ h ⟨dst,.call ⟨.builtin .append,#[s,x],#[t,t]⟩,ty,pos,af,gd⟩=some (.own h.next 0 ((xs++ys).length),(h.put p none).new ⟨e,i.size,(xs++ys).map A⟩):=by
 subst hlen
 simp only [M8,ne_eq,not_true,if_false,et,ei,es,hx,Option.bind_some,hX,hg]
 rw [if_pos ⟨trivial,h0.1,trivial,trivial,by simp,h0.2,by simpa using hb,by simpa using hl⟩]
 simp [List.take_of_length_le]
theorem SE {a v:Operand} {t e k:Nat} {i:TI} {id j:Nat} {xs:List α} {y:α} (et:Aj T t=some i) (ea:ρ 0 a=some (.loc id j 0)) (ev:ρ (Ib T t) v=some (A y)) (hg:h.get id=some ⟨e,k,xs.map A⟩) (hj:j<xs.length)
  (hc: ∀z:α,(A z).cells.length=i.size) (hin:Dm h (A y)=true) (hf: ∀z:α,Gk (A z) (A y)=true) (hw: ∀z:α,(A z).withCells (A y).cells=A y):
  M8 T ρ h ⟨dst,.store t a v,ty,pos,af,gd⟩=some (.und,h.put id (some ⟨e,k,(xs.set j y).map A⟩)):=by
 have hx:xs[j]? =some xs[j]:=List.getElem?_eq_getElem hj
 simp only [M8,et,ea,ev,hg,Mw hx]
 rw [if_pos ⟨hc y,by rw [hc];omega,hin,hf _⟩]
 simp only [List.take_zero,List.nil_append,Nat.zero_add]
 rw [List.drop_of_length_le (by rw [hc];exact Nat.le_refl _),List.append_nil,hw,List.map_set]
theorem UE {l c:Operand} {t e:TypeId} {i:TI} {z:α} {n:Nat} (et:CL T t=some e) (ei:Aj T e=some i) (el:ρ 0 l=some (.i .i64 (n:Int))) (ec:ρ 0 c=some (.i .i64 (n:Int))) (h0:(i.size≠0∧i.zero.cells.length=i.size)) (hz:i.zero=A z) (hb:n*i.bytes≤140737488355328) (hl:n≤140737488355328):
  TZ T ρ h ⟨dst,.makeSlice t l c,ty,pos,af,gd⟩=some (.own h.next 0 n,h.new ⟨e,i.size,(List.replicate n z).map A⟩):=by
 simp only [TZ,et,ei,el,ec]
 rw [if_pos ⟨h0.2,h0.1,by omega,by omega,by omega,by omega⟩]
 simp [List.map_replicate,hz]
end
theorem Dj {α:Type} {A:α→AV} (hA: ∀x,closed (A x)=true) (xs:List α):A6 (xs.map A)=true:=by
 rw [ER];simp [hA]
theorem SA {d:Nat} {α:Type} {A:α→AV} (hA: ∀x,closed (A x)=true) {keep:List Nat} {h:A5} {id e k len:Nat} {xs:List α} (hk:E3 keep id=none) (hn:keep.contains id=false) (hg:h.get id=some ⟨e,k,xs.map A⟩) (hlen:len=xs.length) (hL:len≤Eb):
  Dt (d+1) keep h (.own id 0 len) (Ao k A xs):=AW.f (by
 subst hlen
 simp only [Ba,hk,B2,hn,hg,Bool.false_eq_true,if_false,List.length_map,Nat.zero_add,Nat.le_refl,hL,and_self,if_true,List.drop_zero]
 rw [List.take_of_length_le (by simp)]
 simp only [mapC,Dj hA,if_true,Option.map_some];rfl)
theorem Po {d:Nat} {α:Type} {A:α→AV} (hA: ∀x,closed (A x)=true) {keep:List Nat} {h:A5} {id e k:Nat} {xs:List α} (hk:E3 keep id=none) (hn:keep.contains id=false) (hg:h.get id=J1 e k A xs) (hL:xs.length≤Eb):
  Dt (d+1) keep h (Bk id k A xs) (Ao k A xs):=by
 cases xs with
 |nil=>exact AW.w rfl (AM.nil k)
 |cons x r=>exact SA hA hk hn hg rfl hL
theorem Qy {α:Type} {A:α→AV} {keep:List Nat} {h:A5} {id k p len:Nat} {xs:List α} (hp:E3 keep id=some p) (hx:xs≠ []) (hlen:len=xs.length):AW keep h (.own id 0 len) (Bk p k A xs):=by
 cases xs with
 |nil=>exact absurd rfl hx
 |cons x r=>subst hlen;exact AW.f (by simp only [Ba,hp,Bk,List.length_cons])
theorem Ia {α:Type} {A:α→AV} {keep:List Nat} {h:A5} {id k p:Nat} {xs:List α} (hp:E3 keep id=some p):AW keep h (Bk id k A xs) (Bk p k A xs):=by
 cases xs with
 |nil=>exact AW.c rfl rfl
 |cons x r=>exact AW.f (by simp only [Ba,hp,Bk])
theorem Ge {α:Type} {A:α→AV} (hA: ∀x,closed (A x)=true) {keep:List Nat} {h h':A5} {id q e k d:Nat} {xs:List α} (hg:h.get id=J1 e k A xs) (hg':h'.get q=J1 e k A xs):(h.get id).bind (Hi keep h d)=h'.get q:=by
 rw [hg,hg']
 cases xs with
 |nil=>rfl
 |cons x r=>exact N0 (Dj hA (x::r))
theorem AZ {α:Type} {A:α→AV} (hA: ∀x,closed (A x)=true) {keep:List Nat} {h h':A5} {id q e k d:Nat} {xs:List α} (hg:h.get id=some ⟨e,k,xs.map A⟩) (hg':h'.get q=some ⟨e,k,xs.map A⟩):(h.get id).bind (Hi keep h d)=h'.get q:=by
 rw [hg,hg'];exact N0 (Dj hA xs)
theorem H4 {α:Type} {A:α→AV} (hA: ∀x,closed (A x)=true) {keep:List Nat} {h h':A5} {id q e k d:Nat} {xs:List α} (hx:xs≠ []) (hg:h.get id=some ⟨e,k,xs.map A⟩) (hg':h'.get q=J1 e k A xs):(h.get id).bind (Hi keep h d)=h'.get q:=by
 cases xs with
 |nil=>exact absurd rfl hx
 |cons x r=>exact AZ hA hg hg'
def Qj (h:A5):List AV→List AV→Prop
 | [],[]=>True
 |x::xs,y::ys=>B2 [] h 8 x=some y∧Qj h xs ys
 |_,_=>False
theorem L8 {no:List Nat} {h:A5} {d:Nat} {x:AV} (hc:closed x=true):B2 no h (d+1) x=some x:=by
 cases x with
 |own _ _ _=>simp [closed] at hc
 |loc _ _ _=>simp [closed] at hc
 |st fs=>simp only [closed] at hc;simp only [B2,mapC,hc,if_true,Option.map_some]
 |tup fs=>simp only [closed] at hc;simp only [B2,mapC,hc,if_true,Option.map_some]
 |fn f fs=>simp only [closed] at hc;simp only [B2,mapC,hc,if_true,Option.map_some]
 |_=>rfl
theorem Qj.ok {h:A5} {xs ys:List AV} (k:Qj h xs ys):mapC (B2 [] h 8) xs=some ys:=by
 have key: ∀ {xs ys:List AV},Qj h xs ys→Fn (B2 [] h 8) xs=some ys∧(A6 xs=true→xs=ys):=by
  intro xs
  induction xs with
  |nil=>intro ys k;cases ys with
   |nil=>exact ⟨rfl,fun _=>rfl⟩
   |cons y ys=>exact k.elim
  |cons x xs ih=>intro ys k;cases ys with
   |nil=>exact k.elim
   |cons y ys=>
    obtain ⟨h1,h2⟩:=ih k.2
    refine ⟨by simp only [Fn,k.1,h1],fun hc=> ?_⟩
    simp only [A6,Bool.and_eq_true] at hc
    have:=k.1
    rw [L8 hc.1] at this
    cases this
    rw [h2 hc.2]
 obtain ⟨h1,h2⟩:=key k
 unfold mapC
 split
 ·rename_i hc;rw [h2 hc]
 ·exact h1
theorem UU {α:Type} {B:α→AV} {keep:List Nat} {h h':A5} {id q e k n:Nat} (hg:h.get id=some ⟨e,1,(List.replicate n ([]:List α)).map (fun _=>AV.sl k true [])⟩) (hg':h'.get q=some ⟨e,1,(List.replicate n ([]:List α)).map (Ao k B)⟩):U5 keep h h' id q:=by
 refine Or.inr ⟨_,_,_,hg,N0 (Dj (fun _=>rfl) _),hg',rfl,rfl,?_⟩
 simp only [List.map_replicate]
 clear hg hg'
 induction n with
 |zero=>trivial
 |succ n ih=>exact ⟨⟨rfl,AM.nil k,trivial⟩,ih⟩
end
end Go.Lift
namespace Go.Lift
noncomputable section
open Go Go.RowKit
inductive Lp (α β:Type) where
 |ret (a:α)
 |brk (b:β)
theorem AY {α:Type} {xs:List α} {i:Nat} {x:α} (h:xs[i]? =some x):xs.drop i=x::xs.drop (i+1):=by
 have hlt:=(List.getElem?_eq_some_iff.1 h).1
 have e:=(List.getElem?_eq_some_iff.1 h).2
 rw [List.drop_eq_getElem_cons hlt,e]
theorem Qp {s:ByteArray} {i:Nat} (h:s.size≤i):s.data.toList.length≤i:=by rw [Ew];exact h
theorem getD_some {α:Type} [Inhabited α] {xs:List α} {i:Nat} (h:i<xs.length):xs[i]? =some (xs.getD i default):=by
 rw [List.getD_eq_getElem?_getD,List.getElem?_eq_getElem h];rfl
theorem ML {s:ByteArray} {i:Nat} (h:i<s.size):s.data[i]? =some (s.data.getD i 0):=by
 have h':i<s.data.size:=h
 rw [Array.getD_eq_getD_getElem?,Array.getElem?_eq_getElem h'];rfl
theorem Qn {α:Type} {e k:Nat} {A:α→AV} {xs:List α} (h:xs≠ []) {o:Option Obj} (ho:o=J1 e k A xs):o.isSome=true:=by
 cases xs with
 |nil=>exact absurd rfl h
 |cons x r=>rw [ho];rfl
def Ud {α:Type} (p k:Nat) (A:α→AV) (b:Bool) (xs:List α):AV:=match b with
 |false=> .sl k true []
 |true=> .own p 0 xs.length
def Qm {α:Type} (e k:Nat) (A:α→AV) (b:Bool) (xs:List α):Option Obj:=match b with
 |false=>none
 |true=>some ⟨e,k,xs.map A⟩
theorem Cl {d:Nat} {keep:List Nat} {h:A5} {id p len len':Nat} (hp:E3 keep id=some p) (hlen:len=len'):Dt (d+1) keep h (.own id 0 len) (.own p 0 len'):=by
 subst hlen;exact AW.f (by simp only [Ba,hp])
theorem PK {α:Type} {A:α→AV} (hA: ∀x,closed (A x)=true) (hc: ∀x,A6 (A x).cells=true) {keep:List Nat} {h h':A5} {id q e k:Nat} {xs ys:List α} (hp: ∃r,xs=ys++r) (hg:h.get id=some ⟨e,k,xs.map A⟩) (hg':h'.get q=some ⟨e,k,ys.map A⟩):U5 keep h h' id q:=by
 obtain ⟨r,rfl⟩:=hp
 refine Or.inr ⟨_,_,_,hg,N0 (Dj hA _),hg',rfl,rfl,?_⟩
 clear hg hg'
 induction ys with
 |nil=>cases r<;>trivial
 |cons y ys ih=>exact ⟨⟨hc y,D6.refl _⟩,ih⟩
theorem NJ {α:Type} (xs:List α) (n:Nat): ∃r,xs=xs.take n++r:=⟨xs.drop n,(List.take_append_drop n xs).symm⟩
theorem UD {T:D1} {ρ:CA} {h:A5} {dst:Option Tmp} {ty:TypeId} {pos:String} {af:Array Edge} {gd:Option (Nat×Bool)} {x:Operand} {t e:TypeId} {lo hi:Option Operand} {id len:Nat} {ob:Obj} {l g:Option Int} {b:Nat} (ex:ρ 0 x=some (.own id 0 len)) (hg:h.get id=some ob) (et:CL T t=some e) (hk:ob.k=CH T e) (el:HM ρ lo=some l) (eg:HM ρ hi=some g)
  (ha:l.getD 0=0) (hb:g.getD (len:Int)=(b:Int)) (h2:b≤ob.els.length):
  GE T ρ h ⟨dst,.slice t x lo hi none,ty,pos,af,gd⟩=some (.own id 0 b):=by
 simp only [GE,Option.isSome_none,Bool.false_eq_true,if_false,ex,el,eg,hg,et]
 rw [if_pos hk]
 simp only [I7,hg,ha,hb,Nat.sub_zero,JP h2,Option.bind_some]
 have:=JP (n:=0) (m:=b) (Nat.zero_le _)
 simp only [Int.natCast_zero] at this
 rw [this];rfl
theorem boxO {e k:Nat} {keep:List Nat} {h h':A5} {i q id len p len':Nat} (hg:h.get i=some ⟨e,k,[.own id 0 len]⟩) (hp:E3 keep id=some p) (hl:len=len') (hg':h'.get q=some ⟨e,k,[.own p 0 len']⟩):(h.get i).bind (Hi keep h 9)=h'.get q:=by
 subst hl
 rw [hg,hg']
 simp only [Option.bind_some,Hi,mapC,A6,closed,Bool.false_and,Bool.false_eq_true,if_false,Fn,Ba,hp,Option.map_some]
theorem boxA {α:Type} {A:α→AV} {e k ek:Nat} {keep:List Nat} {h h':A5} {i q id len p:Nat} {xs:List α} (hx:xs≠ []) (hg:h.get i=some ⟨e,k,[.own id 0 len]⟩) (hp:E3 keep id=some p) (hl:len=xs.length) (hg':h'.get q=some ⟨e,k,[Bk p ek A xs]⟩):(h.get i).bind (Hi keep h 9)=h'.get q:=by
 cases xs with
 |nil=>exact absurd rfl hx
 |cons x r=>exact boxO hg hp hl hg'
theorem Uh {α:Type} {A:α→AV} {e k ek:Nat} {keep:List Nat} {h h':A5} {i q id p:Nat} {xs:List α} (hg:h.get i=some ⟨e,k,[Bk id ek A xs]⟩) (hp:E3 keep id=some p) (hg':h'.get q=some ⟨e,k,[Bk p ek A xs]⟩):(h.get i).bind (Hi keep h 9)=h'.get q:=by
 cases xs with
 |nil=>rw [hg,hg'];rfl
 |cons x r=>exact boxO hg hp rfl hg'
def Cu:List ByteArray→Nat→Nat
 | [],_=>0
 |x::r,k=>x.size+k+Cu r k
def Bv (h:A5):List AV→List AV→Prop
 | [],[]=>True
 |x::xs,y::ys=>(∃z,B2 [] h 8 x=some z∧AM z y)∧Bv h xs ys
 |_,_=>False
theorem Bv.ok {h:A5}: ∀ {xs ys:List AV},Bv h xs ys→ ∃zs,Qj h xs zs∧D6 zs ys
 | [],[],_=>⟨[],trivial,trivial⟩
 | [],_::_,k=>k.elim
 |_::_,[],k=>k.elim
 |x::xs,y::ys,k=>by
  obtain ⟨⟨z,e1,e2⟩,k2⟩:=k
  obtain ⟨zs,e3,e4⟩:=Bv.ok k2
  exact ⟨z::zs,⟨e1,e3⟩,e2,e4⟩
theorem Bv.e {h:A5} {x y:AV} (e:B2 [] h 8 x=some y): ∃z,B2 [] h 8 x=some z∧AM z y:=⟨y,e,AM.refl y⟩
section
variable {P:Program} {W:World} {T:D1} {n m i:Nat} {ops:Array Oper} {d:Tmp} {op:Op} {ty:TypeId} {pos:String} {af:Array Edge} {r:List Oper} {env:Bd} {h:A5} {Q:Bd→A5→Prop}
theorem A1.sfw {g:FuncId} {vs ss:List AV} {r0:AV} (hc:callee T (ev env) ⟨some d,op,ty,pos,af,none⟩=some (g,vs)) (hs:Bv h vs ss) (hp:Ac P W g ss r0 [])
  (hf:flat r0=true) (hr:closed r0=true) (hd:d<n)
  (k:A1 P W T n ops r ((d,r0)::env) h Q):A1 P W T n ops (⟨some d,op,ty,pos,af,none⟩::r) env h Q:=by
 obtain ⟨zs,h1,h2⟩:=hs.ok
 exact A1.sf0 hc h1.ok (hp.wk h2) hf hr hd k
theorem Ar.sfw {g:FuncId} {vs ss:List AV} {r0:AV} (hc:callee T (ev env) ⟨some d,op,ty,pos,af,none⟩=some (g,vs)) (hs:Bv h vs ss) (hp:Ac P W g ss r0 [])
  (hf:flat r0=true) (hr:closed r0=true) (hd:d<n)
  (k:Ar P W T n ops m (i+1) r ((d,r0)::env) h Q):Ar P W T n ops m i (⟨some d,op,ty,pos,af,none⟩::r) env h Q:=by
 obtain ⟨zs,h1,h2⟩:=hs.ok
 exact Ar.sf0 hc h1.ok (hp.wk h2) hf hr hd k
end
theorem OX (xs:List ByteArray):xs.length≤Cu xs 1:=by
 induction xs with
 |nil=>exact Nat.le_refl _
 |cons x xs ih=>simp only [Cu,List.length_cons];omega
theorem C6 {α:Type} {k:Nat} {A:α→AV} {xs:List α} (h:lim (Ao k A xs)):xs.length≤281474976710656:=by
 unfold Ao at h
 simp only [lim,List.length_map] at h
 exact h.1
theorem UK {s:ByteArray} (h:lim (.s s)):s.size≤281474976710656:=by
 simp only [lim] at h
 exact h
end
end Go.Lift
namespace Go.Lift
noncomputable section
open Go Go.RowKit
section
variable {T:D1} {ρ:CA} {h:A5} {dst:Option Tmp} {ty:TypeId} {pos:String} {af:Array Edge} {gd:Option (Nat×Bool)} {α:Type} {A:α→AV}
theorem Pt {s x:Operand} {t e:TypeId} {i:TI} {k:Nat} {ys:List α} {X:AV} (et:CL T t=some e) (ei:Aj T e=some i) (es:ρ (Ib T t) s=some (.sl k true [])) (hx:ρ (Ib T t) x=some X) (hX:I9 h X=some (i.size,ys.map A)) (hy:ys=[])
  (h0:(i.size≠0∧i.zero.cells.length=i.size)):
  M8 T ρ h ⟨dst,.call ⟨.builtin .append,#[s,x],#[t,t]⟩,ty,pos,af,gd⟩=some (.sl i.size true [],h):=by
 subst hy
 simp only [M8,ne_eq,not_true,if_false,et,ei,es,hx,Option.bind_some,hX,List.map_nil]
 rw [if_pos ⟨trivial,h0.1,h0.2,by simp,by simp⟩]
theorem Pu {s x:Operand} {t e:TypeId} {i:TI} {k:Nat} {ys:List α} {X:AV} (et:CL T t=some e) (ei:Aj T e=some i) (es:ρ (Ib T t) s=some (.sl k true [])) (hx:ρ (Ib T t) x=some X) (hX:I9 h X=some (i.size,ys.map A)) (hy:ys≠ [])
  (h0:(i.size≠0∧i.zero.cells.length=i.size)) (hb:ys.length*i.bytes≤140737488355328) (hl:ys.length≤Eb):
  M8 T ρ h ⟨dst,.call ⟨.builtin .append,#[s,x],#[t,t]⟩,ty,pos,af,gd⟩=some (.own h.next 0 ys.length,h.new ⟨e,i.size,ys.map A⟩):=by
 cases ys with
 |nil=>exact absurd rfl hy
 |cons y ys=>
  simp only [M8,ne_eq,not_true,if_false,et,ei,es,hx,Option.bind_some,hX]
  rw [if_pos ⟨trivial,h0.1,h0.2,by simpa using hb,by simpa using hl⟩]
  simp
theorem g_appZ {s x:Operand} {t t' e:TypeId} {i:TI} {z:α} {n k:Nat} {kn kk:IntKind} (htt:t≠t') (et:CL T t=some e) (ed:Bl T t'= .int kn) (ei:Aj T e=some i) (es:ρ (Ib T t) s=some (.sl k true [])) (hx:ρ 0 x=some (.i kk (n:Int)))
  (hn:0<n) (h0:(i.size≠0∧i.zero.cells.length=i.size)) (hz:i.zero=A z) (hb:n*i.bytes≤140737488355328) (hl:n≤Eb):
  M8 T ρ h ⟨dst,.call ⟨.builtin .append,#[s,x],#[t,t']⟩,ty,pos,af,gd⟩=some (.own h.next 0 n,h.new ⟨e,i.size,(List.replicate n z).map A⟩):=by
 simp only [M8,if_pos htt,et,ed,es,hx,ei]
 rw [if_pos ⟨by omega,by omega,by omega,h0.1,h0.2⟩]
 simp [List.map_replicate,hz]
theorem Pw {t yt:TypeId} {x y:Operand} {a b:Int} (ex:ρ (Ib T t) x=some (.i .i64 a)) (ey:ρ (Ib T t) y=some (.i .i64 b)) (h1: -9223372036854775808≤a-b) (h2:a-b<9223372036854775808):
  GE T ρ h ⟨dst,.binOp .sub t x y yt,ty,pos,af,gd⟩=some (.i .i64 (a-b)):=by
 simp only [GE,ex,ey,Od,PM,if_true]
 rw [E8 h1 h2]
theorem g_rem {t yt:TypeId} {x y:Operand} {k:IntKind} {a b:Int} (ex:ρ (Ib T t) x=some (.i k a)) (ey:ρ (Ib T t) y=some (.i k b)) (hb:b≠0):
  GE T ρ h ⟨dst,.binOp .rem t x y yt,ty,pos,af,gd⟩=some (.i k (a.tmod b)):=by
 simp only [GE,ex,ey,Od,PM,if_true]
 rw [if_neg hb]
theorem Pv {a:Operand} {t id j:Nat} {i:TI} {ob:Obj} {x:AV} (et:Aj T t=some i) (ha:ρ 0 a=some (.loc id j 0)) (hg:h.get id=some ob) (hx:ob.els[j]? =some x) (hc:x.cells=[x]) (hi:i.desc.agg=false):
  GE T ρ h ⟨dst,.load t a,ty,pos,af,gd⟩=some x:=by
 simp only [GE,et,ha,Option.bind_some,Jl,hg,hx,hc,hi,List.drop_zero]
 rfl
theorem g_setC {a v:Operand} {t id j e k:Nat} {i:TI} {els:List AV} {x y:AV} (et:Aj T t=some i) (ea:ρ 0 a=some (.loc id j 0)) (ev:ρ (Ib T t) v=some y) (hg:h.get id=some ⟨e,k,els⟩) (hx:els[j]? =some x) (cx:x.cells=[x]∧(∀y,x.withCells [y]=y)∧ ∀y,(∀fs,y≠ .st fs)→Gk x y=true) (cy:y.cells=[y]) (ny: ∀fs,y≠ .st fs) (hs:i.size=1) (hin:Dm h y=true):
  M8 T ρ h ⟨dst,.store t a v,ty,pos,af,gd⟩=some (.und,h.put id (some ⟨e,k,els.set j y⟩)):=by
 simp only [M8,et,ea,ev,hg,hx]
 rw [if_pos ⟨by rw [cy,hs];rfl,by rw [cx.1,hs];exact Nat.le_refl _,hin,cx.2.2 y ny⟩]
 rw [cx.1,cy,hs]
 show some (AV.und,h.put id (some ⟨e,k,els.set j (x.withCells ([]++[y]++[]))⟩))=_
 rw [List.nil_append,List.append_nil,cx.2.1]
end
theorem Q6 {P:Program} {W:World} {T:D1} {n:Nat} {ops:Array Oper} {d:Tmp} {op:Op} {ty:TypeId} {pos:String} {af:Array Edge} {r:List Oper} {env:Bd} {h:A5} {Q:Bd→A5→Prop} {α:Type} {A:α→AV}
  {g:FuncId} {vs:List AV} {e k len:Nat} {xs:List α} (hc:callee T (ev env) ⟨some d,op,ty,pos,af,none⟩=some (g,vs)) (hcl:A6 vs=true) (hp:Ac P W g vs (.own 0 0 len) [⟨e,k,xs.map A⟩])
  (hA: ∀x:α,closed (A x)=true) (hd:d<n)
  (q:A1 P W T n ops r ((d,.own h.next 0 len)::env) (h.new ⟨e,k,xs.map A⟩) Q):A1 P W T n ops (⟨some d,op,ty,pos,af,none⟩::r) env h Q:=by
 refine P3 hc hcl hp hd ?_
 have e1:(AV.own 0 0 len).ren (· +h.next)= .own h.next 0 len:=by simp [AV.ren]
 have e2:h.add [⟨e,k,xs.map A⟩]=h.new ⟨e,k,xs.map A⟩:=by
  simp only [A5.add,GO,A5.new,Obj.ren,List.length_cons,List.length_nil,Nat.zero_add]
  rw [show Ju (· +h.next) (xs.map A)=xs.map A from by simp only [Ju,Dj hA,if_true]]
 rw [e1,e2];exact q
theorem Lg {P:Program} {W:World} {T:D1} {n m j:Nat} {ops:Array Oper} {d:Tmp} {op:Op} {ty:TypeId} {pos:String} {af:Array Edge} {r:List Oper} {env:Bd} {h:A5} {Q:Bd→A5→Prop} {α:Type} {A:α→AV}
  {g:FuncId} {vs ss:List AV} {e k len:Nat} {xs:List α} (hc:callee T (ev env) ⟨some d,op,ty,pos,af,none⟩=some (g,vs)) (hs:Bv h vs ss) (hp:Ac P W g ss (.own 0 0 len) [⟨e,k,xs.map A⟩])
  (hA: ∀x:α,closed (A x)=true) (hF: ∀x:α,(A x).cells.all flat=true) (hd:d<n)
  (q:Ar P W T n ops m (j+1) r ((d,.own h.next 0 len)::env) (h.new ⟨e,k,xs.map A⟩) Q):Ar P W T n ops m j (⟨some d,op,ty,pos,af,none⟩::r) env h Q:=by
 obtain ⟨zs,h1,h2⟩:=hs.ok
 refine Ar.sf hc h1.ok (hp.wk h2) rfl ?_ hd ?_
 ·simp only [List.all_cons,List.all_nil,Bool.and_true,List.all_map,List.all_eq_true,Function.comp]
  intro x _;simpa using hF x
 ·have e1:(AV.own 0 0 len).ren (· +h.next)= .own h.next 0 len:=by simp [AV.ren]
  have e2:h.add [⟨e,k,xs.map A⟩]=h.new ⟨e,k,xs.map A⟩:=by
   simp only [A5.add,GO,A5.new,Obj.ren,List.length_cons,List.length_nil,Nat.zero_add]
   rw [show Ju (· +h.next) (xs.map A)=xs.map A from by simp only [Ju,Dj hA,if_true]]
  rw [e1,e2];exact q
def FinO (ts:List Nat) (len e k:Nat) (els:List AV):D2:=fun x env h=>(x= .normal∨x= .ret)∧ ∃id,Bm ts env= .own id 0 len∧h.get id=some ⟨e,k,els⟩
theorem K7 {P:Program} {W:World} {f:FuncId} {fn:Func} {c:Code} (hf:P.funcs[f]? =some fn) (hb:fn.body=some c) (he: ∀(vs:Array Value) (w:World),(callFunc f vs).run P w= .ok (.enter f vs) w)
  {ts:List Nat} (hr:Gh fn.results.toList=some ts) {args:List AV} (hn:args.length≤fn.ntmps) {len e k:Nat} {α:Type} {A:α→AV} {xs:List α} (hA: ∀x,closed (A x)=true)
  (q:A7 P W fn.ntmps 0 c (Cg 0 args) ⟨0,[]⟩ (FinO ts len e k (xs.map A))) (hM:f<1000000:=by decide):Ac P W f args (.own 0 0 len) [⟨e,k,xs.map A⟩]:=by
 refine Be hf hb he hr hn (q.mono fun x env h hh=> ?_) hM
 obtain ⟨h1,id,h2,h3⟩:=hh
 refine ⟨[id],h1,by simp,rfl,⟨AZ hA h3 (by rw [Dl];rfl),trivial⟩,?_⟩
 rw [h2]
 show (match E3 [id] id with|some p=>_|none=>_)=_
 have:E3 [id] id=some 0:=by simp [E3]
 rw [this]
theorem AM.fn {f:FuncId} {xs ys:List AV} (h:D6 xs ys):AM (.fn f xs) (.fn f ys):=fun w μ v k=>by
 simp only [CR] at k ⊢
 obtain ⟨cs,e,k⟩:=k
 exact ⟨cs,e,h.crs k⟩
theorem D6.cells {w:World} {μ:Mu}: ∀ {xs ys:List AV} {a:Addr},D6 xs ys→AU w μ xs a→AU w μ ys a
 | [],[],a,_,h=>h
 |x::xs,y::ys,a,k,h=>by
  simp only [AU] at h ⊢
  obtain ⟨⟨u,h1,h2⟩,h3⟩:=h
  exact ⟨⟨u,h1,k.1 w μ u h2⟩,D6.cells k.2 h3⟩
theorem AM.pt {xs ys:List AV} (h:D6 xs ys):AM (.pt xs) (.pt ys):=fun w μ v k=>by
 simp only [CR] at k ⊢
 obtain ⟨a,e,k⟩:=k
 exact ⟨a,e,h.cells k⟩
def P8 (x:AV):Prop:=x.cells=[x]∧(∀y,x.withCells [y]=y)∧ ∀y,(∀fs,y≠ .st fs)→Gk x y=true
theorem P8.sl {k:Nat} {nl:Bool} {xs:List AV}:P8 (.sl k nl xs):=⟨rfl,fun _=>rfl,fun y h=>by cases y<;>first|rfl|exact absurd rfl (h _)⟩
theorem P8.own {a b c:Nat}:P8 (.own a b c):=⟨rfl,fun _=>rfl,fun y h=>by cases y<;>first|rfl|exact absurd rfl (h _)⟩
theorem P8.acc {α:Type} {p k:Nat} {A:α→AV} {xs:List α}:P8 (Bk p k A xs):=by cases xs<;>first|exact P8.sl|exact P8.own
theorem I4 {α:Type} {p k:Nat} {A:α→AV} {xs:List α}:(Bk p k A xs).cells=[Bk p k A xs]:=by cases xs<;>rfl
end
end Go.Lift
namespace Go.Lift
noncomputable section
open Go Go.RowKit
structure BulkOk {H:Type} (bk:DataW H→Nat):Prop where
 str: ∀bs,bk (.lit (.string bs))=bs.length+1
 one: ∀d,1≤bk d
 sl: ∀e s,(e.map bk).sum+1≤bk (.slice e s)
 agg: ∀ps,(ps.map bk).sum+1≤bk (.agg ps)
section
variable {H:Type} {enc:TypeId×Value→H} {P:Program} {w:World} {spare:Nat→Bool} {held:Bool} {bk:DataW H→Nat} {μ:Mu}
def I2 {α:Type} (sz:α→Nat) (xs:List α):Nat:=(xs.map sz).sum+1
end
end
end Go.Lift
namespace Go.Lift
noncomputable section
open Go Go.RowKit Go.WideShapes
section
variable {H:Type} {enc:TypeId×Value→H} {P:Program} {w:World} {spare:Nat→Bool} {held:Bool} {bk:DataW H→Nat} {μ:Mu} {r:Reach} {base:Nat} {t:TypeId} {v:Value} {d:DataW H} {ps:List MemPlace} {α:Type} {A:α→AV} {sz:α→Nat}
end
end
end Go.Lift
namespace Go.Lift
noncomputable section
open Go Go.RowKit
def SV (n N:Nat) (env:Bd) (h:A5) (env1:Bd) (h1:A5):Prop:=
 ∀(B:FN) (w0:World) (μ:Mu) (a:Act) (w:World),B.N=N→D5 n B w0 μ env h a w→ ∃μ1,D5 n B w0 μ1 env1 h1 a w
theorem SV.fits {n N:Nat} {env:Bd} {h:A5} (keep:List Nat) {env1:Bd} {h1:A5} (F:MC keep env h env1 h1) (hN: ∀i,i<N→keep[i]? =some i):SV n N env h env1 h1:=
 fun B w0 μ a w hB R=>⟨μ.fin keep,Ha R F (by rw [hB];exact hN)⟩
theorem Jz {P:Program} {W:World} {T:D1} (hT:C5 P T=true) {n:Nat} {ops:Array Oper} {Q:Exit→Act→World→Prop} (l2:List Nat):
  ∀(l:List Nat) {os:List Oper} {env:Bd} {h:A5} {R:Bd→A5→Prop},l.map (fun i=>ops[i]?)=os.map some→A1 P W T n ops os env h R→
   ∀ {B:FN} (_:B.W=W) {w0:World} {μ:Mu} {a:Act} {w:World},D5 n B w0 μ env h a w→(∀env' h' μ' a' w',R env' h'→D5 n B w0 μ' env' h' a' w'→wpOps P ops Q l2 a' w')→wpOps P ops Q (l++l2) a w
 | [],os,env,h,R,hl,k,B,hB,w0,μ,a,w,rel,hQ=>by
   have:os=[]:=by cases os<;>simp at hl;rfl
   subst this
   exact hQ env h μ a w k rel
 |i::l,os,env,h,R,hl,k,B,hB,w0,μ,a,w,rel,hQ=>by
  cases os with
  |nil=>simp at hl
  |cons o os=>
   simp only [List.map_cons,List.cons.injEq] at hl
   obtain ⟨ho,hl⟩:=hl
   simp only [List.cons_append,wpOps,ho]
   simp only [A1] at k
   split at k
   ·rename_i hw
    obtain ⟨hd,x,h',he,k⟩:=k
    rw [if_pos (De hw (fun j want d _ _=>rel.env d))]
    exact Or.inl (MW hT he hB rel hd fun a' w' μ' rel'=>Jz hT l2 l hl k hB rel' hQ)
   ·rename_i hw
    obtain ⟨hd,k⟩:=k
    rw [if_neg (by rw [De hw (fun j want d _ _=>rel.env d)];simp)]
    exact Jz hT l2 l hl k hB (DW hT rel (FI.refl rel.sim).step (RS hd) (by simp only [VR,BZ];exact ⟨#[],rfl,rfl⟩)) hQ
   ·exact k.elim
def HK (P:Program) (W:World) (n N:Nat) (ops:Array Oper) (j:Nat) (env:Bd) (h:A5) (R:Bd→A5→Prop):Prop:=
 ∀(B:FN) (w0:World) (μ:Mu) (a:Act) (w:World) (Q:Exit→Act→World→Prop),B.W=W→B.N=N→D5 n B w0 μ env h a w→
  (∀env' h' μ' a' w',R env' h'→D5 n B w0 μ' env' h' a' w'→Q .normal a' w')→wpOps P ops Q (List.range' j (ops.size-j)) a w
section
variable {P:Program} {W:World} {T:D1} {n N:Nat} {ops:Array Oper} {m j:Nat} {env:Bd} {h:A5} {R:Bd→A5→Prop}
theorem HK.fin (hj:j=ops.size) (k:R env h):HK P W n N ops j env h R:=fun B w0 μ a w Q hW hN rel hQ=>by
 subst hj;rw [Nat.sub_self];exact hQ _ _ _ _ _ k rel
theorem Lk {env1:Bd} {h1:A5} (o:SV n N env h env1 h1) (k:HK P W n N ops j env1 h1 R):HK P W n N ops j env h R:=fun B w0 μ a w Q hW hN rel hQ=>
 let ⟨μ1,r⟩:=o B w0 μ a w hN rel
 k B w0 μ1 a w Q hW hN r hQ
theorem HK.run (hT:C5 P T=true) (c:Nat) (hc:j+c≤ops.size) (k:A1 P W T n ops ((ops.toList.drop j).take c) env h (fun e s=>HK P W n N ops (j+c) e s R)):HK P W n N ops j env h R:=fun B w0 μ a w Q hW hN rel hQ=>by
 have e:List.range' j (ops.size-j)=List.range' j c++List.range' (j+c) (ops.size-(j+c)):=by
  rw [show ops.size-j=c+(ops.size-(j+c)) by omega,←List.range'_append];simp
 rw [e]
 refine Jz hT _ _ ?_ k hW rel fun env' h' μ' a' w' q r=>q B w0 μ' a' w' Q hW hN r hQ
 apply List.ext_getElem?
 intro i
 simp only [List.getElem?_map]
 by_cases hi:i<c
 ·have hlt:j+i<ops.size:=by omega
  rw [List.getElem?_range' hi,List.getElem?_take_of_lt hi,List.getElem?_drop]
  simp [hlt]
 ·rw [List.getElem?_eq_none (by simp;omega),List.getElem?_eq_none (by simp;omega)];rfl
end
theorem J5 {P:Program} {W:World} {n N:Nat} {env:Bd} {h:A5} {Q:D2} {id:Nat} {ops:Array Oper} (k:HK P W n N ops 0 env h (Q .normal)):A7 P W n N (.region id ops false) env h Q:=
 fun B w0 μ a w hW hB R=>wp_region (by
  have:=k B w0 μ a w (fun e a' w'=> ∃env' h' μ',Q e env' h'∧D5 n B w0 μ' env' h' a' w') hW hB R fun env' h' μ' a' w' q r=>⟨env',h',μ',q,r⟩
  rwa [Nat.sub_zero,←List.range_eq_range'] at this)
end
end Go.Lift
namespace Go.Lift
noncomputable section
open Go Go.RowKit
def Ua (x y:AV):Prop:=(∃fs gs,x= .st fs∧y= .st gs∧D6 fs gs)∨((∀fs,x≠ .st fs)∧(∀fs,y≠ .st fs)∧AM x y)
def GN:List AV→List AV→Prop
 | [],[]=>True
 |x::xs,y::ys=>Ua x y∧GN xs ys
 |_,_=>False
theorem GN.len: ∀ {xs ys:List AV},GN xs ys→xs.length=ys.length
 | [],[],_=>rfl
 |_::_,_::_,k=>by simp [GN.len k.2]
 | [],_::_,k=>k.elim
 |_::_,[],k=>k.elim
theorem GN.rows {w:World} {μ:Mu} {k:Nat}: ∀ {xs ys:List AV} {a:Addr},GN xs ys→B0 w μ k xs a→B0 w μ k ys a
 | [],[],a,_,h=>h
 | [],_::_,a,q,_=>q.elim
 |_::_,[],a,q,_=>q.elim
 |x::xs,y::ys,a,q,h=>by
  rcases q.1 with ⟨fs,gs,rfl,rfl,h1⟩|⟨h1,h2,h3⟩
  ·simp only [B0] at h ⊢
   exact ⟨⟨by rw [←h1.len];exact h.1.1,h1.cells h.1.2⟩,q.2.rows h.2⟩
  ·have e1:(k=1∧ ∃u,Rd w μ a u∧CR w μ x u)∧B0 w μ k xs (a.add k):=by
     cases x<;>first|exact absurd rfl (h1 _)|(simp only [B0] at h;exact h)
   have e2:(k=1∧ ∃u,Rd w μ a u∧CR w μ y u)∧B0 w μ k ys (a.add k):=by
    obtain ⟨⟨k1,u,u1,u2⟩,e⟩:=e1
    exact ⟨⟨k1,u,u1,h3 w μ u u2⟩,q.2.rows e⟩
   cases y<;>first|exact absurd rfl (h2 _)|(simp only [B0];exact e2)
theorem AM.sl {k:Nat} {xs ys:List AV} (h:GN xs ys):AM (.sl k false xs) (.sl k false ys):=fun w μ v q=>by
 simp only [CR] at q ⊢
 rcases q with ⟨e,q⟩|⟨_,a,c,e1,e2,e3,e4⟩
 ·subst e
  cases ys with
  |nil=>exact Or.inl ⟨rfl,q⟩
  |cons y ys=>exact h.elim
 ·exact Or.inr ⟨trivial,a,c,by rw [←h.len];exact e1,by rw [←h.len];exact e2,by rw [←h.len];exact e3,h.rows e4⟩
def Ab (no:List Nat) (h:A5) (d:Nat) (x y:AV):Prop:= ∃z,B2 no h d x=some z∧closed z=true∧AM z y
def A9 (no:List Nat) (h:A5) (d:Nat):List AV→List AV→Prop
 | [],[]=>True
 |x::xs,y::ys=>Ab no h d x y∧A9 no h d xs ys
 |_,_=>False
def Ci (no:List Nat) (h:A5) (d:Nat) (x y:AV):Prop:= ∃z,B2 no h d x=some z∧Ua z y
def B8 (no:List Nat) (h:A5) (d:Nat):List AV→List AV→Prop
 | [],[]=>True
 |x::xs,y::ys=>Ci no h d x y∧B8 no h d xs ys
 |_,_=>False
section
variable {no:List Nat} {h:A5} {d:Nat}
theorem A9.ok: ∀ {xs ys:List AV},A9 no h (d+1) xs ys→ ∃zs,Fn (B2 no h (d+1)) xs=some zs∧A6 zs=true∧D6 zs ys∧(A6 xs=true→zs=xs)
 | [],[],_=>⟨[],rfl,rfl,trivial,fun _=>rfl⟩
 | [],_::_,k=>k.elim
 |_::_,[],k=>k.elim
 |x::xs,y::ys,k=>by
  obtain ⟨⟨z,e1,e2,e3⟩,k2⟩:=k
  obtain ⟨zs,f1,f2,f3,f4⟩:=A9.ok k2
  refine ⟨z::zs,by simp only [Fn,e1,f1],by simp only [A6,e2,f2,Bool.and_self],⟨e3,f3⟩,fun hc=> ?_⟩
  simp only [A6,Bool.and_eq_true] at hc
  have:=e1.symm.trans (L8 (no:=no) (h:=h) (d:=d) hc.1)
  rw [Option.some.inj this,f4 hc.2]
theorem A9.mapC {xs ys:List AV} (k:A9 no h (d+1) xs ys): ∃zs,mapC (B2 no h (d+1)) xs=some zs∧A6 zs=true∧D6 zs ys:=by
 obtain ⟨zs,e1,e2,e3,e4⟩:=k.ok
 refine ⟨zs,?_,e2,e3⟩
 unfold Go.Lift.mapC
 by_cases hc:A6 xs=true
 ·rw [if_pos hc,e4 hc]
 ·rw [if_neg hc,e1]
theorem B8.mapC {xs ys:List AV} (k:B8 no h (d+1) xs ys): ∃zs,mapC (B2 no h (d+1)) xs=some zs∧GN zs ys:=by
 have key: ∀ {xs ys:List AV},B8 no h (d+1) xs ys→ ∃zs,Fn (B2 no h (d+1)) xs=some zs∧GN zs ys∧(A6 xs=true→zs=xs):=by
  intro xs
  induction xs with
  |nil=>intro ys k;cases ys with
   |nil=>exact ⟨[],rfl,trivial,fun _=>rfl⟩
   |cons y ys=>exact k.elim
  |cons x xs ih=>
   intro ys k
   cases ys with
   |nil=>exact k.elim
   |cons y ys=>
    obtain ⟨⟨z,e1,e3⟩,k2⟩:=k
    obtain ⟨zs,f1,f3,f4⟩:=ih k2
    refine ⟨z::zs,by simp only [Fn,e1,f1],⟨e3,f3⟩,fun hc=> ?_⟩
    simp only [A6,Bool.and_eq_true] at hc
    have:=e1.symm.trans (L8 (no:=no) (h:=h) (d:=d) hc.1)
    rw [Option.some.inj this,f4 hc.2]
 obtain ⟨zs,e1,e3,e4⟩:=key k
 refine ⟨zs,?_,e3⟩
 unfold Go.Lift.mapC
 by_cases hc:A6 xs=true
 ·rw [if_pos hc,e4 hc]
 ·rw [if_neg hc,e1]
theorem Ab.c {x y:AV} (hc:closed x=true) (hw:AM x y):Ab no h (d+1) x y:=⟨x,L8 hc,hc,hw⟩
theorem Av {x:AV} (hc:closed x=true):Ab no h (d+1) x x:=⟨x,L8 hc,hc,AM.refl x⟩
theorem Ab.row {α:Type} {A:α→AV} (hA: ∀x,closed (A x)=true) {id e k len:Nat} {xs:List α} (hn:no.contains id=false) (hg:h.get id=some ⟨e,k,xs.map A⟩) (hlen:len=xs.length) (hL:len≤Eb):Ab no h (d+1) (.own id 0 len) (Ao k A xs):=by
 refine ⟨Ao k A xs,?_,rfl,AM.refl _⟩
 subst hlen
 simp only [B2,hn,hg,Bool.false_eq_true,if_false,List.length_map,Nat.zero_add,Nat.le_refl,hL,and_self,if_true,List.drop_zero]
 rw [List.take_of_length_le (by simp)]
 simp only [Go.Lift.mapC,Dj hA,if_true,Option.map_some];rfl
theorem Ab.acc {α:Type} {A:α→AV} (hA: ∀x,closed (A x)=true) {id e k:Nat} {xs:List α} (hn:no.contains id=false) (hg:h.get id=J1 e k A xs) (hL:xs.length≤Eb):Ab no h (d+1) (Bk id k A xs) (Ao k A xs):=by
 cases xs with
 |nil=>exact Ab.c rfl (AM.nil k)
 |cons x r=>exact Ab.row hA hn hg rfl hL
theorem Ab.st {xs ys:List AV} (k:A9 no h (d+1) xs ys):Ab no h (d+2) (.st xs) (.st ys):=by
 obtain ⟨zs,e1,e2,e3⟩:=k.mapC
 exact ⟨.st zs,by simp only [B2,e1,Option.map_some],by simp only [closed];exact e2,AM.st e3⟩
theorem Ab.fn {f:FuncId} {xs ys:List AV} (k:A9 no h (d+1) xs ys):Ab no h (d+2) (.fn f xs) (.fn f ys):=by
 obtain ⟨zs,e1,e2,e3⟩:=k.mapC
 exact ⟨.fn f zs,by simp only [B2,e1,Option.map_some],by simp only [closed];exact e2,AM.fn e3⟩
theorem Ab.loc {id j o:Nat} {ob:Obj} {x:AV} {ys:List AV} (hn:no.contains id=false) (hg:h.get id=some ob) (hx:ob.els[j]? =some x) (k:A9 no h (d+1) (x.cells.drop o) ys):Ab no h (d+2) (.loc id j o) (.pt ys):=by
 obtain ⟨zs,e1,e2,e3⟩:=k.mapC
 exact ⟨.pt zs,by simp only [B2,hn,hg,hx,e1,Option.map_some,Bool.false_eq_true,if_false],rfl,AM.pt e3⟩
theorem I3 {id j:Nat} {ob:Obj} {x y:AV} (hn:no.contains id=false) (hg:h.get id=some ob) (hx:ob.els[j]? =some x) (hc:x.cells=[x]) (k:Ab no h (d+1) x y):Ab no h (d+2) (.loc id j 0) (.pt [y]):=
 Ab.loc hn hg hx (by rw [hc];exact ⟨k,trivial⟩)
theorem Ci.st {xs ys:List AV} (k:A9 no h (d+1) xs ys):Ci no h (d+2) (.st xs) (.st ys):=by
 obtain ⟨zs,e1,e2,e3⟩:=k.mapC
 exact ⟨.st zs,by simp only [B2,e1,Option.map_some],Or.inl ⟨_,_,rfl,rfl,e3⟩⟩
def AV.cell1:AV→Bool
 | .st _=>false
 |_=>true
theorem Um {x:AV} (h:x.cell1=true): ∀fs,x≠ .st fs:=by intro fs e;subst e;cases h
theorem Qq {x:AV} (h:x.cell1=true):x.cells=[x]:=by cases x<;>first|rfl|cases h
theorem Qr {x:AV} (h:x.cells=[x]): ∀fs,x≠ .st fs:=by
 intro fs e;subst e
 have h2:(fs:List AV)=[.st fs]:=h
 cases fs with
 |nil=>cases h2
 |cons a r=>
  have h4:a= .st (a::r):=by injection h2
  have h5:SizeOf.sizeOf a=SizeOf.sizeOf (AV.st (a::r)):=congrArg SizeOf.sizeOf h4
  simp at h5;omega
theorem Ci.k {x y:AV} (hx:x.cell1=true) (hy:y.cell1=true) (k:Ab no h d x y):Ci no h d x y:=by
 obtain ⟨z,e1,e2,e3⟩:=k
 exact ⟨z,e1,Or.inr ⟨Qr (JV e1 (Qq hx)),Um hy,e3⟩⟩
theorem A9.nil:A9 no h d [] []:=trivial
theorem A9.cons {x y:AV} {xs ys:List AV} (a:Ab no h d x y) (b:A9 no h d xs ys):A9 no h d (x::xs) (y::ys):=⟨a,b⟩
theorem B8.nil:B8 no h d [] []:=trivial
theorem B8.cons {x y:AV} {xs ys:List AV} (a:Ci no h d x y) (b:B8 no h d xs ys):B8 no h d (x::xs) (y::ys):=⟨a,b⟩
theorem Ab.w {x y:AV} (k:Ab [] h 8 x y): ∃z,B2 [] h 8 x=some z∧AM z y:=let ⟨z,e,_,w⟩:=k;⟨z,e,w⟩
theorem Ab.own {id e k len:Nat} {els ys:List AV} (hn:no.contains id=false) (hg:h.get id=some ⟨e,k,els⟩) (hlen:len=els.length) (hL:len≤Eb) (q:B8 no h (d+1) els ys):Ab no h (d+2) (.own id 0 len) (.sl k false ys):=by
 obtain ⟨zs,e1,e2⟩:=q.mapC
 refine ⟨.sl k false zs,?_,rfl,AM.sl e2⟩
 subst hlen
 simp only [B2,hn,hg,Bool.false_eq_true,if_false,Nat.zero_add,Nat.le_refl,hL,and_self,if_true,List.drop_zero]
 rw [List.take_of_length_le (Nat.le_refl _),e1];rfl
theorem Ab.cast {x y x' y':AV} (ex:x=x') (ey:y'=y) (k:Ab no h d x' y'):Ab no h d x y:=by subst ex;subst ey;exact k
end
def SL (keep:List Nat):AV→Bool
 | .own id _ _=>(E3 keep id).isNone
 | .loc id _ _=>(E3 keep id).isNone
 |_=>false
theorem Dt.kk {d:Nat} {keep:List Nat} {h:A5} {x y x' y':AV} (ex:x=x') (ey:y'=y) (hp:SL keep x'=true) (k:Ab keep h (d+1) x' y'):Dt (d+1) keep h x y:=by
 subst ex;subst ey
 obtain ⟨z,e1,e2,e3⟩:=k
 have key: ∀o:Option Nat,o.isNone=true→o=none:=by intro o;cases o<;>simp
 cases x<;>first|(cases hp;done)|exact ⟨z,by simp only [SL] at hp;simp only [Ba,key _ hp];exact e1,Or.inr ⟨e2,e3⟩⟩
def Ja (x y:AV):Prop:= ∀(w:World) (μ:Mu) (v:Value),VR w μ x v→VR w μ y v
theorem Ja.refl (x:AV):Ja x x:=fun _ _ _ h=>h
theorem Ja.und (x:AV):Ja x .und:=fun _ _ _ _=>by simp only [VR]
def MG:List AV→List AV→Prop
 | [],[]=>True
 |x::xs,y::ys=>Ja x y∧MG xs ys
 |_,_=>False
theorem MG.vrs {w:World} {μ:Mu}: ∀ {xs ys:List AV} {vs:List Value},MG xs ys→BZ w μ xs vs→BZ w μ ys vs
 | [],[],vs,_,h=>h
 | [],_::_,_,k,_=>k.elim
 |_::_,[],_,k,_=>k.elim
 |x::xs,y::ys,vs,k,h=>by
  simp only [BZ] at h ⊢
  obtain ⟨v,r,e,h1,h2⟩:=h
  exact ⟨v,r,e,k.1 w μ v h1,MG.vrs k.2 h2⟩
theorem Ja.tup {xs ys:List AV} (k:MG xs ys):Ja (.tup xs) (.tup ys):=fun w μ v h=>by
 simp only [VR] at h ⊢
 obtain ⟨cs,e,h⟩:=h
 exact ⟨cs,e,k.vrs h⟩
theorem Ac.res {P:Program} {W:World} {f:FuncId} {xs:List AV} {r r':AV} {S:List Obj} (k:Ac P W f xs r S) (h:Ja r r'):Ac P W f xs r' S where
 enters:=k.enters
 calls:=fun w Y vs hG hY hvs=>(k.calls w Y vs hG hY hvs).mono fun e w' ⟨v,μ',h1,h2,h3,h4⟩=>⟨v,μ',h1,h2,h w' μ' v h3,h4⟩
theorem U0 {P:Program} {W:World} {T:D1} {n:Nat} {ops:Array Oper} {d:Tmp} {op:Op} {ty:TypeId} {pos:String} {af:Array Edge} {r:List Oper} {env:Bd} {h h':A5} {Q:Bd→A5→Prop} {x:AV}
 {g:FuncId} {vs:List AV} {r0:AV} {S:List Obj} (hc:callee T (ev env) ⟨some d,op,ty,pos,af,none⟩=some (g,vs)) (hcl:A6 vs=true) (hp:Ac P W g vs r0 S) (hx:r0.ren (· +h.next)=x) (hh:h.add S=h') (hd:d<n)
 (k:A1 P W T n ops r ((d,x)::env) h' Q):A1 P W T n ops (⟨some d,op,ty,pos,af,none⟩::r) env h Q:=P3 hc hcl hp hd (by rw [hx,hh];exact k)
end
end Go.Lift
namespace Go.Lift
noncomputable section
open Go Go.RowKit
theorem St (a:Array UInt8):(⟨a⟩:ByteArray).size=a.size:=rfl
theorem Oz (ns:List Int):(I6 ns).size=ns.length:=by unfold I6;rw [HN];simp
theorem kr {α:Sort _} {a b:α} (h:a=b:=by kernel_rfl):a=b:=h
theorem le {a b:Nat} (h:a≤b:=by exact Nat.le_of_ble_eq_true rfl):a≤b:=h
theorem lt {a b:Nat} (h:a<b:=by exact Nat.le_of_ble_eq_true rfl):a<b:=h
theorem sd {p:Prop} (h:p:=by first|omega|(unfold Eb;omega)|(simp only [List.length_append,List.length_cons,List.length_nil,List.length_set,List.length_replicate,ByteArray.size_append,List.length_take,List.length_drop,St,Oz,List.size_toArray,Eb];omega)|(simp [Eb];done)|(simp [Eb];omega)|decide+kernel):p:=h
theorem I1 {p:Prop} (h:p:=by (try dsimp only)<;>(first|omega|(unfold Eb;omega)|(simp only [List.length_append,List.length_cons,List.length_nil,List.length_set,List.length_replicate,ByteArray.size_append,List.length_take,List.length_drop,St,Oz,List.size_toArray,Eb];omega)|(simp [Eb];done)|(simp [Eb];omega)|decide+kernel)):p:=h
theorem od {p:Prop} (h:p:=by (try dsimp only);omega):p:=h
theorem AP:(∀ {α:Type},([]:List α).length=0)∧(((0:Nat):Int)=0)∧(∀ {α:Type} (a:α),(a=a)=True)∧(∀h:Decidable True,@decide True h=true)∧(∀ {α:Type} (xs:List α),[]++xs=xs)∧(∀ {α:Type} (n:Nat),([]:List α).take n=[])∧(∀ {α:Type} (a b:α),cond true a b=a)∧(∀ {α:Type} (a b:α),cond false a b=b)∧(∀b:Bool,(true&&b)=b)∧(∀b:Bool,(false&&b)=false)∧(∀b:Bool,(true||b)=true)∧(∀b:Bool,(false||b)=b)∧((!true)=false)∧((!false)=true):=
 ⟨rfl,rfl,fun a=>eq_self a,fun h=>by cases h with|isTrue q=>rfl|isFalse q=>exact absurd trivial q,fun _=>rfl,fun n=>by simp,fun _ _=>rfl,fun _ _=>rfl,fun b=>Bool.true_and b,fun b=>Bool.false_and b,fun b=>Bool.true_or b,fun b=>Bool.false_or b,rfl,rfl⟩
end
end Go.Lift
namespace Go.Lift
noncomputable section
open Go Go.RowKit
def FinM (T:D1) (rs:List ResultVar) (r:AV):D2:=fun e env h=>(e= .normal∨e= .ret)∧ ∃r0,Ny T env h rs=some r0∧AW [] h r0 r
theorem EA {P:Program} {W:World} {T:D1} (hT:C5 P T=true) {f:FuncId} {fn:Func} {c:Code} (hf:P.funcs[f]? =some fn) (hb:fn.body=some c) (he: ∀(vs:Array Value) (w:World),(callFunc f vs).run P w= .ok (.enter f vs) w)
 {args:List AV} (hn:args.length≤fn.ntmps) {r:AV}
 (k:A7 P W fn.ntmps 0 c (Cg 0 args) ⟨0,[]⟩ (FinM T fn.results.toList r)) (hM:f<1000000:=by decide):Ac P W f args r []:= .plain hM he<|fun w Y vs hG hY hvs=>by
 have hvr:=BQ _ _ hvs
 have hlen:=Ca hvr
 refine calls_of_wp hf hb ?_
 have R:D5 fn.ntmps ⟨W,w,CM Y,0⟩ w (CM Y) (Cg 0 args) ⟨0,[]⟩ {tmps:=vs.toArray++Array.replicate (fn.ntmps-vs.toArray.size) undef,defers:=[]} w:={
  glob:=hG
  snc:=⟨GI.refl _ _,rfl,fun _ h=>by simp at h,fun _ _=>rfl⟩
  low:=Nat.zero_le _
  sim:={
   below:=Below.refl _ _
   lt:=by intro _ _ h;cases h
   inj:=by intro _ _ _ _ h;cases h
   live:=by intro _ _ _ h;cases h
   ylt:=hY
   blk:=by intro _ _ _ _ h;cases h}
  env:=Ej hvr _
  sz:=by simp [hlen];omega
  dfr:=rfl
  fresh:=fun _ _=>rfl}
 refine wp_mono (k _ w (CM Y) _ w rfl rfl R) ?_
 rintro e a' w' ⟨env',h',μ',⟨he,r0,hr0,hE⟩,R'⟩
 obtain ⟨v,hrun,hv0⟩:=LN hT R' hr0
 have hv:=Pp R'.sim hE hv0
 have R2:=JU R' (keep:=[]) (env':=[]) (h':=S0 []) ⟨List.nodup_nil,rfl,trivial,trivial⟩ (fun i hi=>by simp at hi)
 have hpost:a'.defers=[]∧ ∃v,(results fn a'.tmps).run P w'= .ok v w'∧ ∃v' μ'',(Ending.returned v)= .returned v'∧μ''.Y=Y∧VR w' μ'' r v'∧DY w μ'' w' (S0 [])∧(∀id,([]:List Obj).length≤id→μ'' id=none):=
  ⟨R'.dfr,_,hrun,_,μ'.fin [],rfl,R'.snc.y,hv,R2.sim,R2.fresh⟩
 rcases he with rfl|rfl
 ·exact hpost
 ·exact hpost
theorem g_shr {T:D1} {ρ:CA} {h:A5} {dst:Option Tmp} {ty:TypeId} {pos:String} {af:Array Edge} {gd:Option (Nat×Bool)} {t yt:TypeId} {x y:Operand} {k k':IntKind} {a:Int} {n:Nat} (ex:ρ (Ib T t) x=some (.i k a)) (ey:ρ (Ib T t) y=some (.i k' (n:Int))):
  GE T ρ h ⟨dst,.binOp .shr t x y yt,ty,pos,af,gd⟩=some (.i k (a.fdiv (2^(min n k.bits)))):=by
 simp only [GE,ex,ey,Od,PM]
 rw [if_neg (by omega),Int.toNat_natCast]
def BJ (keep:List Nat) (h:A5) (d:Nat):List AV→List AV→Prop
 | [],[]=>True
 |x::xs,y::ys=>Ba keep h d x=some y∧BJ keep h d xs ys
 |_,_=>False
section
variable {keep:List Nat} {h h':A5} {d:Nat}
theorem BJ.nil:BJ keep h d [] []:=trivial
theorem BJ.cons {x y:AV} {xs ys:List AV} (a:Ba keep h d x=some y) (b:BJ keep h d xs ys):BJ keep h d (x::xs) (y::ys):=⟨a,b⟩
theorem BJ.ok: ∀ {xs ys:List AV},BJ keep h (d+1) xs ys→Fn (Ba keep h (d+1)) xs=some ys∧(A6 xs=true→ys=xs)
 | [],[],_=>⟨rfl,fun _=>rfl⟩
 | [],_::_,k=>k.elim
 |_::_,[],k=>k.elim
 |x::xs,y::ys,k=>by
  obtain ⟨e1,e2⟩:=BJ.ok k.2
  refine ⟨by simp only [Fn,k.1,e1],fun hc=> ?_⟩
  simp only [A6,Bool.and_eq_true] at hc
  have:=k.1.symm.trans (A4 (keep:=keep) (h:=h) (d:=d) hc.1)
  rw [Option.some.inj this,e2 hc.2]
theorem BJ.mapC {xs ys:List AV} (k:BJ keep h (d+1) xs ys):mapC (Ba keep h (d+1)) xs=some ys:=by
 obtain ⟨e1,e2⟩:=k.ok
 unfold Go.Lift.mapC
 by_cases hc:A6 xs=true
 ·rw [if_pos hc,e2 hc]
 ·rw [if_neg hc,e1]
theorem N1 {x:AV} (hc:closed x=true):Ba keep h (d+1) x=some x:=A4 hc
theorem SD {α:Type} {A:α→AV} {id p k:Nat} {xs:List α} (hp:E3 keep id=some p):Ba keep h (d+1) (Bk id k A xs)=some (Bk p k A xs):=by
 cases xs with
 |nil=>rfl
 |cons x r=>simp only [Bk,Ba,hp]
theorem Mr {α:Type} {A:α→AV} {id p k len:Nat} {xs:List α} (hx:xs≠ []) (hp:E3 keep id=some p) (hl:len=xs.length):Ba keep h (d+1) (.own id 0 len)=some (Bk p k A xs):=by
 cases xs with
 |nil=>exact absurd rfl hx
 |cons x r=>subst hl;simp only [Bk,Ba,hp,List.length_cons]
theorem Kk {xs ys:List AV} (k:BJ keep h (d+1) xs ys):Ba keep h (d+2) (.st xs)=some (.st ys):=by simp only [Ba,k.mapC,Option.map_some]
theorem RH {e k i q:Nat} {xs ys:List AV} (hg:h.get i=some ⟨e,k,xs⟩) (f:BJ keep h 9 xs ys) (hg':h'.get q=some ⟨e,k,ys⟩):(h.get i).bind (Hi keep h 9)=h'.get q:=by
 rw [hg,hg']
 simp only [Option.bind_some,Hi,f.mapC,Option.map_some]
end
end
end Go.Lift
namespace Go.Lift
noncomputable section
open Go Go.RowKit
theorem Uc {α:Type} {A:α→AV} {xs:List α} (h:xs≠ []) (p k:Nat):Bk p k A xs= .own p 0 xs.length:=by
 cases xs with
 |nil=>exact absurd rfl h
 |cons x r=>rfl
theorem Ub {α:Type} {A:α→AV} {xs:List α} (h:xs≠ []) (e k:Nat):J1 e k A xs=some ⟨e,k,xs.map A⟩:=by
 cases xs with
 |nil=>exact absurd rfl h
 |cons x r=>rfl
end
end Go.Lift
namespace Go.Lift
noncomputable section
open Go Go.RowKit
theorem Ll {xs ys:List AV} (n:Nat) (h:xs.take n=ys):AM (.pt xs) (.pt ys):=fun w μ v k=>by
 simp only [CR] at k ⊢
 obtain ⟨a,e,k⟩:=k
 exact ⟨a,e,h ▸ P6 k n⟩
end
end Go.Lift
namespace Go.Lift
noncomputable section
open Go Go.RowKit
def Mq (env:Bd):Bool:=env.all fun p=>closed p.2
theorem LU: ∀ {env:Bd},Mq env=true→ ∀t,closed (env.get t)=true
 | [],_,t=>rfl
 |(t',x)::r,h,t=>by
  simp only [Mq,List.all_cons,Bool.and_eq_true] at h
  rw [AL]
  by_cases ht:t=t'
  ·rw [if_pos ht];exact h.1
  ·rw [if_neg ht];exact LU (env:=r) h.2 t
structure CF (n:Nat) (W w0:World) (Y:Nat→Prop) (env:Bd) (a:Act) (w:World):Prop where
 glob:Ea W w
 below:Below w0.heap.size w0 w
 env: ∀t,CR w (CM Y) (env.get t) (a.tmps.getD t undef)
 sz:a.tmps.size=n
 dfr:a.defers=[]
 ylt: ∀g,Y g→g<w0.heap.size
def CQ (Q:Exit→Bd→Prop):D2:=fun e env h=> ∃keep env' h',MC keep env h env' h'∧h'.next=0∧Mq env'=true∧Q e env'
section
variable {P:Program} {W w0 w:World} {n:Nat} {Y:Nat→Prop} {env:Bd} {a:Act}
theorem CF.rel (F:CF n W w0 Y env a w):D5 n ⟨w,w,CM Y,0⟩ w (CM Y) env ⟨0,[]⟩ a w where
 glob:=Ea.refl w
 snc:=⟨GI.refl _ _,rfl,fun _ h=>by simp at h,fun _ _=>rfl⟩
 low:=Nat.le_refl _
 sim:={
  below:=Below.refl _ _
  lt:=by intro _ _ h;cases h
  inj:=by intro _ _ _ _ h;cases h
  live:=by intro _ _ _ h;cases h
  ylt:=fun g hg=>Nat.lt_of_lt_of_le (F.ylt g hg) F.below.size
  blk:=by intro _ _ _ _ h;cases h}
 env:=fun t=>CE _ _ (F.env t)
 sz:=F.sz
 dfr:=F.dfr
 fresh:=fun _ _=>rfl
theorem CF.of_rel (F:CF n W w0 Y env a w) {env':Bd} {h':A5} {μ':Mu} {a':Act} {w':World} (hn:h'.next=0) (hc:Mq env'=true) (R:D5 n ⟨w,w,CM Y,0⟩ w μ' env' h' a' w'):CF n W w0 Y env' a' w'∧Below w.heap.size w w':=by
 refine ⟨⟨F.glob.mono R.sim.below,F.below.trans (R.sim.below.mono F.below.size),fun t=> ?_,R.sz,R.dfr,F.ylt⟩,R.sim.below⟩
 refine Bz (fun x u hr=>⟨hr.1,fun q=>hr.2.1 ?_,hr.2.2⟩) _ _ (Bh _ _ (LU hc t) (R.env t))
 rcases q with q|⟨_,_,q,_⟩
 ·left;rw [R.snc.y];exact q
 ·cases q
theorem CF.run {c:Code} {Q:Exit→Bd→Prop} (F:CF n W w0 Y env a w) (k:A7 P w n 0 c env ⟨0,[]⟩ (CQ Q)):
  c.wp P (fun e a' w'=> ∃env',Q e env'∧CF n W w0 Y env' a' w'∧Below w.heap.size w w') a w:=
 wp_mono (k ⟨w,w,CM Y,0⟩ w (CM Y) a w rfl rfl F.rel) fun e a' w' ⟨env1,h1,μ',⟨keep,env',h',hf,hn,hc,q⟩,R⟩=>
  ⟨env',q,F.of_rel hn hc (Ha R hf (fun i hi=>by simp at hi))⟩
end
theorem Jt {P:Program} {W:World} {T:D1} (hT:C5 P T=true) {n:Nat} {ops:Array Oper} {Q:Exit→Act→World→Prop} (l2:List Nat):
  ∀(l:List Nat) {os:List Oper} {env:Bd} {h:A5} {R:Bd→A5→Prop},l.map (fun i=>ops[i]?)=os.map some→A1 P W T n ops os env h R→
   ∀ {B:FN} (_:B.W=W) {w0:World} {μ:Mu} {a:Act} {w:World},D5 n B w0 μ env h a w→(∀env' h' μ' a' w',R env' h'→D5 n B w0 μ' env' h' a' w'→wpOps P ops Q l2 a' w')→wpOps P ops Q (l++l2) a w
 | [],os,env,h,R,hl,k,B,hB,w0,μ,a,w,rel,hQ=>by
   have:os=[]:=by cases os<;>simp at hl;rfl
   subst this
   exact hQ env h μ a w k rel
 |i::l,os,env,h,R,hl,k,B,hB,w0,μ,a,w,rel,hQ=>by
  cases os with
  |nil=>simp at hl
  |cons o os=>
   simp only [List.map_cons,List.cons.injEq] at hl
   obtain ⟨ho,hl⟩:=hl
   simp only [List.cons_append,wpOps,ho]
   simp only [A1] at k
   split at k
   ·rename_i hw
    obtain ⟨hd,x,h',he,k⟩:=k
    rw [if_pos (De hw (fun j want d _ _=>rel.env d))]
    exact Or.inl (MW hT he hB rel hd fun a' w' μ' rel'=>Jt hT l2 l hl k hB rel' hQ)
   ·rename_i hw
    obtain ⟨hd,k⟩:=k
    rw [if_neg (by rw [De hw (fun j want d _ _=>rel.env d)];simp)]
    have hdd: ∀t,o.dst=some t→t<n:=by
     intro t ht
     unfold Cq at hd
     rw [ht] at hd
     simpa using hd
    exact Jt hT l2 l hl k hB (DW hT rel (FI.refl rel.sim).step hdd (by simp only [VR,BZ];exact ⟨#[],rfl,rfl⟩)) hQ
   ·exact k.elim
theorem PS {P:Program} {W:World} {T:D1} (hT:C5 P T=true) {n:Nat} {ops:Array Oper} {Q:Exit→Act→World→Prop} (m:Nat) (l2:List Nat) (hm:m≤ops.size) {env:Bd} {h:A5} {R:Bd→A5→Prop} (k:A1 P W T n ops (ops.toList.take m) env h R)
  {B:FN} (hB:B.W=W) {w0:World} {μ:Mu} {a:Act} {w:World} (rel:D5 n B w0 μ env h a w) (hQ: ∀env' h' μ' a' w',R env' h'→D5 n B w0 μ' env' h' a' w'→wpOps P ops Q l2 a' w'):wpOps P ops Q (List.range m++l2) a w:=
 Jt hT l2 (List.range m) (os:=ops.toList.take m) (by
  apply List.ext_getElem?
  intro i
  simp only [List.getElem?_map,List.getElem?_take]
  rcases Nat.lt_or_ge i m with q|q
  ·rw [List.getElem?_range q,if_pos q]
   simp [show i<ops.size by omega]
  ·rw [List.getElem?_eq_none (by simpa using q),if_neg (by omega)];rfl) k hB rel hQ
def MB (es:Array MapEntry) (ks:List Int):Prop:=es.toList.map (fun e=>(e.key,e.val))=ks.map fun k=>(Value.int .i64 k,Value.bool true)
theorem Kl (k:Int): ∀(es:List MapEntry) (ks:List Int) (i:Nat),es.map (fun e=>(e.key,e.val))=ks.map (fun k=>(Value.int .i64 k,Value.bool true))→
  (ks.any (fun t=>decide (t=k))=false→Instr.findNow (.int .i64) (.int .i64 k) es i=some none)∧
  (ks.any (fun t=>decide (t=k))=true→ ∃j,Instr.findNow (.int .i64) (.int .i64 k) es i=some (some (j,.bool true)))
 | [],ks,i,h=>by
   cases ks with
   |nil=>exact ⟨fun _=>rfl,fun q=>by simp at q⟩
   |cons t r=>simp at h
 |e::es,ks,i,h=>by
  cases ks with
  |nil=>simp at h
  |cons t r=>
   simp only [List.map_cons,List.cons.injEq,Prod.mk.injEq] at h
   obtain ⟨⟨h1,h2⟩,h3⟩:=h
   obtain ⟨a,b⟩:=Kl k es r (i+1) h3
   simp only [Instr.findNow,h1,Instr.sameNow,if_true,List.any_cons,h2]
   by_cases hk:k=t
   ·subst hk
    simp
   ·have hk': ¬t=k:=fun q=>hk q.symm
    have e1:(k==t)=false:=by simpa using hk
    rw [e1,decide_eq_false hk',Bool.false_or]
    exact ⟨a,b⟩
section
variable {P:Program} {mt kt vt:TypeId} (hm:P.underlying mt=some (.map kt vt)) (hk:P.underlying kt=some (.int .i64)) (hv:P.underlying vt=some .bool)
 (hz: ∀w,(zeroValue vt).run P w= .ok (.bool false) w)
include hm hk hz
theorem NB {w:World} {r:Nat} {es:Array MapEntry} {clock:Nat} {ks:List Int} (hr:w.heap[r]? =some (.map es clock)) (he:MB es ks) (k:Int):
  (Instr.lookup mt (.map (some r)) (.int .i64 k) false).run P w= .ok (.bool (ks.any fun t=>decide (t=k))) w:=by
 obtain ⟨a,b⟩:=Kl k es.toList ks 0 he
 have hck:(Instr.checkKey es.isEmpty 10000 kt (.int .i64 k)).run P w= .ok () w:=MapKept.run_checkKey (k:= .int .i64 k) (n:=9999) hk (show IntKind.i64=IntKind.i64 from rfl) _
 cases h:ks.any fun t=>decide (t=k) with
 |false=>
  have hf:(Instr.findKey kt (.int .i64 k) es.toList).run P w= .ok none w:=by
   simp [Instr.findKey,run_underlying hk,a h]
  simp only [Instr.lookup,Sem.run_bind,run_underlying hm,Result.andThen_ok,MapKept.run_getObj_map hr,Sem.run_pure,hck,hf,hz]
  simp
 |true=>
  obtain ⟨j,hj⟩:=b h
  have hf:(Instr.findKey kt (.int .i64 k) es.toList).run P w= .ok (some (j,.bool true)) w:=by
   simp [Instr.findKey,run_underlying hk,hj]
  simp only [Instr.lookup,Sem.run_bind,run_underlying hm,Result.andThen_ok,MapKept.run_getObj_map hr,Sem.run_pure,hck,hf]
  simp
theorem Tj {W:World} {r:Nat} {es:Array MapEntry} {clock:Nat} {ks:List Int} (hr:W.heap[r]? =some (.map es clock)) (he:MB es ks) {env:Bd} {x y:Tmp} {key:Int}
  (ex:env.get x= .raw (.map (some r))) (ey:env.get y= .i .i64 key) {d:Tmp} {ty:TypeId} {pos:String} {af:Array Edge}:
  ∀(w:World) (μ:Mu) (c:Operand→Value),Ea W w→(∀z∈(Op.lookup mt (.tmp x) (.tmp y) false).operands,∀q u,ev env q z=some u→VR w μ u (c z))→
   ∃z,(execOp c ⟨some d,.lookup mt (.tmp x) (.tmp y) false,ty,pos,af,none⟩).run P w= .ok (.value z) w∧VR w μ (.b (ks.any fun t=>decide (t=key))) z:=by
 intro w μ c hG hx
 have hlt:r<W.heap.size:=by
  rcases Nat.lt_or_ge r W.heap.size with q|q
  ·exact q
  ·rw [Array.getElem?_eq_none q] at hr;cases hr
 have h1:=hx (.tmp x) (by simp [Op.operands]) 0 _ rfl
 have h2:=hx (.tmp y) (by simp [Op.operands]) 0 _ rfl
 rw [ex] at h1;rw [ey] at h2
 simp only [VR,CR] at h1 h2
 have hr':w.heap[r]? =some (.map es clock):=by rw [hG.block r hlt];exact hr
 refine ⟨.bool (ks.any fun t=>decide (t=key)),?_,by simp only [VR,CR]⟩
 unfold execOp
 exact Dx (by rw [h1,h2];exact NB hm hk hz hr' he key)
omit hz in
theorem L7 {w:World} {r:Nat} {es:Array MapEntry} {clock:Nat} {ks:List Int} (hr:w.heap[r]? =some (.map es clock)) (he:MB es ks) {k:Int} (hn:ks.any (fun t=>decide (t=k))=false):
  (Instr.mapUpdate mt (.map (some r)) (.int .i64 k) (.bool true)).run P w= .ok () {w with heap:=w.heap.setIfInBounds r (.map (es.push ⟨.int .i64 k,.bool true,clock⟩) (clock+1))}:=by
 obtain ⟨a,b⟩:=Kl k es.toList ks 0 he
 have hck:(Instr.checkKey false 10000 kt (.int .i64 k)).run P w= .ok () w:=MapKept.run_checkKey (k:= .int .i64 k) (n:=9999) hk (show IntKind.i64=IntKind.i64 from rfl) _
 have hf:(Instr.findKey kt (.int .i64 k) es.toList).run P w= .ok none w:=by
  simp [Instr.findKey,run_underlying hk,a hn]
 simp only [Instr.mapUpdate,Sem.run_bind,run_underlying hm,Result.andThen_ok,MapKept.run_getObj_map hr,Sem.run_pure,hck,hf]
 exact MapKept.run_setObj_map _ hr
end
theorem MB.push {es:Array MapEntry} {ks:List Int} (h:MB es ks) (k:Int) (c:Nat):MB (es.push ⟨.int .i64 k,.bool true,c⟩) (ks++[k]):=by
 unfold MB at h ⊢
 simp [h]
theorem MB.nil:MB #[] []:=rfl
theorem CF.turn {n:Nat} {W w0 w:World} {Y:Nat→Prop} {env:Bd} {a:Act} (F:CF n W w0 Y env a w) {r:Nat} {es es':Array MapEntry} {clock c':Nat} (hr:w.heap[r]? =some (.map es clock)) (h0:w0.heap.size≤r) (hW:W.heap.size≤r):
  CF n W w0 Y env a {w with heap:=w.heap.setIfInBounds r (.map es' c')}∧({w with heap:=w.heap.setIfInBounds r (.map es' c')}:World).heap[r]? =some (.map es' c'):=by
 have hlt:r<w.heap.size:=by
  rcases Nat.lt_or_ge r w.heap.size with q|q
  ·exact q
  ·rw [Array.getElem?_eq_none q] at hr;cases hr
 have hb: ∀g,g≠r→({w with heap:=w.heap.setIfInBounds r (.map es' c')}:World).heap[g]? =w.heap[g]? :=by
  intro g hg
  simp only [Array.getElem?_setIfInBounds]
  rw [if_neg (fun q=>hg q.symm)]
 have e: ∀x u,Rd w (CM Y) x u→Rd {w with heap:=w.heap.setIfInBounds r (.map es' c')} (CM Y) x u:=by
  refine fun x u hu=>⟨?_,hu.2.1,hu.2.2⟩
  have hne:x.block≠r:=by
   intro q
   have h1:=hu.1
   unfold World.cell? at h1
   rw [q,hr] at h1
   simp at h1
  rw [Di (hb _ hne)];exact hu.1
 refine ⟨⟨⟨?_,fun k hk=> ?_⟩,⟨F.below.os,F.below.tape,F.below.output,?_,fun k hk=> ?_⟩,fun t=>Ch e _ _ (F.env t),F.sz,F.dfr,F.ylt⟩,?_⟩
 ·simp only [Array.size_setIfInBounds];exact F.glob.size
 ·rw [hb k (by omega)];exact F.glob.block k hk
 ·simp only [Array.size_setIfInBounds];exact F.below.size
 ·rw [hb k (by omega)];exact F.below.block k hk
 ·simp only [Array.getElem?_setIfInBounds];simp [hlt]
theorem CF.made {n:Nat} {W w0 w:World} {Y:Nat→Prop} {env:Bd} {a:Act} (F:CF n W w0 Y env a w) (o:Go.Obj):CF n W w0 Y env a (w.alloc o) where
 glob:=⟨by have:=F.glob.size;simp;omega,fun k hk=>by rw [Ex _ _ _ (Nat.lt_of_lt_of_le hk F.glob.size)];exact F.glob.block k hk⟩
 below:=F.below.alloc F.below.size o
 env:=fun t=>Ix (GI.of (fun g hg _=>Ex _ _ _ hg) (fun _ _ h=>Or.inl h) (fun g h=>Or.inl h)) _ _ (F.env t)
 sz:=F.sz
 dfr:=F.dfr
 ylt:=F.ylt
theorem Ea.cell {W w:World} (g:Ea W w) {a:Addr} {u:Value} (h:W.cell? a=some u):w.cell? a=some u:=by
 rw [Di (g.block _ (Hl h))];exact h
theorem P1 {P:Program} {ops:Array Oper} {Q:Exit→Act→World→Prop} {i:Nat} {rest:List Nat} {a:Act} {w:World} {o:Oper} (ho:ops[i]? =some o) (hg:o.guard=none) {v:Value} {w':World}
  (hr:(execOp a.eval o).run P w= .ok (.value v) w') (k:wpOps P ops Q rest (a.put o.dst v) w'):wpOps P ops Q (i::rest) a w:=by
 simp only [wpOps,ho]
 rw [if_pos (by unfold Region.wanted;rw [hg])]
 refine Or.inl ?_
 unfold Oper.wp
 rw [hr];exact k
theorem CF.put {n:Nat} {W w0 w:World} {Y:Nat→Prop} {env:Bd} {a:Act} (F:CF n W w0 Y env a w) {t:Tmp} (ht:t<n) {x:AV} {v:Value} (hv:CR w (CM Y) x v):CF n W w0 Y ((t,x)::env) (a.put (some t) v) w where
 glob:=F.glob
 below:=F.below
 env:=fun t'=>by
  have hs:=F.sz
  have e1:(a.put (some t) v).tmps.getD t' undef=if t=t' then v else a.tmps.getD t' undef:=by
   simp only [Act.put,Array.getD_eq_getD_getElem?,Array.getElem?_setIfInBounds]
   by_cases h:t=t'
   ·subst h;simp [hs,ht]
   ·rw [if_neg h,if_neg (by simpa using h)]
  rw [e1,AL]
  by_cases h:t'=t
  ·subst h;rw [if_pos rfl,if_pos rfl];exact hv
  ·rw [if_neg h,if_neg (fun q=>h q.symm)];exact F.env t'
 sz:=by simp only [Act.put,Array.size_setIfInBounds];exact F.sz
 dfr:=F.dfr
 ylt:=F.ylt
theorem U3 {P:Program} {n:Nat} {W w:World} {Y:Nat→Prop} (hG:Ea W w) (hY: ∀g,Y g→g<w.heap.size) {args:List AV} {vs:List Value} (hc:A6 args=true) (h:DX w (CM Y) args vs) (hn:args.length≤n):
  CF n W w Y (Cg 0 args) {tmps:=vs.toArray++Array.replicate (n-vs.toArray.size) undef,defers:=[]} w where
 glob:=hG
 below:=Below.refl _ _
 env:=fun t=>by
  have hl:=EH h
  refine Bh _ _ ?_ (Ej (BQ _ _ h) _ t)
  rw [Kj]
  split
  ·cases e:args[t-0]? with
   |none=>rfl
   |some x=>rw [ER] at hc;exact List.all_eq_true.1 hc x (List.mem_of_getElem? e)
  ·rfl
 sz:=by have hl:=EH h;simp [hl];omega
 dfr:=rfl
 ylt:=hY
theorem CF.done {P:Program} {n:Nat} {W w0 w:World} {Y:Nat→Prop} {env:Bd} {a:Act} (F:CF n W w0 Y env a w) {fn:Func} {t:Nat} (hr:Gh fn.results.toList=some [t]) {r:AV} (hc:closed r=true) (he:env.get t=r):
  a.defers=[]∧ ∃v,(results fn a.tmps).run P w= .ok v w∧ ∃v' μ',(Ending.returned v)= .returned v'∧μ'.Y=Y∧VR w μ' r v'∧DY w0 μ' w (S0 [])∧(∀id,([]:List Obj).length≤id→μ' id=none):=by
 refine ⟨F.dfr,_,Jv (P:=P) hr a.tmps w,_,CM Y,rfl,rfl,?_,?_,fun _ _=>rfl⟩
 ·have:=F.env t
  rw [he] at this
  exact CE _ _ this
 ·exact {
   below:=F.below
   lt:=by intro _ _ h;cases h
   inj:=by intro _ _ _ _ h;cases h
   live:=by intro _ _ _ h;cases h
   ylt:=F.ylt
   blk:=by intro _ _ _ _ h;cases h}
theorem Si {P:Program} {ops:Array Oper} {Q:Exit→Act→World→Prop} {i:Nat} {rest:List Nat} {a:Act} {w:World} {o:Oper} (ho:ops[i]? =some o) (hg:o.guard=none) {w':World}
  (hr:(execOp a.eval o).run P w= .ok .skip w') (k:wpOps P ops Q rest (a.put o.dst undef) w'):wpOps P ops Q (i::rest) a w:=by
 simp only [wpOps,ho]
 rw [if_pos (by unfold Region.wanted;rw [hg])]
 refine Or.inl ?_
 unfold Oper.wp
 rw [hr];exact k
theorem run_uu {P:Program} {m:Sem Unit} {w w':World} (h:m.run P w= .ok () w'):(do m;pure .skip:Sem Next).run P w= .ok .skip w':=by
 simp [h]
theorem CF.bool {n:Nat} {W w0 w:World} {Y:Nat→Prop} {env:Bd} {a:Act} (F:CF n W w0 Y env a w) {t:Nat} {b:Bool} (h:env.get t= .b b):a.eval (.tmp t)= .bool b:=by
 have:=F.env t
 rw [h] at this;simp only [CR] at this;exact this
theorem CF.raw {n:Nat} {W w0 w:World} {Y:Nat→Prop} {env:Bd} {a:Act} (F:CF n W w0 Y env a w) {t:Nat} {u:Value} (h:env.get t= .raw u):a.eval (.tmp t)=u:=by
 have:=F.env t
 rw [h] at this;simp only [CR] at this;exact this
theorem CF.int {n:Nat} {W w0 w:World} {Y:Nat→Prop} {env:Bd} {a:Act} (F:CF n W w0 Y env a w) {t:Nat} {k:IntKind} {z:Int} (h:env.get t= .i k z):a.eval (.tmp t)= .int k z:=by
 have:=F.env t
 rw [h] at this;simp only [CR] at this;exact this
theorem CF.len {n:Nat} {W w0 w:World} {Y:Nat→Prop} {env:Bd} {a:Act} (F:CF n W w0 Y env a w) {t:Nat} {k:Nat} {α:Type} {A:α→AV} {xs:List α} (h:env.get t=Ao k A xs):xs.length≤281474976710656:=by
 have:=F.env t
 rw [h] at this
 simp only [Ao,CR] at this
 rcases this with ⟨q,_⟩|⟨_,_,_,_,_,q,_⟩
 ·have:xs=[]:=by simpa using q
  rw [this];simp
 ·simpa [Eb] using q
theorem Below.blk {w w':World} (h:Below w.heap.size w w') {r:Nat} {o:Go.Obj} (hr:w.heap[r]? =some o):w'.heap[r]? =some o:=by
 have hlt:r<w.heap.size:=by
  rcases Nat.lt_or_ge r w.heap.size with q|q
  ·exact q
  ·rw [Array.getElem?_eq_none q] at hr;cases hr
 rw [h.block r hlt];exact hr
end
end Go.Lift
namespace Go.Lift
noncomputable section
open Go Go.RowKit
section
variable {P:Program} {W:World} {T:D1} {n:Nat} {ops:Array Oper} {d:Tmp} {op:Op} {ty:TypeId} {pos:String} {af:Array Edge} {gd:Nat×Bool} {r:List Oper} {env:Bd} {h h':A5} {Q:Bd→A5→Prop} {m i:Nat}
theorem Aq (x:AV) (k:A1 P W T n ops r ((d,x)::env) h Q) (e:GE T (ev env) h ⟨some d,op,ty,pos,af,none⟩=some x:=by kernel_rfl) (hd:d<n:=by exact Nat.le_of_ble_eq_true rfl):A1 P W T n ops (⟨some d,op,ty,pos,af,none⟩::r) env h Q:=A1.sq e hd k
theorem Ap (x:AV) (e:GE T (ev env) h ⟨some d,op,ty,pos,af,none⟩=some x) (k:A1 P W T n ops r ((d,x)::env) h Q) (hd:d<n:=by exact Nat.le_of_ble_eq_true rfl):A1 P W T n ops (⟨some d,op,ty,pos,af,none⟩::r) env h Q:=A1.sq e hd k
theorem Dq (x:AV) (k:Ar P W T n ops m (i+1) r ((d,x)::env) h Q) (e:GE T (ev env) h ⟨some d,op,ty,pos,af,none⟩=some x:=by kernel_rfl) (hd:d<n:=by exact Nat.le_of_ble_eq_true rfl):Ar P W T n ops m i (⟨some d,op,ty,pos,af,none⟩::r) env h Q:=Ar.sq e hd k
theorem Dp (x:AV) (e:GE T (ev env) h ⟨some d,op,ty,pos,af,none⟩=some x) (k:Ar P W T n ops m (i+1) r ((d,x)::env) h Q) (hd:d<n:=by exact Nat.le_of_ble_eq_true rfl):Ar P W T n ops m i (⟨some d,op,ty,pos,af,none⟩::r) env h Q:=Ar.sq e hd k
theorem An (k:A1 P W T n ops r ((d,.tup [])::env) h Q) (e:C8 ops env ⟨some d,op,ty,pos,af,some gd⟩=some false:=by kernel_rfl) (hd:d<n:=by exact Nat.le_of_ble_eq_true rfl):A1 P W T n ops (⟨some d,op,ty,pos,af,some gd⟩::r) env h Q:=by
 simp only [A1,e];exact ⟨by simpa [Cq] using hd,k⟩
theorem Dn (k:Ar P W T n ops m (i+1) r ((d,.tup [])::env) h Q) (e:C8 ops env ⟨some d,op,ty,pos,af,some gd⟩=some false:=by kernel_rfl) (hd:d<n:=by exact Nat.le_of_ble_eq_true rfl):Ar P W T n ops m i (⟨some d,op,ty,pos,af,some gd⟩::r) env h Q:=by
 simp only [Ar,e];exact ⟨by simpa [Cq] using hd,k⟩
theorem Gy {j:Nat} {want t:Bool} {o:Oper} {t':Tmp} (hj:ops[j]? =some o) (ho:o.dst=some t') (k1:A1 P W T n ops (⟨some d,op,ty,pos,af,none⟩::r) env h Q) (ht:env.get t'= .b t:=by first|rfl|fail) (e:t=want:=by first|rfl|(simp [*];done)|fail):A1 P W T n ops (⟨some d,op,ty,pos,af,some (j,want)⟩::r) env h Q:=A1.sgy hj ho ht e k1
theorem Gn {j:Nat} {want t:Bool} {o:Oper} {t':Tmp} (hj:ops[j]? =some o) (ho:o.dst=some t') (hd:d<n) (k2:A1 P W T n ops r ((d,.tup [])::env) h Q) (ht:env.get t'= .b t:=by first|rfl|fail) (e:t= !want:=by first|rfl|(simp [*];done)|fail):A1 P W T n ops (⟨some d,op,ty,pos,af,some (j,want)⟩::r) env h Q:=Q8 hj ho ht e hd k2
theorem Gu {j:Nat} {want:Bool} {o:Oper} {t':Tmp} (hj:ops[j]? =some o) (ho:o.dst=some t') (hd:d<n) (k2:A1 P W T n ops r ((d,.tup [])::env) h Q) (ht:env.get t'= .tup []:=by first|rfl|fail):A1 P W T n ops (⟨some d,op,ty,pos,af,some (j,want)⟩::r) env h Q:=U1 hj ho ht hd k2
theorem RD {j:Nat} {want:Bool} {o:Oper} (hg:o.guard=some (j,want)) (e:C8 ops env o=some true): ∃o' t',ops[j]? =some o'∧o'.dst=some t'∧env.get t'= .b want:=by
 unfold C8 at e
 rw [hg] at e
 dsimp only at e
 cases hj:ops[j]? with
 |none=>rw [hj] at e;cases e
 |some o'=>
  rw [hj] at e
  simp only [Option.bind_some] at e
  cases ho:o'.dst with
  |none=>rw [ho] at e;cases e
  |some t'=>
   rw [ho] at e
   dsimp only at e
   refine ⟨o',t',rfl,ho,?_⟩
   split at e
   ·rename_i t ht
    rw [ht]
    cases t<;>cases want<;>first|rfl|cases e
   ·cases e
   ·cases e
theorem Ay (k:A1 P W T n ops (⟨some d,op,ty,pos,af,none⟩::r) env h Q) (e:C8 ops env ⟨some d,op,ty,pos,af,some gd⟩=some true:=by kernel_rfl):A1 P W T n ops (⟨some d,op,ty,pos,af,some gd⟩::r) env h Q:=by
 obtain ⟨j,want⟩:=gd
 obtain ⟨o',t',h1,h2,h3⟩:=RD rfl e
 exact A1.sgy h1 h2 h3 rfl k
theorem Dy (k:Ar P W T n ops m i (⟨some d,op,ty,pos,af,none⟩::r) env h Q) (e:C8 ops env ⟨some d,op,ty,pos,af,some gd⟩=some true:=by kernel_rfl):Ar P W T n ops m i (⟨some d,op,ty,pos,af,some gd⟩::r) env h Q:=by
 obtain ⟨j,want⟩:=gd
 obtain ⟨o',t',h1,h2,h3⟩:=RD rfl e
 exact Ar.sgy h1 h2 h3 rfl k
theorem Nn (x:AV) (ob:Obj) (k:A1 P W T n ops r ((d,x)::env) (h.new ob) Q) (e:TZ T (ev env) h ⟨some d,op,ty,pos,af,none⟩=some (x,h.new ob):=by kernel_rfl) (hd:d<n:=by exact Nat.le_of_ble_eq_true rfl):A1 P W T n ops (⟨some d,op,ty,pos,af,none⟩::r) env h Q:=A1.sn e hd k
theorem Nb (x:AV) (k:A1 P W T n ops r ((d,x)::env) h Q) (e:TZ T (ev env) h ⟨some d,op,ty,pos,af,none⟩=some (x,h):=by kernel_rfl) (hd:d<n:=by exact Nat.le_of_ble_eq_true rfl):A1 P W T n ops (⟨some d,op,ty,pos,af,none⟩::r) env h Q:=A1.sn e hd k
theorem Nd (x:AV) (k:Ar P W T n ops m (i+1) r ((d,x)::env) h Q) (e:TZ T (ev env) h ⟨some d,op,ty,pos,af,none⟩=some (x,h):=by kernel_rfl) (hd:d<n:=by exact Nat.le_of_ble_eq_true rfl):Ar P W T n ops m i (⟨some d,op,ty,pos,af,none⟩::r) env h Q:=Ar.sn e hd k
theorem Sp (id:Nat) (ob:Obj) (k:A1 P W T n ops r env (h.put id (some ob)) Q) (e:M8 T (ev env) h ⟨none,op,ty,pos,af,none⟩=some (.und,h.put id (some ob)):=by kernel_rfl):A1 P W T n ops (⟨none,op,ty,pos,af,none⟩::r) env h Q:=A1.st e k
theorem Sc {g:FuncId} {r0:AV} {S:List Obj} (x:AV) (hp:Ac P W g [] r0 S) (k:A1 P W T n ops r ((d,x)::env) (h.add S) Q) (hc:callee T (ev env) ⟨some d,op,ty,pos,af,none⟩=some (g,[]):=by kernel_rfl) (hx:r0.ren (· +h.next)=x:=by kernel_rfl) (hd:d<n:=by exact Nat.le_of_ble_eq_true rfl):A1 P W T n ops (⟨some d,op,ty,pos,af,none⟩::r) env h Q:=U0 hc rfl hp hx rfl hd k
end
section
variable {P:Program} {W:World} {n N:Nat} {env:Bd} {h:A5} {Q:D2}
theorem Ad {T:D1} {ops:Array Oper} {Q:Bd→A5→Prop} (k:Q env h):A1 P W T n ops [] env h Q:=A1.done k
theorem Sq {x y:Code} (k:A7 P W n N x env h (D2.then (fun env' h'=>A7 P W n N y env' h' Q) Q)):A7 P W n N (.seq x y) env h Q:=A7.seq k
theorem Rt (k:Q .ret env h):A7 P W n N .ret env h Q:=A7.ret k
theorem Ct {c:Operand} {x y:Code} (k:A7 P W n N x env h Q) (hc:ev env 0 c=some (.b true):=by kernel_rfl):A7 P W n N (.cond c x y) env h Q:=A7.cond hc k
theorem Cf {c:Operand} {x y:Code} (k:A7 P W n N y env h Q) (hc:ev env 0 c=some (.b false):=by kernel_rfl):A7 P W n N (.cond c x y) env h Q:=A7.cond hc k
end
theorem nde {p:Prop} [Decidable p] (h:(!decide p)=false):p:=by simpa using h
theorem ndt {p:Prop} [Decidable p] (h:(!decide p)=true): ¬p:=by simpa using h
theorem Ec {d:Nat} {keep:List Nat} {h:A5} {x y:AV} (e:x=y:=by kernel_rfl) (hc:closed y=true:=by kernel_rfl):Dt (d+1) keep h x y:=AW.c e hc
theorem Ee {keep:List Nat} {h:A5} {env:Bd} {t:Nat} {x:AV} {r:Bd} (b:Am keep h env r) (e:env.get t=x:=by kernel_rfl) (hc:closed x=true:=by kernel_rfl):Am keep h env ((t,x)::r):=Am.cons (AW.c e hc) b
abbrev Ai (n:Nat):AV:= .i .i64 (n:Int)
theorem Ac.freeze {P:Program} {W:World} {f:FuncId} {args:List AV} {r r':AV} {S:List Obj} (k:Ac P W f args r S) (e:AW [] (S0 S) r r'):Ac P W f args r' [] where
 enters:=k.enters
 calls:=fun w Y vs hG hY hvs=>by
  refine (k.calls w Y vs hG hY hvs).mono ?_
  rintro e' w' ⟨v,μ',rfl,hy,hv,hs,hf⟩
  refine ⟨v,μ'.fin [],rfl,hy,Pp hs e hv,?_,fun id _=>rfl⟩
  exact {
   below:=hs.below
   lt:=by intro _ _ h;cases h
   inj:=by intro _ _ _ _ h;cases h
   live:=by intro _ _ _ h;cases h
   ylt:=hs.ylt
   blk:=by intro _ _ _ _ h;cases h}
end
end Go.Lift
namespace Go.Lift
noncomputable section
open Go Go.RowKit
def Nu:AV→Bool
 | .b _=>true
 | .i _ _=>true
 | .s _=>true
 | .und=>true
 |_=>false
def LI:AV→Bool
 | .st fs=>fs.all Nu
 |x=>Nu x
theorem TK {w w':World} {μ μ':Mu} {x:AV} {v:Value} (hx:Nu x=true) (k:VR w μ x v):VR w' μ' x v:=by
 cases x<;>first|(simp [Nu] at hx;done)|(simp only [VR];done)|(simp only [VR,CR] at k ⊢;exact k)
theorem PO {x y:AV} {i:Nat} (hx:LI x=true) (hy:x.cells[i]? =some y):Nu y=true:=by
 cases x with
 |st fs=>
  have hm:y∈fs:=List.mem_of_getElem? (by simpa only [AV.cells] using hy)
  simp only [LI,List.all_eq_true] at hx
  exact hx y hm
 |_=>
  simp only [AV.cells] at hy
  have:y∈ [_]:=List.mem_of_getElem? hy
  rw [List.mem_singleton] at this;subst this
  simpa only [LI] using hx
section
variable {keep:List Nat} {h h':A5} {d:Nat}
end
theorem FM {P:Program} {W:World} {T:D1} {n N:Nat} {env:Bd} {h:A5} {Q:D2} (hT:C5 P T=true) (hm:P.follows .mixedOrders=true) {id:Nat} {ops:Array Oper} (m:Nat) (l:List Nat)
  (hpo:Of ops m (fun j=>l.contains j)=true) (hl:(l.all fun j=>Nat.blt j m)=true) (hr:GF ops m (fun j=>l.contains j)=true) (hmn:m≤ops.size) (k:Ar P W T n ops m 0 ops.toList env h (Q .normal)):A7 P W n N (.region id ops true) env h Q:=
 fun B w0 μ a w hW hB R=>Ka hT hm hpo (fun j hj=>by
  have:=List.all_eq_true.1 hl j (by simpa using hj)
  exact Nat.le_of_ble_eq_true this) hr hmn k hW R fun env' h' μ' a' w' q r=>⟨env',h',μ',q,r⟩
end
end Go.Lift
namespace Go.Lift
noncomputable section
open Go Go.RowKit
theorem MA {w:World} {μ:Mu}: ∀ {xs ys:List AV} {us:List Value},DX w μ (xs++ys) us→ ∃a b,us=a++b∧DX w μ xs a∧DX w μ ys b
 | [],ys,us,h=>⟨[],us,rfl,by simp only [DX],h⟩
 |x::xs,ys,us,h=>by
  simp only [List.cons_append,DX] at h
  obtain ⟨v,r,rfl,h1,h2⟩:=h
  obtain ⟨a,b,rfl,h3,h4⟩:=MA h2
  exact ⟨v::a,b,rfl,by simp only [DX];exact ⟨v,a,rfl,h1,h3⟩,h4⟩
theorem Qb {w:World} {μ:Mu}: ∀ {xs ys:List AV} {a b:List Value},DX w μ xs a→DX w μ ys b→DX w μ (xs++ys) (a++b)
 | [],ys,a,b,h,k=>by simp only [DX] at h;subst h;exact k
 |x::xs,ys,a,b,h,k=>by
  simp only [DX] at h
  obtain ⟨v,r,rfl,h1,h2⟩:=h
  simp only [List.cons_append,DX]
  exact ⟨v,r++b,rfl,h1,Qb h2 k⟩
theorem KC {P:Program} {W:World} {f g:FuncId} {bs ys:List AV} {r:AV} {S:List Obj} (k:Ac P W f (bs++ys) r S) (hM:f<1000000) (hb:bs≠ []) (hg':MK f bs=g):Ac P W g (ys++bs) r S:=by
 have hg:g=f+1000000*bs.length:=by rw [←hg',Ln]
 have h0:0<bs.length:=List.length_pos_iff.2 hb
 have e1:g % 1000000=f:=by
  have: ∀(f n:Nat),f<1000000→(f+1000000*n) % 1000000=f:=by intro f n h;omega
  rw [hg];exact this f _ hM
 have e2:g /1000000=bs.length:=by
  have: ∀(f n:Nat),f<1000000→(f+1000000*n) /1000000=n:=by intro f n h;omega
  rw [hg];exact this f _ hM
 have e3: ¬g<1000000:=by
  have: ∀(f n:Nat),0<n→ ¬f+1000000*n<1000000:=by intro f n h;omega
  rw [hg];exact this f _ h0
 refine ⟨by rw [e1];exact k.entersP hM,?_⟩
 rw [e1]
 intro w Y vs hG hY hvs
 obtain ⟨a,b,rfl,h1,h2⟩:=MA hvs
 have hl:b.length=bs.length:=EH h2
 have:NL g (a++b)=(b++a).toArray:=by
  unfold NL
  rw [if_neg e3,e2]
  have:(a++b).length-bs.length=a.length:=by rw [List.length_append,hl];omega
  rw [this,List.drop_left,List.take_left]
 rw [this]
 exact k.callsP hM w Y (b++a) hG hY (Qb h2 h1)
theorem Ab.wk {no:List Nat} {h:A5} {d:Nat} {x y y':AV} (k:Ab no h d x y) (q:AM y y'):Ab no h d x y':=by
 obtain ⟨z,e1,e2,e3⟩:=k
 exact ⟨z,e1,e2,fun w μ v hv=>q w μ v (e3 w μ v hv)⟩
end
end Go.Lift
namespace Go.Lift
noncomputable section
open Go Go.RowKit
def ME (F:Fence):Prop:=F=Fence.wide∨ ∃l,F=Fence.wide.inRound l
theorem ME.fn {F:Fence} (h:ME F) (f:FuncId):F.fn f:=by rcases h with rfl|⟨l,rfl⟩<;>exact trivial
theorem ME.depth {F:Fence} (h:ME F) (k:Nat):F.depth.isSome=true→1≤k:=by rcases h with rfl|⟨l,rfl⟩<;>exact fun q=>by cases q
theorem PL {F:Fence} (hF:ME F) {m:Nat} {P:Program} {o:Oper} {a:Act} {w:World} {K:Act→World→Prop} {Q:Exit→Act→World→Prop} (hd: ∀c,o.op≠ .defer c) (h:o.wp P a w K Q):o.wpIn F m P a w K Q:=by
 refine ⟨fun f _=>hF.fn f,?_⟩
 rw [Oper.semAt_eq _ _ _ hd]
 unfold Oper.wp at h
 generalize (execOp a.eval o).run P w=r at h ⊢
 cases r with
 |halt hh w'=>cases hh<;>first|exact h|exact h.elim
 |ok n w'=>
  cases n with
  |value v=>exact h
  |skip=>exact h
  |defer d=>exact h
  |enter f args=>
   refine ⟨hF.depth _,?_⟩
   have h2:CallsIn Fence.wide (m-1) P f args w' _:=callsIn_wide.2 h
   have h3:=CallsIn.mono h2 (R':=fun
    | .returned v,w''=>K (a.put o.dst v) w''
    | .panicked chain,w''=>Q (.panic chain) a w''
    | .outgrown,_=>LetsOut Q) (fun e w'' q=>by cases e<;>exact q)
   rcases hF with rfl|⟨l,rfl⟩
   ·exact h3
   ·exact CallsIn.inRound l h3
  |row row args=>
   refine ⟨hF.depth _,?_⟩
   rcases hF with rfl|⟨l,rfl⟩
   ·exact fun c cs _=>let ⟨v,w'',r,s⟩:=h c cs;⟨v,w'',r,stepsIn_wide.2 s⟩
   ·exact fun c cs _=>let ⟨v,w'',r,s⟩:=h c cs;⟨v,w'',r,stepsIn_wide.2 s⟩
  |_=>exact False.elim h
def Hr (o:Oper):Bool:=match o.op with
 | .defer _=>false
 |_=>true
theorem IO {o:Oper} (h:Hr o=true): ∀c,o.op≠ .defer c:=by
 intro c e;unfold Hr at h;rw [e] at h;cases h
section
variable {F:Fence} {m:Nat} {P:Program} {W:World} {T:D1} {n N:Nat} {ops:Array Oper}
theorem LM (hF:ME F) (hT:C5 P T=true) {Q:Exit→Act→World→Prop} (hnd:ops.toList.all Hr=true):
  ∀(l:List Nat) {l':List Nat} {os:List Oper} {env:Bd} {h:A5} {R:Bd→A5→Prop},l.map (fun i=>ops[i]?)=os.map some→A1 P W T n ops os env h R→
   ∀ {B:FN} (_:B.W=W) {w0:World} {μ:Mu} {a:Act} {w:World},D5 n B w0 μ env h a w→(∀env' h' μ' a' w',R env' h'→D5 n B w0 μ' env' h' a' w'→wpOpsIn F m P ops Q l' a' w')→wpOpsIn F m P ops Q (l++l') a w
 | [],l',os,env,h,R,hl,k,B,hB,w0,μ,a,w,rel,hQ=>by
   have:os=[]:=by cases os<;>simp at hl;rfl
   subst this
   exact hQ env h μ a w k rel
 |i::l,l',os,env,h,R,hl,k,B,hB,w0,μ,a,w,rel,hQ=>by
  cases os with
  |nil=>simp at hl
  |cons o os=>
   simp only [List.map_cons,List.cons.injEq] at hl
   obtain ⟨ho,hl⟩:=hl
   have hdf: ∀c,o.op≠ .defer c:=IO (List.all_eq_true.1 hnd o (by
    obtain ⟨hi,e⟩:=Array.getElem?_eq_some_iff.1 ho
    rw [←e];simp))
   simp only [List.cons_append,wpOpsIn,ho]
   simp only [A1] at k
   split at k
   ·rename_i hw
    obtain ⟨hd,x,h',he,k⟩:=k
    rw [if_pos (De hw (fun j want d _ _=>rel.env d))]
    exact PL hF hdf (MW hT he hB rel hd fun a' w' μ' rel'=>LM hF hT hnd l hl k hB rel' hQ)
   ·rename_i hw
    obtain ⟨hd,k⟩:=k
    rw [if_neg (by rw [De hw (fun j want d _ _=>rel.env d)];simp)]
    have hdd: ∀t,o.dst=some t→t<n:=by
     intro t ht
     unfold Cq at hd
     rw [ht] at hd
     simpa using hd
    exact ⟨fun f _=>hF.fn f,LM hF hT hnd l hl k hB (DW hT rel (FI.refl rel.sim).step hdd (by simp only [VR,BZ];exact ⟨#[],rfl,rfl⟩)) hQ⟩
   ·exact k.elim
def J0 (F:Fence) (m:Nat) (P:Program) (W:World) (n N:Nat) (c:Code) (env:Bd) (h:A5) (Q:D2):Prop:=
 ∀(B:FN) (w0:World) (μ:Mu) (a:Act) (w:World),B.W=W→B.N=N→D5 n B w0 μ env h a w→
  c.wpIn F m P (fun e a' w'=> ∃env' h' μ',Q e env' h'∧D5 n B w0 μ' env' h' a' w') a w
variable {env:Bd} {h:A5} {Q:D2}
theorem J0.seq {x y:Code} (k:J0 F m P W n N x env h (D2.then (fun env' h'=>J0 F m P W n N y env' h' Q) Q)):J0 F m P W n N (.seq x y) env h Q:=
 fun B w0 μ a w hW hB R=>wpIn_seq (wpIn_mono (k B w0 μ a w hW hB R) fun e a' w' hh=>by
  obtain ⟨env',h',μ',q,r⟩:=hh
  cases e<;>first|exact q B w0 μ' a' w' hW hB r|exact ⟨env',h',μ',q,r⟩)
theorem J0.region (hF:ME F) (hT:C5 P T=true) {id:Nat} (hnd:ops.toList.all Hr=true) (k:A1 P W T n ops ops.toList env h (Q .normal)):J0 F m P W n N (.region id ops false) env h Q:=
 fun B w0 μ a w hW hB R=>wpIn_region (by
  have:=LM (m:=m) (Q:=fun e a' w'=> ∃env' h' μ',Q e env' h'∧D5 n B w0 μ' env' h' a' w') hF hT hnd (List.range ops.size) (l':=[]) (os:=ops.toList) (by
   apply List.ext_getElem?
   intro i
   simp only [List.getElem?_map,List.getElem?_range]
   rcases Nat.lt_or_ge i ops.size with q|q
   ·rw [List.getElem?_range q];simp [q]
   ·rw [List.getElem?_eq_none (by simpa using q),Array.getElem?_toList,Array.getElem?_eq_none q];rfl) k hW R fun env' h' μ' a' w' q r=>⟨env',h',μ',q,r⟩
  simpa using this)
end
def BP (T:D1) (n:Nat) (h:A5):List Oper→Bd→(Bd→Prop)→Prop
 | [],env,Q=>Q env
 |o::r,env,Q=>o.guard=none∧Cq n o=true∧ ∃x,GE T (ev env) h o=some x∧BP T n h r (env.put o.dst x) Q
theorem BP.q {T:D1} {n:Nat} {h:A5} {d:Tmp} {op:Op} {ty:TypeId} {pos:String} {af:Array Edge} {r:List Oper} {env:Bd} {Q:Bd→Prop} (x:AV) (k:BP T n h r ((d,x)::env) Q)
  (e:GE T (ev env) h ⟨some d,op,ty,pos,af,none⟩=some x:=by kernel_rfl) (hd:d<n:=by exact Nat.le_of_ble_eq_true rfl):BP T n h (⟨some d,op,ty,pos,af,none⟩::r) env Q:=
 ⟨rfl,by simpa [Cq] using hd,x,e,k⟩
theorem BP.p {T:D1} {n:Nat} {h:A5} {d:Tmp} {op:Op} {ty:TypeId} {pos:String} {af:Array Edge} {r:List Oper} {env:Bd} {Q:Bd→Prop} (x:AV)
  (e:GE T (ev env) h ⟨some d,op,ty,pos,af,none⟩=some x) (k:BP T n h r ((d,x)::env) Q) (hd:d<n:=by exact Nat.le_of_ble_eq_true rfl):BP T n h (⟨some d,op,ty,pos,af,none⟩::r) env Q:=
 ⟨rfl,by simpa [Cq] using hd,x,e,k⟩
theorem BP.done {T:D1} {n:Nat} {h:A5} {env:Bd} {Q:Bd→Prop} (k:Q env):BP T n h [] env Q:=k
theorem Gq {F:Fence} {m:Nat} {P:Program} {T:D1} {n:Nat} {ops:Array Oper} {h:A5} (hF:ME F) (hT:C5 P T=true) {Q:Exit→Act→World→Prop} (hnd:ops.toList.all Hr=true):
  ∀(l:List Nat) {l':List Nat} {os:List Oper} {env:Bd} {R:Bd→Prop},l.map (fun i=>ops[i]?)=os.map some→BP T n h os env R→
   ∀ {B:FN} {w0:World} {μ:Mu} {a:Act} {w:World},D5 n B w0 μ env h a w→(∀env' a',R env'→D5 n B w0 μ env' h a' w→wpOpsIn F m P ops Q l' a' w)→wpOpsIn F m P ops Q (l++l') a w
 | [],l',os,env,R,hl,k,B,w0,μ,a,w,rel,hQ=>by
   have:os=[]:=by cases os<;>simp at hl;rfl
   subst this
   exact hQ env a k rel
 |i::l,l',os,env,R,hl,k,B,w0,μ,a,w,rel,hQ=>by
  cases os with
  |nil=>simp at hl
  |cons o os=>
   simp only [List.map_cons,List.cons.injEq] at hl
   obtain ⟨ho,hl⟩:=hl
   have hdf: ∀c,o.op≠ .defer c:=IO (List.all_eq_true.1 hnd o (by
    obtain ⟨hi,e⟩:=Array.getElem?_eq_some_iff.1 ho
    rw [←e];simp))
   obtain ⟨hg,hd,x,he,k⟩:=k
   simp only [List.cons_append,wpOpsIn,ho]
   rw [if_pos (by simp only [Region.wanted,hg])]
   have hdd: ∀t,o.dst=some t→t<n:=by
    intro t ht
    unfold Cq at hd
    rw [ht] at hd
    simpa using hd
   obtain ⟨v,h1,h2⟩:=OQ hT he w0 μ w a.eval rel.sim (fun x _ k y hy=>Qz (fun t _=>rel.env t) hy)
   refine PL hF hdf ?_
   unfold Oper.wp
   rw [h1]
   exact Gq hF hT hnd l hl k (DW hT rel (FI.refl rel.sim).step hdd h2) hQ
theorem EV {F:Fence} {m:Nat} {P:Program} {T:D1} {n:Nat} {ops:Array Oper} {h:A5} {id:Nat} (hF:ME F) (hT:C5 P T=true) {Q:Exit→Act→World→Prop} (hnd:ops.toList.all Hr=true) {env:Bd} {R:Bd→Prop}
  (k:BP T n h ops.toList env R) {B:FN} {w0:World} {μ:Mu} {a:Act} {w:World} (rel:D5 n B w0 μ env h a w) (hQ: ∀env' a',R env'→D5 n B w0 μ env' h a' w→Q .normal a' w):(Code.region id ops false).wpIn F m P Q a w:=
 wpIn_region (by
  have:=Gq (m:=m) (Q:=Q) hF hT hnd (List.range ops.size) (l':=[]) (os:=ops.toList) (by
   apply List.ext_getElem?
   intro i
   simp only [List.getElem?_map,List.getElem?_range]
   rcases Nat.lt_or_ge i ops.size with q|q
   ·rw [List.getElem?_range q];simp [q]
   ·rw [List.getElem?_eq_none (by simpa using q),Array.getElem?_toList,Array.getElem?_eq_none q];rfl) k rel hQ
  simpa using this)
theorem DE {n:Nat} {W w:World} {Y:Nat→Prop} {env:Bd} {a:Act} (hG:Ea W w) (hY: ∀g,Y g→g<w.heap.size) (he: ∀t,VR w (CM Y) (env.get t) (a.tmps.getD t undef)) (hs:a.tmps.size=n) (hd:a.defers=[]):
  D5 n ⟨W,w,CM Y,0⟩ w (CM Y) env ⟨0,[]⟩ a w where
 glob:=hG
 snc:=⟨GI.refl _ _,rfl,fun _ h=>by simp at h,fun _ _=>rfl⟩
 low:=Nat.zero_le _
 sim:={
  below:=Below.refl _ _
  lt:=by intro _ _ h;cases h
  inj:=by intro _ _ _ _ h;cases h
  live:=by intro _ _ _ h;cases h
  ylt:=hY
  blk:=by intro _ _ _ _ h;cases h}
 env:=he
 sz:=hs
 dfr:=hd
 fresh:=fun _ _=>rfl
def J8 (n₀:Nat) (w1:World) (μ1:Mu) (A B:World):Prop:=Below n₀ A B∧ ∀g,g<w1.heap.size→ ¬μ1.mut g→B.heap[g]? =A.heap[g]?
theorem J8.trans {n₀:Nat} {w1:World} {μ1:Mu} {A B C:World} (h:J8 n₀ w1 μ1 A B) (k:J8 n₀ w1 μ1 B C):J8 n₀ w1 μ1 A C:=
 ⟨h.1.trans k.1,fun g hg hm=>(k.2 g hg hm).trans (h.2 g hg hm)⟩
theorem J8.put {n₀:Nat} {w1:World} {μ1:Mu} (hn:n₀≤w1.heap.size) (W:World) (l:Nat) (o o':Go.Obj) (hl:w1.heap.size≤l) (h:W.heap[l]? =some o) (h1:o.isCells=false) (h2:o.isWalk=false):J8 n₀ w1 μ1 W (W.putObj l o'):=
 ⟨belowK_b hn W l o o' hl h h1 h2,fun g hg _=>World.putObj_heap_other (by omega)⟩
def Yb (w1:World) (μ1:Mu) (W:World):Nat→Prop:=fun g=>(μ1.mut g∨w1.heap.size≤g)∧g<W.heap.size
def En (w1:World) (μ1:Mu) (W:World):Prop:=w1.heap.size≤W.heap.size∧ ∀g,g<w1.heap.size→ ¬μ1.mut g→W.heap[g]? =w1.heap[g]?
theorem En.rd {w1 W:World} {μ1:Mu} (h:En w1 μ1 W) (a:Addr) (u:Value) (k:Rd w1 μ1 a u):Rd W (CM (Yb w1 μ1 W)) a u:=by
 obtain ⟨h1,h2,h3⟩:=k
 have hl:=Hl h1
 refine ⟨by rw [Di (h.2 _ hl h2)];exact h1,?_,h3⟩
 rintro (⟨q|q,_⟩|⟨_,_,q,_⟩)
 ·exact h2 q
 ·omega
 ·cases q
theorem En.step {w1 W W':World} {μ1:Mu} (h:En w1 μ1 W) {n₀:Nat} (k:J8 n₀ w1 μ1 W W'):En w1 μ1 W':=
 ⟨Nat.le_trans h.1 k.1.size,fun g hg hm=>(k.2 g hg hm).trans (h.2 g hg hm)⟩
theorem En.below {w1 W:World} {μ1:Mu} (h:Below w1.heap.size w1 W):En w1 μ1 W:=⟨h.size,fun g hg _=>h.block g hg⟩
theorem Vb {w1 W W':World} {μ1:Mu} {n₀:Nat} (k:J8 n₀ w1 μ1 W W') (a:Addr) (u:Value) (h:Rd W (CM (Yb w1 μ1 W)) a u):Rd W' (CM (Yb w1 μ1 W')) a u:=by
 obtain ⟨h1,h2,h3⟩:=h
 have hl:=Hl h1
 have hg:a.block<w1.heap.size∧ ¬μ1.mut a.block:=by
  refine ⟨?_,fun q=>h2 (Or.inl ⟨Or.inl q,hl⟩)⟩
  rcases Nat.lt_or_ge a.block w1.heap.size with q|q
  ·exact q
  ·exact absurd (Or.inl ⟨Or.inr q,hl⟩) h2
 refine ⟨by rw [Di (k.2 _ hg.1 hg.2)];exact h1,?_,h3⟩
 rintro (⟨q|q,_⟩|⟨_,_,q,_⟩)
 ·exact hg.2 q
 ·omega
 ·cases q
theorem MO: ∀ {env:Bd},(env.all fun p=>closed p.2)=true→ ∀t,closed (env.get t)=true
 | [],_,t=>rfl
 |(q,x)::r,h,t=>by
  simp only [List.all_cons,Bool.and_eq_true] at h
  have ih:=MO (env:=r) h.2 t
  unfold Bd.get at ih ⊢
  rw [Bj]
  split
  ·exact h.1
  ·exact ih
theorem OD {n:Nat} {w1 W W':World} {μ1:Mu} {n₀:Nat} {B:FN} {w0:World} {h:A5} {env:Bd} {a:Act} (k:J8 n₀ w1 μ1 W W') (R:D5 n B w0 (CM (Yb w1 μ1 W)) env h a W) (hc:(env.all fun p=>closed p.2)=true) (t:Nat):
  VR W' (CM (Yb w1 μ1 W')) (env.get t) (a.tmps.getD t undef):=
 CE _ _ (Ch (Vb k) _ _ (Bh _ _ (MO hc t) (R.env t)))
def Li (env:Bd):Bd→Prop
 | []=>True
 |(t,x)::r=>env.get t=x∧Li env r
theorem Ow {w:World} {μ:Mu} {env:Bd} {f:Nat→Value} (k: ∀t,VR w μ (env.get t) (f t)): ∀ {env':Bd},Li env env'→ ∀t,VR w μ (env'.get t) (f t)
 | [],_,t=>by show VR w μ .und _;simp only [VR]
 |(q,x)::r,h,t=>by
  have ih:=Ow k (env':=r) h.2 t
  unfold Bd.get at ih ⊢
  rw [Bj]
  split
  ·rename_i e;rw [e];have:=k q;rw [h.1] at this;exact this
  ·exact ih
theorem D5.sub {n:Nat} {B:FN} {w0 w:World} {μ:Mu} {env env':Bd} {h:A5} {a:Act} (R:D5 n B w0 μ env h a w) (k:Li env env'):D5 n B w0 μ env' h a w:=
 ⟨R.glob,R.snc,R.low,R.sim,Ow R.env k,R.sz,R.dfr,R.fresh⟩
theorem GU {F:Fence} {m:Nat} {P:Program} {ops:Array Oper} {Q:Exit→Act→World→Prop} {i:Nat} {rest:List Nat} {o:Oper} {a:Act} {w:World} (ho:ops[i]? =some o) (hg:o.guard=none)
  (k:o.wpIn F m P a w (wpOpsIn F m P ops Q rest) Q):wpOpsIn F m P ops Q (i::rest) a w:=by
 simp only [wpOpsIn,ho]
 rw [if_pos (by simp only [Region.wanted,hg])]
 exact k
theorem NS {F:Fence} {m:Nat} {P:Program} {o:Oper} {a:Act} {w:World} {K:Act→World→Prop} {Q:Exit→Act→World→Prop} {l f:Nat} {tm:Array Value} {asg bd:Code} {R:Ending→World→Prop} (hF:ME F) (hd:Hr o=true)
  (hrun:(execOp a.eval o).run P w= .ok (.round l f tm asg bd) w) (k:RoundIn F (m-1) P l f tm asg bd w R) (hK: ∀e w',R e w'→ ∃v,e= .returned v∧K (a.put o.dst v) w'):o.wpIn F m P a w K Q:=
 ⟨fun f _=>hF.fn f,by
   rw [Oper.semAt_eq _ _ _ (IO hd),hrun]
   exact ⟨hF.depth _,k.mono fun e w' r=>by obtain ⟨v,rfl,q⟩:=hK e w' r;exact q⟩⟩
def Ox (out:ByteArray) (v:Value):Prop:= ∃t y,v= .agg #[.string out,.int .i64 t,y]∧out.size≤Eb∧((∃s,y= .string s)∨ ∃p n c,y= .slice p n c)
def back (n j:Nat):List Nat:=(List.range j).map (fun i=>n-1-i)
theorem JO (n j:Nat):back n (j+1)=back n j++[n-1-j]:=by simp [back,List.range_succ]
end
end Go.Lift
namespace Go.Lift
noncomputable section
open Go Go.RowKit
def Mz (P:Program) (W:World) (n N:Nat) (c:Code) (Q:D2):Nat→Bd→A5→Prop
 |0,_,_=>False
 |m+1,env,h=>A7 P W n N c env h (D2.then (Mz P W n N c Q m) Q)
theorem Mz.next {P:Program} {W:World} {n N:Nat} {c:Code} {Q:D2} {m:Nat} {env:Bd} {h:A5} (k:A7 P W n N c env h (D2.then (Mz P W n N c Q m) Q)):Mz P W n N c Q (m+1) env h:=k
theorem RE {P:Program} {W:World} {n N:Nat} {c:Code} {Q:D2} (m:Nat) {env:Bd} {h:A5} (k:Mz P W n N c Q m env h):A7 P W n N (.loop c) env h Q:=
 fun B w0 μ a w hW hB R=>GZ (fun k a w=> ∃env h μ,Mz P W n N c Q k env h∧D5 n B w0 μ env h a w) (k0:=m) ⟨env,h,μ,k,R⟩ fun k a w ⟨env,h,μ,hI,R⟩=>by
  cases k with
  |zero=>exact hI.elim
  |succ k=>
   refine wp_mono (hI B w0 μ a w hW hB R) fun e a' w' hh=> ?_
   obtain ⟨env',h',μ',q,r⟩:=hh
   cases e with
   |normal=>exact ⟨k,Nat.lt_succ_self k,env',h',μ',q,r⟩
   |_=>exact ⟨env',h',μ',q,r⟩
theorem JM {P:Program} {W:World} {f:FuncId} {xs:List AV} {r r':AV} {S:List Obj} (k:Ac P W f xs r S) (e:r=r'):Ac P W f xs r' S:=e ▸ k
def PN (h:A5):Prop:= ∀id o,h.get id=some o→o.els.all LI=true
theorem DY.keep {w0 W W':World} {μ:Mu} {h:A5} (s:DY w0 μ W h) (hp:PN h) (hb:Below w0.heap.size W W') (hk: ∀id sl,μ id=some (some sl)→W'.heap[sl.g]? =W.heap[sl.g]?):DY w0 μ W' h where
 below:=s.below.trans hb
 lt:=fun id sl e=>⟨(s.lt id sl e).1,Nat.lt_of_lt_of_le (s.lt id sl e).2 hb.size⟩
 inj:=s.inj
 live:=s.live
 ylt:=s.ylt
 blk:=fun id o sl ho e=>by
  have B:=s.blk id o sl ho e
  obtain ⟨cs,h1,h2,h3⟩:=B.blk
  refine ⟨B.k,B.pos,B.len,B.cap,cs,by rw [hk id sl e];exact h1,h2,fun j x hx=> ?_⟩
  obtain ⟨q1,q2⟩:=h3 j x hx
  refine ⟨q1,fun i y hy=> ?_⟩
  obtain ⟨u,u1,u2,u3⟩:=q2 i y hy
  exact ⟨u,u1,TK (PO (List.all_eq_true.1 (hp id o ho) x (List.mem_of_getElem? hx)) hy) u2,u3⟩
theorem DY.grown {w0 W W':World} {μ:Mu} {h:A5} {row:Option Nat} (s:DY w0 μ W h) (hp:PN h) (hlive: ∀id sl,μ id=some (some sl)→ ∃o,h.get id=some o) (hg:W.grownBy W' row)
  (hr: ∀r,row=some r→w0.heap.size≤r∧ ∃o:Go.Obj,W.heap[r]? =some o∧o.isCells=false):DY w0 μ W' h:=
 s.keep hp ((Below.refl _ W).grown hg s.below.size (fun k e=>(hr k e).1)) fun id sl e=>hg.block _ (s.lt id sl e).2 (fun q=>by
  obtain ⟨o,ho⟩:=hlive id sl e
  obtain ⟨cs,h1,_⟩:=(s.blk id o sl ho e).blk
  obtain ⟨_,o',h2,h3⟩:=hr _ q.symm
  rw [h1] at h2;cases h2;cases h3)
theorem En.grown {w1 W W':World} {μ1:Mu} {row:Option Nat} (S:En w1 μ1 W) (hg:W.grownBy W' row) (hr: ∀r,row=some r→w1.heap.size≤r):En w1 μ1 W':=
 ⟨Nat.le_trans S.1 hg.size,fun g hl hm=>(hg.block g (Nat.lt_of_lt_of_le hl S.1) (fun q=>by have:=hr g q.symm;omega)).trans (S.2 g hl hm)⟩
theorem ND {w0 W W3:World} {μ μ3:Mu} {h h3:A5} (e:GI W μ W3 μ3) (s:DY w0 μ W h) (s3:DY w0 μ3 W3 h3) (hlive: ∀id sl,μ id=some (some sl)→μ3 id=some (some sl)):W.heap.size≤W3.heap.size:=by
 rcases Nat.lt_or_ge W3.heap.size W.heap.size with q|q
 ·exfalso
  by_cases hm:μ.mut W3.heap.size
  ·rcases hm with y|⟨id,sl,e1,e2⟩
   ·have:=s.ylt _ y;have:=s3.below.size;omega
   ·have:=(s3.lt id sl (hlive id sl e1)).2;omega
  ·have:=e.bl _ q hm
   rw [Array.getElem?_eq_none (Nat.le_refl _),Array.getElem?_eq_getElem q] at this;cases this
 ·exact q
theorem SK {n:Nat} {V W2 w0 W3:World} {μ1 μ3:Mu} {env:Bd} {h3:A5} {a:Act} (R:D5 n ⟨V,W2,μ1,2⟩ w0 μ3 env h3 a W3) (hn:h3.next=2) (hl: ∀id,id<2→ ∃o,h3.get id=some o):μ3=μ1:=by
 have hf:μ3.f=μ1.f:=by
  funext id
  rcases Nat.lt_or_ge id 2 with q|q
  ·cases e:μ1 id with
   |none=>exact R.snc.dom id q e
   |some s=>
    rcases R.snc.ext.mu id s e with k|k
    ·exact k
    ·obtain ⟨o,ho⟩:=hl id q
     exact absurd k (R.sim.live id o ho)
  ·exact (R.fresh id (by rw [hn];exact q)).trans (R.snc.top id q).symm
 have hy:μ3.Y=μ1.Y:=R.snc.y
 cases μ3;cases μ1;simp only at hf hy;rw [hf,hy]
theorem Rx {F:Fence} {m:Nat} {P:Program} {T:D1} (hF:ME F) (hT:C5 P T=true) {o:Oper} {env:Bd} {h h':A5} {x:AV} (e:M8 T (ev env) h o=some (x,h')) (hnd:Hr o=true) (hd:o.dst=none)
  {w0 W:World} {μ:Mu} {a:Act} (s:DY w0 μ W h) (hf: ∀id,h.next≤id→μ id=none) (henv: ∀t,VR W μ (env.get t) (a.tmps.getD t undef)) {K:Act→World→Prop} {Q:Exit→Act→World→Prop}
  (hK: ∀w' μ',Kg w0 μ W h μ' w' h'→K a w'):o.wpIn F m P a W K Q:=by
 refine PL hF (IO hnd) ?_
 obtain ⟨v,w',μ',h1,h2,h3⟩:=Uy hT e w0 μ W a.eval s hf (fun x _ k y hy=>Qz (fun t _=>henv t) hy)
 unfold Oper.wp
 rcases h1 with h1|⟨h1,rfl⟩
 ·rw [h1];show K (a.put o.dst v) w';rw [hd];exact hK _ _ h3
 ·rw [h1];show K (a.put o.dst undef) w';rw [hd];exact hK _ _ h3
theorem QI {F:Fence} {n m:Nat} {P:Program} {T:D1} (hT:C5 P T=true) {fn:Func} {w0 W3:World} {μ1:Mu} {h3:A5} {D:Nat} {tmps:Array Value} {R:Ending→World→Prop} {env:Bd} {x:AV}
  (hK:W3.heap[D]? =some (.deferred (some []))) (hs:DY w0 μ1 W3 h3) (hp:PN h3) (hlive: ∀id sl,μ1 id=some (some sl)→ ∃o,h3.get id=some o) (hf: ∀id,h3.next≤id→μ1 id=none) (hD:w0.heap.size≤D)
  (henv: ∀W t,VR W μ1 (env.get t) (tmps.getD t undef)) (hsz:tmps.size=m) (hres:Ny T env h3 fn.results.toList=some x) (hR: ∀v W4,VR W4 μ1 x v→Below w0.heap.size w0 W4→R (.returned v) W4):
  LeavesInM F n P fn tmps R [{target:= .collected D,args:= #[]}] .returning W3:=by
 refine ⟨by simp,.inl ⟨D,_,rfl,run_takeDeferred hK,?_⟩⟩
 have hs4:DY w0 μ1 (W3.putObj D (.deferred none)) h3:=hs.grown hp hlive (grownBy_putObj' _ _ _) (fun r e=>by cases e;exact ⟨hD,_,hK,rfl⟩)
 have R4:D5 m ⟨w0,W3.putObj D (.deferred none),μ1,h3.next⟩ w0 μ1 env h3 {tmps:=tmps,defers:=[]} (W3.putObj D (.deferred none)):=
  ⟨Ea.refl _,⟨GI.refl _ _,rfl,fun _ _ h=>h,hf⟩,Nat.le_refl _,hs4,henv _,hsz,rfl,hf⟩
 obtain ⟨v,e1,e2⟩:=LN hT R4 hres
 exact ⟨v,e1,hR v _ e2 hs4.below⟩
def My (a b:Obj):A5:=⟨2,[(1,some b),(0,some a)]⟩
theorem JD (a b:Obj): ∀id,id<2→ ∃o,(My a b).get id=some o
 |0,_=>⟨a,rfl⟩
 |1,_=>⟨b,rfl⟩
theorem two_get {a b o:Obj} {id:Nat} (h:(My a b).get id=some o):o=a∨o=b:=by
 have:=GK h
 match id,this with
 |0,_=>exact Or.inl (by cases h;rfl)
 |1,_=>exact Or.inr (by cases h;rfl)
theorem EX {a b:Obj} (ha:a.els.all LI=true) (hb:b.els.all LI=true):PN (My a b):=fun id o h=>by
 rcases two_get h with rfl|rfl<;>assumption
theorem HF {a b:Obj} {μ:Mu} (hf: ∀id,2≤id→μ id=none): ∀id sl,μ id=some (some sl)→ ∃o,(My a b).get id=some o:=fun id sl e=>by
 rcases Nat.lt_or_ge id 2 with q|q
 ·exact JD a b id q
 ·rw [hf id q] at e;cases e
theorem Rl {w0 W:World} {μ:Mu} {h:A5} (s:DY w0 μ W h) {id:Nat} {e k:Nat} {fs:List AV} {v:Value} (ho:h.get id=some ⟨e,k,[.st fs]⟩) (hv:VR W μ (.loc id 0 0) v) (out:ByteArray) (r:List AV) (hfs:fs= .s out::r) (hr:r.length=2):
  ∃p,v= .pointer (some p)∧w0.heap.size≤p.block∧AU W (CM fun _=>False) [.s out,.und,.und] p:=by
 simp only [VR] at hv
 cases e1:μ id with
 |none=>rw [e1] at hv;exact hv.elim
 |some x=>
  cases x with
  |none=>exact absurd e1 (s.live id _ ho)
  |some sl=>
   rw [e1] at hv
   simp only at hv
   have B:=s.blk id _ sl ho e1
   obtain ⟨cs,h1,h2,h3⟩:=B.blk
   obtain ⟨q1,q2⟩:=h3 0 (.st fs) rfl
   refine ⟨_,hv,(s.lt id sl e1).1,?_⟩
   have cell: ∀i y,fs[i]? =some y→ ∃u,Rd W (CM fun _=>False) (Addr.add ⟨sl.g,0*sl.k+0,none⟩ i) u∧VR W μ y u:=by
    intro i y hy
    obtain ⟨u,u1,u2,u3⟩:=q2 i y hy
    refine ⟨u,⟨?_,?_,u3⟩,u2⟩
    ·rw [CN]
     simp only [World.cell?,h1]
     simpa using u1
    ·rintro (q|⟨_,_,q,_⟩)
     ·exact q
     ·cases q
   subst hfs
   match r,hr with
   | [y1,y2],_=>
     obtain ⟨u0,c0,d0⟩:=cell 0 (.s out) rfl
     obtain ⟨u1,c1,_⟩:=cell 1 y1 rfl
     obtain ⟨u2,c2,_⟩:=cell 2 y2 rfl
     simp only [VR] at d0
     simp only [AU]
     refine ⟨⟨u0,by simpa [Addr.add] using c0,d0⟩,⟨u1,c1,by simp only [CR]⟩,⟨u2,by rw [Fe];exact c2,by simp only [CR]⟩,trivial⟩
end
end Go.Lift
namespace Go.Lift
noncomputable section
open Go Go.RowKit
section
variable {ts:List Nat} {env:Bd} {h:A5}
theorem Fb {m x:Bool} (hx:Bm ts env= .b x) (hm:m=x):SU ts (.b m) .ret env h:=⟨Or.inr rfl,by rw [hx,hm];exact AW.c rfl rfl⟩
theorem Fi {k:IntKind} {m x:Int} (hx:Bm ts env= .i k x) (hm:m=x):SU ts (.i k m) .ret env h:=⟨Or.inr rfl,by rw [hx,hm];exact AW.c rfl rfl⟩
theorem Fs {m x:ByteArray} (hx:Bm ts env= .s x) (hm:m=x):SU ts (.s m) .ret env h:=⟨Or.inr rfl,by rw [hx,hm];exact AW.c rfl rfl⟩
theorem Fbi {k:IntKind} {m:Bool×Int} {x:Bool} {y:Int} (hx:Bm ts env= .tup [.b x,.i k y]) (hm:m=(x,y)):SU ts (.tup [.b m.1,.i k m.2]) .ret env h:=⟨Or.inr rfl,by rw [hx,hm];exact AW.c rfl rfl⟩
theorem Fsi {k:IntKind} {m:ByteArray×Int} {x:ByteArray} {y:Int} (hx:Bm ts env= .tup [.s x,.i k y]) (hm:m=(x,y)):SU ts (.tup [.s m.1,.i k m.2]) .ret env h:=⟨Or.inr rfl,by rw [hx,hm];exact AW.c rfl rfl⟩
end
theorem accV_e {α:Type} {A:α→AV} {xs:List α} (h:xs=[]) (p k:Nat):Bk p k A xs= .sl k true []:=by rw [h];rfl
theorem accO_e {α:Type} {A:α→AV} {xs:List α} (h:xs=[]) (e k:Nat):J1 e k A xs=none:=by rw [h];rfl
theorem MY {no:List Nat} {h:A5} {d:Nat}: ∀ {xs:List AV},A6 xs=true→A9 no h (d+1) xs xs
 | [],_=>A9.nil
 |x::xs,hc=>by
  simp only [A6,Bool.and_eq_true] at hc
  exact A9.cons (Av hc.1) (MY hc.2)
theorem CC {no:List Nat} {h:A5} {d:Nat} {α:Type} (A:α→AV) (x:α) {id e k:Nat} (hn:no.contains id=false) (hg:h.get id=some ⟨e,k,[A x]⟩) (hc:A6 (A x).cells=true):Ab no h (d+2) (.loc id 0 0) (.pt (A x).cells):=
 Ab.loc hn hg rfl (by rw [List.drop_zero];exact MY hc)
end
end Go.Lift
