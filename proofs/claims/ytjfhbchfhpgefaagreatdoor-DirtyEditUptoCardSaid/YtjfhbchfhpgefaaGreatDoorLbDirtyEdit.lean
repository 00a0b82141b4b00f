/-
  Lemmas of this claim: a layer over the kit's calls, contracts of the functions that the law reaches, and the law's row. No condition of its own.
-/
import Derived.Test.YtjfhbchfhpgefaaGreatDoorLaDirtyEdit
import Derived.Scope
import Derived.Laws.AppendOwn
import Derived.Lib.Split
import Derived.Shelf.GgClosure.StringsIndexFuncTop
import Derived.Laws.RangeAny
import Derived.Lib.Join
import Derived.Lib.SlicesS
import Derived.Sort.Row
import Derived.Sort.Grow
import Derived.Sort.EncStr
import Derived.Lib.SlicesCompact
import Derived.WalkKit
import Derived.ChangeSame
import Derived.RowKit3
import Derived.Carry
import Derived.OpenShut
import Derived.Deep.DeepHandedRow
import Derived.Shelf.Vars
import Derived.ChangeArms
import Derived.ChangeMaps5
import Derived.WideShapes
import Derived.MapKept
import Derived.RangeFuncNested
import Derived.RangeFuncLeaves
import Derived.RangeFuncCalls
set_option linter.unusedSimpArgs false
set_option linter.unusedVariables false
set_option linter.unusedSectionVars false
set_option linter.defProp false
namespace Go.Lift
noncomputable section
open Go Go.RowKit
def DJ:List Nat→Nat→Option Nat
 | [],_=>none
 |i::r,id=>if id=i then some 0 else (DJ r id).map (· +1)
theorem LT: ∀ {keep:List Nat} {id p:Nat},DJ keep id=some p→keep[p]? =some id
 | [],_,_,h=>by simp [DJ] at h
 |i::r,id,p,h=>by
  simp only [DJ] at h
  split at h
  ·rename_i e;cases h;simp [e]
  ·obtain ⟨q,hq,rfl⟩:=Option.map_eq_some_iff.1 h
   simpa using LT hq
def B4 (keep:List Nat) (h:A4):Nat→AV→Option AV
 |0,x=>if closed x then some x else none
 |d+1,.own id off len=>match DJ keep id with
  |some p=>some (.own p off len)
  |none=>AX keep h (d+1) (.own id off len)
 |d+1,.loc id j o=>match DJ keep id with
  |some p=>some (.loc p j o)
  |none=>AX keep h (d+1) (.loc id j o)
 |d+1,.st fs=>(mapC (B4 keep h d) fs).map .st
 |d+1,.tup fs=>(mapC (B4 keep h d) fs).map .tup
 |d+1,.fn f fs=>(mapC (B4 keep h d) fs).map (.fn f)
 |_+1,x=>some x
def GV (keep:List Nat) (h:A4) (d:Nat) (o:Obj):Option Obj:=(mapC (B4 keep h d) o.els).map fun ys=>⟨o.e,o.k,ys⟩
def Mu.fin (μ:Mu) (keep:List Nat):Mu:=⟨fun p=>(keep[p]?).bind μ.f,μ.Y⟩
theorem DT (μ:Mu) (keep:List Nat):QJ μ (μ.fin keep) keep:=by
 rintro g (hy|⟨p,s,hs,rfl⟩)
 ·exact Or.inl hy
 ·dsimp only [Mu.fin] at hs
  obtain ⟨id,h1,h2⟩:=Option.bind_eq_some_iff.1 hs
  exact Or.inr ⟨id,List.mem_of_getElem? h1,s,h2,rfl⟩
section
variable {w0 w:World} {μ:Mu} {h:A4} (s:DE w0 μ w h) (keep:List Nat)
include s
theorem KR {f:AV→Option AV} (hf: ∀x y v,f x=some y→VR w μ x v→VR w (μ.fin keep) y v) {xs ys:List AV} (h:mapC f xs=some ys) {vs:List Value} (hv:BR w μ xs vs):BR w (μ.fin keep) ys vs:=by
 unfold mapC at h
 split at h
 ·rename_i hc
  cases h
  exact BL _ _ (E7 (C9 (DT μ keep).less) _ _ (C2 _ _ hc hv))
 ·rename_i hc
  clear hc
  induction xs generalizing ys vs with
  |nil=>simp [EP] at h;subst h;simpa only [BR] using hv
  |cons x xs ih=>
   simp only [EP] at h
   split at h
   ·rename_i y zs h1 h2
    cases h
    simp only [BR] at hv
    obtain ⟨v,r,rfl,k1,k2⟩:=hv
    simp only [BR]
    exact ⟨v,r,rfl,hf x y v h1 k1,ih k2 h2⟩
   ·cases h
theorem BO {x:AV} {v:Value} (hc:closed x=true) (hv:VR w μ x v):VR w (μ.fin keep) x v:=
 Cx _ _ (Bs (C9 (DT μ keep).less) _ _ (Be _ _ hc hv))
theorem Gl: ∀(d:Nat) (x y:AV) (v:Value),B4 keep h d x=some y→VR w μ x v→VR w (μ.fin keep) y v
 |0,x,y,v,e,hv=>by
  simp only [B4] at e
  split at e
  ·rename_i hc;cases e;exact BO s keep hc hv
  ·cases e
 |d+1,.own id off len,y,v,e,hv=>by
  simp only [B4] at e
  split at e
  ·rename_i p hp
   cases e
   have hg:=LT hp
   simp only [VR] at hv ⊢
   have:(μ.fin keep) p=μ id:=by dsimp only [Mu.fin];rw [hg];rfl
   rw [this];exact hv
  ·exact Cx _ _ (G0 s (DT μ keep) (d+1) _ y v e hv)
 |d+1,.loc id j o,y,v,e,hv=>by
  simp only [B4] at e
  split at e
  ·rename_i p hp
   cases e
   have hg:=LT hp
   simp only [VR] at hv ⊢
   have:(μ.fin keep) p=μ id:=by dsimp only [Mu.fin];rw [hg];rfl
   rw [this];exact hv
  ·exact Cx _ _ (G0 s (DT μ keep) (d+1) _ y v e hv)
 |d+1,.st fs,y,v,e,hv=>by
  simp only [B4] at e
  obtain ⟨zs,h1,rfl⟩:=Option.map_eq_some_iff.1 e
  simp only [VR] at hv ⊢
  obtain ⟨cs,e,k⟩:=hv
  exact ⟨cs,e,KR s keep (fun x y v=>Gl d x y v) h1 k⟩
 |d+1,.tup fs,y,v,e,hv=>by
  simp only [B4] at e
  obtain ⟨zs,h1,rfl⟩:=Option.map_eq_some_iff.1 e
  simp only [VR] at hv ⊢
  obtain ⟨cs,e,k⟩:=hv
  exact ⟨cs,e,KR s keep (fun x y v=>Gl d x y v) h1 k⟩
 |d+1,.fn f fs,y,v,e,hv=>by
  simp only [B4] at e
  obtain ⟨zs,h1,rfl⟩:=Option.map_eq_some_iff.1 e
  simp only [VR] at hv ⊢
  obtain ⟨cs,e,k⟩:=hv
  exact ⟨cs,e,KR s keep (fun x y v=>Gl d x y v) h1 k⟩
 |d+1,.und,y,v,e,hv=>by simp only [B4] at e;cases e;exact BO s keep rfl hv
 |d+1,.b _,y,v,e,hv=>by simp only [B4] at e;cases e;exact BO s keep rfl hv
 |d+1,.i _ _,y,v,e,hv=>by simp only [B4] at e;cases e;exact BO s keep rfl hv
 |d+1,.s _,y,v,e,hv=>by simp only [B4] at e;cases e;exact BO s keep rfl hv
 |d+1,.sl _ _ _,y,v,e,hv=>by simp only [B4] at e;cases e;exact BO s keep rfl hv
 |d+1,.pt _,y,v,e,hv=>by simp only [B4] at e;cases e;exact BO s keep rfl hv
 |d+1,.nilp,y,v,e,hv=>by simp only [B4] at e;cases e;exact BO s keep rfl hv
 |d+1,.nilf,y,v,e,hv=>by simp only [B4] at e;cases e;exact BO s keep rfl hv
 |d+1,.raw _,y,v,e,hv=>by simp only [B4] at e;cases e;exact BO s keep rfl hv
omit s in
theorem Vs {hh:A4} {d:Nat} {x y:AV} (h:B4 keep hh d x=some y) (hx:x.cells=[x]):y.cells=[y]:=by
 cases d with
 |zero=>simp only [B4] at h;split at h<;>cases h;exact hx
 |succ d=>
  cases x with
  |st fs=>
   exfalso
   simp only [AV.cells] at hx
   have h1:SizeOf.sizeOf fs=SizeOf.sizeOf [AV.st fs]:=congrArg SizeOf.sizeOf hx
   simp at h1;omega
  |own id off len=>
   simp only [B4] at h
   split at h
   ·cases h;rfl
   ·exact LY h rfl
  |loc id j o=>
   simp only [B4] at h
   split at h
   ·cases h;rfl
   ·exact LY h rfl
  |tup fs=>simp only [B4] at h;obtain ⟨zs,_,rfl⟩:=Option.map_eq_some_iff.1 h;rfl
  |fn f fs=>simp only [B4] at h;obtain ⟨zs,_,rfl⟩:=Option.map_eq_some_iff.1 h;rfl
  |_=>simp only [B4] at h;cases h;rfl
theorem Vk {d:Nat} {x y:AV} (hxy:(closed x=true∧y=x)∨B4 keep h d x=some y) {vs:List Value} (hv:BR w μ x.cells vs):BR w (μ.fin keep) y.cells vs:=by
 have hcl: ∀xs:List AV,A6 xs=true→ ∀vs,BR w μ xs vs→BR w (μ.fin keep) xs vs:=fun xs hc vs hv=>
  BL _ _ (E7 (C9 (DT μ keep).less) _ _ (C2 _ _ hc hv))
 by_cases hx: ∃fs,x= .st fs
 ·obtain ⟨fs,rfl⟩:=hx
  rcases hxy with ⟨hc,rfl⟩|hxy
  ·simp only [closed] at hc
   exact hcl _ hc _ hv
  ·cases d with
   |zero=>
    simp only [B4] at hxy
    split at hxy
    ·rename_i hc;cases hxy
     simp only [closed] at hc
     exact hcl _ hc _ hv
    ·cases hxy
   |succ d=>
    simp only [B4] at hxy
    obtain ⟨zs,h1,rfl⟩:=Option.map_eq_some_iff.1 hxy
    exact KR s keep (fun x y v=>Gl s keep d x y v) h1 hv
 ·have hc:x.cells=[x]:=by cases x<;>first|rfl|exact absurd ⟨_,rfl⟩ hx
  rw [hc] at hv
  simp only [BR] at hv
  obtain ⟨v,r,rfl,h1,rfl⟩:=hv
  rcases hxy with ⟨hcl,rfl⟩|hxy
  ·rw [hc]
   simp only [BR]
   exact ⟨v,[],rfl,BO s keep hcl h1,rfl⟩
  ·rw [Vs keep hxy hc]
   simp only [BR]
   exact ⟨v,[],rfl,Gl s keep d x y v hxy h1,rfl⟩
theorem PP {d:Nat} {o o':Obj} {sl:Kz} (he:GV keep h d o=some o') (B:Iz w μ o sl):Iz w (μ.fin keep) o' sl:=by
 unfold GV at he
 obtain ⟨ys,e1,rfl⟩:=Option.map_eq_some_iff.1 he
 obtain ⟨m1,m2⟩:=RK e1
 obtain ⟨cs,c1,c2,c3⟩:=B.blk
 refine ⟨B.k,B.pos,by simp only [m1];exact B.len,B.cap,cs,c1,c2,fun j y hy=> ?_⟩
 have hj:j<o.els.length:=by have:=(List.getElem?_eq_some_iff.1 hy).1;simp only at this;omega
 have hxs:o.els[j]? =some o.els[j]:=List.getElem?_eq_getElem hj
 obtain ⟨y',y1,y2⟩:=m2 j _ hxs
 simp only at hy ⊢
 rw [hy] at y1;cases y1
 obtain ⟨q1,q2⟩:=c3 j _ hxs
 have hk:j*o.k+o.k≤cs.size:=by
  have h1:j*o.k+o.k≤o.els.length*o.k:=by
   have:=Nat.mul_le_mul_right o.k (Nat.succ_le_of_lt hj)
   rw [Nat.succ_mul] at this;exact this
  have h2:o.els.length*o.k≤cs.size:=by rw [c2];exact Nat.mul_le_mul_right _ B.len
  omega
 have hvs:BR w μ (o.els[j]).cells ((cs.toList.drop (j*o.k)).take o.k):=by
  refine En (by simp only [List.length_take,List.length_drop,Array.length_toList];omega) fun i z v hz hv=> ?_
  obtain ⟨u,u1,u2,_⟩:=q2 i z hz
  rw [List.getElem?_take] at hv
  split at hv
  ·rw [List.getElem?_drop] at hv
   have:cs.toList[j*o.k+i]? =some u:=by simpa using u1
   rw [this] at hv;cases hv;exact u2
  ·cases hv
 have hys:=Vk s keep y2 hvs
 have hlen:y.cells.length=o.k:=by
  rw [←C3 hys];simp only [List.length_take,List.length_drop,Array.length_toList];omega
 refine ⟨hlen,fun i z hz=> ?_⟩
 have hi:i<o.k:=by have:=(List.getElem?_eq_some_iff.1 hz).1;omega
 obtain ⟨u,u1,u2⟩:=Eh hys i z hz
 rw [List.getElem?_take,if_pos hi,List.getElem?_drop] at u1
 obtain ⟨u',v1,_,v3⟩:=q2 i _ (List.getElem?_eq_getElem (by omega))
 have:cs.toList[j*o.k+i]? =some u':=by simpa using v1
 rw [this] at u1;cases u1
 exact ⟨_,v1,u2,v3⟩
end
def A0 (keep:List Nat) (h h':A4):Nat→List Nat→Prop
 |_,[]=>True
 |p,id::r=>(h.get id).bind (GV keep h 9)=h'.get p∧A0 keep h h' (p+1) r
def JA (keep:List Nat) (h:A4) (env:Ba):Ba→Prop
 | []=>True
 |(t,x)::r=>B4 keep h 9 (env.get t)=some x∧JA keep h env r
structure UU (keep:List Nat) (env:Ba) (h:A4) (env':Ba) (h':A4):Prop where
 nodup:keep.Nodup
 next:h'.next=keep.length
 objs:A0 keep h h' 0 keep
 vars:JA keep h env env'
theorem Ic {keep:List Nat} {h h':A4}: ∀ {l:List Nat} {q:Nat},A0 keep h h' q l→ ∀p id,l[p]? =some id→(h.get id).bind (GV keep h 9)=h'.get (q+p)
 | [],q,_,p,id,hp=>by simp at hp
 |i::r,q,k,p,id,hp=>by
  simp only [A0] at k
  cases p with
  |zero=>simp at hp;subst hp;exact k.1
  |succ p=>
   simp at hp
   have:=Ic k.2 p id hp
   rwa [show q+1+p=q+(p+1) by omega] at this
theorem M4 {keep:List Nat} {h:A4} {env:Ba}: ∀ {env':Ba},JA keep h env env'→ ∀t,env'.get t= .und∨B4 keep h 9 (env.get t)=some (env'.get t)
 | [],_,t=>Or.inl rfl
 |(t',x)::r,k,t=>by
  simp only [JA] at k
  unfold Ba.get
  simp only [Bi]
  by_cases ht:t=t'
  ·subst ht;right;simpa [Ba.get] using k.1
  ·rw [if_neg ht];exact M4 k.2 t
theorem LO: ∀ {keep:List Nat} (_:keep.Nodup) {p q id:Nat} (_:keep[p]? =some id) (_:keep[q]? =some id),p=q
 | [],_,p,q,id,hp,hq=>by simp at hp
 |i::r,hn,p,q,id,hp,hq=>by
  rw [List.nodup_cons] at hn
  cases p with
  |zero=>
   cases q with
   |zero=>rfl
   |succ q=>simp at hp hq;subst hp;exact absurd (List.mem_of_getElem? hq) hn.1
  |succ p=>
   cases q with
   |zero=>simp at hp hq;subst hq;exact absurd (List.mem_of_getElem? hp) hn.1
   |succ q=>simp at hp hq;rw [LO hn.2 hp hq]
theorem JJ {n:Nat} {B:Fn} {w0 w:World} {μ:Mu} {env env':Ba} {h h':A4} {a:Act} (R:D0 n B w0 μ env h a w) {keep:List Nat} (F:UU keep env h env' h')
  (hN: ∀i,i<B.N→keep[i]? =some i):D0 n B w0 (μ.fin keep) env' h' a w where
 glob:=R.glob
 snc:={
  ext:=⟨fun x u hr=>C9 (DT μ keep).less _ _ (R.snc.ext.rd x u hr),fun id t ht=>by
   have:id<B.N:=by
    rcases Nat.lt_or_ge id B.N with q|q
    ·exact q
    ·rw [R.snc.top id q] at ht;cases ht
   have e:(μ.fin keep) id=μ id:=by dsimp only [Mu.fin];rw [hN id this];rfl
   rw [e];exact R.snc.ext.mu id t ht,R.snc.ext.bl,fun g q=>R.snc.ext.mt g ((DT μ keep).less g q)⟩
  y:=R.snc.y
  dom:=fun id hi h0=>by
   have e:(μ.fin keep) id=μ id:=by dsimp only [Mu.fin];rw [hN id hi];rfl
   rw [e];exact R.snc.dom id hi h0
  top:=R.snc.top}
 low:=by
  rw [F.next]
  cases e:B.N with
  |zero=>omega
  |succ k=>have:=(List.getElem?_eq_some_iff.1 (hN k (by omega))).1;omega
 sim:={
  below:=R.sim.below
  lt:=fun p t ht=>by
   obtain ⟨id,h1,h2⟩:=Option.bind_eq_some_iff.1 ht
   exact R.sim.lt id t h2
  inj:=fun p p' t t' ht ht' e=>by
   obtain ⟨id,h1,h2⟩:=Option.bind_eq_some_iff.1 ht
   obtain ⟨id',h1',h2'⟩:=Option.bind_eq_some_iff.1 ht'
   have:=R.sim.inj id id' t t' h2 h2' e
   subst this
   exact LO F.nodup h1 h1'
  live:=fun p o ho hp=>by
   obtain ⟨id,h1,h2⟩:=Option.bind_eq_some_iff.1 hp
   have:=Ic F.objs p id h1
   rw [Nat.zero_add,ho] at this
   obtain ⟨o',h3,_⟩:=Option.bind_eq_some_iff.1 this
   exact R.sim.live id o' h3 h2
  ylt:=R.sim.ylt
  blk:=fun p o t ho hp=>by
   obtain ⟨id,h1,h2⟩:=Option.bind_eq_some_iff.1 hp
   have:=Ic F.objs p id h1
   rw [Nat.zero_add,ho] at this
   obtain ⟨o',h3,h4⟩:=Option.bind_eq_some_iff.1 this
   exact PP R.sim keep h4 (R.sim.blk id o' t h3 h2)}
 env:=fun t=>by
  rcases M4 F.vars t with e|e
  ·rw [e];simp only [VR]
  ·exact Gl R.sim keep 9 _ _ _ e (R.env t)
 sz:=R.sz
 dfr:=R.dfr
 fresh:=fun p hp=>by
  dsimp only [Mu.fin]
  rw [List.getElem?_eq_none (by rw [F.next] at hp;exact hp)];rfl
end
end Go.Lift
namespace Go.Lift
noncomputable section
open Go Go.RowKit
theorem I9 {P:Program} {Q:Exit→Act→World→Prop} {a:Act} {w:World} {c:Code} (I:Nat→Act→World→Prop) {k0:Nat} (h₀:I k0 a w)
  (round: ∀k a w,I k a w→c.wp P (Exit.then (fun a' w'=> ∃k',k'<k∧I k' a' w') Q) a w):(Code.loop c).wp P Q a w:=by
 intro b k cs
 have key: ∀n a w,I n a w→
   ∃e a' w',Q e a' w'∧Arrives P (lone (b.at a (.code c:: .inLoop c::k)) cs w) b k cs e a' w':=by
  intro n
  induction n using Nat.strongRecOn with
  |_ n ih=>
   intro a w hI
   obtain ⟨e,a₁,w₁,hq,harr⟩:=round n a w hI b (.inLoop c::k) cs
   cases e with
   |normal=>
    obtain ⟨n',hlt,hI₁⟩:=hq
    obtain ⟨e₂,a₂,w₂,hq₂,harr₂⟩:=ih n' hlt a₁ w₁ hI₁
    exact ⟨e₂,a₂,w₂,hq₂,.of_steps (Steps.trans harr (.one step_inLoop)) harr₂⟩
   |exit id=>exact ⟨_,a₁,w₁,hq,.pass (x:= .inLoop c) rfl (fun _ _=> .inl (by simp)) harr⟩
   |goto l=>exact ⟨_,a₁,w₁,hq,.pass (x:= .inLoop c) rfl (fun _ _=> .inl (by simp)) harr⟩
   |ret=>exact ⟨_,a₁,w₁,hq,.pass (x:= .inLoop c) rfl (fun _ _=> .inl (by simp)) harr⟩
   |panic ch=>exact ⟨_,a₁,w₁,hq,.pass (x:= .inLoop c) rfl (fun _ _=> .inl (by simp)) harr⟩
   |outgrown=>exact ⟨_,a₁,w₁,hq,.pass (x:= .inLoop c) rfl (fun _ _=> .inl (by simp)) harr⟩
 obtain ⟨e,a',w',hq,harr⟩:=key k0 a w h₀
 exact ⟨e,a',w',hq,.of_steps (.one step_loop) harr⟩
abbrev D8:=Exit→Ba→A4→Prop
def A8 (P:Program) (W:World) (n N:Nat) (c:Code) (env:Ba) (h:A4) (Q:D8):Prop:=
 ∀(B:Fn) (w0:World) (μ:Mu) (a:Act) (w:World),B.W=W→B.N=N→D0 n B w0 μ env h a w→
  c.wp P (fun e a' w'=> ∃env' h' μ',Q e env' h'∧D0 n B w0 μ' env' h' a' w') a w
def D8.then (k:Ba→A4→Prop) (Q:D8):D8
 | .normal,env,h=>k env h
 |e,env,h=>Q e env h
def D8.inBlock (id:Nat) (Q:D8):D8
 | .exit id',env,h=>if id'=id then Q .normal env h else Q (.exit id') env h
 |e,env,h=>Q e env h
section
variable {P:Program} {W:World} {n N:Nat} {env:Ba} {h:A4} {Q:D8}
theorem A8.mono {c:Code} {Q':D8} (k:A8 P W n N c env h Q) (hq: ∀e env h,Q e env h→Q' e env h):A8 P W n N c env h Q':=
 fun B w0 μ a w hW hB R=>wp_mono (k B w0 μ a w hW hB R) fun _ _ _ ⟨env',h',μ',q,r⟩=>⟨env',h',μ',hq _ _ _ q,r⟩
theorem A8.skip (k:Q .normal env h):A8 P W n N .skip env h Q:=fun B w0 μ a w hW hB R=>wp_skip ⟨env,h,μ,k,R⟩
theorem A8.label {l:Nat} (k:Q .normal env h):A8 P W n N (.label l) env h Q:=fun B w0 μ a w hW hB R=>wp_label ⟨env,h,μ,k,R⟩
theorem A8.exit {id:Nat} (k:Q (.exit id) env h):A8 P W n N (.exit id) env h Q:=fun B w0 μ a w hW hB R=>wp_exit ⟨env,h,μ,k,R⟩
theorem A8.ret (k:Q .ret env h):A8 P W n N .ret env h Q:=fun B w0 μ a w hW hB R=>wp_ret ⟨env,h,μ,k,R⟩
theorem A8.seq {x y:Code} (k:A8 P W n N x env h (D8.then (fun env' h'=>A8 P W n N y env' h' Q) Q)):A8 P W n N (.seq x y) env h Q:=
 fun B w0 μ a w hW hB R=>wp_seq (wp_mono (k B w0 μ a w hW hB R) fun e a' w' hh=>by
  obtain ⟨env',h',μ',q,r⟩:=hh
  cases e<;>first|exact q B w0 μ' a' w' hW hB r|exact ⟨env',h',μ',q,r⟩)
theorem A8.cond {c:Operand} {x y:Code} {t:Bool} (hc:ev env 0 c=some (.b t)) (k:A8 P W n N (if t then x else y) env h Q):A8 P W n N (.cond c x y) env h Q:=
 fun B w0 μ a w hW hB R=>by
  have hv:=QY (w:=w) (μ:=μ) (a:=a) (x:=c) (fun t _=>R.env t) hc
  simp only [VR,CR] at hv
  exact wp_cond hv (k B w0 μ a w hW hB R)
theorem Jy {c:Operand} {x y:Code} {t:Bool} (hc:ev env 0 c=some (.b t)) (k1:t=true→A8 P W n N x env h Q) (k2:t=false→A8 P W n N y env h Q):A8 P W n N (.cond c x y) env h Q:=
 A8.cond hc (by cases t<;>simp_all)
theorem A8.block {id:Nat} {c:Code} (k:A8 P W n N c env h (D8.inBlock id Q)):A8 P W n N (.block id c) env h Q:=
 fun B w0 μ a w hW hB R=>wp_block (wp_mono (k B w0 μ a w hW hB R) fun e a' w' hh=>by
  obtain ⟨env',h',μ',q,r⟩:=hh
  cases e with
  |exit id'=>
   simp only [D8.inBlock,Exit.inBlock] at q ⊢
   split at q<;>rename_i hi
   ·rw [if_pos hi];exact ⟨env',h',μ',q,r⟩
   ·rw [if_neg hi];exact ⟨env',h',μ',q,r⟩
  |_=>exact ⟨env',h',μ',q,r⟩)
theorem A8.scope {c:Code} (k:A8 P W n N c env h fun e env h=>(∀l,e≠ .goto l)∧Q e env h):A8 P W n N (.scope c) env h Q:=
 fun B w0 μ a w hW hB R=>wp_scope_straight (wp_mono (k B w0 μ a w hW hB R) fun e a' w' hh=>by
  obtain ⟨env',h',μ',q,r⟩:=hh
  cases e with
  |goto l=>exact absurd rfl (q.1 l)
  |_=>exact ⟨env',h',μ',q.2,r⟩)
theorem A8.fits {c:Code} (keep:List Nat) {env':Ba} {h':A4} (F:UU keep env h env' h') (hN: ∀i,i<N→keep[i]? =some i) (k:A8 P W n N c env' h' Q):A8 P W n N c env h Q:=
 fun B w0 μ a w hW hB R=>k B w0 _ a w hW hB (JJ R F (by rw [hB];exact hN))
theorem A8.region {T:CM} (hT:BZ P T=true) {id:Nat} {ops:Array Oper} (k:A1 P W T n ops ops.toList env h (Q .normal)):A8 P W n N (.region id ops false) env h Q:=
 fun B w0 μ a w hW hB R=>wp_region (GM hT _ (os:=ops.toList) (by
  apply List.ext_getElem?
  intro i
  simp only [List.getElem?_map,List.getElem?_range]
  rcases Nat.lt_or_ge i ops.size with q|q
  ·rw [List.getElem?_range q];simp [q]
  ·rw [List.getElem?_eq_none (by simpa using q),Array.getElem?_toList,Array.getElem?_eq_none q];rfl) k hW R fun env' h' μ' a' w' q r=>⟨env',h',μ',q,r⟩)
theorem A8.drawn {T:CM} (hT:BZ P T=true) (hm:P.follows .mixedOrders=true) {id:Nat} {ops:Array Oper} (m:Nat) (hr:regOk ops m=true) (hmn:m≤ops.size) (k:Av P W T n ops m 0 ops.toList env h (Q .normal)):A8 P W n N (.region id ops true) env h Q:=
 fun B w0 μ a w hW hB R=>Qk hT hm hr hmn k hW R fun env' h' μ' a' w' q r=>⟨env',h',μ',q,r⟩
theorem A8.loop {c:Code} (I:Nat→Ba→A4→Prop) (k0:Nat) (h0:I k0 env h)
  (round: ∀k env h,I k env h→A8 P W n N c env h (D8.then (fun env' h'=> ∃keep env'' h'',UU keep env' h' env'' h''∧(∀i,i<N→keep[i]? =some i)∧ ∃k',k'<k∧I k' env'' h'') Q)):A8 P W n N (.loop c) env h Q:=
 fun B w0 μ a w hW hB R=>I9 (fun k a w=> ∃env h μ,I k env h∧D0 n B w0 μ env h a w) ⟨env,h,μ,h0,R⟩ fun k a w ⟨env,h,μ,hI,R⟩=>
  wp_mono (round k env h hI B w0 μ a w hW hB R) fun e a' w' hh=>by
   obtain ⟨env',h',μ',q,r⟩:=hh
   cases e with
   |normal=>
    obtain ⟨keep,env'',h'',F,hN,k',hk,hI'⟩:=q
    exact ⟨k',hk,env'',h'',_,hI',JJ r F (by rw [hB];exact hN)⟩
   |_=>exact ⟨env',h',μ',q,r⟩
end
def C7:Nat→List AV→Ba
 |_,[]=>[]
 |k,x::xs=>(k,x)::C7 (k+1) xs
theorem Ka: ∀(xs:List AV) (k t:Nat),(C7 k xs).get t=if k≤t then (xs[t-k]?).getD .und else .und
 | [],k,t=>by simp [C7,Ba.get,J1]
 |x::xs,k,t=>by
  unfold Ba.get C7
  rw [Bi]
  by_cases h:t=k
  ·subst h;simp
  ·rw [if_neg h]
   have:=Ka xs (k+1) t
   unfold Ba.get at this
   rw [this]
   by_cases hk:k≤t
   ·rw [if_pos hk,if_pos (by omega)]
    obtain ⟨d,rfl⟩: ∃d,t=k+1+d:=⟨t-(k+1),by omega⟩
    rw [show k+1+d-(k+1)=d by omega,show k+1+d-k=d+1 by omega];rfl
   ·rw [if_neg hk,if_neg (by omega)]
def FM:List ResultVar→Option (List Nat)
 | []=>some []
 | .tmp t::r=>(FM r).map (t:: ·)
 | .cell _ _::_=>none
def Bl (ts:List Nat) (env:Ba):AV:=match ts with
 | [t]=>env.get t
 |ts=> .tup (ts.map env.get)
def Qm (ts:List Nat) (tmps:Array Value):Value:=match ts with
 | [t]=>tmps.getD t undef
 |ts=> .tuple (ts.map (fun t=>tmps.getD t undef)).toArray
theorem Jl {P:Program} {fn:Func} {ts:List Nat} (h:FM fn.results.toList=some ts) (tmps:Array Value) (w:World):
  (results fn tmps).run P w= .ok (Qm ts tmps) w:=by
 have h1: ∀(rs:List ResultVar) (ts:List Nat),FM rs=some ts→rs=ts.map ResultVar.tmp:=by
  intro rs
  induction rs with
  |nil=>intro ts h;simp [FM] at h;subst h;rfl
  |cons r rs ih=>
   intro ts h
   cases r with
   |tmp t=>
    simp only [FM] at h
    obtain ⟨us,hu,rfl⟩:=Option.map_eq_some_iff.1 h
    rw [ih us hu];rfl
   |cell _ _=>simp [FM] at h
 have h2:fn.results=(ts.map ResultVar.tmp).toArray:=by
  apply Array.ext';rw [h1 _ _ h]
 have h3: ∀(f:ResultVar→Sem Value) (hf: ∀t w,(f (.tmp t)).run P w= .ok (tmps.getD t undef) w) (ts:List Nat) (w:World),
   ((ts.map ResultVar.tmp).mapM f).run P w= .ok (ts.map (fun t=>tmps.getD t undef)) w:=by
  intro f hf ts
  induction ts with
  |nil=>intro w;simp
  |cons t ts ih=>
   intro w
   simp only [List.map_cons,List.mapM_cons,Sem.run_bind,hf,ih,Result.andThen_ok,Sem.run_pure]
 unfold results
 rw [h2]
 simp only [List.mapM_toArray]
 simp only [Sem.run_bind,map_eq_pure_bind,Sem.run_pure]
 rw [h3 _ (fun t w=>rfl)]
 simp only [Result.andThen_ok,Sem.run_pure]
 clear h h1 h2
 unfold Qm
 cases ts with
 |nil=>simp
 |cons t ts=>
  cases ts with
  |nil=>simp
  |cons t2 ts=>simp
theorem S3 {w:World} {μ:Mu} {env:Ba} {tmps:Array Value} (h: ∀t,VR w μ (env.get t) (tmps.getD t undef)) (ts:List Nat):
  VR w μ (Bl ts env) (Qm ts tmps):=by
 have h1: ∀ts:List Nat,BR w μ (ts.map env.get) (ts.map (fun t=>tmps.getD t undef)):=by
  intro ts
  induction ts with
  |nil=>simp [BR]
  |cons t ts ih=>simp only [List.map_cons,BR];exact ⟨_,_,rfl,h t,ih⟩
 unfold Bl Qm
 split
 ·exact h _
 ·simp only [VR];exact ⟨_,rfl,h1 _⟩
theorem DY {w:World} {μ:Mu} {args:List AV} {vs:List Value} (h:BR w μ args vs) (m:Nat) (t:Nat):VR w μ ((C7 0 args).get t) ((vs.toArray++Array.replicate m undef).getD t undef):=by
 rw [Ka,if_pos (Nat.zero_le _),Nat.sub_zero]
 cases e:args[t]? with
 |none=>simp only [Option.getD_none,VR]
 |some x=>
  obtain ⟨v,hv,hx⟩:=Eh h t x e
  simp only [Option.getD_some]
  have:(vs.toArray++Array.replicate m undef).getD t undef=v:=by
   have hlt:=(List.getElem?_eq_some_iff.1 hv).1
   rw [Array.getD_eq_getD_getElem?,Array.getElem?_append_left (by simpa using hlt)]
   simp [hv]
  rw [this];exact hx
def Fin (keep:List Nat) (ts:List Nat) (r:AV) (S:List Obj):D8:=fun e env h=>
 (e= .normal∨e= .ret)∧keep.Nodup∧S.length=keep.length∧A0 keep h (S0 S) 0 keep∧B4 keep h 9 (Bl ts env)=some r
theorem Bb {P:Program} {W:World} {f:FuncId} {fn:Func} {c:Code} (hf:P.funcs[f]? =some fn) (hb:fn.body=some c) (he: ∀(vs:Array Value) (w:World),(callFunc f vs).run P w= .ok (.enter f vs) w)
 {ts:List Nat} (hr:FM fn.results.toList=some ts) {args:List AV} (hn:args.length≤fn.ntmps) {r:AV} {S:List Obj}
 (k:A8 P W fn.ntmps 0 c (C7 0 args) ⟨0,[]⟩ (fun e env h=> ∃keep,Fin keep ts r S e env h)) (hM:f<1000000:=by decide):Aj P W f args r S:= .plain hM he<|fun w Y vs hG hY hvs=>by
 have hvr:=BL _ _ hvs
 have hlen:=C3 hvr
 refine calls_of_wp hf hb ?_
 have R:D0 fn.ntmps ⟨W,w,CD Y,0⟩ w (CD Y) (C7 0 args) ⟨0,[]⟩ {tmps:=vs.toArray++Array.replicate (fn.ntmps-vs.toArray.size) undef,defers:=[]} w:={
  glob:=hG
  snc:=⟨Gd.refl _ _,rfl,fun _ h=>by simp at h,fun _ _=>rfl⟩
  low:=Nat.zero_le _
  sim:={
   below:=Below.refl _ _
   lt:=by intro _ _ h;cases h
   inj:=by intro _ _ _ _ h;cases h
   live:=by intro _ _ _ h;cases h
   ylt:=hY
   blk:=by intro _ _ _ _ h;cases h}
  env:=DY hvr _
  sz:=by simp [hlen];omega
  dfr:=rfl
  fresh:=fun _ _=>rfl}
 refine wp_mono (k _ w (CD Y) _ w rfl rfl R) ?_
 rintro e a' w' ⟨env',h',μ',⟨keep,he,hnd,hS,hF,hfv⟩,R'⟩
 have hv:=Gl R'.sim keep 9 _ _ _ hfv (S3 R'.env ts)
 have R2:=JJ R' (keep:=keep) (env':=[]) (h':=S0 S) ⟨hnd,hS,hF,trivial⟩ (fun i hi=>by simp at hi)
 have hrun:=Jl (P:=P) hr a'.tmps w'
 have hpost:a'.defers=[]∧ ∃v,(results fn a'.tmps).run P w'= .ok v w'∧ ∃v' μ'',(Ending.returned v)= .returned v'∧μ''.Y=Y∧VR w' μ'' r v'∧DE w μ'' w' (S0 S)∧(∀id,S.length≤id→μ'' id=none):=
  ⟨R'.dfr,_,hrun,_,μ'.fin keep,rfl,R'.snc.y,hv,R2.sim,R2.fresh⟩
 rcases he with rfl|rfl
 ·exact hpost
 ·exact hpost
end
end Go.Lift
namespace Go.Lift
noncomputable section
open Go Go.RowKit
section
variable {P:Program} {W:World} {T:CM} {n:Nat} {ops:Array Oper} {d:Tmp} {op:Op} {ty:TypeId} {pos:String} {af:Array Edge} {gd:Option (Nat×Bool)} {r:List Oper} {env:Ba} {h h':A4} {x:AV} {Q:Ba→A4→Prop}
theorem A1.sq (e:Gt T (ev env) h ⟨some d,op,ty,pos,af,none⟩=some x) (hd:d<n) (k:A1 P W T n ops r ((d,x)::env) h Q):A1 P W T n ops (⟨some d,op,ty,pos,af,none⟩::r) env h Q:=by
 simp only [A1,C1];exact ⟨by simpa [Ci] using hd,x,h,.x (.q e rfl),k⟩
theorem A1.sn (e:VT T (ev env) h ⟨some d,op,ty,pos,af,none⟩=some (x,h')) (hd:d<n) (k:A1 P W T n ops r ((d,x)::env) h' Q):A1 P W T n ops (⟨some d,op,ty,pos,af,none⟩::r) env h Q:=by
 simp only [A1,C1];exact ⟨by simpa [Ci] using hd,x,h',.x (.n e),k⟩
theorem A1.se (e:Mj T (ev env) h ⟨some d,op,ty,pos,af,none⟩=some (x,h')) (hd:d<n) (k:A1 P W T n ops r ((d,x)::env) h' Q):A1 P W T n ops (⟨some d,op,ty,pos,af,none⟩::r) env h Q:=by
 simp only [A1,C1];exact ⟨by simpa [Ci] using hd,x,h',.e e,k⟩
theorem A1.st (e:Mj T (ev env) h ⟨none,op,ty,pos,af,none⟩=some (x,h')) (k:A1 P W T n ops r env h' Q):A1 P W T n ops (⟨none,op,ty,pos,af,none⟩::r) env h Q:=by
 simp only [A1,C1];exact ⟨rfl,x,h',.e e,k⟩
theorem Pq {g:FuncId} {vs:List AV} {r0:AV} {S:List Obj} (hc:callee T (ev env) ⟨some d,op,ty,pos,af,none⟩=some (g,vs)) (hcl:A6 vs=true) (hp:Aj P W g vs r0 S) (hd:d<n)
  (k:A1 P W T n ops r ((d,r0.ren (· +h.next))::env) (h.add S) Q):A1 P W T n ops (⟨some d,op,ty,pos,af,none⟩::r) env h Q:=by
 simp only [A1,C1];exact ⟨by simpa [Ci] using hd,_,_,.x (.c (.closed g vs r0 S hc hcl hp rfl rfl)),k⟩
theorem A1.sc0 {g:FuncId} {vs:List AV} {r0:AV} (hc:callee T (ev env) ⟨some d,op,ty,pos,af,none⟩=some (g,vs)) (hcl:A6 vs=true) (hp:Aj P W g vs r0 []) (hr:closed r0=true) (hd:d<n)
  (k:A1 P W T n ops r ((d,r0)::env) h Q):A1 P W T n ops (⟨some d,op,ty,pos,af,none⟩::r) env h Q:=by
 simp only [A1,C1];exact ⟨by simpa [Ci] using hd,_,_,.x (.c (.closed g vs r0 [] hc hcl hp (GO _ _ hr).symm rfl)),k⟩
theorem A1.sf {g:FuncId} {vs ss:List AV} {r0:AV} {S:List Obj} (hc:callee T (ev env) ⟨some d,op,ty,pos,af,none⟩=some (g,vs)) (hs:mapC (AX [] h 8) vs=some ss) (hp:Aj P W g ss r0 S)
  (hf:flat r0=true) (hF:S.all (fun o=>o.els.all fun y=>y.cells.all flat)=true) (hd:d<n)
  (k:A1 P W T n ops r ((d,r0.ren (· +h.next))::env) (h.add S) Q):A1 P W T n ops (⟨some d,op,ty,pos,af,none⟩::r) env h Q:=by
 simp only [A1,C1];exact ⟨by simpa [Ci] using hd,_,_,.x (.c (.flat g vs ss r0 S hc hs hp hf hF rfl rfl)),k⟩
theorem A1.sf0 {g:FuncId} {vs ss:List AV} {r0:AV} (hc:callee T (ev env) ⟨some d,op,ty,pos,af,none⟩=some (g,vs)) (hs:mapC (AX [] h 8) vs=some ss) (hp:Aj P W g ss r0 [])
  (hf:flat r0=true) (hr:closed r0=true) (hd:d<n)
  (k:A1 P W T n ops r ((d,r0)::env) h Q):A1 P W T n ops (⟨some d,op,ty,pos,af,none⟩::r) env h Q:=by
 simp only [A1,C1];exact ⟨by simpa [Ci] using hd,_,_,.x (.c (.flat g vs ss r0 [] hc hs hp hf rfl (GO _ _ hr).symm rfl)),k⟩
theorem A1.sm {g:FuncId} {vs:List AV} (hc:callee T (ev env) ⟨some d,op,ty,pos,af,none⟩=some (g,vs)) (hp:QF P W g vs h x h') (hd:d<n)
  (k:A1 P W T n ops r ((d,x)::env) h' Q):A1 P W T n ops (⟨some d,op,ty,pos,af,none⟩::r) env h Q:=by
 simp only [A1,C1];exact ⟨by simpa [Ci] using hd,x,h',.c g vs hc hp,k⟩
theorem A1.sgy {j:Nat} {want t:Bool} {o:Oper} {t':Tmp} (hj:ops[j]? =some o) (ho:o.dst=some t') (ht:env.get t'= .b t) (e:t=want)
  (k1:A1 P W T n ops (⟨some d,op,ty,pos,af,none⟩::r) env h Q):A1 P W T n ops (⟨some d,op,ty,pos,af,some (j,want)⟩::r) env h Q:=by
 have hw:C1 ops env ⟨some d,op,ty,pos,af,some (j,want)⟩=some true:=by
  simp only [C1,hj,Option.bind_some,ho,ht,e,BEq.rfl]
 simp only [A1,C1] at k1
 simp only [A1,hw]
 obtain ⟨a,x,h',b,c⟩:=k1
 refine ⟨a,x,h',?_,c⟩
 cases b with
 |x b=>cases b with
  |q b e=>exact .x (.q b e)
  |n b=>exact .x (.n b)
  |s b e hh=>exact .x (.s b e hh)
  |g b e=>exact .x (.g b e)
  |c b=>cases b with
   |closed g vs r0 S h1 h2 h3 h4 h5=>exact .x (.c (.closed g vs r0 S h1 h2 h3 h4 h5))
   |flat g vs ss r0 S h1 h2 h3 h4 h5 h6 h7=>exact .x (.c (.flat g vs ss r0 S h1 h2 h3 h4 h5 h6 h7))
 |e b=>exact .e b
 |c g vs b c=>exact .c g vs b c
theorem Qy {j:Nat} {want t:Bool} {o:Oper} {t':Tmp} (hj:ops[j]? =some o) (ho:o.dst=some t') (ht:env.get t'= .b t) (e:t= !want) (hd:d<n)
  (k2:A1 P W T n ops r ((d,.tup [])::env) h Q):A1 P W T n ops (⟨some d,op,ty,pos,af,some (j,want)⟩::r) env h Q:=by
 have hw:C1 ops env ⟨some d,op,ty,pos,af,some (j,want)⟩=some false:=by
  simp only [C1,hj,Option.bind_some,ho,ht,e];cases want<;>rfl
 simp only [A1,hw]
 exact ⟨by simpa [Ci] using hd,k2⟩
theorem UR {j:Nat} {want:Bool} {o:Oper} {t':Tmp} (hj:ops[j]? =some o) (ho:o.dst=some t') (ht:env.get t'= .tup []) (hd:d<n)
  (k2:A1 P W T n ops r ((d,.tup [])::env) h Q):A1 P W T n ops (⟨some d,op,ty,pos,af,some (j,want)⟩::r) env h Q:=by
 have hw:C1 ops env ⟨some d,op,ty,pos,af,some (j,want)⟩=some false:=by
  simp only [C1,hj,Option.bind_some,ho,ht]
 simp only [A1,hw]
 exact ⟨by simpa [Ci] using hd,k2⟩
end
section
variable {P:Program} {W:World} {T:CM} {n:Nat} {ops:Array Oper} {m i:Nat} {d:Tmp} {op:Op} {ty:TypeId} {pos:String} {af:Array Edge} {gd:Option (Nat×Bool)} {r:List Oper} {env:Ba} {h h':A4} {x:AV} {Q:Ba→A4→Prop}
theorem Fu {o:Oper} (k:Kx P W T (ev env) h o x h'):if i<m then Kx P W T (ev env) h o x h' else QH P W T (ev env) h o x h':=by
 split
 ·exact k
 ·exact .x k
theorem Av.sq (e:Gt T (ev env) h ⟨some d,op,ty,pos,af,none⟩=some x) (hd:d<n) (k:Av P W T n ops m (i+1) r ((d,x)::env) h Q):Av P W T n ops m i (⟨some d,op,ty,pos,af,none⟩::r) env h Q:=by
 simp only [Av,C1];exact ⟨by simpa [Ci] using hd,x,h,Fu (.q e rfl),k⟩
theorem US (e: ∀(w:World) (μ:Mu) (c:Operand→Value),DR W w→(∀x∈op.operands,∀k y,ev env k x=some y→VR w μ y (c x))→ ∃z,(execOp c ⟨some d,op,ty,pos,af,none⟩).run P w= .ok (.value z) w∧VR w μ x z) (hd:d<n) (k:Av P W T n ops m (i+1) r ((d,x)::env) h Q):Av P W T n ops m i (⟨some d,op,ty,pos,af,none⟩::r) env h Q:=by
 simp only [Av,C1];exact ⟨by simpa [Ci] using hd,x,h,Fu (.g e rfl),k⟩
theorem Av.sn (e:VT T (ev env) h ⟨some d,op,ty,pos,af,none⟩=some (x,h')) (hd:d<n) (k:Av P W T n ops m (i+1) r ((d,x)::env) h' Q):Av P W T n ops m i (⟨some d,op,ty,pos,af,none⟩::r) env h Q:=by
 simp only [Av,C1];exact ⟨by simpa [Ci] using hd,x,h',Fu (.n e),k⟩
theorem Av.se (hm: ¬i<m) (e:Mj T (ev env) h ⟨some d,op,ty,pos,af,none⟩=some (x,h')) (hd:d<n) (k:Av P W T n ops m (i+1) r ((d,x)::env) h' Q):Av P W T n ops m i (⟨some d,op,ty,pos,af,none⟩::r) env h Q:=by
 simp only [Av,C1];exact ⟨by simpa [Ci] using hd,x,h',(by rw [if_neg hm];exact .e e),k⟩
theorem Av.st (hm: ¬i<m) (e:Mj T (ev env) h ⟨none,op,ty,pos,af,none⟩=some (x,h')) (k:Av P W T n ops m (i+1) r env h' Q):Av P W T n ops m i (⟨none,op,ty,pos,af,none⟩::r) env h Q:=by
 simp only [Av,C1];exact ⟨rfl,x,h',(by rw [if_neg hm];exact .e e),k⟩
theorem Av.sc0 {g:FuncId} {vs:List AV} {r0:AV} (hc:callee T (ev env) ⟨some d,op,ty,pos,af,none⟩=some (g,vs)) (hcl:A6 vs=true) (hp:Aj P W g vs r0 []) (hr:closed r0=true) (hd:d<n)
  (k:Av P W T n ops m (i+1) r ((d,r0)::env) h Q):Av P W T n ops m i (⟨some d,op,ty,pos,af,none⟩::r) env h Q:=by
 simp only [Av,C1];exact ⟨by simpa [Ci] using hd,_,_,Fu (.c (.closed g vs r0 [] hc hcl hp (GO _ _ hr).symm rfl)),k⟩
theorem Av.sf {g:FuncId} {vs ss:List AV} {r0:AV} {S:List Obj} (hc:callee T (ev env) ⟨some d,op,ty,pos,af,none⟩=some (g,vs)) (hs:mapC (AX [] h 8) vs=some ss) (hp:Aj P W g ss r0 S)
  (hf:flat r0=true) (hF:S.all (fun o=>o.els.all fun y=>y.cells.all flat)=true) (hd:d<n)
  (k:Av P W T n ops m (i+1) r ((d,r0.ren (· +h.next))::env) (h.add S) Q):Av P W T n ops m i (⟨some d,op,ty,pos,af,none⟩::r) env h Q:=by
 simp only [Av,C1];exact ⟨by simpa [Ci] using hd,_,_,Fu (.c (.flat g vs ss r0 S hc hs hp hf hF rfl rfl)),k⟩
theorem Av.sf0 {g:FuncId} {vs ss:List AV} {r0:AV} (hc:callee T (ev env) ⟨some d,op,ty,pos,af,none⟩=some (g,vs)) (hs:mapC (AX [] h 8) vs=some ss) (hp:Aj P W g ss r0 [])
  (hf:flat r0=true) (hr:closed r0=true) (hd:d<n)
  (k:Av P W T n ops m (i+1) r ((d,r0)::env) h Q):Av P W T n ops m i (⟨some d,op,ty,pos,af,none⟩::r) env h Q:=by
 simp only [Av,C1];exact ⟨by simpa [Ci] using hd,_,_,Fu (.c (.flat g vs ss r0 [] hc hs hp hf rfl (GO _ _ hr).symm rfl)),k⟩
theorem Av.sgy {j:Nat} {want t:Bool} {o:Oper} {t':Tmp} (hj:ops[j]? =some o) (ho:o.dst=some t') (ht:env.get t'= .b t) (e:t=want)
  (k1:Av P W T n ops m i (⟨some d,op,ty,pos,af,none⟩::r) env h Q):Av P W T n ops m i (⟨some d,op,ty,pos,af,some (j,want)⟩::r) env h Q:=by
 have hw:C1 ops env ⟨some d,op,ty,pos,af,some (j,want)⟩=some true:=by
  simp only [C1,hj,Option.bind_some,ho,ht,e,BEq.rfl]
 simp only [Av,C1] at k1
 simp only [Av,hw]
 obtain ⟨a,x,h',b,c⟩:=k1
 refine ⟨a,x,h',?_,c⟩
 have hx: ∀ {h'},Kx P W T (ev env) h ⟨some d,op,ty,pos,af,none⟩ x h'→Kx P W T (ev env) h ⟨some d,op,ty,pos,af,some (j,want)⟩ x h':=by
  intro h' b
  cases b with
  |q b e=>exact .q b e
  |n b=>exact .n b
  |s b e hh=>exact .s b e hh
  |g b e=>exact .g b e
  |c b=>cases b with
   |closed g vs r0 S h1 h2 h3 h4 h5=>exact .c (.closed g vs r0 S h1 h2 h3 h4 h5)
   |flat g vs ss r0 S h1 h2 h3 h4 h5 h6 h7=>exact .c (.flat g vs ss r0 S h1 h2 h3 h4 h5 h6 h7)
 by_cases hm:i<m
 ·rw [if_pos hm] at b ⊢
  exact hx b
 ·rw [if_neg hm] at b ⊢
  cases b with
  |x b=>exact .x (hx b)
  |e b=>exact .e b
  |c g vs b c=>exact .c g vs b c
end
theorem AG (t:Nat) (x:AV) (env:Ba) (u:Nat):Ba.get ((t,x)::env) u=if u=t then x else env.get u:=by
 unfold Ba.get;rw [Bi];split<;>rfl
theorem get_nil (u:Nat):Ba.get [] u= .und:=rfl
end
end Go.Lift
namespace Go.Lift
noncomputable section
open Go Go.RowKit
mutual
def lim:AV→Prop
 | .s x=>x.size≤DD
 | .sl _ nl xs=>xs.length≤DD∧(nl=true→xs=[])∧Ds xs
 | .st fs=>Ds fs
 | .tup fs=>Ds fs
 | .pt cs=>Ds cs
 | .fn _ cs=>Ds cs
 |_=>True
def Ds:List AV→Prop
 | []=>True
 |x::xs=>lim x∧Ds xs
end
mutual
theorem E1 {w:World} {μ:Mu}: ∀(x:AV) (v:Value),CR w μ x v→lim x
 | .und,_,_=>by simp only [lim]
 | .b x,v,k=>by simp only [lim]
 | .i x y,v,k=>by simp only [lim]
 | .s x,v,k=>by simp only [CR] at k;simp only [lim];exact k.2
 | .sl n nl xs,v,k=>by
   simp only [CR] at k
   simp only [lim]
   rcases k with ⟨e,_⟩|⟨e,a,c,_,_,h3,h4⟩
   ·subst e;exact ⟨Nat.zero_le _,fun _=>rfl,trivial⟩
   ·exact ⟨h3,(fun h=>by rw [e] at h;cases h),Ca n xs a h4⟩
 | .own _ _ _,v,k=>by simp only [lim]
 | .st fs,v,k=>by
   simp only [CR] at k
   simp only [lim]
   obtain ⟨cs,_,k⟩:=k
   exact Kw fs _ k
 | .tup fs,v,k=>by
   simp only [CR] at k
   simp only [lim]
   obtain ⟨cs,_,k⟩:=k
   exact Kw fs _ k
 | .pt cs,v,k=>by
   simp only [CR] at k
   simp only [lim]
   obtain ⟨a,_,k⟩:=k
   exact IL cs a k
 | .loc _ _ _,v,k=>by simp only [lim]
 | .fn f fs,v,k=>by
   simp only [CR] at k
   simp only [lim]
   obtain ⟨cs,_,k⟩:=k
   exact Kw fs _ k
 | .nilp,_,_=>by simp only [lim]
 | .nilf,_,_=>by simp only [lim]
 | .raw _,_,_=>by simp only [lim]
theorem Kw {w:World} {μ:Mu}: ∀(xs:List AV) (vs:List Value),Cn w μ xs vs→Ds xs
 | [],vs,k=>by simp only [Ds]
 |x::xs,vs,k=>by
  simp only [Cn] at k
  simp only [Ds]
  obtain ⟨v,r,_,k1,k2⟩:=k
  exact ⟨E1 x v k1,Kw xs r k2⟩
theorem IL {w:World} {μ:Mu}: ∀(cs:List AV) (a:Addr),AM w μ cs a→Ds cs
 | [],a,k=>by simp only [Ds]
 |x::xs,a,k=>by
  simp only [AM] at k
  simp only [Ds]
  obtain ⟨⟨u,_,k2⟩,k3⟩:=k
  exact ⟨E1 x u k2,IL xs _ k3⟩
theorem Ca {w:World} {μ:Mu} (n:Nat): ∀(cs:List AV) (a:Addr),AR w μ n cs a→Ds cs
 | [],a,k=>by simp only [Ds]
 |x::xs,a,k=>by
  simp only [Ds]
  cases x with
  |st fs=>simp only [AR] at k;exact ⟨by simp only [lim];exact IL fs a k.1.2,Ca n xs _ k.2⟩
  |und=>simp only [AR] at k;obtain ⟨⟨_,u,_,q2⟩,q3⟩:=k;exact ⟨E1 _ u q2,Ca n xs _ q3⟩
  |b x=>simp only [AR] at k;obtain ⟨⟨_,u,_,q2⟩,q3⟩:=k;exact ⟨E1 _ u q2,Ca n xs _ q3⟩
  |i x y=>simp only [AR] at k;obtain ⟨⟨_,u,_,q2⟩,q3⟩:=k;exact ⟨E1 _ u q2,Ca n xs _ q3⟩
  |s x=>simp only [AR] at k;obtain ⟨⟨_,u,_,q2⟩,q3⟩:=k;exact ⟨E1 _ u q2,Ca n xs _ q3⟩
  |sl p q zs=>simp only [AR] at k;obtain ⟨⟨_,u,_,q2⟩,q3⟩:=k;exact ⟨E1 (.sl p q zs) u q2,Ca n xs _ q3⟩
  |own p q r=>simp only [AR,CR] at k;obtain ⟨⟨_,u,_,q2⟩,_⟩:=k;exact q2.elim
  |tup zs=>simp only [AR] at k;obtain ⟨⟨_,u,_,q2⟩,q3⟩:=k;exact ⟨E1 (.tup zs) u q2,Ca n xs _ q3⟩
  |pt zs=>simp only [AR] at k;obtain ⟨⟨_,u,_,q2⟩,q3⟩:=k;exact ⟨E1 (.pt zs) u q2,Ca n xs _ q3⟩
  |loc p q r=>simp only [AR,CR] at k;obtain ⟨⟨_,u,_,q2⟩,_⟩:=k;exact q2.elim
  |fn f zs=>simp only [AR] at k;obtain ⟨⟨_,u,_,q2⟩,q3⟩:=k;exact ⟨E1 (.fn f zs) u q2,Ca n xs _ q3⟩
  |nilp=>simp only [AR] at k;obtain ⟨⟨_,u,_,q2⟩,q3⟩:=k;exact ⟨E1 _ u q2,Ca n xs _ q3⟩
  |nilf=>simp only [AR] at k;obtain ⟨⟨_,u,_,q2⟩,q3⟩:=k;exact ⟨E1 _ u q2,Ca n xs _ q3⟩
  |raw _=>simp only [AR] at k;obtain ⟨⟨_,u,_,q2⟩,q3⟩:=k;exact ⟨E1 _ u q2,Ca n xs _ q3⟩
end
mutual
theorem So {w:World} {μ:Mu}: ∀(x:AV) (v:Value),VR w μ x v→lim x
 | .und,_,_=>by simp only [lim]
 | .b x,v,k=>by simp only [lim]
 | .i x y,v,k=>by simp only [lim]
 | .s x,v,k=>by simp only [VR] at k;exact E1 _ v k
 | .sl n nl xs,v,k=>by simp only [VR] at k;exact E1 _ v k
 | .pt cs,v,k=>by simp only [VR] at k;exact E1 _ v k
 | .own _ _ _,v,k=>by simp only [lim]
 | .loc _ _ _,v,k=>by simp only [lim]
 | .st fs,v,k=>by
   simp only [VR] at k
   simp only [lim]
   obtain ⟨cs,_,k⟩:=k
   exact MD fs _ k
 | .tup fs,v,k=>by
   simp only [VR] at k
   simp only [lim]
   obtain ⟨cs,_,k⟩:=k
   exact MD fs _ k
 | .fn f fs,v,k=>by
   simp only [VR] at k
   simp only [lim]
   obtain ⟨cs,_,k⟩:=k
   exact MD fs _ k
 | .nilp,_,_=>by simp only [lim]
 | .nilf,_,_=>by simp only [lim]
 | .raw _,_,_=>by simp only [lim]
theorem MD {w:World} {μ:Mu}: ∀(xs:List AV) (vs:List Value),BR w μ xs vs→Ds xs
 | [],vs,k=>by simp only [Ds]
 |x::xs,vs,k=>by
  simp only [BR] at k
  simp only [Ds]
  obtain ⟨v,r,_,k1,k2⟩:=k
  exact ⟨So x v k1,MD xs r k2⟩
end
theorem A8.lim {P:Program} {W:World} {n N:Nat} {env:Ba} {h:A4} {Q:D8} {c:Code} (t:Nat) {x:AV} (ht:env.get t=x) (k:Go.Lift.lim x→A8 P W n N c env h Q):A8 P W n N c env h Q:=
 fun B w0 μ a w hW hB R=>k (ht ▸ So _ _ (R.env t)) B w0 μ a w hW hB R
theorem D7 {P:Program} {W:World} {f:FuncId} (he: ∀(vs:Array Value) (w:World),(callFunc f vs).run P w= .ok (.enter f vs) w) {args:List AV} {r:AV} {S:List Obj} (k:Ds args→Aj P W f args r S) (hM:f<1000000:=by decide):Aj P W f args r S:= .plain hM he<|fun w Y vs hG hY hvs=>(k (Kw _ _ hvs)).callsP hM w Y vs hG hY hvs
end
end Go.Lift
namespace Go.Lift
noncomputable section
open Go Go.RowKit
section
variable {P:Program} {W:World} {f:FuncId}
theorem Ch (he: ∀(vs:Array Value) (w:World),(callFunc f vs).run P w= .ok (.enter f vs) w) {args:List AV} {r:AV}
 (k: ∀(w:World) (Y:Nat→Prop) (vs:List Value),DR W w→Cn w (CD Y) args vs→Calls P f vs.toArray w fun e w'=> ∃v,e= .returned v∧VR w' (CD Y) r v∧Below w.heap.size w w') (hM:f<1000000:=by decide):Aj P W f args r []:= .plain hM he<|fun w Y vs hG hY hvs=>(k w Y vs hG hvs).mono fun e w' ⟨v,e1,e2,e3⟩=>
 ⟨v,CD Y,e1,rfl,e2,{below:=e3,lt:=(by intro _ _ h;cases h),inj:=(by intro _ _ _ _ h;cases h),live:=(by intro _ _ _ h;cases h),ylt:=hY,blk:=(by intro _ _ _ _ h;cases h)},fun _ _=>rfl⟩
def mu1 (Y:Nat→Prop) (s:Kz):Mu:=⟨fun i=>if i=0 then some (some s) else none,Y⟩
theorem M8 (he: ∀(vs:Array Value) (w:World),(callFunc f vs).run P w= .ok (.enter f vs) w) {args:List AV} {et:TypeId} {k:Nat} (hk:0<k) {els:List AV}
 (kk: ∀(w:World) (Y:Nat→Prop) (vs:List Value),DR W w→Cn w (CD Y) args vs→Calls P f vs.toArray w fun e w'=> ∃v news,e= .returned v∧w'.ownsRow w.heap.size et k v els.length news∧v≠ .slice none 0 0∧Below w.heap.size w w'∧
   ∀(j:Nat) x,els[j]? =some x→x.cells.length=k∧ ∀(i:Nat) y,x.cells[i]? =some y→ ∃u,news[j*k+i]? =some u∧CR w (CD Y) y u∧u.oneCell'=true) (hM:f<1000000:=by decide):Aj P W f args (.own 0 0 els.length) [⟨et,k,els⟩]:= .plain hM he<|fun w Y vs hG hY hvs=>(kk w Y vs hG hvs).mono fun e w' ⟨v,news,e1,e2,e3,e4,e5⟩=>by
 obtain ⟨hl,e2|⟨g,cap,cur,rfl,hg,hb,hn,hc,hs,ht⟩⟩:=e2
 ·exact absurd e2.1 e3
 have hext:Gd w (CD Y) w' (mu1 Y ⟨g,cap,k⟩):=by
  refine Gd.of (fun g' hg' _=>e4.block g' hg') (by intro _ _ h;cases h) ?_
  rintro g' (hy|⟨id,s,hs',rfl⟩)
  ·exact Or.inl (Or.inl hy)
  ·dsimp only [mu1] at hs';split at hs'<;>cases hs';exact Or.inr hg
 have hglt:g<w'.heap.size:=(Array.getElem?_eq_some_iff.1 hb).1
 refine ⟨_,mu1 Y ⟨g,cap,k⟩,e1,rfl,?_,{below:=e4,lt:= ?_,inj:= ?_,live:= ?_,ylt:=hY,blk:= ?_},?_⟩
 ·simp only [VR,mu1,if_true]
  exact ⟨_,_,rfl,hn,by omega,rfl,fun _=>by simp⟩
 ·intro id s h;dsimp only [mu1] at h;split at h<;>cases h;exact ⟨hg,hglt⟩
 ·intro id id' s s' h h' _;dsimp only [mu1] at h h';split at h<;>cases h;split at h'<;>cases h';omega
 ·intro id o h;dsimp only [mu1];split<;>simp
 ·intro id o s ho h
  dsimp only [mu1] at h;split at h<;>cases h
  rename_i hid;subst hid
  rw [D9] at ho
  simp at ho;subst ho
  refine ⟨rfl,hk,hn,hc,cur,hb,hs,fun j x hx=> ?_⟩
  obtain ⟨q1,q2⟩:=e5 j x hx
  refine ⟨q1,fun i y hy=> ?_⟩
  obtain ⟨u,u1,u2,u3⟩:=q2 i y hy
  refine ⟨u,?_,Cx _ _ (Ia hext _ _ u2),u3⟩
  rw [←ht] at u1
  rw [List.getElem?_take] at u1
  split at u1
  ·simpa using u1
  ·cases u1
 ·intro id hid;dsimp only [mu1];rw [if_neg (by simp at hid;omega)]
end
theorem EH {w:World} {μ:Mu} {x:AV} {xs:List AV} {vs:List Value}:Cn w μ (x::xs) vs↔ ∃v r,vs=v::r∧CR w μ x v∧Cn w μ xs r:=by simp only [Cn]
theorem Gf {w:World} {μ:Mu} {vs:List Value}:Cn w μ [] vs↔vs=[]:=by simp only [Cn]
theorem Sn {w:World} {μ:Mu} {x:ByteArray} {v:Value}:CR w μ (.s x) v↔v= .string x∧x.size≤DD:=by simp only [CR]
theorem CR_i {w:World} {μ:Mu} {k:IntKind} {n:Int} {v:Value}:CR w μ (.i k n) v↔v= .int k n:=by simp only [CR]
theorem ON {w:World} {μ:Mu} {k:Nat} {nl:Bool} {xs:List AV} {v:Value}:CR w μ (.sl k nl xs) v↔(xs=[]∧v= .slice none 0 0)∨
 (nl=false∧ ∃a c,v= .slice (some a) xs.length c∧xs.length≤c∧xs.length≤DD∧AR w μ k xs a):=by simp only [CR]
theorem Su {w:World} {a:Addr} {u:Value} (h:w.cell? a=some u):a=⟨a.block,a.off,none⟩:=by
 obtain ⟨b,o,sp⟩:=a
 unfold World.cell? at h
 cases sp with
 |none=>rfl
 |some s=>simp only [Option.isSome_some,if_true] at h;split at h<;>cases h
theorem Pu {w:World} {μ:Mu} {k:Nat} {xs:List AV} {a:Addr} (h:AR w μ k xs a) (hk:0<k) (hx:xs≠ []):
  a=⟨a.block,a.off,none⟩∧a.block<w.heap.size∧ ∀(j:Nat) x,xs[j]? =some x→x.cells.length=k∧ ∀(i:Nat) y,x.cells[i]? =some y→ ∃u,w.cell? ⟨a.block,a.off+(j*k+i),none⟩=some u∧CR w μ y u∧u.oneCell'=true:=by
 cases xs with
 |nil=>exact absurd rfl hx
 |cons x xs=>
  obtain ⟨h1,h2⟩:=Fo h 0 x rfl
  rw [Nat.zero_mul,add_zero] at h2
  obtain ⟨u,⟨hu,_,_⟩,_⟩:=Ex h2 0 _ (List.getElem?_eq_getElem (by omega))
  rw [add_zero] at hu
  have ha:=Su hu
  refine ⟨ha,GZ hu,fun j y hy=> ?_⟩
  obtain ⟨q1,q2⟩:=Fo h j y hy
  refine ⟨q1,fun i z hz=> ?_⟩
  obtain ⟨u,⟨r1,_,r3⟩,r4⟩:=Ex q2 i z hz
  rw [DS,ha,CE] at r1
  exact ⟨u,r1,r4,r3⟩
theorem M3 {w:World} {μ:Mu} {xs:List ByteArray} {a:Addr} (h:AR w μ 1 (xs.map .s) a) (hx:xs≠ []):
  a=⟨a.block,a.off,none⟩∧a.block<w.heap.size∧ ∀(j:Nat) x,xs[j]? =some x→w.cell? ⟨a.block,a.off+j,none⟩=some (.string x)∧x.size≤DD:=by
 obtain ⟨h1,h2,h3⟩:=Pu h (by omega) (by simpa using hx)
 refine ⟨h1,h2,fun j x hj=> ?_⟩
 obtain ⟨q1,q2⟩:=h3 j (.s x) (by simp [hj])
 obtain ⟨u,r1,r2,_⟩:=q2 0 (.s x) rfl
 rw [Sn] at r2
 obtain ⟨rfl,r2⟩:=r2
 exact ⟨by simpa using r1,r2⟩
end
end Go.Lift
namespace Go.Lift
noncomputable section
open Go Go.RowKit
theorem ev_tmp (env:Ba) (k:Nat) (t:Tmp):ev env k (.tmp t)=some (env.get t):=rfl
theorem Vp (env:Ba) (k:Nat) (v:Value):ev env k (.const v)=lit k v:=rfl
theorem ev_func (env:Ba) (k:Nat) (f:FuncId) (h:f≤999999):ev env k (.func f)=some (.fn f []):=by
 show cond (Nat.ble f 999999) (some (AV.fn f [])) none=_
 rw [Nat.ble_eq_true_of_le h];rfl
theorem lit_b (k:Nat) (b:Bool):lit k (.bool b)=some (.b b):=rfl
theorem lit_i (k:Nat) (t:IntKind) (n:Int):lit k (.int t n)=some (.i t n):=rfl
theorem lit_nil (k:Nat):lit k (.slice none 0 0)=some (.sl k true []):=rfl
theorem lit_np (k:Nat):lit k (.pointer none)=some .nilp:=rfl
theorem lit_nf (k:Nat):lit k .nilFunc=some .nilf:=rfl
theorem lit_s (k:Nat) (l:List UInt8):lit k (.string ⟨⟨l⟩⟩)=if l.length≤DD then some (.s ⟨⟨l⟩⟩) else none:=rfl
theorem agg_1:TD.agg .bool=false:=rfl
theorem agg_2 (k:IntKind):TD.agg (.int k)=false:=rfl
theorem agg_3:TD.agg .str=false:=rfl
theorem agg_4 (e:TypeId):TD.agg (.slice e)=false:=rfl
theorem agg_5 (l:List (Nat×TypeId)):TD.agg (.struct l)=true:=rfl
theorem agg_6 (n:Nat) (e:TypeId):TD.agg (.arr n e)=true:=rfl
theorem agg_7:TD.agg .other=false:=rfl
theorem Vg (fs:List AV):AV.cells (.st fs)=fs:=rfl
theorem cells_i (k:IntKind) (n:Int):AV.cells (.i k n)=[.i k n]:=rfl
theorem cells_s (x:ByteArray):AV.cells (.s x)=[.s x]:=rfl
theorem cells_b (x:Bool):AV.cells (.b x)=[.b x]:=rfl
theorem Vf (k:Nat) (nl:Bool) (xs:List AV):AV.cells (.sl k nl xs)=[.sl k nl xs]:=rfl
theorem TX (a b c:Nat):AV.cells (.own a b c)=[.own a b c]:=rfl
theorem TW (a b c:Nat):AV.cells (.loc a b c)=[.loc a b c]:=rfl
theorem Ve (cs:List AV):AV.cells (.pt cs)=[.pt cs]:=rfl
theorem Sx:AV.cells .nilp=[.nilp]:=rfl
theorem Sw:AV.cells .nilf=[.nilf]:=rfl
theorem Vd (f:FuncId) (cs:List AV):AV.cells (.fn f cs)=[.fn f cs]:=rfl
theorem oneIn_i (h:A4) (k:IntKind) (n:Int):EQ h (.i k n)=true:=rfl
theorem oneIn_b (h:A4) (b:Bool):EQ h (.b b)=true:=rfl
theorem oneIn_s (h:A4) (b:ByteArray):EQ h (.s b)=true:=rfl
theorem W0 (h:A4) (k:Nat) (b:Bool) (xs:List AV):EQ h (.sl k b xs)=true:=rfl
theorem Uy (h:A4) (a b c:Nat):EQ h (.own a b c)=(h.get a).isSome:=rfl
theorem Ux (h:A4) (a b c:Nat):EQ h (.loc a b c)=(h.get a).isSome:=rfl
theorem VZ (h:A4) (cs:List AV):EQ h (.pt cs)=true:=rfl
theorem VW (h:A4) (f:FuncId) (cs:List AV):EQ h (.fn f cs)=true:=rfl
theorem VY (h:A4):EQ h .nilp=true:=rfl
theorem VX (h:A4):EQ h .nilf=true:=rfl
def BB:=And.intro @AG (And.intro @get_nil (And.intro @Gt.eq_1 (And.intro @VT.eq_1 (And.intro @Mj.eq_1 (And.intro @callee.eq_1 (And.intro @Ht.eq_1 (And.intro @Ht.eq_2 (And.intro @Ht.eq_3 (And.intro @ev_tmp (And.intro @Vp (And.intro @ev_func (And.intro @lit_b (And.intro @lit_i (And.intro @lit_nil (And.intro @lit_np (And.intro @lit_nf (And.intro @lit_s (And.intro @Ip.eq_1 (And.intro @CC.eq_1 (And.intro @Cz.eq_1 (And.intro @Bk.eq_1 (And.intro @agg_1 (And.intro @agg_2 (And.intro @agg_3 (And.intro @agg_4 (And.intro @agg_5 (And.intro @agg_6 (And.intro @agg_7 (And.intro @C7.eq_1 (And.intro @C7.eq_2 (And.intro @Pc.eq_1 (And.intro @IW.eq_1 (And.intro @IW.eq_2 (And.intro @H0.eq_1 (And.intro @H0.eq_2 (And.intro @puny.eq_def (And.intro @Da.eq_1 (And.intro @Qb.eq_def (And.intro @RU.eq_def (And.intro @W9.eq_def (And.intro @Jb.eq_1 (And.intro @LP.eq_1 (And.intro @evs.eq_1 (And.intro @evs.eq_2 (And.intro @Hp.eq_1 (And.intro @PX.eq_1 (And.intro @TH.eq_def (And.intro @HP.eq_1 (And.intro @Vg (And.intro @cells_i (And.intro @cells_s (And.intro @cells_b (And.intro @Vf (And.intro @TX (And.intro @TW (And.intro @Ve (And.intro @Sx (And.intro @Vd (And.intro @Sw (And.intro @oneIn_i (And.intro @oneIn_b (And.intro @oneIn_s (And.intro @W0 (And.intro @Uy (And.intro @Ux (And.intro @VZ (And.intro @VW (And.intro @VY (And.intro @VX (And.intro @HP.eq_2 (And.intro @Jb.eq_2 (And.intro @Hp.eq_2 (And.intro @A4.new.eq_1 (And.intro @A4.put.eq_1 (And.intro @RX (And.intro @Pb (And.intro @A4.get.eq_1 (And.intro @J1 (And.intro @Bi (And.intro @HN.eq_def (@TT.eq_1)))))))))))))))))))))))))))))))))))))))))))))))))))))))))))))))))))))))))))))))))
def BC:=And.intro @Option.bind_some.{0,0} (And.intro @Option.bind_none.{0,0} (And.intro @Option.map_some.{0,0} (And.intro @Option.isSome_some.{0} (And.intro @List.all_cons.{0} (And.intro @List.all_nil.{0} (And.intro @Bool.and_true (And.intro @Bool.true_and (And.intro @List.getElem?_cons_zero.{0} (And.intro @List.getElem?_cons_succ.{0} (And.intro @List.drop_zero.{0} (And.intro @List.drop_succ_cons.{0} (And.intro @List.take_zero.{0} (And.intro @List.take_succ_cons.{0} (And.intro @List.length_cons.{0} (And.intro @List.length_nil.{0} (And.intro @List.nil_append.{0} (And.intro @List.cons_append.{0} (And.intro @List.append_nil.{0} (And.intro @List.toList_toArray.{0} (And.intro @Int.toNat_natCast (And.intro @true_and (And.intro @and_true (And.intro @ne_eq.{1} (And.intro @not_false_eq_true (And.intro @not_true_eq_false (And.intro @Int.natCast_nonneg (And.intro @and_self (And.intro @false_and (And.intro @and_false (And.intro @List.getElem?_map.{0,0} (And.intro @List.length_map.{0,0} (And.intro @List.length_append.{0} (And.intro @List.length_take.{0} (And.intro @List.length_drop.{0} (And.intro @Bool.false_and (And.intro @Bool.and_false (And.intro @Bool.not_true (And.intro @Bool.not_false (And.intro @List.all_append.{0} (And.intro @List.length_replicate.{0} (And.intro @Option.join_some.{0} (And.intro @Option.getD_some.{0} (And.intro @Option.getD_none.{0} (And.intro @Option.isSome_none.{0} (And.intro @List.replicate_succ.{0} (And.intro @List.replicate_zero.{0} (And.intro @List.set_cons_zero.{0} (And.intro @List.set_cons_succ.{0} (And.intro @Int.toNat_zero (And.intro @Nat.sub_zero (And.intro @Nat.zero_add (And.intro @Nat.add_zero (@Int.le_refl)))))))))))))))))))))))))))))))))))))))))))))))))))))
end
end Go.Lift
namespace Go.Lift
noncomputable section
open Go Go.RowKit
structure Strs where
 nl:Bool
 xs:List ByteArray
def Strs.av (s:Strs):AV:= .sl 1 s.nl (s.xs.map .s)
structure Cw where
 outs:Strs
 ins:Strs
 implicit:Strs
 order:Strs
 command:ByteArray
 deps:Bool
 pool:ByteArray
def Cw.av (e:Cw):AV:= .st [e.outs.av,e.ins.av,e.implicit.av,e.order.av,.s e.command,.b e.deps,.s e.pool]
structure D3 where
 name:ByteArray
 depth:Int
def D3.av (p:D3):AV:= .st [.s p.name,.i .i64 p.depth]
structure AZ where
 enl:Bool
 edges:List Cw
 pnl:Bool
 pools:List D3
 defaults:Strs
def AZ.av (g:AZ):AV:= .st [.sl 7 g.enl (g.edges.map Cw.av),.sl 2 g.pnl (g.pools.map D3.av),g.defaults.av]
theorem DO {n:Int} (h1: -9223372036854775808≤n) (h2:n<9223372036854775808):IntKind.i64.wrap n=n:=by
 show (if (true&&decide (n % (18446744073709551616:Int)≥(9223372036854775808:Int)))=true then n % (18446744073709551616:Int)-(18446744073709551616:Int) else n % (18446744073709551616:Int))=n
 simp only [Bool.true_and,decide_eq_true_eq]
 split<;>omega
theorem EE {i n:Nat} (h:i<n) (hn:n≤281474976710656):IntKind.i64.wrap ((i:Int)+1)=((i+1:Nat):Int):=by
 rw [DO (by omega) (by omega)];omega
theorem HL {α:Type} {xs:List α} {i:Nat} {x:α} {f:α→Bool} (hx:xs[i]? =some x) (h:f x=false):xs.all f=false:=by
 rw [List.all_eq_false]
 exact ⟨x,List.mem_of_getElem? hx,by simp [h]⟩
theorem Dl {α:Type} {xs:List α} {i:Nat} {x:α} {f:α→Bool} (hx:xs[i]? =some x) (hp:(xs.take i).all f=true) (h:f x=true):(xs.take (i+1)).all f=true:=by
 rw [List.take_add_one,hx]
 simp [hp,h]
theorem EJ {α:Type} {xs:List α} {i:Nat} {f:α→Bool} (hp:(xs.take i).all f=true) (h:xs.length≤i):xs.all f=true:=by
 rwa [List.take_of_length_le h] at hp
theorem fits0 {env env':Ba} {h:A4} (k:JA [] h env env'):UU [] env h env' ⟨0,[]⟩:=⟨List.nodup_nil,rfl,trivial,k⟩
theorem A3 {keep:List Nat} {h:A4} {d:Nat} {x:AV} (hc:closed x=true):B4 keep h (d+1) x=some x:=by
 cases x with
 |own _ _ _=>simp [closed] at hc
 |loc _ _ _=>simp [closed] at hc
 |st fs=>simp only [closed] at hc;simp only [B4,mapC,hc,if_true,Option.map_some]
 |tup fs=>simp only [closed] at hc;simp only [B4,mapC,hc,if_true,Option.map_some]
 |fn f fs=>simp only [closed] at hc;simp only [B4,mapC,hc,if_true,Option.map_some]
 |_=>rfl
def Wo (b:Int):Bool:=decide (97≤b)&&decide (b≤122)||decide (48≤b)&&decide (b≤57)||decide (b=95)
def Id (env:Ba):Ba→Prop
 | []=>True
 |(t,x)::r=>env.get t=x∧closed x=true∧Id env r
theorem Id.fits {keep:List Nat} {h:A4} {env:Ba}: ∀ {env':Ba},Id env env'→JA keep h env env'
 | [],_=>trivial
 |(t,x)::r,k=>⟨by rw [k.1];exact A3 k.2.1,Id.fits k.2.2⟩
theorem fitsC {env env':Ba} {h:A4} (k:Id env env'):UU [] env h env' ⟨0,[]⟩:=fits0 k.fits
theorem Au {keep:List Nat}: ∀i,i<0→keep[i]? =some i:=fun i h=>absurd h (Nat.not_lt_zero i)
end
end Go.Lift
namespace Go.Lift
noncomputable section
open Go Go.RowKit
def BA (c:UInt8):List UInt8→List (List UInt8)
 | []=>[[]]
 |b::l=>if b=c then []::BA c l else match BA c l with
  | []=>[[b]]
  |p::r=>(b::p)::r
theorem Ua (c:UInt8):Lib.index [] [c]= -1:=by simp [Lib.index]
theorem SL (c b:UInt8) (l:List UInt8):Lib.index (b::l) [c]=if b=c then 0 else if Lib.index l [c]= -1 then -1 else Lib.index l [c]+1:=by
 conv=>lhs;unfold Lib.index
 by_cases h:b=c
 ·subst h;simp
 ·have:(c==b)=false:=by simpa using fun e=>h e.symm
  have h': ¬c=b:=fun e=>h e.symm
  simp [h,h',this]
theorem Md (c:UInt8): ∀l:List UInt8,Lib.splitK [c] 0 (Lib.count l [c]) l=BA c l∧(Lib.splitK [c] 0 (Lib.count l [c]) l).length=Lib.count l [c]+1
 | []=>by rw [Lib.count_miss (Ua c)];exact ⟨rfl,rfl⟩
 |b::l=>by
  obtain ⟨ih1,ih2⟩:=Md c l
  have hx:=SL c b l
  by_cases h:b=c
  ·rw [if_pos h] at hx
   have hc:=Lib.count_hit (sub:=[c]) (i:=0) (by simp) hx
   simp only [Nat.zero_add,List.length_singleton,List.drop_succ_cons,List.drop_zero] at hc
   rw [hc,Nat.add_comm 1]
   have e:Lib.splitK [c] 0 (Lib.count l [c]+1) (b::l)=[]::Lib.splitK [c] 0 (Lib.count l [c]) l:=by
    conv=>lhs;unfold Lib.splitK
    rw [hx];simp
   rw [e,ih1]
   refine ⟨by simp [BA,h],?_⟩
   rw [←ih1];simp only [List.length_cons,ih2]
  ·rw [if_neg h] at hx
   by_cases hm:Lib.index l [c]= -1
   ·rw [if_pos hm] at hx
    rw [Lib.count_miss hx]
    rw [Lib.count_miss hm] at ih1
    refine ⟨?_,rfl⟩
    simp only [BA,if_neg h]
    rw [←ih1];rfl
   ·rw [if_neg hm] at hx
    obtain ⟨i,hi⟩: ∃i:Nat,Lib.index l [c]=i:=⟨(Lib.index l [c]).toNat,by have:=Lib.index_ge l [c];omega⟩
    rw [hi] at hx
    have hc:=Lib.count_hit (sub:=[c]) (i:=i+1) (by simp) (by rw [hx];rfl)
    have hc2:=Lib.count_hit (sub:=[c]) (i:=i) (by simp) hi
    simp only [List.length_singleton,List.drop_succ_cons] at hc hc2
    rw [hc2] at ih1 ih2
    rw [hc]
    have hn: ∀n,Lib.splitK [c] 0 (n+1) (b::l)=(b::l.take i)::Lib.splitK [c] 0 n (l.drop (i+1)):=by
     intro n
     conv=>lhs;unfold Lib.splitK
     rw [hx,if_neg (by simp only [beq_iff_eq];omega)]
     have:((i:Int)+1).toNat=i+1:=by omega
     simp [this]
    have hn2: ∀n,Lib.splitK [c] 0 (n+1) l=l.take i::Lib.splitK [c] 0 n (l.drop (i+1)):=by
     intro n
     conv=>lhs;unfold Lib.splitK
     rw [hi,if_neg (by simp only [beq_iff_eq];omega)]
     simp
    rw [Nat.add_comm 1] at ih1 ih2 ⊢
    rw [hn2] at ih1 ih2
    rw [hn]
    simp only [BA,if_neg h]
    rw [←ih1]
    refine ⟨rfl,?_⟩
    simpa using ih2
theorem GQ (c:UInt8): ∀(l p:List UInt8),p∈BA c l→p.length≤l.length
 | [],p,h=>by simp [BA] at h;simp [h]
 |b::l,p,h=>by
  simp only [BA] at h
  split at h
  ·rcases List.mem_cons.1 h with rfl|h
   ·simp
   ·have:=GQ c l p h;simp;omega
  ·split at h
   ·simp at h;simp [h]
   ·rename_i q r hq
    rcases List.mem_cons.1 h with rfl|h
    ·have:=GQ c l q (by rw [hq];simp);simp;omega
    ·have:=GQ c l p (by rw [hq];simp [h]);simp;omega
def EG (l:List UInt8):ByteArray:=⟨l.toArray⟩
theorem Pm (l:List UInt8):(EG l).data.toList=l:=by simp [EG]
theorem Jr (s:ByteArray):EG s.data.toList=s:=rfl
theorem Ig {a b:ByteArray} (h:a.data.toList=b.data.toList):a=b:=by
 rw [←Jr a,←Jr b,h]
theorem Sb (c:UInt8) (s:ByteArray):Lib.splitB ⟨#[c]⟩ 0 (Lib.countB s ⟨#[c]⟩) s=(BA c s.data.toList).map EG∧(Lib.splitB ⟨#[c]⟩ 0 (Lib.countB s ⟨#[c]⟩) s).length=Lib.countB s ⟨#[c]⟩+1:=by
 have hd:=Lib.splitB_data ⟨#[c]⟩ 0 (Lib.countB s ⟨#[c]⟩) s
 obtain ⟨h1,h2⟩:=Md c s.data.toList
 have e:Lib.splitB ⟨#[c]⟩ 0 (Lib.countB s ⟨#[c]⟩) s=(BA c s.data.toList).map EG:=by
  rw [←h1]
  have hd':(Lib.splitB ⟨#[c]⟩ 0 (Lib.countB s ⟨#[c]⟩) s).map (·.data.toList)=Lib.splitK [c] 0 (Lib.count s.data.toList [c]) s.data.toList:=hd
  rw [←hd',List.map_map]
  conv=>lhs;rw [←List.map_id (Lib.splitB ⟨#[c]⟩ 0 (Lib.countB s ⟨#[c]⟩) s)]
  rfl
 refine ⟨e,?_⟩
 rw [e,List.length_map,←h1]
 exact h2
theorem wrap_u8 {n:Nat} (h:n<256):IntKind.u8.wrap (n:Int)=(n:Int):=by
 show (if (false&&decide ((n:Int) % (256:Int)≥(128:Int)))=true then (n:Int) % (256:Int)-(256:Int) else (n:Int) % (256:Int))=(n:Int)
 simp only [Bool.false_and,Bool.false_eq_true,if_false]
 omega
def KY (x:Nat):Bool:=decide (x<128)&&(Wo x||(x==46||x==45||x==47))
theorem index3 {x:Nat} (h:x<128):decide (0≤Lib.indexByte [46,45,47] (Int.toNat (x:Int)).toUInt8)=(x==46||x==45||x==47):=by
 rw [Int.toNat_natCast]
 have: ∀x:_root_.Fin 128,decide (0≤Lib.indexByte [46,45,47] (x.1).toUInt8)=(x.1==46||x.1==45||x.1==47):=by decide
 exact this ⟨x,h⟩
end
end Go.Lift
namespace Go.Lift
noncomputable section
open Go Go.RowKit
def Ft (b:UInt8):Bool:=KY b.toNat
def mayL (l:List UInt8):Bool:= !l.isEmpty&&decide (l.length≤16)&&l.all Ft
def G8 (s:ByteArray):Bool:=mayL s.data.toList
theorem RQ {x:Nat} (h:128≤x):KY x=false:=by
 unfold KY
 have: ¬x<128:=by omega
 simp [this]
theorem Nl (s:ByteArray): ∀(f pos:Nat),s.size≤pos+f→(0≤Lib.idxFuncFrom (fun r=> !KY r) true s f pos↔(s.data.toList.drop pos).all Ft=false)
 |0,pos,h=>by
  have:s.data.toList.drop pos=[]:=List.drop_eq_nil_of_le (by rw [Array.length_toList];exact h)
  rw [this]
  simp [Lib.idxFuncFrom]
 |f+1,pos,h=>by
  unfold Lib.idxFuncFrom
  by_cases hp:pos<s.size
  ·rw [if_pos hp]
   have hp':pos<s.data.toList.length:=by rw [Array.length_toList];exact hp
   have hg:s.data.toList.drop pos=(s[pos]'hp)::s.data.toList.drop (pos+1):=by
    rw [List.drop_eq_getElem_cons hp'];rfl
   rw [hg]
   simp only [List.all_cons]
   by_cases ha:(s[pos]'hp).toNat<128
   ·rw [decode_ascii s pos hp ha]
    simp only []
    have ih:=Nl s f (pos+1) (by omega)
    have hb:Ft (s[pos]'hp)=KY (s[pos]'hp).toNat:=rfl
    by_cases ho:KY (s[pos]'hp).toNat=true
    ·rw [if_neg (by simp [ho]),ih,hb,ho];simp
    ·simp only [Bool.not_eq_true] at ho
     rw [if_pos (by simp [ho]),hb,ho];simp
   ·obtain ⟨h1,h2⟩:=decode_high s pos hp (by omega)
    have hb:Ft (s[pos]'hp)=false:=RQ (by omega)
    rw [if_pos (by rw [RQ h1];rfl),hb];simp
  ·rw [if_neg hp]
   have:s.data.toList.drop pos=[]:=List.drop_eq_nil_of_le (by rw [Array.length_toList];have:s.data.size=s.size:=rfl;omega)
   rw [this];simp
theorem mayS_eq (s:ByteArray):G8 s=(!decide (s=⟨#[]⟩)&&decide ((s.size:Int)≤16)&& !decide (0≤Lib.idxFunc (fun r=> !KY r) true s)):=by
 have h:=Nl s s.size 0 (by omega)
 rw [List.drop_zero] at h
 have hl:s.data.toList.length=s.size:=by rw [Array.length_toList];rfl
 unfold G8 mayL
 rw [hl]
 have e1:s.data.toList.isEmpty=decide (s=⟨#[]⟩):=by
  rw [Bool.eq_iff_iff,decide_eq_true_eq,List.isEmpty_iff]
  constructor
  ·intro e;exact Ig (by simpa using e)
  ·rintro rfl;rfl
 have e2:decide (s.size≤16)=decide ((s.size:Int)≤16):=by rw [decide_eq_decide];omega
 have e3:s.data.toList.all Ft= !decide (0≤Lib.idxFunc (fun r=> !KY r) true s):=by
  unfold Lib.idxFunc
  cases e:s.data.toList.all Ft with
  |false=>rw [decide_eq_true (h.2 e)];rfl
  |true=>rw [decide_eq_false (fun q=>by rw [h.1 q] at e;cases e)];rfl
 rw [e1,e2,e3]
end
end Go.Lift
namespace Go.Lift
noncomputable section
open Go Go.RowKit
def Jq (kept:List ByteArray) (p:ByteArray):Option (List ByteArray):=
 if p=⟨#[]⟩∨p=⟨#[46]⟩ then some kept else if p≠⟨#[46,46]⟩ then some (kept++[p]) else if kept=[] then none else some kept.dropLast
def IX:List ByteArray→List ByteArray→Option (List ByteArray)
 | [],kept=>some kept
 |p::ps,kept=>(Jq kept p).bind (IX ps)
def Rf (xs:List ByteArray):ByteArray:=⟨(Lib.join (xs.map (·.data.toList)) [47]).toArray⟩
def Bz (s:ByteArray):ByteArray×Int:=
 if G8 s=false∨s.data.toList.head? =some 47 then (⟨#[]⟩,200) else
 match IX ((BA 47 s.data.toList).map EG) [] with
 |some (k::ks)=>(Rf (k::ks),0)
 |_=>(⟨#[]⟩,200)
theorem SH {ps:List ByteArray} {i:Nat} {p:ByteArray} (h:ps[i]? =some p) (kept:List ByteArray):IX (ps.drop i) kept=(Jq kept p).bind (IX (ps.drop (i+1))):=by
 have hlt:=(List.getElem?_eq_some_iff.1 h).1
 have e:=(List.getElem?_eq_some_iff.1 h).2
 rw [List.drop_eq_getElem_cons hlt,e];rfl
theorem La (c:UInt8): ∀l:List UInt8,(BA c l).length≤l.length+1
 | []=>by simp [BA]
 |b::l=>by
  have:=La c l
  simp only [BA]
  split
  ·simp;omega
  ·split
   ·simp
   ·rename_i p r h;rw [h] at this;simp at this ⊢;omega
theorem Gz (xs:List ByteArray):A6 (xs.map AV.s)=true:=by
 rw [Ey];simp [closed]
def KeptIs (T:TypeId) (x:AV) (h:A4) (kept:List ByteArray):Prop:=
 (x= .sl 1 true []∧kept=[]∧h=⟨0,[]⟩)∨ ∃junk:List ByteArray,x= .own 0 0 kept.length∧h=⟨1,[(0,some ⟨T,1,(kept++junk).map AV.s⟩)]⟩
end
end Go.Lift
namespace Go.Lift
noncomputable section
open Go Go.RowKit
theorem Tg (h:A4) (e k:Nat) (els:List AV) (hc:A6 els=true):h.add [⟨e,k,els⟩]=⟨h.next+1,(h.next,some ⟨e,k,els⟩)::h.objs⟩:=by
 have:Obj.ren (· +h.next) ⟨e,k,els⟩=⟨e,k,els⟩:=by simp only [Obj.ren,Jk,hc,if_true]
 simp only [A4.add,Gk,List.length_singleton,this]
theorem TJ (n id off len:Nat):(AV.own id off len).ren (· +n)= .own (id+n) off len:=rfl
section
variable {P:Program} {W:World} {T:CM} {n:Nat} {ops:Array Oper} {d:Tmp} {op:Op} {ty:TypeId} {pos:String} {af:Array Edge} {r:List Oper} {env:Ba} {h:A4} {Q:Ba→A4→Prop}
theorem A1.sr {g:FuncId} {vs:List AV} {e k len:Nat} {els:List AV} (hc:callee T (ev env) ⟨some d,op,ty,pos,af,none⟩=some (g,vs)) (hcl:A6 vs=true) (hp:Aj P W g vs (.own 0 0 len) [⟨e,k,els⟩]) (he:A6 els=true) (hd:d<n)
  (kk:A1 P W T n ops r ((d,.own h.next 0 len)::env) ⟨h.next+1,(h.next,some ⟨e,k,els⟩)::h.objs⟩ Q):A1 P W T n ops (⟨some d,op,ty,pos,af,none⟩::r) env h Q:=
 Pq hc hcl hp hd (by rw [Tg _ _ _ _ he,TJ,Nat.zero_add];exact kk)
theorem Qx {g:FuncId} {vs ss:List AV} {e k len:Nat} {els:List AV} (hc:callee T (ev env) ⟨some d,op,ty,pos,af,none⟩=some (g,vs)) (hs:mapC (AX [] h 8) vs=some ss) (hp:Aj P W g ss (.own 0 0 len) [⟨e,k,els⟩]) (he:A6 els=true)
  (hF:els.all (fun y=>y.cells.all flat)=true) (hd:d<n)
  (kk:A1 P W T n ops r ((d,.own h.next 0 len)::env) ⟨h.next+1,(h.next,some ⟨e,k,els⟩)::h.objs⟩ Q):A1 P W T n ops (⟨some d,op,ty,pos,af,none⟩::r) env h Q:=
 A1.sf hc hs hp rfl (by simpa using hF) hd (by rw [Tg _ _ _ _ he,TJ,Nat.zero_add];exact kk)
end
theorem SF {keep:List Nat} {h:A4} {d id off len e:Nat} {xs:List ByteArray} (hk:DJ keep id=none) (hn:keep.contains id=false) (hg:h.get id=some ⟨e,1,xs.map .s⟩) (hl:off+len≤xs.length) (hL:len≤DD):
  B4 keep h (d+1) (.own id off len)=some (.sl 1 false (((xs.drop off).take len).map .s)):=by
 simp only [B4,hk,AX,hn,hg]
 have:((xs.map AV.s).drop off).take len=((xs.drop off).take len).map AV.s:=by rw [←List.map_drop,←List.map_take]
 rw [if_neg (by simp),if_pos ⟨by rw [List.length_map];exact hl,hL⟩,this]
 simp only [mapC,Gz,if_true,Option.map_some]
theorem Mc {h:A4} {d id off len e:Nat} {xs:List ByteArray} (hg:h.get id=some ⟨e,1,xs.map .s⟩) (hl:off+len≤xs.length) (hL:len≤DD):
  AX [] h (d+1) (.own id off len)=some (.sl 1 false (((xs.drop off).take len).map .s)):=by
 simp only [AX,hg]
 have:((xs.map AV.s).drop off).take len=((xs.drop off).take len).map AV.s:=by rw [←List.map_drop,←List.map_take]
 rw [if_neg (by simp),if_pos ⟨by rw [List.length_map];exact hl,hL⟩,this]
 simp only [mapC,Gz,if_true,Option.map_some]
theorem finO_s {keep:List Nat} {h:A4} {d e k:Nat} {xs:List ByteArray}:GV keep h d ⟨e,k,xs.map .s⟩=some ⟨e,k,xs.map .s⟩:=by
 simp only [GV,mapC,Gz,if_true,Option.map_some]
theorem H1 {keep:List Nat} {h h':A4} {d id q e k:Nat} {xs:List ByteArray} (hg:h.get id=some ⟨e,k,xs.map .s⟩) (hg':h'.get q=some ⟨e,k,xs.map .s⟩):(h.get id).bind (GV keep h d)=h'.get q:=by
 rw [hg,hg'];exact finO_s
theorem KK: ∀(r:List (List UInt8)),(∀x∈r,x.length≤16)→(Lib.joinTail [47] r).length≤17*r.length
 | [],_=>by simp [Lib.joinTail]
 |x::r,h=>by
  have ih:=KK r fun y hy=>h y (by simp [hy])
  have hx:=h x (by simp)
  simp only [Lib.joinTail,List.map_cons,List.flatten_cons,List.length_append,List.length_cons] at ih ⊢
  simp only [List.length_nil]
  omega
theorem Vx (xs:List (List UInt8)) (h: ∀x∈xs,x.length≤16):(Lib.join xs [47]).length≤17*xs.length:=by
 cases xs with
 |nil=>simp [Lib.join_nil]
 |cons x r=>
  rw [Lib.join_cons]
  have:=KK r fun y hy=>h y (by simp [hy])
  have:=h x (by simp)
  simp only [List.length_append,List.length_cons]
  omega
theorem UF {h:A4} {e n:Nat} {xs:List ByteArray} {sep:ByteArray} (hg:h.get 0=some ⟨e,1,xs.map .s⟩) (hl:n≤xs.length) (hL:n≤DD):
  mapC (AX [] h 8) [.own 0 0 n,.s sep]=some [.sl 1 false ((xs.take n).map .s),.s sep]:=by
 have h1:=Mc (d:=7) (off:=0) hg (by omega) hL
 rw [List.drop_zero] at h1
 simp only [mapC,A6,closed,Bool.false_and,Bool.false_eq_true,if_false,EP,h1]
 rfl
theorem UN {n:Nat} (h:0<n) (hn:n≤281474976710656):IntKind.i64.wrap ((n:Int)-1)=((n-1:Nat):Int):=by
 rw [DO (by omega) (by omega)];omega
end
end Go.Lift
namespace Go.Lift
noncomputable section
open Go Go.RowKit
def SM (s:ByteArray):Bool:=decide ((Bz s).2=0)&&decide ((Bz s).1=s)
theorem Bf (s:Strs):closed s.av=true:=rfl
theorem QS (p:D3):closed p.av=true:=rfl
theorem EK (g:AZ):closed g.av=true:=rfl
def HR {α:Type} (p:α→Bool) (xs:List α):Int:=match xs.findIdx? p with
 |some i=>(i:Int)
 |none=> -1
theorem idxS_at {α:Type} {p:α→Bool} {xs:List α} {i:Nat} {x:α} (hx:xs[i]? =some x) (hp:(xs.take i).all (fun x=> !p x)=true) (h:p x=true):HR p xs=i:=by
 obtain ⟨hlt,rfl⟩:=List.getElem?_eq_some_iff.1 hx
 have:xs.findIdx? p=some i:=by
  rw [List.findIdx?_eq_some_iff_getElem]
  refine ⟨hlt,h,fun j hj=> ?_⟩
  have:=List.all_eq_true.1 hp xs[j] (by
   rw [List.mem_take_iff_getElem]
   exact ⟨j,by omega,rfl⟩)
  simpa using this
 unfold HR;rw [this]
theorem U9 {α:Type} {p:α→Bool} {xs:List α} (hp:xs.all (fun x=> !p x)=true):HR p xs= -1:=by
 have:xs.findIdx? p=none:=by
  rw [List.findIdx?_eq_none_iff]
  intro x hx
  simpa using List.all_eq_true.1 hp x hx
 unfold HR;rw [this]
end
end Go.Lift
namespace Go.Lift
noncomputable section
open Go Go.RowKit
def AZ.pt (g:AZ):AV:= .pt [.sl 7 g.enl (g.edges.map Cw.av),.sl 2 g.pnl (g.pools.map D3.av),g.defaults.av]
def G9 (g:AZ) (name:ByteArray):Int:=HR (fun p=>decide (p.name=name)) g.pools
end
end Go.Lift
namespace Go.Lift
noncomputable section
open Go Go.RowKit
def Et (b:UInt8):Bool:=decide (32≤b.toNat)&&decide (b.toNat≤126)
def LS (s:ByteArray) (most:Int):Bool:=s.data.toList.all Et&&decide ((s.size:Int)≤most)
def EL (s:ByteArray):Bool:= !decide (s=⟨#[]⟩)&&LS s 256
def K9 (ss:Strs):Bool:=ss.xs.all SM&&decide ((ss.xs.length:Int)≤8)
def Fk (e:Cw):Bool:=[e.outs,e.ins,e.implicit,e.order].all K9&&(decide ((e.outs.xs.length:Int)>0)&&EL e.command&&(decide (e.pool=⟨#[]⟩)||G8 e.pool))
def Fr {α:Type} (f:Nat→α→Bool):Nat→List α→Bool
 |_,[]=>true
 |i,x::xs=>f i x&&Fr f (i+1) xs
theorem QP {α:Type} {f:Nat→α→Bool} {xs:List α} {i:Nat} {x:α} (h:xs[i]? =some x):Fr f i (xs.drop i)=(f i x&&Fr f (i+1) (xs.drop (i+1))):=by
 have hlt:=(List.getElem?_eq_some_iff.1 h).1
 have e:=(List.getElem?_eq_some_iff.1 h).2
 rw [List.drop_eq_getElem_cons hlt,e];rfl
def Kr (g:AZ) (k:Nat) (p:D3):Bool:=G8 p.name&& !decide (p.depth<1)&& !decide (p.depth>8)&&decide (G9 g p.name=k)
def HB (g:AZ):Bool:=Fr (Kr g) 0 g.pools&&decide ((g.pools.length:Int)≤4)
def Eo (g:AZ) (e:Cw):Bool:=Fk e&&(decide (e.pool=⟨#[]⟩)|| !decide (G9 g e.pool<0))
def LL (g:AZ):Bool:=g.edges.all (Eo g)&&(decide ((g.edges.length:Int)≤16)&&HB g&&K9 g.defaults)
theorem N7 {s:ByteArray} {i:Nat} (h:i<s.size): ∃b,s.data[i]? =some b∧s.data.toList[i]? =some b:=by
 have h':i<s.data.size:=h
 exact ⟨s.data[i],Array.getElem?_eq_getElem h',by simp [h']⟩
theorem Dg (s:ByteArray):s.data.toList.length=s.size:=by rw [Array.length_toList];rfl
theorem Ii (g:AZ):closed g.pt=true:=rfl
def Cw.pt (e:Cw):AV:= .pt [e.outs.av,e.ins.av,e.implicit.av,e.order.av,.s e.command,.b e.deps,.s e.pool]
theorem Ih (e:Cw):closed e.pt=true:=rfl
theorem PF (L:List Strs):A6 (L.map Strs.av)=true:=by
 rw [Ey];simp [closed,Bf]
theorem Ok {keep:List Nat} {h:A4} {d id off len e:Nat} {xs:List Strs} (hk:DJ keep id=none) (hn:keep.contains id=false) (hg:h.get id=some ⟨e,1,xs.map Strs.av⟩) (hl:off+len≤xs.length) (hL:len≤DD):
  B4 keep h (d+1) (.own id off len)=some (.sl 1 false (((xs.drop off).take len).map Strs.av)):=by
 simp only [B4,hk,AX,hn,hg]
 have:((xs.map Strs.av).drop off).take len=((xs.drop off).take len).map Strs.av:=by rw [←List.map_drop,←List.map_take]
 rw [if_neg (by simp),if_pos ⟨by rw [List.length_map];exact hl,hL⟩,this]
 simp only [mapC,PF,if_true,Option.map_some]
end
end Go.Lift
namespace Go.Lift
noncomputable section
open Go Go.RowKit
theorem Ng {keep:List Nat} {h:A4} {d:Nat} {ob:Obj} (hc:A6 ob.els=true):GV keep h d ob=some ob:=by
 simp only [GV,mapC,hc,if_true,Option.map_some]
theorem MI {keep:List Nat} {h h':A4} {d id q:Nat} {ob:Obj} (hg:h.get id=some ob) (hg':h'.get q=some ob) (hc:A6 ob.els=true):(h.get id).bind (GV keep h d)=h'.get q:=by
 rw [hg,hg'];exact Ng hc
theorem TM {h:A4} {d id e:Nat} {g:AZ} (hg:h.get id=some ⟨e,3,[g.av]⟩):AX [] h (d+1) (.loc id 0 0)=some g.pt:=by
 simp only [AX,hg]
 rfl
theorem Wh {h:A4} {id e:Nat} {g:AZ} (hg:h.get id=some ⟨e,3,[g.av]⟩):mapC (AX [] h 8) [.loc id 0 0]=some [g.pt]:=by
 simp only [mapC,A6,closed,Bool.false_and,Bool.false_eq_true,if_false,EP,TM hg]
theorem snap_gs {h:A4} {id e:Nat} {g:AZ} {s:ByteArray} (hg:h.get id=some ⟨e,3,[g.av]⟩):mapC (AX [] h 8) [.loc id 0 0,.s s]=some [g.pt,.s s]:=by
 simp only [mapC,A6,closed,Bool.false_and,Bool.false_eq_true,if_false,EP,TM hg]
 rfl
end
end Go.Lift
namespace Go.Lift
noncomputable section
open Go Go.RowKit
def rowR (xs:List ByteArray):AV:=if xs=[] then .sl 1 true [] else .own 0 0 xs.length
def rowS (T:TypeId) (xs:List ByteArray):List Obj:=if xs=[] then [] else [⟨T,1,xs.map .s⟩]
def RowIs (T:TypeId) (x:AV) (h:A4) (kept:List ByteArray):Prop:=
 (x= .sl 1 true []∧kept=[]∧h=⟨0,[]⟩)∨(kept≠ []∧x= .own 0 0 kept.length∧h=⟨1,[(0,some ⟨T,1,kept.map AV.s⟩)]⟩)
theorem S6:rowR []= .sl 1 true []:=rfl
theorem S8 (T:TypeId):rowS T []=[]:=rfl
theorem S7 {xs:List ByteArray} (h:xs≠ []):rowR xs= .own 0 0 xs.length:=if_neg h
theorem S9 {T:TypeId} {xs:List ByteArray} (h:xs≠ []):rowS T xs=[⟨T,1,xs.map .s⟩]:=if_neg h
def CP (es:List Cw):List ByteArray:=es.flatMap fun e=>e.outs.xs
theorem RS {es:List Cw} {i:Nat} {e:Cw} (h:es[i]? =some e):CP (es.take (i+1))=CP (es.take i)++e.outs.xs:=by
 unfold CP
 rw [List.take_add_one,h]
 simp
theorem SX {es:List Cw} (i:Nat):(CP (es.take i)).length≤(CP es).length:=by
 conv=>rhs;rw [←List.take_append_drop i es]
 unfold CP
 rw [List.flatMap_append,List.length_append];omega
theorem SJ (ob:Obj):(S0 [ob]).get 0=some ob:=by rw [D9];rfl
end
end Go.Lift
namespace Go.Lift
noncomputable section
open Go Go.RowKit
theorem UH {w0 w:World} {μ:Mu} {h:A4} (s:DE w0 μ w h) (os:Array Go.Obj):K7 w0 μ w h μ (Sort.grow w os) h:=by
 have hold: ∀g,g<w.heap.size→(Sort.grow w os).heap[g]? =w.heap[g]? :=fun g hg=>by
  show (w.heap++os)[g]? =_
  rw [Array.getElem?_append_left hg]
 have hsz:w.heap.size≤(Sort.grow w os).heap.size:=by
  show _≤(w.heap++os).size
  rw [Array.size_append];omega
 have e:Gd w μ (Sort.grow w os) μ:=Gd.of (fun g hg _=>hold g hg) (fun _ _ h=>Or.inl h) (fun g hg=>Or.inl hg)
 refine ⟨⟨⟨s.below.os,s.below.tape,s.below.output,Nat.le_trans s.below.size hsz,fun k hk=> ?_⟩,fun id t ht=> ?_,s.inj,s.live,s.ylt,fun id o t ho ht=> ?_⟩,e,Nat.le_refl _,fun id p q=>absurd p q,rfl⟩
 ·rw [hold k (by have:=s.below.size;omega)];exact s.below.block k hk
 ·have:=s.lt id t ht;exact ⟨this.1,by omega⟩
 ·exact (s.blk id o t ho ht).mono e (hold _ (s.lt id t ht).2)
theorem N3 {xs:List ByteArray} {j:Nat} {x:AV} (h:(xs.map AV.s)[j]? =some x): ∃b,xs[j]? =some b∧x= .s b:=by
 rw [List.getElem?_map] at h
 obtain ⟨b,hb,rfl⟩:=Option.map_eq_some_iff.1 h
 exact ⟨b,hb,rfl⟩
theorem Sd {w0 w:World} {μ:Mu} {h:A4} (s:DE w0 μ w h) {id:Nat} {T:TypeId} {xs:List ByteArray} (hg:h.get id=some ⟨T,1,xs.map .s⟩) (hne:xs≠ []) {v:Value} (hv:VR w μ (.own id 0 xs.length) v):
  ∃b c,v= .slice (some ⟨b,0,none⟩) xs.length c∧xs.length≤c∧c≤maxLen∧b<w.heap.size∧Sort.Holds Go.Proofs.encStr w b 0 (xs.map (·.data.toList)).toArray∧(∀x∈xs,x.size≤DD)∧
   (∃sl,μ id=some (some sl)∧sl.g=b∧sl.cap=c∧sl.k=1)∧
   ∀(ys:List (List UInt8)) (k:Nat),ys.length=xs.length→(∀y∈ys,y.length≤DD)→
    K7 w0 μ w h μ (Sort.putRow Go.Proofs.encStr (Sort.ahead w k) b 0 ys.toArray) (h.put id (some ⟨T,1,ys.map (fun y=>AV.s (EG y))⟩)):=by
 have hpos:0<xs.length:=List.length_pos_iff.2 hne
 have hm:μ id≠none:=by intro e;simp only [VR,e] at hv
 cases hmm:μ id with
 |none=>exact absurd hmm hm
 |some t=>cases t with
  |none=>exact absurd hmm (s.live id _ hg)
  |some sl=>
   have B:=s.blk id _ sl hg hmm
   simp only [VR,hmm] at hv
   obtain ⟨a,c,rfl,h2,h3,h4,h5⟩:=hv
   have ha:=h5 (by omega)
   have hk1:sl.k=1:=B.k
   rw [Nat.zero_mul] at ha
   obtain ⟨cs,c1,c2,c3⟩:=B.blk
   simp only [Nat.mul_one] at c2 c3
   have hget: ∀(j:Nat) (x:ByteArray),xs[j]? =some x→cs[j]? =some (Value.string x)∧x.size≤DD:=by
    intro j x hx
    obtain ⟨q1,q2⟩:=c3 j (.s x) (by rw [List.getElem?_map,hx];rfl)
    obtain ⟨u,u1,u2,_⟩:=q2 0 (.s x) rfl
    simp only [VR,CR] at u2
    rw [Nat.add_zero] at u1
    rw [u1,u2.1];exact ⟨rfl,u2.2⟩
   have hlt:=s.lt id sl hmm
   refine ⟨sl.g,c,by rw [ha],h2,by have:=B.cap;omega,hlt.2,fun j hj=> ?_,fun x hx=> ?_,⟨sl,rfl,rfl,by omega,hk1⟩,fun ys k hy hyl=> ?_⟩
   ·simp only [List.size_toArray,List.length_map] at hj
    obtain ⟨x,hx⟩: ∃x,xs[j]? =some x:=⟨xs[j],List.getElem?_eq_getElem hj⟩
    have hc:=(hget j x hx).1
    have hd:(xs.map (·.data.toList)).toArray[j]! =x.data.toList:=by
     rw [getElem!_pos _ _ (by simpa using hj)]
     have:=(List.getElem?_eq_some_iff.1 hx).2
     simp [this]
    refine ⟨?_,?_⟩
    ·simp only [World.cell?,c1,Option.isSome_none,Bool.false_eq_true,if_false,Nat.zero_add,hc,hd]
    ·simp only [World.frozen?,c1];simp
   ·obtain ⟨j,hj⟩:=List.getElem?_of_mem hx
    exact (hget j x hj).2
   ·have hcs:xs.length≤cs.size:=by have:=B.len;simp only [List.length_map] at this;omega
    let cs':=Sort.putCells Go.Proofs.encStr 0 ys.toArray cs
    have hsz:cs'.size=cs.size:=by simp [cs',Sort.putCells]
    have hb:(Sort.putRow Go.Proofs.encStr (Sort.ahead w k) sl.g 0 ys.toArray).heap[sl.g]? =some (.cells cs' T (0,0)):=by
     show (w.heap.modify sl.g _)[sl.g]? =_
     rw [Array.getElem?_modify,if_pos rfl,c1];rfl
    have ht:Turned w (Sort.putRow Go.Proofs.encStr (Sort.ahead w k) sl.g 0 ys.toArray) sl.g:=
     ⟨rfl,rfl,rfl,by simp [Sort.putRow,Sort.mapBlock,Sort.ahead],fun q hq=>by
       show (w.heap.modify sl.g _)[q]? =_
       rw [Array.getElem?_modify,if_neg (fun e=>hq e.symm)]⟩
    refine O0 s hg hmm ht rfl rfl (by simp only [List.length_map,hy];have:=B.len;simpa using this) hb (by rw [hsz,c2,Nat.mul_one]) fun j x hx=> ?_
    rw [List.getElem?_map] at hx
    obtain ⟨y,hy',rfl⟩:=Option.map_eq_some_iff.1 hx
    have hj:j<ys.length:=(List.getElem?_eq_some_iff.1 hy').1
    have hyj:=(List.getElem?_eq_some_iff.1 hy').2
    refine ⟨rfl,fun i z hz=> ?_⟩
    cases i with
    |succ i=>simp [AV.cells] at hz
    |zero=>
     simp [AV.cells] at hz
     subst hz
     refine ⟨Go.Proofs.encStr y,?_,?_,rfl⟩
     ·simp only [Nat.mul_one,Nat.add_zero]
      show (Array.mapIdx _ cs)[j]? =_
      rw [Array.getElem?_mapIdx]
      have:cs[j]? =some cs[j]:=Array.getElem?_eq_getElem (by omega)
      rw [this]
      simp only [Option.map_some,Nat.zero_le,true_and,Nat.zero_add,List.size_toArray,hj,if_true,Nat.sub_zero]
      rw [getElem!_pos _ _ (by simpa using hj)]
      simp [hyj]
     ·simp only [VR,CR]
      refine ⟨rfl,?_⟩
      have:=hyl y (List.mem_of_getElem? hy')
      show y.toArray.size≤DD
      simpa using this
end
end Go.Lift
namespace Go.Lift
noncomputable section
open Go Go.RowKit
def Hv:List (List UInt8)→Bool
 | []=>false
 |x::xs=>xs.contains x||Hv xs
theorem Ke: ∀xs:List (List UInt8),Hv xs=true↔ ¬xs.Nodup
 | []=>by simp [Hv]
 |x::xs=>by
  simp only [Hv,Bool.or_eq_true,List.contains_iff_mem,List.nodup_cons,Ke xs]
  by_cases h:x∈xs
  ·simp [h]
  ·simp [h]
theorem Sz (zs:List (List UInt8)):(Lib.compact zs).length≤zs.length:=by
 unfold Lib.compact Lib.compactUpTo
 rw [List.length_map]
 exact Nat.le_trans (List.length_filter_le _ _) (by simp)
theorem QV (zs:List (List UInt8)): ∀y∈Lib.compact zs,y∈zs:=by
 intro y hy
 unfold Lib.compact Lib.compactUpTo at hy
 obtain ⟨j,hj,rfl⟩:=List.mem_map.1 hy
 have hlt:j<zs.length:=List.mem_range.1 (List.mem_filter.1 hj).1
 rw [getElem!_pos _ _ (by simpa using hlt)]
 simp
theorem SA (zs:List (List UInt8)):(Lib.compact zs).length<zs.length↔ ∃j,0<j∧ ∃h:j<zs.length,zs[j]=zs[j-1]:=by
 unfold Lib.compact Lib.compactUpTo
 rw [List.length_map]
 conv=>lhs;rhs;rw [←List.length_range (n:=zs.length)]
 rw [List.length_filter_lt_length_iff_exists]
 constructor
 ·rintro ⟨j,hj,hk⟩
  have hlt:=List.mem_range.1 hj
  unfold Lib.keeps at hk
  simp only [decide_eq_true_eq,not_or,Decidable.not_not] at hk
  obtain ⟨h0,h1⟩:=hk
  refine ⟨j,by omega,hlt,?_⟩
  rw [getElem!_pos _ _ (by simpa using hlt),getElem!_pos _ _ (by simp;omega)] at h1
  simpa using h1
 ·rintro ⟨j,h0,hlt,h1⟩
  refine ⟨j,List.mem_range.2 hlt,?_⟩
  unfold Lib.keeps
  simp only [decide_eq_true_eq,not_or,Decidable.not_not]
  refine ⟨by omega,?_⟩
  rw [getElem!_pos _ _ (by simpa using hlt),getElem!_pos _ _ (by simp;omega)]
  simpa using h1
def I6 (zs:List (List UInt8)):List (List UInt8):=zs.mergeSort fun x y=>decide (x≤y)
theorem Wj (zs:List (List UInt8)):decide ((Lib.compact (I6 zs)).length<zs.length)=Hv zs:=by
 have hp:(I6 zs).Perm zs:=List.mergeSort_perm _ _
 have hs:(I6 zs).Pairwise fun a b=>a≤b:=by
  have:=List.pairwise_mergeSort (le:=fun x y:List UInt8=>decide (x≤y)) (fun a b c h1 h2=>by
   simp only [decide_eq_true_eq] at h1 h2 ⊢;exact List.le_trans h1 h2) (fun a b=>by
   simp only [Bool.or_eq_true,decide_eq_true_eq];exact List.le_total a b) zs
  unfold I6
  simpa using this
 have hl:(I6 zs).length=zs.length:=hp.length_eq
 rw [Bool.eq_iff_iff,decide_eq_true_eq,Ke,←hp.nodup_iff,←hl,SA]
 generalize I6 zs=ys at hs
 rw [List.pairwise_iff_getElem] at hs
 rw [List.nodup_iff_pairwise_ne,List.pairwise_iff_getElem]
 constructor
 ·rintro ⟨j,h0,hlt,he⟩ hn
  exact hn (j-1) j (by omega) hlt (by omega) he.symm
 ·intro hn
  simp only [Classical.not_forall,Decidable.not_not] at hn
  obtain ⟨i,j,hi,hj,hij,he⟩:=hn
  refine ⟨j,by omega,hj,?_⟩
  have hle:=hs (j-1) j (by omega) hj (by omega)
  rcases Nat.lt_or_ge i (j-1) with h|h
  ·have h1:=hs i (j-1) hi (by omega) h
   rw [he] at h1
   exact List.le_antisymm h1 hle
  ·have:j-1=i:=by omega
   simp only [this];exact he.symm
def IU (g:AZ):Int:=if LL g=false then 900 else if Hv ((CP g.edges).map fun x=>x.data.toList) then 901 else 0
theorem TG: ∀es:List Cw,(∀e∈es,e.outs.xs.length≤8)→(CP es).length≤8*es.length
 | [],_=>by simp [CP]
 |e::es,h=>by
  have h1:=h e (by simp)
  have ih:=TG es fun x hx=>h x (by simp [hx])
  unfold CP at ih ⊢
  simp only [List.flatMap_cons,List.length_append,List.length_cons];omega
theorem Uu {g:AZ} (h:LL g=true):(CP g.edges).length≤128:=by
 unfold LL at h
 simp only [Bool.and_eq_true,decide_eq_true_eq] at h
 obtain ⟨h1,⟨h2,_⟩,_⟩:=h
 have:=TG g.edges fun e he=>by
  have:=List.all_eq_true.1 h1 e he
  unfold Eo Fk at this
  simp only [Bool.and_eq_true,List.all_cons] at this
  have h3:=this.1.1.1
  unfold K9 at h3
  simp only [Bool.and_eq_true,decide_eq_true_eq] at h3
  omega
 omega
theorem Oy (zs:List (List UInt8)):(zs.map EG).map (fun x:ByteArray=>x.data.toList)=zs:=by
 rw [List.map_map]
 conv=>rhs;rw [←List.map_id zs]
 exact List.map_congr_left fun x _=>Pm x
theorem Wi {h:A4} {id e n:Nat} {xs:List ByteArray} (hg:h.get id=some ⟨e,1,xs.map .s⟩) (hl:n=xs.length) (hL:n≤DD):
  mapC (AX [] h 8) [.own id 0 n]=some [.sl 1 false (xs.map .s)]:=by
 have h1:=Mc (d:=7) (off:=0) hg (by omega) hL
 rw [List.drop_zero,hl,List.take_length] at h1
 rw [hl]
 simp only [mapC,A6,closed,Bool.false_and,Bool.false_eq_true,if_false,EP,h1]
theorem UG (zs:List (List UInt8)):(I6 zs).length=zs.length:=(List.mergeSort_perm _ _).length_eq
end
end Go.Lift
namespace Go.Lift
noncomputable section
open Go Go.RowKit
def NY (n:Int):Bool:=decide (97≤n)&&decide (n≤122)||decide (48≤n)&&decide (n≤57)
theorem TU (b:UInt8):Ft b=(NY b.toNat||decide ((b.toNat:Int)=46)||decide ((b.toNat:Int)=95)||decide ((b.toNat:Int)=45)||decide ((b.toNat:Int)=47)):=by
 have hb:b.toNat<256:=b.toNat_lt
 unfold Ft KY Wo NY
 generalize b.toNat=n at hb
 rw [Bool.eq_iff_iff]
 simp only [Bool.and_eq_true,Bool.or_eq_true,decide_eq_true_eq,beq_iff_eq]
 omega
theorem RL (s:ByteArray):G8 s=(s.data.toList.all Ft&&(decide ((s.size:Int)≥1)&&decide ((s.size:Int)≤16))):=by
 unfold G8 mayL
 rw [Dg]
 have e1:(!s.data.toList.isEmpty)=decide ((s.size:Int)≥1):=by
  rw [Bool.eq_iff_iff,decide_eq_true_eq,Bool.not_eq_true',←Dg]
  cases s.data.toList with
  |nil=>simp
  |cons x l=>simp;omega
 have e2:decide (s.size≤16)=decide ((s.size:Int)≤16):=by rw [decide_eq_decide];omega
 rw [e1,e2]
 cases s.data.toList.all Ft<;>simp
end
end Go.Lift
namespace Go.Lift
noncomputable section
open Go Go.RowKit
end
end Go.Lift
namespace Go.Lift
noncomputable section
open Go Go.RowKit
def bs (l:List UInt8):ByteArray:=⟨l.toArray⟩
end
end Go.Lift
namespace Go.Lift
noncomputable section
open Go Go.RowKit
section
variable {P:Program} {W:World} {T:CM} {n:Nat} {ops:Array Oper} {d:Tmp} {op:Op} {ty:TypeId} {pos:String} {af:Array Edge} {r:List Oper} {env:Ba} {h:A4} {Q:Ba→A4→Prop}
end
end
end Go.Lift
namespace Go.Lift
noncomputable section
open Go Go.RowKit
end
end Go.Lift
namespace Go.Lift
noncomputable section
open Go Go.RowKit
end
end Go.Lift
namespace Go.Lift
noncomputable section
open Go Go.RowKit
end
end Go.Lift
namespace Go.Lift
noncomputable section
open Go Go.RowKit
def Pi (T:CM) (env:Ba) (h:A4):ResultVar→Option AV
 | .tmp t=>some (env.get t)
 | .cell a t=>match Al T t with
   |some i=>(Jb h (env.get a)).bind (LP i.desc.agg i.size)
   |none=>none
def NR (T:CM) (env:Ba) (h:A4) (rs:List ResultVar):Option AV:=match EP (Pi T env h) rs with
 |some [x]=>some x
 |some xs=>some (.tup xs)
 |none=>none
section
variable {P:Program} {T:CM} (hT:BZ P T=true) {n:Nat} {B:Fn} {w0 w:World} {μ:Mu} {env:Ba} {h:A4} {a:Act}
include hT
theorem Wd (R:D0 n B w0 μ env h a w) {r:ResultVar} {x:AV} (hr:Pi T env h r=some x):
  ∃v,((match r with| .tmp t=>pure (a.tmps.getD t undef)| .cell p t=>do loadVar t (←asAddr (a.tmps.getD p undef)):Sem Value)).run P w= .ok v w∧VR w μ x v:=by
 cases r with
 |tmp t=>simp only [Pi,Option.some.injEq] at hr;subst hr;exact ⟨_,rfl,R.env t⟩
 |cell p t=>
  simp only [Pi] at hr
  split at hr
  ·rename_i i hi
   obtain ⟨cs,hm,hp⟩:=Option.bind_eq_some_iff.1 hr
   obtain ⟨u,hu,hvu⟩:=Ty hT R.sim hi hm hp (R.env p)
   obtain ⟨ad,ha,_⟩:=VM hT R.sim hm (R.env p)
   refine ⟨u,?_,hvu⟩
   rw [ha] at hu
   simp only [Instr.loadAt,Instr.sureAddr] at hu
   simp only [Sem.run_bind,ha,asAddr,Result.andThen_ok] at hu ⊢
   exact hu
  ·cases hr
theorem LW (R:D0 n B w0 μ env h a w) {fn:Func} {x:AV} (hr:NR T env h fn.results.toList=some x):
  ∃v,(results fn a.tmps).run P w= .ok v w∧VR w μ x v:=by
 have key: ∀(rs:List ResultVar) (xs:List AV),EP (Pi T env h) rs=some xs→ ∃vs,(rs.mapM (fun r=>(match r with| .tmp t=>pure (a.tmps.getD t undef)| .cell p t=>do loadVar t (←asAddr (a.tmps.getD p undef)):Sem Value))).run P w= .ok vs w∧BR w μ xs vs:=by
  intro rs
  induction rs with
  |nil=>intro xs h;simp [EP] at h;subst h;exact ⟨[],by simp,by simp [BR]⟩
  |cons r rs ih=>
   intro xs h
   simp only [EP] at h
   split at h
   ·rename_i y ys h1 h2
    cases h
    obtain ⟨v,e1,e2⟩:=Wd hT R h1
    obtain ⟨vs,e3,e4⟩:=ih _ h2
    refine ⟨v::vs,?_,by simp only [BR];exact ⟨v,vs,rfl,e2,e4⟩⟩
    simp only [List.mapM_cons,Sem.run_bind,e1,e3,Result.andThen_ok,Sem.run_pure]
   ·cases h
 unfold NR at hr
 have hfn:fn.results=(fn.results.toList).toArray:=by simp
 have fin: ∀(xs:List AV) (vs:List Value),BR w μ xs vs→(match (some xs:Option (List AV)) with
   |some [x]=>some x
   |some xs=>some (AV.tup xs)
   |none=>none)=some x→VR w μ x (if h:vs.toArray.size=1 then vs.toArray[0] else .tuple vs.toArray):=by
  intro xs vs hv hx
  cases xs with
  |nil=>simp only [BR] at hv;subst hv;cases hx;simp [VR,BR]
  |cons y ys=>
   simp only [BR] at hv
   obtain ⟨v,r,rfl,h1,h2⟩:=hv
   cases ys with
   |nil=>simp only [BR] at h2;subst h2;cases hx;simpa using h1
   |cons z zs=>
    cases hx
    simp only [BR] at h2
    obtain ⟨v2,r2,rfl,h3,h4⟩:=h2
    simp only [VR]
    refine ⟨_,by simp;rfl,?_⟩
    simp only [BR]
    exact ⟨_,_,rfl,h1,_,_,rfl,h3,h4⟩
 cases e:EP (Pi T env h) fn.results.toList with
 |none=>rw [e] at hr;cases hr
 |some xs=>
  rw [e] at hr
  obtain ⟨vs,h1,h2⟩:=key _ _ e
  refine ⟨if h:vs.toArray.size=1 then vs.toArray[0] else .tuple vs.toArray,?_,fin xs vs h2 hr⟩
  unfold results
  rw [hfn]
  simp only [List.mapM_toArray,Sem.run_bind,map_eq_pure_bind,Sem.run_pure]
  erw [h1]
  simp only [Result.andThen_ok,Sem.run_pure]
end
def FinR (T:CM) (rs:List ResultVar) (keep:List Nat) (r:AV) (S:List Obj):D8:=fun e env h=>
 (e= .normal∨e= .ret)∧keep.Nodup∧S.length=keep.length∧A0 keep h (S0 S) 0 keep∧ ∃r0,NR T env h rs=some r0∧B4 keep h 9 r0=some r
theorem RV {P:Program} {W:World} {T:CM} (hT:BZ P T=true) {f:FuncId} {fn:Func} {c:Code} (hf:P.funcs[f]? =some fn) (hb:fn.body=some c) (he: ∀(vs:Array Value) (w:World),(callFunc f vs).run P w= .ok (.enter f vs) w)
 {args:List AV} (hn:args.length≤fn.ntmps) {r:AV} {S:List Obj}
 (k:A8 P W fn.ntmps 0 c (C7 0 args) ⟨0,[]⟩ (fun e env h=> ∃keep,FinR T fn.results.toList keep r S e env h)) (hM:f<1000000:=by decide):Aj P W f args r S:= .plain hM he<|fun w Y vs hG hY hvs=>by
 have hvr:=BL _ _ hvs
 have hlen:=C3 hvr
 refine calls_of_wp hf hb ?_
 have R:D0 fn.ntmps ⟨W,w,CD Y,0⟩ w (CD Y) (C7 0 args) ⟨0,[]⟩ {tmps:=vs.toArray++Array.replicate (fn.ntmps-vs.toArray.size) undef,defers:=[]} w:={
  glob:=hG
  snc:=⟨Gd.refl _ _,rfl,fun _ h=>by simp at h,fun _ _=>rfl⟩
  low:=Nat.zero_le _
  sim:={
   below:=Below.refl _ _
   lt:=by intro _ _ h;cases h
   inj:=by intro _ _ _ _ h;cases h
   live:=by intro _ _ _ h;cases h
   ylt:=hY
   blk:=by intro _ _ _ _ h;cases h}
  env:=DY hvr _
  sz:=by simp [hlen];omega
  dfr:=rfl
  fresh:=fun _ _=>rfl}
 refine wp_mono (k _ w (CD Y) _ w rfl rfl R) ?_
 rintro e a' w' ⟨env',h',μ',⟨keep,he,hnd,hS,hF,r0,hr0,hfv⟩,R'⟩
 obtain ⟨v,hrun,hv0⟩:=LW hT R' hr0
 have hv:=Gl R'.sim keep 9 _ _ _ hfv hv0
 have R2:=JJ R' (keep:=keep) (env':=[]) (h':=S0 S) ⟨hnd,hS,hF,trivial⟩ (fun i hi=>by simp at hi)
 have hpost:a'.defers=[]∧ ∃v,(results fn a'.tmps).run P w'= .ok v w'∧ ∃v' μ'',(Ending.returned v)= .returned v'∧μ''.Y=Y∧VR w' μ'' r v'∧DE w μ'' w' (S0 S)∧(∀id,S.length≤id→μ'' id=none):=
  ⟨R'.dfr,_,hrun,_,μ'.fin keep,rfl,R'.snc.y,hv,R2.sim,R2.fresh⟩
 rcases he with rfl|rfl
 ·exact hpost
 ·exact hpost
end
end Go.Lift
namespace Go.Lift
noncomputable section
open Go Go.ChangeShapes Go.WideShapes Go.RowKit
theorem Ol {W W':World} (h:Below W.heap.size W W') (may:MemPlace→Prop):W.keptBut W' may:=h.frame may
theorem PR {W W':World} (h:Below W.heap.size W W') (a:Addr) (ha:a.block<W.heap.size):W'.frozen? a=W.frozen? a:=by
 unfold World.frozen?;rw [h.block _ ha]
section
variable {H:Type} {enc:TypeId×Value→H} {P:Program}
theorem OA {f:Func} {s:ChangeSpec} {apart fresh handsOn again:Bool} {W W':World} {args:Array Value} {v:Value} {ds gs:List (DataW H)} {before pa pv:List MemPlace}
  (hW:DataW.Whole enc P f.params.toList s.vars apart W args.toList ds gs before)
  (hres: ∀(b:Nat) (sp:Nat→Bool) (hd:Bool),DataW.TrodAll enc P W' b sp hd f.resultTypes.toList (v.resultList f.resultTypes.size) (s.fn H (ds++gs)).results [])
  (hargs: ∀sp:Nat→Bool,(∀p∈before,sp p.block=true)→DataW.TrodAll enc P W' 0 sp true f.params.toList args.toList (s.fn H (ds++gs)).args pa)
  (hvars: ∀sp:Nat→Bool,(∀p∈before,sp p.block=true)→DataW.TrodVars enc P W' sp s.vars (s.fn H (ds++gs)).vars pv)
  (hps:before=pa++pv) (hb:Below W.heap.size W W')
  (hok: ∀(j:Nat) (t:TypeId) (r:Value),f.resultTypes[j]? =some t→(v.resultList f.resultTypes.size)[j]? =some r→Value.okWide P W' .any 0 t r):
  s.post enc P f apart fresh handsOn again W args v W':=by
 have hold: ∀p∈before,(fun b=>decide (b<W.heap.size)) p.block=true:=fun p hp=>by simpa using hW.lt p hp
 have hlt:=hW.lt
 refine ⟨ds,gs,before,[],pa,pv,hW,hres _ _ _,hargs _ hold,hvars _ hold,World.keptBut_mono (fun p hp=>⟨hp,?_⟩) (Ol hb (· ∈before)),fun _=> ?_⟩
 ·rw [hps,List.mem_append] at hp
  exact Or.inr hp
 ·obtain ⟨_,_,_,_,_,hz,hn⟩:=hW
  refine ⟨hok,_,_,([]++pa)++pv,⟨[]++pa,pv,trodAll_append (hargs _ (fun _ _=>rfl)) (hres _ _ _),hvars _ (fun _ _=>rfl),rfl,?_,?_⟩,?_⟩
  ·intro b off hp
   have hp':MemPlace.cell b off∈before:=by rw [hps];simpa using hp
   rw [PR hb _ (hlt _ hp')]
   exact hz b off hp'
  ·intro ha
   have:=hn ha
   rw [hps] at this
   simpa using this
  ·intro p hp _
   rw [hps]
   simpa using hp
theorem K4 (hl:laidOutB P=true) {W W':World}: ∀ {ts:List TypeId} {vs:List Value} {ds:List (DataW H)} {ps:List MemPlace},(∀t∈ts,P.readableRec t=true∧t<P.types.size)→DataW.TrodAll enc P W 0 (fun _=>true) true ts vs ds ps→
  Below W.heap.size W W'→(∀p∈ps,p.block<W.heap.size)→ ∀sp:Nat→Bool,(∀p∈ps,sp p.block=true)→DataW.TrodAll enc P W' 0 sp true ts vs ds ps
 | [],vs,ds,ps,ht,h,hb,hlt,sp,hs=>by
   obtain ⟨rfl,rfl,rfl⟩:=trodAll_nil h
   exact trodAll_mk0
 |t::ts,vs,ds,ps,ht,h,hb,hlt,sp,hs=>by
  obtain ⟨v,vs',d,ds',p,q,rfl,rfl,rfl,h1,h2⟩:=trodAll_cons h
  have k1:=WideElems.Trod_stays hl (ht t (by simp)).1 (ht t (by simp)).2 h1 (fun x hx=>hb.same (hlt x (by simp [hx]))) (sp':=sp) (fun x hx=>hs x (by simp [hx]))
  exact ⟨p,q,k1,K4 hl (fun t' h'=>ht t' (by simp [h'])) h2 hb (fun x hx=>hlt x (by simp [hx])) sp (fun x hx=>hs x (by simp [hx])),rfl⟩
theorem PZ {fn:Func} {f:FuncId} {spec:ChangeSpec} {apart fresh handsOn again:Bool} {tb:TypeId} (hl:laidOutB P=true) (hp:(fn.params.toList.all fun t=>P.readableRec t&&decide (t<P.types.size))=true) (hr:fn.resultTypes= #[tb]) (hb:P.underlying tb=some .bool)
  (hv:spec.vars=[]) {W:World} {args:Array Value} {ds gs:List (DataW H)} {before:List MemPlace} (hspec:spec.fn H (ds++[])={results:=[.lit (.bool true)],args:=ds})
  (hW:DataW.Whole enc P fn.params.toList spec.vars apart W args.toList ds gs before)
  (walk:Calls P f args W fun e w'=>e= .returned (.bool true)∧Below W.heap.size W w'):
  Calls P f args W fun e W'=> ∃v,e= .returned v∧spec.post enc P fn apart fresh handsOn again W args v W':=by
 refine walk.mono fun e W' ⟨he,hg⟩=> ?_
 subst he
 have hlt:=hW.lt
 have hW':=hW
 obtain ⟨p,q,hA,hV,rfl,hfz,hnd⟩:=hW
 rw [hv] at hV
 obtain ⟨rfl,rfl⟩:=trodVars_none hV
 have hts: ∀t∈fn.params.toList,P.readableRec t=true∧t<P.types.size:=by
  intro t ht
  have:=List.all_eq_true.1 hp t ht
  simpa using this
 refine ⟨_,rfl,OA (pa:=p) (pv:=[]) hW' ?_ ?_ ?_ rfl hg ?_⟩
 ·intro b sp hd
  rw [hspec,hr]
  exact trodAll_cons_mk (shut_bool hb true) trodAll_mk0
 ·intro sp hs
  rw [hspec]
  exact K4 hl hts hA hg (fun x hx=>hlt x (by simp [hx])) sp (fun x hx=>hs x (by simp [hx]))
 ·intro sp hs
  rw [hspec,hv]
  rfl
 ·exact ok_one hr rfl (okWide_bool_mk hb _)
end
theorem Ub {P:Program} {W:World} {f:FuncId} {args:List AV} (k:Aj P W f args (.b true) []) {vs:List Value} (hvs:Cn W (CD fun _=>False) args vs) (hM:f<1000000:=by decide):Calls P f vs.toArray W fun e w'=>e= .returned (.bool true)∧Below W.heap.size W w':=
 (k.callsP hM W (fun _=>False) vs (DR.refl W) (fun _ h=>h.elim) hvs).mono fun e w' ⟨v,μ',e1,_,hv,hs,_⟩=>by
   simp only [VR,CR] at hv
   subst hv
   exact ⟨e1,hs.below⟩
end
end Go.Lift
namespace Go.Lift
noncomputable section
open Go Go.RowKit
def AL (x y:AV):Prop:= ∀(w:World) (μ:Mu) (v:Value),CR w μ x v→CR w μ y v
def CS:List AV→List AV→Prop
 | [],[]=>True
 |x::xs,y::ys=>AL x y∧CS xs ys
 |_,_=>False
theorem AL.refl (x:AV):AL x x:=fun _ _ _ h=>h
theorem CS.refl: ∀xs:List AV,CS xs xs
 | []=>trivial
 |x::xs=>⟨AL.refl x,CS.refl xs⟩
theorem AL.nil (k:Nat):AL (.sl k true []) (.sl k false []):=fun w μ v h=>by
 simp only [CR] at h ⊢
 rcases h with h|⟨h,_⟩
 ·exact Or.inl h
 ·cases h
theorem CS.crs {w:World} {μ:Mu}: ∀ {xs ys:List AV} {vs:List Value},CS xs ys→Cn w μ xs vs→Cn w μ ys vs
 | [],[],vs,_,h=>h
 |x::xs,y::ys,vs,k,h=>by
  simp only [Cn] at h ⊢
  obtain ⟨v,r,e,h1,h2⟩:=h
  exact ⟨v,r,e,k.1 w μ v h1,CS.crs k.2 h2⟩
theorem AL.st {xs ys:List AV} (h:CS xs ys):AL (.st xs) (.st ys):=fun w μ v k=>by
 simp only [CR] at k ⊢
 obtain ⟨cs,e,k⟩:=k
 exact ⟨cs,e,h.crs k⟩
theorem AL.tup {xs ys:List AV} (h:CS xs ys):AL (.tup xs) (.tup ys):=fun w μ v k=>by
 simp only [CR] at k ⊢
 obtain ⟨cs,e,k⟩:=k
 exact ⟨cs,e,h.crs k⟩
theorem Aj.wk {P:Program} {W:World} {f:FuncId} {xs ys:List AV} {r:AV} {S:List Obj} (k:Aj P W f ys r S) (h:CS xs ys):Aj P W f xs r S where
 enters:=k.enters
 calls:=fun w Y vs hG hY hvs=>k.calls w Y vs hG hY (h.crs hvs)
def EF (d:Nat) (keep:List Nat) (h:A4) (x y:AV):Prop:= ∃z,B4 keep h d x=some z∧(z=y∨(closed z=true∧AL z y))
abbrev AU (keep:List Nat) (h:A4) (x y:AV):Prop:=EF 9 keep h x y
theorem AU.c {d:Nat} {keep:List Nat} {h:A4} {x y:AV} (e:x=y) (hc:closed y=true):EF (d+1) keep h x y:=by subst e;exact ⟨x,A3 hc,Or.inl rfl⟩
theorem AU.f {d:Nat} {keep:List Nat} {h:A4} {x y:AV} (e:B4 keep h (d+1) x=some y):EF (d+1) keep h x y:=⟨y,e,Or.inl rfl⟩
theorem AU.w {d:Nat} {keep:List Nat} {h:A4} {x y:AV} (hc:closed x=true) (hw:AL x y):EF (d+1) keep h x y:=⟨x,A3 hc,Or.inr ⟨hc,hw⟩⟩
theorem AU.cast {d:Nat} {keep:List Nat} {h:A4} {x y x' y':AV} (ex:x=x') (ey:y'=y) (k:EF d keep h x' y'):EF d keep h x y:=by subst ex;subst ey;exact k
def Tc (d:Nat) (keep:List Nat) (h:A4):List AV→List AV→Prop
 | [],[]=>True
 |x::xs,y::ys=>EF d keep h x y∧Tc d keep h xs ys
 |_,_=>False
theorem Nd {d:Nat} {keep:List Nat} {h:A4}: ∀ {xs ys:List AV},Tc (d+1) keep h xs ys→A6 ys=true→ ∃zs,EP (B4 keep h (d+1)) xs=some zs∧(A6 xs=true→zs=xs)∧A6 zs=true∧CS zs ys
 | [],[],_,_=>⟨[],rfl,fun _=>rfl,rfl,trivial⟩
 | [],_::_,k,_=>k.elim
 |_::_,[],k,_=>k.elim
 |x::xs,y::ys,k,hc=>by
  obtain ⟨⟨z,e1,e2⟩,k2⟩:=k
  simp only [A6,Bool.and_eq_true] at hc
  obtain ⟨zs,e3,e4,e5,e6⟩:=Nd k2 hc.2
  refine ⟨z::zs,by simp only [EP,e1,e3],fun hx=> ?_,?_,?_,e6⟩
  ·simp only [A6,Bool.and_eq_true] at hx
   rw [A3 hx.1] at e1
   cases e1
   rw [e4 hx.2]
  ·rcases e2 with rfl|⟨c1,_⟩
   ·simp only [A6,hc.1,e5,Bool.and_self]
   ·simp only [A6,c1,e5,Bool.and_self]
  ·rcases e2 with rfl|⟨_,w1⟩
   ·exact AL.refl _
   ·exact w1
theorem AU.tup {d:Nat} {keep:List Nat} {h:A4} {xs ys:List AV} (k:Tc (d+1) keep h xs ys) (hc:A6 ys=true):EF (d+2) keep h (.tup xs) (.tup ys):=by
 obtain ⟨zs,e1,e2,e3,e4⟩:=Nd k hc
 refine ⟨.tup zs,?_,Or.inr ⟨e3,AL.tup e4⟩⟩
 simp only [B4]
 unfold mapC
 split
 ·rename_i hx;rw [e2 hx];rfl
 ·rw [e1];rfl
theorem AU.st {d:Nat} {keep:List Nat} {h:A4} {xs ys:List AV} (k:Tc (d+1) keep h xs ys) (hc:A6 ys=true):EF (d+2) keep h (.st xs) (.st ys):=by
 obtain ⟨zs,e1,e2,e3,e4⟩:=Nd k hc
 refine ⟨.st zs,?_,Or.inr ⟨e3,AL.st e4⟩⟩
 simp only [B4]
 unfold mapC
 split
 ·rename_i hx;rw [e2 hx];rfl
 ·rw [e1];rfl
def Am (keep:List Nat) (h:A4) (env:Ba):Ba→Prop
 | []=>True
 |(t,x)::r=>AU keep h (env.get t) x∧Am keep h env r
theorem Am.nil {keep:List Nat} {h:A4} {env:Ba}:Am keep h env []:=trivial
theorem Am.cons {keep:List Nat} {h:A4} {env:Ba} {t:Nat} {x:AV} {r:Ba} (a:AU keep h (env.get t) x) (b:Am keep h env r):Am keep h env ((t,x)::r):=⟨a,b⟩
def JB:List AV→List AV→Prop
 |_,[]=>True
 |x::xs,y::ys=>(A6 x.cells=true∧CS x.cells y.cells)∧JB xs ys
 | [],_::_=>False
theorem JB.get: ∀ {xs ys:List AV} (_:JB xs ys),ys.length≤xs.length∧ ∀(j:Nat) (y:AV),ys[j]? =some y→ ∃x,xs[j]? =some x∧A6 x.cells=true∧CS x.cells y.cells
 |_,[],_=>⟨Nat.zero_le _,fun j y hy=>by simp at hy⟩
 | [],_::_,k=>k.elim
 |x::xs,y::ys,k=>by
  obtain ⟨h1,h2⟩:=JB.get k.2
  refine ⟨by simp [h1],fun j z hz=> ?_⟩
  cases j with
  |zero=>simp at hz;subst hz;exact ⟨x,rfl,k.1⟩
  |succ j=>simp at hz;obtain ⟨q,q1,q2⟩:=h2 j z hz;exact ⟨q,by simpa using q1,q2⟩
theorem CS.len: ∀ {xs ys:List AV},CS xs ys→xs.length=ys.length
 | [],[],_=>rfl
 |_::_,_::_,k=>by simp [CS.len k.2]
def UV (keep:List Nat) (h h':A4) (id q:Nat):Prop:=(h.get id).bind (GV keep h 9)=h'.get q∨
 ∃o o1 o',h.get id=some o∧GV keep h 9 o=some o1∧h'.get q=some o'∧o1.e=o'.e∧o1.k=o'.k∧JB o1.els o'.els
def DQ (keep:List Nat) (h h':A4):Nat→List Nat→Prop
 |_,[]=>True
 |p,id::r=>UV keep h h' id p∧DQ keep h h' (p+1) r
theorem Hn {keep:List Nat} {h h':A4}: ∀ {l:List Nat} {q:Nat},DQ keep h h' q l→ ∀p id,l[p]? =some id→UV keep h h' id (q+p)
 | [],q,_,p,id,hp=>by simp at hp
 |i::r,q,k,p,id,hp=>by
  simp only [DQ] at k
  cases p with
  |zero=>simp at hp;subst hp;exact k.1
  |succ p=>
   simp at hp
   have:=Hn k.2 p id hp
   rwa [show q+1+p=q+(p+1) by omega] at this
theorem Wp {w:World} {μ:Mu} {o o':Obj} {sl:Kz} (he:o.e=o'.e) (hk:o.k=o'.k) (hw:JB o.els o'.els) (B:Iz w μ o sl):Iz w μ o' sl:=by
 obtain ⟨h1,h2⟩:=hw.get
 obtain ⟨cs,c1,c2,c3⟩:=B.blk
 refine ⟨B.k.trans hk,by rw [←hk];exact B.pos,Nat.le_trans h1 B.len,B.cap,cs,by rw [←he];exact c1,by rw [←hk];exact c2,fun j y hy=> ?_⟩
 obtain ⟨x,x1,x2,x3⟩:=h2 j y hy
 obtain ⟨q1,q2⟩:=c3 j x x1
 refine ⟨by rw [←x3.len,q1,hk],fun i z hz=> ?_⟩
 have hi:i<x.cells.length:=by rw [x3.len];exact (List.getElem?_eq_some_iff.1 hz).1
 have hx:=List.getElem?_eq_getElem hi
 obtain ⟨u,u1,u2,u3⟩:=q2 i _ hx
 refine ⟨u,by rw [←hk];exact u1,?_,u3⟩
 have key: ∀ {xs ys:List AV},A6 xs=true→CS xs ys→ ∀(i:Nat) (a b:AV),xs[i]? =some a→ys[i]? =some b→closed a=true∧AL a b:=by
  intro xs
  induction xs with
  |nil=>intro ys _ _ i a b ha;simp at ha
  |cons a0 xs ih=>
   intro ys hc hw i a b ha hb
   cases ys with
   |nil=>exact hw.elim
   |cons b0 ys=>
    simp only [A6,Bool.and_eq_true] at hc
    cases i with
    |zero=>simp at ha hb;subst ha;subst hb;exact ⟨hc.1,hw.1⟩
    |succ i=>simp at ha hb;exact ih hc.2 hw.2 i a b ha hb
 obtain ⟨e1,e2⟩:=key x2 x3 i _ _ hx hz
 exact Cx _ _ (e2 _ _ _ (Be _ _ e1 u2))
theorem A0.nil {keep:List Nat} {h h':A4} {p:Nat}:DQ keep h h' p []:=trivial
theorem A0.cons {keep:List Nat} {h h':A4} {p id:Nat} {r:List Nat} (a:(h.get id).bind (GV keep h 9)=h'.get p) (b:DQ keep h h' (p+1) r):DQ keep h h' p (id::r):=⟨Or.inl a,b⟩
theorem EI {keep:List Nat} {h h':A4} {p id:Nat} {r:List Nat} (a:UV keep h h' id p) (b:DQ keep h h' (p+1) r):DQ keep h h' p (id::r):=⟨a,b⟩
theorem A1.done {P:Program} {W:World} {T:CM} {n:Nat} {ops:Array Oper} {env:Ba} {h:A4} {Q:Ba→A4→Prop} (k:Q env h):A1 P W T n ops [] env h Q:=k
theorem Av.fin {P:Program} {W:World} {T:CM} {n m i:Nat} {ops:Array Oper} {env:Ba} {h:A4} {Q:Ba→A4→Prop} (k:Q env h):Av P W T n ops m i [] env h Q:=k
structure MS (keep:List Nat) (env:Ba) (h:A4) (env':Ba) (h':A4):Prop where
 nodup:keep.Nodup
 next:h'.next=keep.length
 objs:DQ keep h h' 0 keep
 vars:Am keep h env env'
theorem QI {keep:List Nat} {h:A4} {env:Ba}: ∀ {env':Ba},Am keep h env env'→ ∀t,env'.get t= .und∨AU keep h (env.get t) (env'.get t)
 | [],_,t=>Or.inl rfl
 |(t',x)::r,k,t=>by
  simp only [Am] at k
  rw [AG]
  by_cases ht:t=t'
  ·subst ht;right;rw [if_pos rfl];exact k.1
  ·rw [if_neg ht];exact QI k.2 t
theorem PO {w0 w:World} {μ:Mu} {h:A4} (s:DE w0 μ w h) {keep:List Nat} {x y:AV} (e:AU keep h x y) {v:Value} (hv:VR w μ x v):VR w (μ.fin keep) y v:=by
 obtain ⟨z,e1,e2⟩:=e
 have h1:=Gl s keep 9 _ _ _ e1 hv
 rcases e2 with rfl|⟨hc,hw⟩
 ·exact h1
 ·exact Cx _ _ (hw _ _ _ (Be _ _ hc h1))
theorem GN {n:Nat} {B:Fn} {w0 w:World} {μ:Mu} {env env':Ba} {h h':A4} {a:Act} (R:D0 n B w0 μ env h a w) {keep:List Nat} (F:MS keep env h env' h')
  (hN: ∀i,i<B.N→keep[i]? =some i):D0 n B w0 (μ.fin keep) env' h' a w where
 glob:=R.glob
 snc:={
  ext:=⟨fun x u hr=>C9 (DT μ keep).less _ _ (R.snc.ext.rd x u hr),fun id t ht=>by
   have:id<B.N:=by
    rcases Nat.lt_or_ge id B.N with q|q
    ·exact q
    ·rw [R.snc.top id q] at ht;cases ht
   have e:(μ.fin keep) id=μ id:=by dsimp only [Mu.fin];rw [hN id this];rfl
   rw [e];exact R.snc.ext.mu id t ht,R.snc.ext.bl,fun g q=>R.snc.ext.mt g ((DT μ keep).less g q)⟩
  y:=R.snc.y
  dom:=fun id hi h0=>by
   have e:(μ.fin keep) id=μ id:=by dsimp only [Mu.fin];rw [hN id hi];rfl
   rw [e];exact R.snc.dom id hi h0
  top:=R.snc.top}
 low:=by
  rw [F.next]
  cases e:B.N with
  |zero=>omega
  |succ k=>have:=(List.getElem?_eq_some_iff.1 (hN k (by omega))).1;omega
 sim:={
  below:=R.sim.below
  lt:=fun p t ht=>by
   obtain ⟨id,h1,h2⟩:=Option.bind_eq_some_iff.1 ht
   exact R.sim.lt id t h2
  inj:=fun p p' t t' ht ht' e=>by
   obtain ⟨id,h1,h2⟩:=Option.bind_eq_some_iff.1 ht
   obtain ⟨id',h1',h2'⟩:=Option.bind_eq_some_iff.1 ht'
   have:=R.sim.inj id id' t t' h2 h2' e
   subst this
   exact LO F.nodup h1 h1'
  live:=fun p o ho hp=>by
   obtain ⟨id,h1,h2⟩:=Option.bind_eq_some_iff.1 hp
   have:=Hn F.objs p id h1
   rw [Nat.zero_add] at this
   rcases this with this|⟨o0,o1,o2,e1,_⟩
   ·rw [ho] at this
    obtain ⟨o',h3,_⟩:=Option.bind_eq_some_iff.1 this
    exact R.sim.live id o' h3 h2
   ·exact R.sim.live id o0 e1 h2
  ylt:=R.sim.ylt
  blk:=fun p o t ho hp=>by
   obtain ⟨id,h1,h2⟩:=Option.bind_eq_some_iff.1 hp
   have:=Hn F.objs p id h1
   rw [Nat.zero_add] at this
   rcases this with this|⟨o0,o1,o2,e1,e2,e3,e4,e5,e6⟩
   ·rw [ho] at this
    obtain ⟨o',h3,h4⟩:=Option.bind_eq_some_iff.1 this
    exact PP R.sim keep h4 (R.sim.blk id o' t h3 h2)
   ·rw [ho] at e3;cases e3
    exact Wp e4 e5 e6 (PP R.sim keep e2 (R.sim.blk id o0 t e1 h2))}
 env:=fun t=>by
  rcases QI F.vars t with e|e
  ·rw [e];simp only [VR]
  ·exact PO R.sim e (R.env t)
 sz:=R.sz
 dfr:=R.dfr
 fresh:=fun p hp=>by
  dsimp only [Mu.fin]
  rw [List.getElem?_eq_none (by rw [F.next] at hp;exact hp)];rfl
def NoGoto (Q:D8):D8
 | .goto _,_,_=>False
 |e,env,h=>Q e env h
theorem Sm {P:Program} {W:World} {n N:Nat} {c:Code} {env:Ba} {h:A4} {Q:D8} (k:A8 P W n N c env h (NoGoto Q)):A8 P W n N (.scope c) env h Q:=
 A8.scope (k.mono fun e env h q=>by
  cases e with
  |goto l=>exact q.elim
  |_=>exact ⟨fun l=>by simp,q⟩)
theorem TQ {P:Program} {W:World} {n N:Nat} {Q:D8} {c:Code} {env:Ba} {h:A4} (keep:List Nat) {env':Ba} {h':A4} (F:MS keep env h env' h') (hN: ∀i,i<N→keep[i]? =some i) (k:A8 P W n N c env' h' Q):A8 P W n N c env h Q:=
 fun B w0 μ a w hW hB R=>k B w0 _ a w hW hB (GN R (by exact F) (by rw [hB];exact hN))
def CutP (N:Nat) (E:Ba) (H:A4) (Q:D8):D8
 | .normal,env,h=> ∃keep,MS keep env h E H∧ ∀i,i<N→keep[i]? =some i
 |e,env,h=>Q e env h
theorem Pr {P:Program} {W:World} {n N:Nat} {env:Ba} {h:A4} {Q:D8} {x y:Code} (E:Ba) (H:A4)
  (kx:A8 P W n N x env h (CutP N E H Q)) (ky:A8 P W n N y E H Q):A8 P W n N (.seq x y) env h Q:=by
 have key:A8 P W n N x env h (fun e env1 h1=>(e= .normal∧env1=E∧h1=H)∨(e≠ .normal∧Q e env1 h1)):=fun B w0 μ a w hW hB R=>wp_mono (kx B w0 μ a w hW hB R) fun e a' w' hh=>by
  obtain ⟨env',h',μ',q,r⟩:=hh
  cases e with
  |normal=>
   obtain ⟨keep,F,hN⟩:=q
   exact ⟨E,H,μ'.fin keep,Or.inl ⟨rfl,rfl,rfl⟩,GN r F (by rw [hB];exact hN)⟩
  |_=>exact ⟨env',h',μ',Or.inr ⟨by simp,q⟩,r⟩
 refine A8.seq (key.mono fun e env' h' q=> ?_)
 rcases q with ⟨rfl,rfl,rfl⟩|⟨hne,q⟩
 ·exact ky
 ·cases e<;>first|exact q|exact absurd rfl hne
def LoopP (N:Nat) {σ:Type} (E:σ→Ba) (H:σ→A4) (Inv:σ→Prop) (m:σ→Nat) (k:Nat) (Q:D8):D8
 | .normal,env,h=> ∃s',m s'<k∧Inv s'∧ ∃keep,MS keep env h (E s') (H s')∧ ∀i,i<N→keep[i]? =some i
 |e,env,h=>Q e env h
theorem AN {P:Program} {W:World} {n N:Nat} {env:Ba} {h:A4} {Q:D8} {c:Code} {σ:Type} (E:σ→Ba) (H:σ→A4) (Inv:σ→Prop) (m:σ→Nat) (s0:σ)
  (h0: ∃keep,MS keep env h (E s0) (H s0)∧ ∀i,i<N→keep[i]? =some i) (i0:Inv s0)
  (round: ∀s,Inv s→A8 P W n N c (E s) (H s) (LoopP N E H Inv m (m s) Q)):A8 P W n N (.loop c) env h Q:=
 fun B w0 μ a w hW hB R=>by
  obtain ⟨keep,F,hN⟩:=h0
  refine I9 (fun k a w=> ∃s μ,m s=k∧Inv s∧D0 n B w0 μ (E s) (H s) a w) (k0:=m s0) ⟨s0,_,rfl,i0,GN R F (by rw [hB];exact hN)⟩ fun k a w ⟨s,μ,hk,hI,R⟩=>
   wp_mono (round s hI B w0 μ a w hW hB R) fun e a' w' hh=> ?_
  obtain ⟨env',h',μ',q,r⟩:=hh
  cases e with
  |normal=>
   obtain ⟨s',hm,hI',keep,F,hN⟩:=q
   exact ⟨m s',by omega,s',_,rfl,hI',GN r F (by rw [hB];exact hN)⟩
  |_=>exact ⟨env',h',μ',q,r⟩
def TR (ts:List Nat) (r:AV):D8:=fun e env h=>(e= .normal∨e= .ret)∧AU [] h (Bl ts env) r
theorem Ae {P:Program} {W:World} {f:FuncId} {fn:Func} {c:Code} (hf:P.funcs[f]? =some fn) (hb:fn.body=some c) (he: ∀(vs:Array Value) (w:World),(callFunc f vs).run P w= .ok (.enter f vs) w)
 {ts:List Nat} (hr:FM fn.results.toList=some ts) {args:List AV} (hn:args.length≤fn.ntmps) {r:AV}
 (k:A8 P W fn.ntmps 0 c (C7 0 args) ⟨0,[]⟩ (TR ts r)) (hM:f<1000000:=by decide):Aj P W f args r []:= .plain hM he<|fun w Y vs hG hY hvs=>by
 have hvr:=BL _ _ hvs
 have hlen:=C3 hvr
 refine calls_of_wp hf hb ?_
 have R:D0 fn.ntmps ⟨W,w,CD Y,0⟩ w (CD Y) (C7 0 args) ⟨0,[]⟩ {tmps:=vs.toArray++Array.replicate (fn.ntmps-vs.toArray.size) undef,defers:=[]} w:={
  glob:=hG
  snc:=⟨Gd.refl _ _,rfl,fun _ h=>by simp at h,fun _ _=>rfl⟩
  low:=Nat.zero_le _
  sim:={
   below:=Below.refl _ _
   lt:=by intro _ _ h;cases h
   inj:=by intro _ _ _ _ h;cases h
   live:=by intro _ _ _ h;cases h
   ylt:=hY
   blk:=by intro _ _ _ _ h;cases h}
  env:=DY hvr _
  sz:=by simp [hlen];omega
  dfr:=rfl
  fresh:=fun _ _=>rfl}
 refine wp_mono (k _ w (CD Y) _ w rfl rfl R) ?_
 rintro e a' w' ⟨env',h',μ',⟨he,hE⟩,R'⟩
 have hv:=PO R'.sim hE (S3 R'.env ts)
 have R2:=JJ R' (keep:=[]) (env':=[]) (h':=S0 []) ⟨List.nodup_nil,rfl,trivial,trivial⟩ (fun i hi=>by simp at hi)
 have hrun:=Jl (P:=P) hr a'.tmps w'
 have hpost:a'.defers=[]∧ ∃v,(results fn a'.tmps).run P w'= .ok v w'∧ ∃v' μ'',(Ending.returned v)= .returned v'∧μ''.Y=Y∧VR w' μ'' r v'∧DE w μ'' w' (S0 [])∧(∀id,([]:List Obj).length≤id→μ'' id=none):=
  ⟨R'.dfr,_,hrun,_,μ'.fin [],rfl,R'.snc.y,hv,R2.sim,R2.fresh⟩
 rcases he with rfl|rfl
 ·exact hpost
 ·exact hpost
end
end Go.Lift
namespace Go.Lift
noncomputable section
open Go Go.RowKit
def Ar {α:Type} (k:Nat) (A:α→AV) (xs:List α):AV:= .sl k false (xs.map A)
def ptA {α:Type} (A:α→AV) (x:α):AV:= .pt (A x).cells
def Bj {α:Type} (p k:Nat) (A:α→AV) (xs:List α):AV:=match xs with
 | []=> .sl k true []
 |x::r=> .own p 0 (r.length+1)
def IE {α:Type} (e k:Nat) (A:α→AV) (xs:List α):Option Obj:=match xs with
 | []=>none
 |x::r=>some ⟨e,k,(x::r).map A⟩
section
variable {T:CM} {ρ:Cs} {h:A4} {dst:Option Tmp} {ty:TypeId} {pos:String} {af:Array Edge} {gd:Option (Nat×Bool)} {α:Type} {A:α→AV}
theorem AH {t yt:TypeId} {x y:Operand} {i m:Nat} (ex:ρ (Ip T t) x=some (.i .i64 (i:Int))) (ey:ρ (Ip T t) y=some (.i .i64 (m:Int))) (hb:i+m≤9223372036854775807):
  Gt T ρ h ⟨dst,.binOp .add t x y yt,ty,pos,af,gd⟩=some (.i .i64 ((i+m:Nat):Int)):=by
 simp only [Gt,ex,ey,Qb,RU,if_true]
 rw [DO (by omega) (by omega)];rfl
theorem PW {t yt:TypeId} {x y:Operand} {i m:Nat} (ex:ρ (Ip T t) x=some (.i .i64 (i:Int))) (ey:ρ (Ip T t) y=some (.i .i64 (m:Int))) (hle:m≤i) (hb:i≤9223372036854775807):
  Gt T ρ h ⟨dst,.binOp .sub t x y yt,ty,pos,af,gd⟩=some (.i .i64 ((i-m:Nat):Int)):=by
 simp only [Gt,ex,ey,Qb,RU,if_true]
 rw [DO (by omega) (by omega)]
 congr 2;omega
theorem BI {x:Operand} {t e:TypeId} {k:Nat} {nl:Bool} {xs:List α} (ex:ρ 0 x=some (.sl k nl (xs.map A))) (et:Bk T t= .slice e):
  Gt T ρ h ⟨dst,.call ⟨.builtin .len,#[x],#[t]⟩,ty,pos,af,gd⟩=some (.i .i64 (xs.length:Int)):=by
 simp only [Gt,Pc,ex,et,List.length_map]
theorem Ra {x:Operand} {t e:TypeId} {p k:Nat} {xs:List α} (ex:ρ 0 x=some (Bj p k A xs)) (et:Bk T t= .slice e) (hg:xs≠ []→(h.get p).isSome=true):
  Gt T ρ h ⟨dst,.call ⟨.builtin .len,#[x],#[t]⟩,ty,pos,af,gd⟩=some (.i .i64 (xs.length:Int)):=by
 cases xs with
 |nil=>simp only [Bj] at ex;simp only [Gt,Pc,ex,et,List.length_nil]
 |cons x r=>simp only [Bj] at ex;simp only [Gt,Pc,ex,et,List.length_cons,hg (by simp),if_true]
theorem KT {xs:List α} {i:Nat} {y:α} (hy:xs[i]? =some y):(xs.map A)[i]? =some (A y):=by rw [List.getElem?_map,hy];rfl
theorem Bo {x ix:Operand} {t e:TypeId} {k:Nat} {nl:Bool} {kk:IntKind} {xs:List α} {i:Nat} {y:α} (et:CC T t=some e) (ex:ρ 0 x=some (.sl k nl (xs.map A))) (ei:ρ 0 ix=some (.i kk (i:Int))) (hk:k=Cz T e∧k≠0) (hy:xs[i]? =some y):
  Gt T ρ h ⟨dst,.indexAddr t x ix,ty,pos,af,gd⟩=some (.pt (A y).cells):=by
 simp only [Gt,et,ex,ei,Int.toNat_natCast,KT hy]
 rw [if_pos ⟨hk.1,hk.2,by omega⟩]
theorem IY {x ix:Operand} {t e:TypeId} {k:Nat} {nl:Bool} {kk:IntKind} {xs:List α} {n:Int} {y:α} (et:CC T t=some e) (ex:ρ 0 x=some (.sl k nl (xs.map A))) (ei:ρ 0 ix=some (.i kk n)) (hk:k=Cz T e∧k≠0) (hn:0≤n) (hy:xs[n.toNat]? =some y):
  Gt T ρ h ⟨dst,.indexAddr t x ix,ty,pos,af,gd⟩=some (.pt (A y).cells):=by
 simp only [Gt,et,ex,ei,KT hy]
 rw [if_pos ⟨hk.1,hk.2,hn⟩]
theorem Ly {x ix:Operand} {t e:TypeId} {id len:Nat} {kk:IntKind} {i:Nat} {ob:Obj} (et:CC T t=some e) (ex:ρ 0 x=some (.own id 0 len)) (ei:ρ 0 ix=some (.i kk (i:Int))) (hg:h.get id=some ob) (hk:ob.k=Cz T e) (hl:i<len):
  Gt T ρ h ⟨dst,.indexAddr t x ix,ty,pos,af,gd⟩=some (.loc id i 0):=by
 simp only [Gt,et,ex,ei,hg,Int.toNat_natCast,Nat.zero_add]
 rw [if_pos ⟨hk,by omega,by omega⟩]
theorem MJ {x ix:Operand} {t e:TypeId} {id len:Nat} {kk:IntKind} {n:Int} {ob:Obj} (et:CC T t=some e) (ex:ρ 0 x=some (.own id 0 len)) (ei:ρ 0 ix=some (.i kk n)) (hg:h.get id=some ob) (hk:ob.k=Cz T e) (h0:0≤n) (hl:n<len):
  Gt T ρ h ⟨dst,.indexAddr t x ix,ty,pos,af,gd⟩=some (.loc id n.toNat 0):=by
 simp only [Gt,et,ex,ei,hg,Nat.zero_add]
 rw [if_pos ⟨hk,h0,hl⟩]
theorem JF {x:Operand} {t e k:Nat} {i:TI} {id j:Nat} {xs:List α} {y:α} {r:AV} (et:Al T t=some i) (ex:ρ 0 x=some (.loc id j 0)) (hg:h.get id=some ⟨e,k,xs.map A⟩) (hy:xs[j]? =some y) (hp:LP i.desc.agg i.size (A y).cells=some r):
  Gt T ρ h ⟨dst,.load t x,ty,pos,af,gd⟩=some r:=by
 simp only [Gt,et,ex,Option.bind_some,Jb,hg,KT hy,List.drop_zero,hp]
theorem KI {x ix:Operand} {t:TypeId} {kk:IntKind} {s:ByteArray} {i:Nat} {b:UInt8} (et:Bk T t= .str) (ex:ρ 0 x=some (.s s)) (ei:ρ 0 ix=some (.i kk (i:Int))) (hy:s.data[i]? =some b):
  Gt T ρ h ⟨dst,.index t x ix,ty,pos,af,gd⟩=some (.i .u8 (b.toNat:Int)):=by
 simp only [Gt,et,ex,ei,Int.toNat_natCast,hy]
 rw [if_pos (by omega)]
theorem SI {t yt:TypeId} {x y:Operand} {a b:ByteArray} (ex:ρ (Ip T t) x=some (.s a)) (ey:ρ (Ip T t) y=some (.s b)) (hb:a.size+b.size≤DD):
  Gt T ρ h ⟨dst,.binOp .add t x y yt,ty,pos,af,gd⟩=some (.s (a++b)):=by
 simp only [Gt,ex,ey,Qb,W9,hb,if_true]
theorem JD {n m:Nat} (hn:n≤m):TT (n:Int) m=some n:=by
 unfold TT;rw [if_pos ⟨by omega,by omega⟩];simp
theorem g_sub {x:Operand} {t:TypeId} {lo hi:Option Operand} {s:ByteArray} {l g:Option Int} {a b:Nat} (ex:ρ 0 x=some (.s s)) (et:Bk T t= .str) (el:Hp ρ lo=some l) (eg:Hp ρ hi=some g)
  (ha:l.getD 0=(a:Int)) (hb:g.getD s.size=(b:Int)) (h1:a≤b) (h2:b≤s.size):
  Gt T ρ h ⟨dst,.slice t x lo hi none,ty,pos,af,gd⟩=some (.s (s.extract a b)):=by
 simp only [Gt,Option.isSome_none,Bool.false_eq_true,if_false,ex,el,eg,et,if_true,HN,ha,hb,JD h2,Option.bind_some,JD h1,Option.map_some]
theorem g_cutL {x:Operand} {t e:TypeId} {lo hi:Option Operand} {k:Nat} {nl:Bool} {xs:List α} {l g:Option Int} {a b:Nat} (ex:ρ 0 x=some (.sl k nl (xs.map A))) (et:CC T t=some e) (hk:k=Cz T e∧k≠0) (el:Hp ρ lo=some l) (eg:Hp ρ hi=some g)
  (ha:l.getD 0=(a:Int)) (hb:g.getD ((xs.length:Nat):Int)=(b:Int)) (h1:a≤b) (h2:b≤xs.length):
  Gt T ρ h ⟨dst,.slice t x lo hi none,ty,pos,af,gd⟩=some (.sl k nl (((xs.take b).drop a).map A)):=by
 simp only [Gt,Option.isSome_none,Bool.false_eq_true,if_false,ex,el,eg,et]
 rw [if_pos hk]
 simp only [HN,List.length_map,ha,hb,JD h2,Option.bind_some,JD h1,Option.map_some,List.map_drop,List.map_take]
theorem Nj {s x:Operand} {t e:TypeId} {i:TI} {p:Nat} {xs ys:List α} {X:AV} (et:CC T t=some e) (ei:Al T e=some i) (es:ρ (Ip T t) s=some (Bj p i.size A xs)) (hx:ρ (Ip T t) x=some X) (hX:HP h X=some (i.size,ys.map A)) (hy:ys≠ [])
  (h0:(i.size≠0∧i.zero.cells.length=i.size)) (hg:h.get p=IE e i.size A xs) (hp:xs=[]→h.put p none=h) (hb:(xs.length+ys.length)*i.bytes≤140737488355328) (hl:xs.length+ys.length≤DD):
  Mj T ρ h ⟨dst,.call ⟨.builtin .append,#[s,x],#[t,t]⟩,ty,pos,af,gd⟩=some (.own h.next 0 ((xs++ys).length),(h.put p none).new ⟨e,i.size,(xs++ys).map A⟩):=by
 cases ys with
 |nil=>exact absurd rfl hy
 |cons y ys=>
  cases xs with
  |nil=>
   simp only [Bj] at es
   simp only [Mj,ne_eq,not_true,if_false,et,ei,es,hx,Option.bind_some,hX]
   simp only [List.length_nil,Nat.zero_add,List.length_cons] at hb hl
   rw [if_pos ⟨trivial,h0.1,h0.2,by simpa using hb,by simpa using hl⟩,hp rfl]
   simp
  |cons z zs=>
   simp only [Bj] at es
   simp only [IE] at hg
   simp only [Mj,ne_eq,not_true,if_false,et,ei,es,hx,Option.bind_some,hX,hg]
   simp only [List.length_cons] at hb hl
   rw [if_pos ⟨trivial,h0.1,trivial,trivial,by simp,h0.2,by simpa using hb,by simpa using hl⟩]
   have e1:List.take (zs.length+1) ((z::zs).map A)++(y::ys).map A=(z::zs++y::ys).map A:=by
    rw [List.take_of_length_le (by simp),List.map_append]
   rw [e1]
   have e2:zs.length+1+(List.map A (y::ys)).length=(z::zs++y::ys).length:=by simp;omega
   rw [e2]
theorem Hu {s x:Operand} {t e:TypeId} {i:TI} {p len:Nat} {xs ys:List α} {X:AV} (et:CC T t=some e) (ei:Al T e=some i) (es:ρ (Ip T t) s=some (.own p 0 len)) (hx:ρ (Ip T t) x=some X) (hX:HP h X=some (i.size,ys.map A))
  (h0:(i.size≠0∧i.zero.cells.length=i.size)) (hg:h.get p=some ⟨e,i.size,xs.map A⟩) (hlen:len=xs.length) (hb:(xs.length+ys.length)*i.bytes≤140737488355328) (hl:xs.length+ys.length≤DD):
  Mj T ρ h ⟨dst,.call ⟨.builtin .append,#[s,x],#[t,t]⟩,ty,pos,af,gd⟩=some (.own h.next 0 ((xs++ys).length),(h.put p none).new ⟨e,i.size,(xs++ys).map A⟩):=by
 subst hlen
 simp only [Mj,ne_eq,not_true,if_false,et,ei,es,hx,Option.bind_some,hX,hg]
 rw [if_pos ⟨trivial,h0.1,trivial,trivial,by simp,h0.2,by simpa using hb,by simpa using hl⟩]
 simp [List.take_of_length_le]
theorem Tu {a v:Operand} {t e k:Nat} {i:TI} {id j:Nat} {xs:List α} {y:α} (et:Al T t=some i) (ea:ρ 0 a=some (.loc id j 0)) (ev:ρ (Ip T t) v=some (A y)) (hg:h.get id=some ⟨e,k,xs.map A⟩) (hj:j<xs.length)
  (hc: ∀z:α,(A z).cells.length=i.size) (hin:Da h (A y)=true) (hf: ∀z:α,FP (A z) (A y)=true) (hw: ∀z:α,(A z).withCells (A y).cells=A y):
  Mj T ρ h ⟨dst,.store t a v,ty,pos,af,gd⟩=some (.und,h.put id (some ⟨e,k,(xs.set j y).map A⟩)):=by
 have hx:xs[j]? =some xs[j]:=List.getElem?_eq_getElem hj
 simp only [Mj,et,ea,ev,hg,KT hx]
 rw [if_pos ⟨hc y,by rw [hc];omega,hin,hf _⟩]
 simp only [List.take_zero,List.nil_append,Nat.zero_add]
 rw [List.drop_of_length_le (by rw [hc];exact Nat.le_refl _),List.append_nil,hw,List.map_set]
theorem Vu {l c:Operand} {t e:TypeId} {i:TI} {z:α} {n:Nat} (et:CC T t=some e) (ei:Al T e=some i) (el:ρ 0 l=some (.i .i64 (n:Int))) (ec:ρ 0 c=some (.i .i64 (n:Int))) (h0:(i.size≠0∧i.zero.cells.length=i.size)) (hz:i.zero=A z) (hb:n*i.bytes≤140737488355328) (hl:n≤140737488355328):
  VT T ρ h ⟨dst,.makeSlice t l c,ty,pos,af,gd⟩=some (.own h.next 0 n,h.new ⟨e,i.size,(List.replicate n z).map A⟩):=by
 simp only [VT,et,ei,el,ec]
 rw [if_pos ⟨h0.2,h0.1,by omega,by omega,by omega,by omega⟩]
 simp [List.map_replicate,hz]
end
theorem D5 {α:Type} {A:α→AV} (hA: ∀x,closed (A x)=true) (xs:List α):A6 (xs.map A)=true:=by
 rw [Ey];simp [hA]
theorem Tq {d:Nat} {α:Type} {A:α→AV} (hA: ∀x,closed (A x)=true) {keep:List Nat} {h:A4} {id e k len:Nat} {xs:List α} (hk:DJ keep id=none) (hn:keep.contains id=false) (hg:h.get id=some ⟨e,k,xs.map A⟩) (hlen:len=xs.length) (hL:len≤DD):
  EF (d+1) keep h (.own id 0 len) (Ar k A xs):=AU.f (by
 subst hlen
 simp only [B4,hk,AX,hn,hg,Bool.false_eq_true,if_false,List.length_map,Nat.zero_add,Nat.le_refl,hL,and_self,if_true,List.drop_zero]
 rw [List.take_of_length_le (by simp)]
 simp only [mapC,D5 hA,if_true,Option.map_some];rfl)
theorem PN {d:Nat} {α:Type} {A:α→AV} (hA: ∀x,closed (A x)=true) {keep:List Nat} {h:A4} {id e k:Nat} {xs:List α} (hk:DJ keep id=none) (hn:keep.contains id=false) (hg:h.get id=IE e k A xs) (hL:xs.length≤DD):
  EF (d+1) keep h (Bj id k A xs) (Ar k A xs):=by
 cases xs with
 |nil=>exact AU.w rfl (AL.nil k)
 |cons x r=>exact Tq hA hk hn hg rfl hL
theorem QX {α:Type} {A:α→AV} {keep:List Nat} {h:A4} {id k p len:Nat} {xs:List α} (hp:DJ keep id=some p) (hx:xs≠ []) (hlen:len=xs.length):AU keep h (.own id 0 len) (Bj p k A xs):=by
 cases xs with
 |nil=>exact absurd rfl hx
 |cons x r=>subst hlen;exact AU.f (by simp only [B4,hp,Bj,List.length_cons])
theorem HQ {α:Type} {A:α→AV} {keep:List Nat} {h:A4} {id k p:Nat} {xs:List α} (hp:DJ keep id=some p):AU keep h (Bj id k A xs) (Bj p k A xs):=by
 cases xs with
 |nil=>exact AU.c rfl rfl
 |cons x r=>exact AU.f (by simp only [B4,hp,Bj])
theorem FJ {α:Type} {A:α→AV} (hA: ∀x,closed (A x)=true) {keep:List Nat} {h h':A4} {id q e k d:Nat} {xs:List α} (hg:h.get id=IE e k A xs) (hg':h'.get q=IE e k A xs):(h.get id).bind (GV keep h d)=h'.get q:=by
 rw [hg,hg']
 cases xs with
 |nil=>rfl
 |cons x r=>exact Ng (D5 hA (x::r))
theorem AQ {α:Type} {A:α→AV} (hA: ∀x,closed (A x)=true) {keep:List Nat} {h h':A4} {id q e k d:Nat} {xs:List α} (hg:h.get id=some ⟨e,k,xs.map A⟩) (hg':h'.get q=some ⟨e,k,xs.map A⟩):(h.get id).bind (GV keep h d)=h'.get q:=by
 rw [hg,hg'];exact Ng (D5 hA xs)
theorem GH {α:Type} {A:α→AV} (hA: ∀x,closed (A x)=true) {keep:List Nat} {h h':A4} {id q e k d:Nat} {xs:List α} (hx:xs≠ []) (hg:h.get id=some ⟨e,k,xs.map A⟩) (hg':h'.get q=IE e k A xs):(h.get id).bind (GV keep h d)=h'.get q:=by
 cases xs with
 |nil=>exact absurd rfl hx
 |cons x r=>exact AQ hA hg hg'
def QK (h:A4):List AV→List AV→Prop
 | [],[]=>True
 |x::xs,y::ys=>AX [] h 8 x=some y∧QK h xs ys
 |_,_=>False
theorem L9 {no:List Nat} {h:A4} {d:Nat} {x:AV} (hc:closed x=true):AX no h (d+1) x=some x:=by
 cases x with
 |own _ _ _=>simp [closed] at hc
 |loc _ _ _=>simp [closed] at hc
 |st fs=>simp only [closed] at hc;simp only [AX,mapC,hc,if_true,Option.map_some]
 |tup fs=>simp only [closed] at hc;simp only [AX,mapC,hc,if_true,Option.map_some]
 |fn f fs=>simp only [closed] at hc;simp only [AX,mapC,hc,if_true,Option.map_some]
 |_=>rfl
theorem QK.ok {h:A4} {xs ys:List AV} (k:QK h xs ys):mapC (AX [] h 8) xs=some ys:=by
 have key: ∀ {xs ys:List AV},QK h xs ys→EP (AX [] h 8) xs=some ys∧(A6 xs=true→xs=ys):=by
  intro xs
  induction xs with
  |nil=>intro ys k;cases ys with
   |nil=>exact ⟨rfl,fun _=>rfl⟩
   |cons y ys=>exact k.elim
  |cons x xs ih=>intro ys k;cases ys with
   |nil=>exact k.elim
   |cons y ys=>
    obtain ⟨h1,h2⟩:=ih k.2
    refine ⟨by simp only [EP,k.1,h1],fun hc=> ?_⟩
    simp only [A6,Bool.and_eq_true] at hc
    have:=k.1
    rw [L9 hc.1] at this
    cases this
    rw [h2 hc.2]
 obtain ⟨h1,h2⟩:=key k
 unfold mapC
 split
 ·rename_i hc;rw [h2 hc]
 ·exact h1
theorem VU {α:Type} {B:α→AV} {keep:List Nat} {h h':A4} {id q e k n:Nat} (hg:h.get id=some ⟨e,1,(List.replicate n ([]:List α)).map (fun _=>AV.sl k true [])⟩) (hg':h'.get q=some ⟨e,1,(List.replicate n ([]:List α)).map (Ar k B)⟩):UV keep h h' id q:=by
 refine Or.inr ⟨_,_,_,hg,Ng (D5 (fun _=>rfl) _),hg',rfl,rfl,?_⟩
 simp only [List.map_replicate]
 clear hg hg'
 induction n with
 |zero=>trivial
 |succ n ih=>exact ⟨⟨rfl,AL.nil k,trivial⟩,ih⟩
end
end Go.Lift
namespace Go.Lift
noncomputable section
open Go Go.RowKit
inductive Lp (α β:Type) where
 |ret (a:α)
 |brk (b:β)
theorem AP {α:Type} {xs:List α} {i:Nat} {x:α} (h:xs[i]? =some x):xs.drop i=x::xs.drop (i+1):=by
 have hlt:=(List.getElem?_eq_some_iff.1 h).1
 have e:=(List.getElem?_eq_some_iff.1 h).2
 rw [List.drop_eq_getElem_cons hlt,e]
theorem QR {s:ByteArray} {i:Nat} (h:s.size≤i):s.data.toList.length≤i:=by rw [Dg];exact h
theorem getD_some {α:Type} [Inhabited α] {xs:List α} {i:Nat} (h:i<xs.length):xs[i]? =some (xs.getD i default):=by
 rw [List.getD_eq_getElem?_getD,List.getElem?_eq_getElem h];rfl
theorem N1 {s:ByteArray} {i:Nat} (h:i<s.size):s.data[i]? =some (s.data.getD i 0):=by
 have h':i<s.data.size:=h
 rw [Array.getD_eq_getD_getElem?,Array.getElem?_eq_getElem h'];rfl
theorem QO {α:Type} {e k:Nat} {A:α→AV} {xs:List α} (h:xs≠ []) {o:Option Obj} (ho:o=IE e k A xs):o.isSome=true:=by
 cases xs with
 |nil=>exact absurd rfl h
 |cons x r=>rw [ho];rfl
def V3 {α:Type} (p k:Nat) (A:α→AV) (b:Bool) (xs:List α):AV:=match b with
 |false=> .sl k true []
 |true=> .own p 0 xs.length
def QN {α:Type} (e k:Nat) (A:α→AV) (b:Bool) (xs:List α):Option Obj:=match b with
 |false=>none
 |true=>some ⟨e,k,xs.map A⟩
theorem Cb {d:Nat} {keep:List Nat} {h:A4} {id p len len':Nat} (hp:DJ keep id=some p) (hlen:len=len'):EF (d+1) keep h (.own id 0 len) (.own p 0 len'):=by
 subst hlen;exact AU.f (by simp only [B4,hp])
theorem Q8 {α:Type} {A:α→AV} (hA: ∀x,closed (A x)=true) (hc: ∀x,A6 (A x).cells=true) {keep:List Nat} {h h':A4} {id q e k:Nat} {xs ys:List α} (hp: ∃r,xs=ys++r) (hg:h.get id=some ⟨e,k,xs.map A⟩) (hg':h'.get q=some ⟨e,k,ys.map A⟩):UV keep h h' id q:=by
 obtain ⟨r,rfl⟩:=hp
 refine Or.inr ⟨_,_,_,hg,Ng (D5 hA _),hg',rfl,rfl,?_⟩
 clear hg hg'
 induction ys with
 |nil=>cases r<;>trivial
 |cons y ys ih=>exact ⟨⟨hc y,CS.refl _⟩,ih⟩
theorem O4 {α:Type} (xs:List α) (n:Nat): ∃r,xs=xs.take n++r:=⟨xs.drop n,(List.take_append_drop n xs).symm⟩
theorem Vt {T:CM} {ρ:Cs} {h:A4} {dst:Option Tmp} {ty:TypeId} {pos:String} {af:Array Edge} {gd:Option (Nat×Bool)} {x:Operand} {t e:TypeId} {lo hi:Option Operand} {id len:Nat} {ob:Obj} {l g:Option Int} {b:Nat} (ex:ρ 0 x=some (.own id 0 len)) (hg:h.get id=some ob) (et:CC T t=some e) (hk:ob.k=Cz T e) (el:Hp ρ lo=some l) (eg:Hp ρ hi=some g)
  (ha:l.getD 0=0) (hb:g.getD (len:Int)=(b:Int)) (h2:b≤ob.els.length):
  Gt T ρ h ⟨dst,.slice t x lo hi none,ty,pos,af,gd⟩=some (.own id 0 b):=by
 simp only [Gt,Option.isSome_none,Bool.false_eq_true,if_false,ex,el,eg,hg,et]
 rw [if_pos hk]
 simp only [HN,hg,ha,hb,Nat.sub_zero,JD h2,Option.bind_some]
 have:=JD (n:=0) (m:=b) (Nat.zero_le _)
 simp only [Int.natCast_zero] at this
 rw [this];rfl
theorem boxO {e k:Nat} {keep:List Nat} {h h':A4} {i q id len p len':Nat} (hg:h.get i=some ⟨e,k,[.own id 0 len]⟩) (hp:DJ keep id=some p) (hl:len=len') (hg':h'.get q=some ⟨e,k,[.own p 0 len']⟩):(h.get i).bind (GV keep h 9)=h'.get q:=by
 subst hl
 rw [hg,hg']
 simp only [Option.bind_some,GV,mapC,A6,closed,Bool.false_and,Bool.false_eq_true,if_false,EP,B4,hp,Option.map_some]
theorem boxA {α:Type} {A:α→AV} {e k ek:Nat} {keep:List Nat} {h h':A4} {i q id len p:Nat} {xs:List α} (hx:xs≠ []) (hg:h.get i=some ⟨e,k,[.own id 0 len]⟩) (hp:DJ keep id=some p) (hl:len=xs.length) (hg':h'.get q=some ⟨e,k,[Bj p ek A xs]⟩):(h.get i).bind (GV keep h 9)=h'.get q:=by
 cases xs with
 |nil=>exact absurd rfl hx
 |cons x r=>exact boxO hg hp hl hg'
theorem V9 {α:Type} {A:α→AV} {e k ek:Nat} {keep:List Nat} {h h':A4} {i q id p:Nat} {xs:List α} (hg:h.get i=some ⟨e,k,[Bj id ek A xs]⟩) (hp:DJ keep id=some p) (hg':h'.get q=some ⟨e,k,[Bj p ek A xs]⟩):(h.get i).bind (GV keep h 9)=h'.get q:=by
 cases xs with
 |nil=>rw [hg,hg'];rfl
 |cons x r=>exact boxO hg hp rfl hg'
def Cl:List ByteArray→Nat→Nat
 | [],_=>0
 |x::r,k=>x.size+k+Cl r k
def Bp (h:A4):List AV→List AV→Prop
 | [],[]=>True
 |x::xs,y::ys=>(∃z,AX [] h 8 x=some z∧AL z y)∧Bp h xs ys
 |_,_=>False
theorem Bp.ok {h:A4}: ∀ {xs ys:List AV},Bp h xs ys→ ∃zs,QK h xs zs∧CS zs ys
 | [],[],_=>⟨[],trivial,trivial⟩
 | [],_::_,k=>k.elim
 |_::_,[],k=>k.elim
 |x::xs,y::ys,k=>by
  obtain ⟨⟨z,e1,e2⟩,k2⟩:=k
  obtain ⟨zs,e3,e4⟩:=Bp.ok k2
  exact ⟨z::zs,⟨e1,e3⟩,e2,e4⟩
theorem Bp.e {h:A4} {x y:AV} (e:AX [] h 8 x=some y): ∃z,AX [] h 8 x=some z∧AL z y:=⟨y,e,AL.refl y⟩
section
variable {P:Program} {W:World} {T:CM} {n m i:Nat} {ops:Array Oper} {d:Tmp} {op:Op} {ty:TypeId} {pos:String} {af:Array Edge} {r:List Oper} {env:Ba} {h:A4} {Q:Ba→A4→Prop}
theorem A1.sfw {g:FuncId} {vs ss:List AV} {r0:AV} (hc:callee T (ev env) ⟨some d,op,ty,pos,af,none⟩=some (g,vs)) (hs:Bp h vs ss) (hp:Aj P W g ss r0 [])
  (hf:flat r0=true) (hr:closed r0=true) (hd:d<n)
  (k:A1 P W T n ops r ((d,r0)::env) h Q):A1 P W T n ops (⟨some d,op,ty,pos,af,none⟩::r) env h Q:=by
 obtain ⟨zs,h1,h2⟩:=hs.ok
 exact A1.sf0 hc h1.ok (hp.wk h2) hf hr hd k
theorem Av.sfw {g:FuncId} {vs ss:List AV} {r0:AV} (hc:callee T (ev env) ⟨some d,op,ty,pos,af,none⟩=some (g,vs)) (hs:Bp h vs ss) (hp:Aj P W g ss r0 [])
  (hf:flat r0=true) (hr:closed r0=true) (hd:d<n)
  (k:Av P W T n ops m (i+1) r ((d,r0)::env) h Q):Av P W T n ops m i (⟨some d,op,ty,pos,af,none⟩::r) env h Q:=by
 obtain ⟨zs,h1,h2⟩:=hs.ok
 exact Av.sf0 hc h1.ok (hp.wk h2) hf hr hd k
end
theorem Pl (xs:List ByteArray):xs.length≤Cl xs 1:=by
 induction xs with
 |nil=>exact Nat.le_refl _
 |cons x xs ih=>simp only [Cl,List.length_cons];omega
theorem Rm: ∀ {xs:List AV} (h:Ds xs) {i:Nat} {x:AV},xs[i]? =some x→lim x
 | [],_,i,x,hx=>by simp at hx
 |y::ys,h,i,x,hx=>by
  simp only [Ds] at h
  cases i with
  |zero=>simp at hx;subst hx;exact h.1
  |succ i=>simp at hx;exact Rm h.2 hx
theorem BJ {α:Type} {k:Nat} {A:α→AV} {xs:List α} (h:lim (Ar k A xs)):xs.length≤281474976710656:=by
 unfold Ar at h
 simp only [lim,List.length_map] at h
 exact h.1
theorem VB {s:ByteArray} (h:lim (.s s)):s.size≤281474976710656:=by
 simp only [lim] at h
 exact h
theorem lim_mem {α:Type} {k:Nat} {A:α→AV} {xs:List α} {i:Nat} {x:α} (h:lim (Ar k A xs)) (hx:xs[i]? =some x):lim (A x):=by
 unfold Ar at h
 simp only [lim] at h
 exact Rm h.2.2 (KT (A:=A) hx)
theorem Tx: ∀ {xs:List AV},(∀(i:Nat) (y:AV),xs[i]? =some y→lim y)→Ds xs
 | [],_=>by simp only [Ds]
 |x::xs,h=>by
  simp only [Ds]
  exact ⟨h 0 x rfl,Tx fun i y hy=>h (i+1) y (by simpa using hy)⟩
theorem Sl {P:Program} {W:World} {n N:Nat} {env:Ba} {h:A4} {Q:D8} {c:Code} (t q:Nat) {id j o:Nat} {ob:Obj} {x:AV} (ht:env.get t= .loc id j o) (hg:h.get id=some ob) (hx:ob.els[q]? =some x) (k:Go.Lift.lim (.pt x.cells)→A8 P W n N c env h Q):A8 P W n N c env h Q:=
 fun B w0 μ a w hW hB R=>by
  refine k ?_ B w0 μ a w hW hB R
  have hv:=R.env t
  rw [ht] at hv
  cases hm:μ id with
  |none=>simp only [VR,hm] at hv
  |some z=>cases z with
   |none=>exact absurd hm (R.sim.live id ob hg)
   |some sl=>
    obtain ⟨cs,_,_,c3⟩:=(R.sim.blk id ob sl hg hm).blk
    show Go.Lift.lim (.pt x.cells)
    simp only [Go.Lift.lim]
    refine Tx fun i y hy=> ?_
    obtain ⟨u,_,hu,_⟩:=(c3 q x hx).2 i y hy
    exact So _ _ hu
end
end Go.Lift
namespace Go.Lift
noncomputable section
open Go Go.RowKit
section
variable {T:CM} {ρ:Cs} {h:A4} {dst:Option Tmp} {ty:TypeId} {pos:String} {af:Array Edge} {gd:Option (Nat×Bool)} {α:Type} {A:α→AV}
theorem PS {s x:Operand} {t e:TypeId} {i:TI} {k:Nat} {ys:List α} {X:AV} (et:CC T t=some e) (ei:Al T e=some i) (es:ρ (Ip T t) s=some (.sl k true [])) (hx:ρ (Ip T t) x=some X) (hX:HP h X=some (i.size,ys.map A)) (hy:ys=[])
  (h0:(i.size≠0∧i.zero.cells.length=i.size)):
  Mj T ρ h ⟨dst,.call ⟨.builtin .append,#[s,x],#[t,t]⟩,ty,pos,af,gd⟩=some (.sl i.size true [],h):=by
 subst hy
 simp only [Mj,ne_eq,not_true,if_false,et,ei,es,hx,Option.bind_some,hX,List.map_nil]
 rw [if_pos ⟨trivial,h0.1,h0.2,by simp,by simp⟩]
theorem PT {s x:Operand} {t e:TypeId} {i:TI} {k:Nat} {ys:List α} {X:AV} (et:CC T t=some e) (ei:Al T e=some i) (es:ρ (Ip T t) s=some (.sl k true [])) (hx:ρ (Ip T t) x=some X) (hX:HP h X=some (i.size,ys.map A)) (hy:ys≠ [])
  (h0:(i.size≠0∧i.zero.cells.length=i.size)) (hb:ys.length*i.bytes≤140737488355328) (hl:ys.length≤DD):
  Mj T ρ h ⟨dst,.call ⟨.builtin .append,#[s,x],#[t,t]⟩,ty,pos,af,gd⟩=some (.own h.next 0 ys.length,h.new ⟨e,i.size,ys.map A⟩):=by
 cases ys with
 |nil=>exact absurd rfl hy
 |cons y ys=>
  simp only [Mj,ne_eq,not_true,if_false,et,ei,es,hx,Option.bind_some,hX]
  rw [if_pos ⟨trivial,h0.1,h0.2,by simpa using hb,by simpa using hl⟩]
  simp
theorem g_appZ {s x:Operand} {t t' e:TypeId} {i:TI} {z:α} {n k:Nat} {kn kk:IntKind} (htt:t≠t') (et:CC T t=some e) (ed:Bk T t'= .int kn) (ei:Al T e=some i) (es:ρ (Ip T t) s=some (.sl k true [])) (hx:ρ 0 x=some (.i kk (n:Int)))
  (hn:0<n) (h0:(i.size≠0∧i.zero.cells.length=i.size)) (hz:i.zero=A z) (hb:n*i.bytes≤140737488355328) (hl:n≤DD):
  Mj T ρ h ⟨dst,.call ⟨.builtin .append,#[s,x],#[t,t']⟩,ty,pos,af,gd⟩=some (.own h.next 0 n,h.new ⟨e,i.size,(List.replicate n z).map A⟩):=by
 simp only [Mj,if_pos htt,et,ed,es,hx,ei]
 rw [if_pos ⟨by omega,by omega,by omega,h0.1,h0.2⟩]
 simp [List.map_replicate,hz]
theorem PV {t yt:TypeId} {x y:Operand} {a b:Int} (ex:ρ (Ip T t) x=some (.i .i64 a)) (ey:ρ (Ip T t) y=some (.i .i64 b)) (h1: -9223372036854775808≤a-b) (h2:a-b<9223372036854775808):
  Gt T ρ h ⟨dst,.binOp .sub t x y yt,ty,pos,af,gd⟩=some (.i .i64 (a-b)):=by
 simp only [Gt,ex,ey,Qb,RU,if_true]
 rw [DO h1 h2]
theorem PU {a:Operand} {t id j:Nat} {i:TI} {ob:Obj} {x:AV} (et:Al T t=some i) (ha:ρ 0 a=some (.loc id j 0)) (hg:h.get id=some ob) (hx:ob.els[j]? =some x) (hc:x.cells=[x]) (hi:i.desc.agg=false):
  Gt T ρ h ⟨dst,.load t a,ty,pos,af,gd⟩=some x:=by
 simp only [Gt,et,ha,Option.bind_some,Jb,hg,hx,hc,hi,List.drop_zero]
 rfl
theorem g_setC {a v:Operand} {t id j e k:Nat} {i:TI} {els:List AV} {x y:AV} (et:Al T t=some i) (ea:ρ 0 a=some (.loc id j 0)) (ev:ρ (Ip T t) v=some y) (hg:h.get id=some ⟨e,k,els⟩) (hx:els[j]? =some x) (cx:x.cells=[x]∧(∀y,x.withCells [y]=y)∧ ∀y,(∀fs,y≠ .st fs)→FP x y=true) (cy:y.cells=[y]) (ny: ∀fs,y≠ .st fs) (hs:i.size=1) (hin:Da h y=true):
  Mj T ρ h ⟨dst,.store t a v,ty,pos,af,gd⟩=some (.und,h.put id (some ⟨e,k,els.set j y⟩)):=by
 simp only [Mj,et,ea,ev,hg,hx]
 rw [if_pos ⟨by rw [cy,hs];rfl,by rw [cx.1,hs];exact Nat.le_refl _,hin,cx.2.2 y ny⟩]
 rw [cx.1,cy,hs]
 show some (AV.und,h.put id (some ⟨e,k,els.set j (x.withCells ([]++[y]++[]))⟩))=_
 rw [List.nil_append,List.append_nil,cx.2.1]
end
theorem Qw {P:Program} {W:World} {T:CM} {n:Nat} {ops:Array Oper} {d:Tmp} {op:Op} {ty:TypeId} {pos:String} {af:Array Edge} {r:List Oper} {env:Ba} {h:A4} {Q:Ba→A4→Prop} {α:Type} {A:α→AV}
  {g:FuncId} {vs:List AV} {e k len:Nat} {xs:List α} (hc:callee T (ev env) ⟨some d,op,ty,pos,af,none⟩=some (g,vs)) (hcl:A6 vs=true) (hp:Aj P W g vs (.own 0 0 len) [⟨e,k,xs.map A⟩])
  (hA: ∀x:α,closed (A x)=true) (hd:d<n)
  (q:A1 P W T n ops r ((d,.own h.next 0 len)::env) (h.new ⟨e,k,xs.map A⟩) Q):A1 P W T n ops (⟨some d,op,ty,pos,af,none⟩::r) env h Q:=by
 refine Pq hc hcl hp hd ?_
 have e1:(AV.own 0 0 len).ren (· +h.next)= .own h.next 0 len:=by simp [AV.ren]
 have e2:h.add [⟨e,k,xs.map A⟩]=h.new ⟨e,k,xs.map A⟩:=by
  simp only [A4.add,Gk,A4.new,Obj.ren,List.length_cons,List.length_nil,Nat.zero_add]
  rw [show Jk (· +h.next) (xs.map A)=xs.map A from by simp only [Jk,D5 hA,if_true]]
 rw [e1,e2];exact q
theorem Li {P:Program} {W:World} {T:CM} {n m j:Nat} {ops:Array Oper} {d:Tmp} {op:Op} {ty:TypeId} {pos:String} {af:Array Edge} {r:List Oper} {env:Ba} {h:A4} {Q:Ba→A4→Prop} {α:Type} {A:α→AV}
  {g:FuncId} {vs ss:List AV} {e k len:Nat} {xs:List α} (hc:callee T (ev env) ⟨some d,op,ty,pos,af,none⟩=some (g,vs)) (hs:Bp h vs ss) (hp:Aj P W g ss (.own 0 0 len) [⟨e,k,xs.map A⟩])
  (hA: ∀x:α,closed (A x)=true) (hF: ∀x:α,(A x).cells.all flat=true) (hd:d<n)
  (q:Av P W T n ops m (j+1) r ((d,.own h.next 0 len)::env) (h.new ⟨e,k,xs.map A⟩) Q):Av P W T n ops m j (⟨some d,op,ty,pos,af,none⟩::r) env h Q:=by
 obtain ⟨zs,h1,h2⟩:=hs.ok
 refine Av.sf hc h1.ok (hp.wk h2) rfl ?_ hd ?_
 ·simp only [List.all_cons,List.all_nil,Bool.and_true,List.all_map,List.all_eq_true,Function.comp]
  intro x _;simpa using hF x
 ·have e1:(AV.own 0 0 len).ren (· +h.next)= .own h.next 0 len:=by simp [AV.ren]
  have e2:h.add [⟨e,k,xs.map A⟩]=h.new ⟨e,k,xs.map A⟩:=by
   simp only [A4.add,Gk,A4.new,Obj.ren,List.length_cons,List.length_nil,Nat.zero_add]
   rw [show Jk (· +h.next) (xs.map A)=xs.map A from by simp only [Jk,D5 hA,if_true]]
  rw [e1,e2];exact q
def FinO (ts:List Nat) (len e k:Nat) (els:List AV):D8:=fun x env h=>(x= .normal∨x= .ret)∧ ∃id,Bl ts env= .own id 0 len∧h.get id=some ⟨e,k,els⟩
theorem JX {P:Program} {W:World} {f:FuncId} {fn:Func} {c:Code} (hf:P.funcs[f]? =some fn) (hb:fn.body=some c) (he: ∀(vs:Array Value) (w:World),(callFunc f vs).run P w= .ok (.enter f vs) w)
  {ts:List Nat} (hr:FM fn.results.toList=some ts) {args:List AV} (hn:args.length≤fn.ntmps) {len e k:Nat} {α:Type} {A:α→AV} {xs:List α} (hA: ∀x,closed (A x)=true)
  (q:A8 P W fn.ntmps 0 c (C7 0 args) ⟨0,[]⟩ (FinO ts len e k (xs.map A))) (hM:f<1000000:=by decide):Aj P W f args (.own 0 0 len) [⟨e,k,xs.map A⟩]:=by
 refine Bb hf hb he hr hn (q.mono fun x env h hh=> ?_) hM
 obtain ⟨h1,id,h2,h3⟩:=hh
 refine ⟨[id],h1,by simp,rfl,⟨AQ hA h3 (by rw [D9];rfl),trivial⟩,?_⟩
 rw [h2]
 show (match DJ [id] id with|some p=>_|none=>_)=_
 have:DJ [id] id=some 0:=by simp [DJ]
 rw [this]
theorem AL.fn {f:FuncId} {xs ys:List AV} (h:CS xs ys):AL (.fn f xs) (.fn f ys):=fun w μ v k=>by
 simp only [CR] at k ⊢
 obtain ⟨cs,e,k⟩:=k
 exact ⟨cs,e,h.crs k⟩
theorem CS.cells {w:World} {μ:Mu}: ∀ {xs ys:List AV} {a:Addr},CS xs ys→AM w μ xs a→AM w μ ys a
 | [],[],a,_,h=>h
 |x::xs,y::ys,a,k,h=>by
  simp only [AM] at h ⊢
  obtain ⟨⟨u,h1,h2⟩,h3⟩:=h
  exact ⟨⟨u,h1,k.1 w μ u h2⟩,CS.cells k.2 h3⟩
theorem AL.pt {xs ys:List AV} (h:CS xs ys):AL (.pt xs) (.pt ys):=fun w μ v k=>by
 simp only [CR] at k ⊢
 obtain ⟨a,e,k⟩:=k
 exact ⟨a,e,h.cells k⟩
def Pv (x:AV):Prop:=x.cells=[x]∧(∀y,x.withCells [y]=y)∧ ∀y,(∀fs,y≠ .st fs)→FP x y=true
theorem Pv.sl {k:Nat} {nl:Bool} {xs:List AV}:Pv (.sl k nl xs):=⟨rfl,fun _=>rfl,fun y h=>by cases y<;>first|rfl|exact absurd rfl (h _)⟩
theorem Pv.own {a b c:Nat}:Pv (.own a b c):=⟨rfl,fun _=>rfl,fun y h=>by cases y<;>first|rfl|exact absurd rfl (h _)⟩
theorem Pv.acc {α:Type} {p k:Nat} {A:α→AV} {xs:List α}:Pv (Bj p k A xs):=by cases xs<;>first|exact Pv.sl|exact Pv.own
theorem HK {α:Type} {p k:Nat} {A:α→AV} {xs:List α}:(Bj p k A xs).cells=[Bj p k A xs]:=by cases xs<;>rfl
end
end Go.Lift
namespace Go.Lift
noncomputable section
open Go Go.RowKit
structure Cq {H:Type} (bk:DataW H→Nat):Prop where
 str: ∀bs,bk (.lit (.string bs))=bs.length+1
 one: ∀d,1≤bk d
 sl: ∀e s,(e.map bk).sum+1≤bk (.slice e s)
 agg: ∀ps,(ps.map bk).sum+1≤bk (.agg ps)
structure HJ {H:Type} (enc:TypeId×Value→H) (P:Program) (w:World) (spare:Nat→Bool) (held:Bool) (bk:DataW H→Nat) (μ:Mu) (t:TypeId) {α:Type} (A:α→AV) (sz:α→Nat):Prop where
 rd: ∀(fuel:Nat) (cs:List Value) (x:DataW H×List MemPlace),DataW.trod enc P w 0 spare held fuel t cs=some x→bk x.1≤1048576→ ∃a:α,Cn w μ (A a).cells cs∧(∀u∈cs,u.oneCell'=true)∧sz a≤bk x.1
section
variable {H:Type} {enc:TypeId×Value→H} {P:Program} {w:World} {spare:Nat→Bool} {held:Bool} {bk:DataW H→Nat} {μ:Mu}
theorem HJ.int {t:TypeId} {k:IntKind} (hb:Cq bk) (ht:P.underlying t=some (.int k)):HJ enc P w spare held bk μ t (AV.i k) (fun _=>1) where
 rd fuel cs x h hbd:=by
  obtain ⟨n,rfl,rfl,_⟩:=DataW.trod_int ht h
  exact ⟨n,by simp [AV.cells,Cn,CR],by simp [Value.oneCell'],hb.one _⟩
theorem HJ.bool {t:TypeId} (hb:Cq bk) (ht:P.underlying t=some .bool):HJ enc P w spare held bk μ t AV.b (fun _=>1) where
 rd fuel cs x h hbd:=by
  obtain ⟨n,rfl,rfl⟩:=DataW.trod_bool ht h
  exact ⟨n,by simp [AV.cells,Cn,CR],by simp [Value.oneCell'],hb.one _⟩
theorem HJ.str {t:TypeId} (hb:Cq bk) (ht:P.underlying t=some .string):HJ enc P w spare held bk μ t AV.s (fun s=>s.size+1) where
 rd fuel cs x h hbd:=by
  obtain ⟨s,rfl,rfl,hs⟩:=DataW.trod_string ht h
  refine ⟨s,?_,by simp [Value.oneCell'],?_⟩
  ·simp only [AV.cells,Cn,CR]
   exact ⟨_,_,rfl,⟨rfl,by rw [hb.str,Dg] at hbd;unfold DD;omega⟩,rfl⟩
  ·rw [hb.str,Dg];exact Nat.le_refl _
theorem Tb: ∀ {xs ys:List AV} {vs us:List Value},Cn w μ xs vs→Cn w μ ys us→Cn w μ (xs++ys) (vs++us)
 | [],ys,vs,us,h,k=>by simp only [Cn] at h;subst h;simpa using k
 |x::xs,ys,vs,us,h,k=>by
  simp only [Cn] at h
  obtain ⟨v,r,rfl,h1,h2⟩:=h
  simp only [List.cons_append,Cn]
  exact ⟨v,r++us,rfl,h1,Tb h2 k⟩
theorem MO (hμ: ∀g,¬μ.mut g): ∀ {xs:List AV} {cs:List Value} {a:Addr},Cn w μ xs cs→(∀u∈cs,u.oneCell'=true)→(∀i,i<cs.length→w.cell? (a.add i)=cs[i]?)→AM w μ xs a
 | [],_,a,_,_,_=>by simp only [AM]
 |x::xs,cs,a,h,ho,hc=>by
  simp only [Cn] at h
  obtain ⟨v,r,rfl,h1,h2⟩:=h
  simp only [AM]
  refine ⟨⟨v,⟨?_,hμ _,ho v (by simp)⟩,h1⟩,MO hμ h2 (fun u hu=>ho u (by simp [hu])) fun i hi=> ?_⟩
  ·have:=hc 0 (by simp);rw [add_zero] at this;simpa using this
  ·have:=hc (i+1) (by simp;omega)
   rw [DS,Nat.add_comm 1 i];simpa using this
theorem TV {a:Addr} {n:Nat} {cs:List Value} (h:w.cells? 0 a n=some cs):cs.length=n∧ ∀i,i<cs.length→w.cell? (a.add i)=cs[i]? :=by
 unfold World.cells? at h
 rw [if_pos (Nat.zero_le _)] at h
 have hl:=mapM_some_length h
 simp only [List.length_range] at hl
 refine ⟨hl,fun i hi=> ?_⟩
 exact mapM_some_get h i i (by rw [List.getElem?_range (by omega)])
def Dj {α:Type} (sz:α→Nat) (xs:List α):Nat:=(xs.map sz).sum+1
theorem HJ.slice {t e:TypeId} {α:Type} {A:α→AV} {sz:α→Nat} {k:Nat} (hb:Cq bk) (hμ: ∀g,¬μ.mut g) (ht:P.underlying t=some (.slice e)) (hk:P.cellsOf e=k)
  (hA: ∀a,(∃fs,A a= .st fs∧fs.length=k)∨((∀fs,A a≠ .st fs)∧(A a).cells=[A a]∧k=1)) (he:HJ enc P w spare held bk μ e A sz):HJ enc P w spare held bk μ t (Ar k A) (Dj sz) where
 rd fuel cs x h hbd:=by
  rcases DataW.trod_slice ht h with ⟨rfl,rfl⟩|⟨a,len,cap,elems,rest,n,_,rfl,rfl,_,hl,hm,hlen,hel,_,_⟩
  ·exact ⟨[],by simp only [Ar,AV.cells,Cn,CR];exact ⟨_,_,rfl,Or.inl ⟨rfl,rfl⟩,rfl⟩,by simp [Value.oneCell'],hb.one _⟩
  ·have key: ∀(l:List (DataW H×List MemPlace)) (i:Nat),(∀j,j<l.length→elems[i+j]? =l[j]?)→i+l.length=len→((l.map (·.1)).map bk).sum≤1048576→ ∃qs:List α,AR w μ k (qs.map A) (a.add (i*k))∧qs.length=l.length∧(qs.map sz).sum≤((l.map (·.1)).map bk).sum:=by
     intro l
     induction l with
     |nil=>intro i _ _ _;exact ⟨[],by simp only [List.map_nil,AR],rfl,by simp⟩
     |cons y l ih=>
      intro i hi hil hsum
      simp only [List.length_cons] at hil
      simp only [List.map_cons,List.sum_cons] at hsum
      obtain ⟨qs,h1,h2,h3⟩:=ih (i+1) (fun j hj=>by
       have:=hi (j+1) (by simp;omega)
       rw [show i+1+j=i+(j+1) by omega];simpa using this) (by omega) (by omega)
      have h0:=hel i (by omega)
      have e0:=hi 0 (by simp)
      rw [Nat.add_zero] at e0
      rw [e0] at h0
      simp only [List.getElem?_cons_zero,Option.bind_eq_some_iff] at h0
      obtain ⟨cs',c1,c2⟩:=h0
      rw [hk] at c1
      obtain ⟨g1,g2⟩:=TV c1
      obtain ⟨b,b1,b2,b3⟩:=he.rd n cs' y c2 (by omega)
      refine ⟨b::qs,?_,by simp [h2],by simp only [List.map_cons,List.sum_cons];omega⟩
      have hcc:=MO hμ b1 b2 g2
      have hrest:AR w μ k (qs.map A) ((a.add (i*k)).add k):=by
       rw [DS];rw [show i*k+k=(i+1)*k by rw [Nat.add_mul,Nat.one_mul]];exact h1
      simp only [List.map_cons]
      rcases hA b with ⟨fs,q1,q2⟩|⟨q0,q1,q2⟩
      ·rw [q1] at hcc ⊢
       simp only [AR]
       exact ⟨⟨q2,hcc⟩,hrest⟩
      ·rw [q1] at hcc
       simp only [AM] at hcc
       generalize A b=z at*
       cases z<;>first|exact absurd rfl (q0 _)|(simp only [AR];exact ⟨⟨q2,hcc.1⟩,hrest⟩)
   have hsl:=hb.sl (elems.map (·.1)) (rest.map (·.1))
   have hbd':bk (.slice (elems.map (·.1)) (rest.map (·.1)))≤1048576:=hbd
   have hle: ∀l:List (DataW H),l.length≤(l.map bk).sum:=by
    intro l;induction l with
    |nil=>simp
    |cons y l ih=>have:=hb.one y;simp only [List.length_cons,List.map_cons,List.sum_cons];omega
   have hll:=hle (elems.map (·.1))
   rw [List.length_map] at hll
   obtain ⟨qs,h1,h2,h3⟩:=key elems 0 (fun j _=>by rw [Nat.zero_add]) (by omega) (by omega)
   refine ⟨qs,?_,by simp [Value.oneCell'],?_⟩
   ·simp only [Ar,AV.cells,Cn,CR]
    refine ⟨_,_,rfl,Or.inr ⟨trivial,a,cap,?_,?_,?_,?_⟩,rfl⟩
    ·rw [List.length_map,h2,hlen]
    ·rw [List.length_map,h2,hlen];exact hl
    ·rw [List.length_map,h2,hlen];unfold DD;omega
    ·have:=h1;rw [Nat.zero_mul,add_zero] at this;exact this
   ·have:=hb.sl (elems.map (·.1)) (rest.map (·.1))
    show Dj sz qs≤bk (.slice (elems.map (·.1)) (rest.map (·.1)))
    unfold Dj;omega
def Lx (P:Program) (t:TypeId):Array Field:=match P.underlying t with
 |some (.struct fs)=>fs
 |_=> #[]
def fld (P:Program) (t:TypeId) (i:Nat):Option (Nat×TypeId×Nat):=(Lx P t)[i]?.map fun f=>(f.offset,f.type,P.cellsOf f.type)
theorem DZ {t:TypeId} {fuel:Nat} {cs:List Value} {x:DataW H×List MemPlace} (ht:P.underlying t=some (.struct (Lx P t))) (h:DataW.trod enc P w 0 spare held fuel t cs=some x):
  ∃(xs:List (DataW H×List MemPlace)) (n:Nat),x.1= .agg (xs.map (·.1))∧cs.length=P.cellsOf t∧xs.length=(Lx P t).size∧ ∀i o ty k,fld P t i=some (o,ty,k)→ ∃y,xs[i]? =some y∧DataW.trod enc P w 0 spare held n ty ((cs.drop o).take k)=some y:=by
 obtain ⟨xs,n,_,e,h1,h2,h3⟩:=DataW.trod_struct ht h
 subst e
 refine ⟨xs,n,rfl,h1,h2,fun i o ty k hf=> ?_⟩
 unfold fld at hf
 obtain ⟨f,f1,f2⟩:=Option.map_eq_some_iff.1 hf
 cases f2
 have hi:i<xs.length:=by rw [h2];exact (Array.getElem?_eq_some_iff.1 f1).1
 exact ⟨xs[i],List.getElem?_eq_getElem hi,by rw [h3 i f f1];exact List.getElem?_eq_getElem hi⟩
theorem B5 {xs ys:List AV} {cs:List Value} {n k:Nat} (h:Cn w μ xs (cs.take n)) (h':Cn w μ ys ((cs.drop n).take k)):Cn w μ (xs++ys) (cs.take (n+k)):=by
 rw [List.take_add];exact Tb h h'
theorem B6 {cs:List Value} {n k:Nat} (h: ∀u∈cs.take n,u.oneCell'=true) (h': ∀u∈(cs.drop n).take k,u.oneCell'=true): ∀u∈cs.take (n+k),u.oneCell'=true:=by
 rw [List.take_add];intro u hu
 rcases List.mem_append.1 hu with hu|hu
 ·exact h u hu
 ·exact h' u hu
end
end
end Go.Lift
namespace Go.Lift
noncomputable section
open Go Go.RowKit Go.WideShapes
section
variable {H:Type} {enc:TypeId×Value→H} {P:Program} {w:World} {spare:Nat→Bool} {held:Bool} {bk:DataW H→Nat} {μ:Mu} {r:Reach} {base:Nat} {t:TypeId} {v:Value} {d:DataW H} {ps:List MemPlace} {α:Type} {A:α→AV} {sz:α→Nat}
theorem Sr {fs:Array Field} (R:HJ enc P w spare held bk μ t A sz) (ht:P.underlying t=some (.struct fs)) (hA: ∀a,∃fs',A a= .st fs') (hval:Value.okWide P w r base t v) (hd:DataW.Trod enc P w 0 spare held t v d ps) (hb:bk d≤1048576): ∃a,CR w μ (A a) v∧sz a≤bk d:=by
 obtain ⟨cs,rfl,_⟩:=okWide_struct ht hval
 obtain ⟨fuel,hf⟩:=hd
 obtain ⟨a,h1,_,h3⟩:=R.rd fuel _ _ hf hb
 obtain ⟨fs',e⟩:=hA a
 refine ⟨a,?_,h3⟩
 rw [e] at h1 ⊢
 simp only [CR]
 exact ⟨cs,rfl,h1⟩
end
end
end Go.Lift
namespace Go.Lift
noncomputable section
open Go Go.RowKit
def UW (n N:Nat) (env:Ba) (h:A4) (env1:Ba) (h1:A4):Prop:=
 ∀(B:Fn) (w0:World) (μ:Mu) (a:Act) (w:World),B.N=N→D0 n B w0 μ env h a w→ ∃μ1,D0 n B w0 μ1 env1 h1 a w
theorem UW.fits {n N:Nat} {env:Ba} {h:A4} (keep:List Nat) {env1:Ba} {h1:A4} (F:MS keep env h env1 h1) (hN: ∀i,i<N→keep[i]? =some i):UW n N env h env1 h1:=
 fun B w0 μ a w hB R=>⟨μ.fin keep,GN R F (by rw [hB];exact hN)⟩
theorem Jo {P:Program} {W:World} {T:CM} (hT:BZ P T=true) {n:Nat} {ops:Array Oper} {Q:Exit→Act→World→Prop} (l2:List Nat):
  ∀(l:List Nat) {os:List Oper} {env:Ba} {h:A4} {R:Ba→A4→Prop},l.map (fun i=>ops[i]?)=os.map some→A1 P W T n ops os env h R→
   ∀ {B:Fn} (_:B.W=W) {w0:World} {μ:Mu} {a:Act} {w:World},D0 n B w0 μ env h a w→(∀env' h' μ' a' w',R env' h'→D0 n B w0 μ' env' h' a' w'→wpOps P ops Q l2 a' w')→wpOps P ops Q (l++l2) a w
 | [],os,env,h,R,hl,k,B,hB,w0,μ,a,w,rel,hQ=>by
   have:os=[]:=by cases os<;>simp at hl;rfl
   subst this
   exact hQ env h μ a w k rel
 |i::l,os,env,h,R,hl,k,B,hB,w0,μ,a,w,rel,hQ=>by
  cases os with
  |nil=>simp at hl
  |cons o os=>
   simp only [List.map_cons,List.cons.injEq] at hl
   obtain ⟨ho,hl⟩:=hl
   simp only [List.cons_append,wpOps,ho]
   simp only [A1] at k
   split at k
   ·rename_i hw
    obtain ⟨hd,x,h',he,k⟩:=k
    rw [if_pos (CZ hw (fun j want d _ _=>rel.env d))]
    exact Or.inl (Nc hT he hB rel hd fun a' w' μ' rel'=>Jo hT l2 l hl k hB rel' hQ)
   ·rename_i hw
    obtain ⟨hd,k⟩:=k
    rw [if_neg (by rw [CZ hw (fun j want d _ _=>rel.env d)];simp)]
    exact Jo hT l2 l hl k hB (DC hT rel (Fg.refl rel.sim).step (SC hd) (by simp only [VR,BR];exact ⟨#[],rfl,rfl⟩)) hQ
   ·exact k.elim
def IP (P:Program) (W:World) (n N:Nat) (ops:Array Oper) (j:Nat) (env:Ba) (h:A4) (R:Ba→A4→Prop):Prop:=
 ∀(B:Fn) (w0:World) (μ:Mu) (a:Act) (w:World) (Q:Exit→Act→World→Prop),B.W=W→B.N=N→D0 n B w0 μ env h a w→
  (∀env' h' μ' a' w',R env' h'→D0 n B w0 μ' env' h' a' w'→Q .normal a' w')→wpOps P ops Q (List.range' j (ops.size-j)) a w
section
variable {P:Program} {W:World} {T:CM} {n N:Nat} {ops:Array Oper} {m j:Nat} {env:Ba} {h:A4} {R:Ba→A4→Prop}
theorem IP.fin (hj:j=ops.size) (k:R env h):IP P W n N ops j env h R:=fun B w0 μ a w Q hW hN rel hQ=>by
 subst hj;rw [Nat.sub_self];exact hQ _ _ _ _ _ k rel
theorem OQ {env1:Ba} {h1:A4} (o:UW n N env h env1 h1) (k:IP P W n N ops j env1 h1 R):IP P W n N ops j env h R:=fun B w0 μ a w Q hW hN rel hQ=>
 let ⟨μ1,r⟩:=o B w0 μ a w hN rel
 k B w0 μ1 a w Q hW hN r hQ
theorem IP.run (hT:BZ P T=true) (c:Nat) (hc:j+c≤ops.size) (k:A1 P W T n ops ((ops.toList.drop j).take c) env h (fun e s=>IP P W n N ops (j+c) e s R)):IP P W n N ops j env h R:=fun B w0 μ a w Q hW hN rel hQ=>by
 have e:List.range' j (ops.size-j)=List.range' j c++List.range' (j+c) (ops.size-(j+c)):=by
  rw [show ops.size-j=c+(ops.size-(j+c)) by omega,←List.range'_append];simp
 rw [e]
 refine Jo hT _ _ ?_ k hW rel fun env' h' μ' a' w' q r=>q B w0 μ' a' w' Q hW hN r hQ
 apply List.ext_getElem?
 intro i
 simp only [List.getElem?_map]
 by_cases hi:i<c
 ·have hlt:j+i<ops.size:=by omega
  rw [List.getElem?_range' hi,List.getElem?_take_of_lt hi,List.getElem?_drop]
  simp [hlt]
 ·rw [List.getElem?_eq_none (by simp;omega),List.getElem?_eq_none (by simp;omega)];rfl
end
theorem M2 {P:Program} {W:World} {n N:Nat} {env:Ba} {h:A4} {Q:D8} {id:Nat} {ops:Array Oper} (k:IP P W n N ops 0 env h (Q .normal)):A8 P W n N (.region id ops false) env h Q:=
 fun B w0 μ a w hW hB R=>wp_region (by
  have:=k B w0 μ a w (fun e a' w'=> ∃env' h' μ',Q e env' h'∧D0 n B w0 μ' env' h' a' w') hW hB R fun env' h' μ' a' w' q r=>⟨env',h',μ',q,r⟩
  rwa [Nat.sub_zero,←List.range_eq_range'] at this)
end
end Go.Lift
namespace Go.Lift
noncomputable section
open Go Go.RowKit
def V0 (x y:AV):Prop:=(∃fs gs,x= .st fs∧y= .st gs∧CS fs gs)∨((∀fs,x≠ .st fs)∧(∀fs,y≠ .st fs)∧AL x y)
def Gj:List AV→List AV→Prop
 | [],[]=>True
 |x::xs,y::ys=>V0 x y∧Gj xs ys
 |_,_=>False
theorem Gj.len: ∀ {xs ys:List AV},Gj xs ys→xs.length=ys.length
 | [],[],_=>rfl
 |_::_,_::_,k=>by simp [Gj.len k.2]
 | [],_::_,k=>k.elim
 |_::_,[],k=>k.elim
theorem Gj.rows {w:World} {μ:Mu} {k:Nat}: ∀ {xs ys:List AV} {a:Addr},Gj xs ys→AR w μ k xs a→AR w μ k ys a
 | [],[],a,_,h=>h
 | [],_::_,a,q,_=>q.elim
 |_::_,[],a,q,_=>q.elim
 |x::xs,y::ys,a,q,h=>by
  rcases q.1 with ⟨fs,gs,rfl,rfl,h1⟩|⟨h1,h2,h3⟩
  ·simp only [AR] at h ⊢
   exact ⟨⟨by rw [←h1.len];exact h.1.1,h1.cells h.1.2⟩,q.2.rows h.2⟩
  ·have e1:(k=1∧ ∃u,Rd w μ a u∧CR w μ x u)∧AR w μ k xs (a.add k):=by
     cases x<;>first|exact absurd rfl (h1 _)|(simp only [AR] at h;exact h)
   have e2:(k=1∧ ∃u,Rd w μ a u∧CR w μ y u)∧AR w μ k ys (a.add k):=by
    obtain ⟨⟨k1,u,u1,u2⟩,e⟩:=e1
    exact ⟨⟨k1,u,u1,h3 w μ u u2⟩,q.2.rows e⟩
   cases y<;>first|exact absurd rfl (h2 _)|(simp only [AR];exact e2)
theorem AL.sl {k:Nat} {xs ys:List AV} (h:Gj xs ys):AL (.sl k false xs) (.sl k false ys):=fun w μ v q=>by
 simp only [CR] at q ⊢
 rcases q with ⟨e,q⟩|⟨_,a,c,e1,e2,e3,e4⟩
 ·subst e
  cases ys with
  |nil=>exact Or.inl ⟨rfl,q⟩
  |cons y ys=>exact h.elim
 ·exact Or.inr ⟨trivial,a,c,by rw [←h.len];exact e1,by rw [←h.len];exact e2,by rw [←h.len];exact e3,h.rows e4⟩
def Ak (no:List Nat) (h:A4) (d:Nat) (x y:AV):Prop:= ∃z,AX no h d x=some z∧closed z=true∧AL z y
def Ah (no:List Nat) (h:A4) (d:Nat):List AV→List AV→Prop
 | [],[]=>True
 |x::xs,y::ys=>Ak no h d x y∧Ah no h d xs ys
 |_,_=>False
def Dw (no:List Nat) (h:A4) (d:Nat) (x y:AV):Prop:= ∃z,AX no h d x=some z∧V0 z y
def Bn (no:List Nat) (h:A4) (d:Nat):List AV→List AV→Prop
 | [],[]=>True
 |x::xs,y::ys=>Dw no h d x y∧Bn no h d xs ys
 |_,_=>False
section
variable {no:List Nat} {h:A4} {d:Nat}
theorem Ah.ok: ∀ {xs ys:List AV},Ah no h (d+1) xs ys→ ∃zs,EP (AX no h (d+1)) xs=some zs∧A6 zs=true∧CS zs ys∧(A6 xs=true→zs=xs)
 | [],[],_=>⟨[],rfl,rfl,trivial,fun _=>rfl⟩
 | [],_::_,k=>k.elim
 |_::_,[],k=>k.elim
 |x::xs,y::ys,k=>by
  obtain ⟨⟨z,e1,e2,e3⟩,k2⟩:=k
  obtain ⟨zs,f1,f2,f3,f4⟩:=Ah.ok k2
  refine ⟨z::zs,by simp only [EP,e1,f1],by simp only [A6,e2,f2,Bool.and_self],⟨e3,f3⟩,fun hc=> ?_⟩
  simp only [A6,Bool.and_eq_true] at hc
  have:=e1.symm.trans (L9 (no:=no) (h:=h) (d:=d) hc.1)
  rw [Option.some.inj this,f4 hc.2]
theorem Ah.mapC {xs ys:List AV} (k:Ah no h (d+1) xs ys): ∃zs,mapC (AX no h (d+1)) xs=some zs∧A6 zs=true∧CS zs ys:=by
 obtain ⟨zs,e1,e2,e3,e4⟩:=k.ok
 refine ⟨zs,?_,e2,e3⟩
 unfold Go.Lift.mapC
 by_cases hc:A6 xs=true
 ·rw [if_pos hc,e4 hc]
 ·rw [if_neg hc,e1]
theorem Bn.mapC {xs ys:List AV} (k:Bn no h (d+1) xs ys): ∃zs,mapC (AX no h (d+1)) xs=some zs∧Gj zs ys:=by
 have key: ∀ {xs ys:List AV},Bn no h (d+1) xs ys→ ∃zs,EP (AX no h (d+1)) xs=some zs∧Gj zs ys∧(A6 xs=true→zs=xs):=by
  intro xs
  induction xs with
  |nil=>intro ys k;cases ys with
   |nil=>exact ⟨[],rfl,trivial,fun _=>rfl⟩
   |cons y ys=>exact k.elim
  |cons x xs ih=>
   intro ys k
   cases ys with
   |nil=>exact k.elim
   |cons y ys=>
    obtain ⟨⟨z,e1,e3⟩,k2⟩:=k
    obtain ⟨zs,f1,f3,f4⟩:=ih k2
    refine ⟨z::zs,by simp only [EP,e1,f1],⟨e3,f3⟩,fun hc=> ?_⟩
    simp only [A6,Bool.and_eq_true] at hc
    have:=e1.symm.trans (L9 (no:=no) (h:=h) (d:=d) hc.1)
    rw [Option.some.inj this,f4 hc.2]
 obtain ⟨zs,e1,e3,e4⟩:=key k
 refine ⟨zs,?_,e3⟩
 unfold Go.Lift.mapC
 by_cases hc:A6 xs=true
 ·rw [if_pos hc,e4 hc]
 ·rw [if_neg hc,e1]
theorem Ak.c {x y:AV} (hc:closed x=true) (hw:AL x y):Ak no h (d+1) x y:=⟨x,L9 hc,hc,hw⟩
theorem Aw {x:AV} (hc:closed x=true):Ak no h (d+1) x x:=⟨x,L9 hc,hc,AL.refl x⟩
theorem Ak.row {α:Type} {A:α→AV} (hA: ∀x,closed (A x)=true) {id e k len:Nat} {xs:List α} (hn:no.contains id=false) (hg:h.get id=some ⟨e,k,xs.map A⟩) (hlen:len=xs.length) (hL:len≤DD):Ak no h (d+1) (.own id 0 len) (Ar k A xs):=by
 refine ⟨Ar k A xs,?_,rfl,AL.refl _⟩
 subst hlen
 simp only [AX,hn,hg,Bool.false_eq_true,if_false,List.length_map,Nat.zero_add,Nat.le_refl,hL,and_self,if_true,List.drop_zero]
 rw [List.take_of_length_le (by simp)]
 simp only [Go.Lift.mapC,D5 hA,if_true,Option.map_some];rfl
theorem Ak.acc {α:Type} {A:α→AV} (hA: ∀x,closed (A x)=true) {id e k:Nat} {xs:List α} (hn:no.contains id=false) (hg:h.get id=IE e k A xs) (hL:xs.length≤DD):Ak no h (d+1) (Bj id k A xs) (Ar k A xs):=by
 cases xs with
 |nil=>exact Ak.c rfl (AL.nil k)
 |cons x r=>exact Ak.row hA hn hg rfl hL
theorem Ak.st {xs ys:List AV} (k:Ah no h (d+1) xs ys):Ak no h (d+2) (.st xs) (.st ys):=by
 obtain ⟨zs,e1,e2,e3⟩:=k.mapC
 exact ⟨.st zs,by simp only [AX,e1,Option.map_some],by simp only [closed];exact e2,AL.st e3⟩
theorem Ak.fn {f:FuncId} {xs ys:List AV} (k:Ah no h (d+1) xs ys):Ak no h (d+2) (.fn f xs) (.fn f ys):=by
 obtain ⟨zs,e1,e2,e3⟩:=k.mapC
 exact ⟨.fn f zs,by simp only [AX,e1,Option.map_some],by simp only [closed];exact e2,AL.fn e3⟩
theorem Ak.loc {id j o:Nat} {ob:Obj} {x:AV} {ys:List AV} (hn:no.contains id=false) (hg:h.get id=some ob) (hx:ob.els[j]? =some x) (k:Ah no h (d+1) (x.cells.drop o) ys):Ak no h (d+2) (.loc id j o) (.pt ys):=by
 obtain ⟨zs,e1,e2,e3⟩:=k.mapC
 exact ⟨.pt zs,by simp only [AX,hn,hg,hx,e1,Option.map_some,Bool.false_eq_true,if_false],rfl,AL.pt e3⟩
theorem HI {id j:Nat} {ob:Obj} {x y:AV} (hn:no.contains id=false) (hg:h.get id=some ob) (hx:ob.els[j]? =some x) (hc:x.cells=[x]) (k:Ak no h (d+1) x y):Ak no h (d+2) (.loc id j 0) (.pt [y]):=
 Ak.loc hn hg hx (by rw [hc];exact ⟨k,trivial⟩)
theorem Dw.st {xs ys:List AV} (k:Ah no h (d+1) xs ys):Dw no h (d+2) (.st xs) (.st ys):=by
 obtain ⟨zs,e1,e2,e3⟩:=k.mapC
 exact ⟨.st zs,by simp only [AX,e1,Option.map_some],Or.inl ⟨_,_,rfl,rfl,e3⟩⟩
theorem Ah.nil:Ah no h d [] []:=trivial
theorem Ah.cons {x y:AV} {xs ys:List AV} (a:Ak no h d x y) (b:Ah no h d xs ys):Ah no h d (x::xs) (y::ys):=⟨a,b⟩
theorem Bn.nil:Bn no h d [] []:=trivial
theorem Bn.cons {x y:AV} {xs ys:List AV} (a:Dw no h d x y) (b:Bn no h d xs ys):Bn no h d (x::xs) (y::ys):=⟨a,b⟩
theorem Ak.w {x y:AV} (k:Ak [] h 8 x y): ∃z,AX [] h 8 x=some z∧AL z y:=let ⟨z,e,_,w⟩:=k;⟨z,e,w⟩
theorem Ak.own {id e k len:Nat} {els ys:List AV} (hn:no.contains id=false) (hg:h.get id=some ⟨e,k,els⟩) (hlen:len=els.length) (hL:len≤DD) (q:Bn no h (d+1) els ys):Ak no h (d+2) (.own id 0 len) (.sl k false ys):=by
 obtain ⟨zs,e1,e2⟩:=q.mapC
 refine ⟨.sl k false zs,?_,rfl,AL.sl e2⟩
 subst hlen
 simp only [AX,hn,hg,Bool.false_eq_true,if_false,Nat.zero_add,Nat.le_refl,hL,and_self,if_true,List.drop_zero]
 rw [List.take_of_length_le (Nat.le_refl _),e1];rfl
theorem Ak.cast {x y x' y':AV} (ex:x=x') (ey:y'=y) (k:Ak no h d x' y'):Ak no h d x y:=by subst ex;subst ey;exact k
end
def TE (keep:List Nat):AV→Bool
 | .own id _ _=>(DJ keep id).isNone
 | .loc id _ _=>(DJ keep id).isNone
 |_=>false
theorem EF.kk {d:Nat} {keep:List Nat} {h:A4} {x y x' y':AV} (ex:x=x') (ey:y'=y) (hp:TE keep x'=true) (k:Ak keep h (d+1) x' y'):EF (d+1) keep h x y:=by
 subst ex;subst ey
 obtain ⟨z,e1,e2,e3⟩:=k
 have key: ∀o:Option Nat,o.isNone=true→o=none:=by intro o;cases o<;>simp
 cases x<;>first|(cases hp;done)|exact ⟨z,by simp only [TE] at hp;simp only [B4,key _ hp];exact e1,Or.inr ⟨e2,e3⟩⟩
def IR (x y:AV):Prop:= ∀(w:World) (μ:Mu) (v:Value),VR w μ x v→VR w μ y v
theorem IR.refl (x:AV):IR x x:=fun _ _ _ h=>h
theorem IR.und (x:AV):IR x .und:=fun _ _ _ _=>by simp only [VR]
def MX:List AV→List AV→Prop
 | [],[]=>True
 |x::xs,y::ys=>IR x y∧MX xs ys
 |_,_=>False
theorem MX.vrs {w:World} {μ:Mu}: ∀ {xs ys:List AV} {vs:List Value},MX xs ys→BR w μ xs vs→BR w μ ys vs
 | [],[],vs,_,h=>h
 | [],_::_,_,k,_=>k.elim
 |_::_,[],_,k,_=>k.elim
 |x::xs,y::ys,vs,k,h=>by
  simp only [BR] at h ⊢
  obtain ⟨v,r,e,h1,h2⟩:=h
  exact ⟨v,r,e,k.1 w μ v h1,MX.vrs k.2 h2⟩
theorem IR.tup {xs ys:List AV} (k:MX xs ys):IR (.tup xs) (.tup ys):=fun w μ v h=>by
 simp only [VR] at h ⊢
 obtain ⟨cs,e,h⟩:=h
 exact ⟨cs,e,k.vrs h⟩
theorem Aj.res {P:Program} {W:World} {f:FuncId} {xs:List AV} {r r':AV} {S:List Obj} (k:Aj P W f xs r S) (h:IR r r'):Aj P W f xs r' S where
 enters:=k.enters
 calls:=fun w Y vs hG hY hvs=>(k.calls w Y vs hG hY hvs).mono fun e w' ⟨v,μ',h1,h2,h3,h4⟩=>⟨v,μ',h1,h2,h w' μ' v h3,h4⟩
theorem UQ {P:Program} {W:World} {T:CM} {n:Nat} {ops:Array Oper} {d:Tmp} {op:Op} {ty:TypeId} {pos:String} {af:Array Edge} {r:List Oper} {env:Ba} {h h':A4} {Q:Ba→A4→Prop} {x:AV}
 {g:FuncId} {vs:List AV} {r0:AV} {S:List Obj} (hc:callee T (ev env) ⟨some d,op,ty,pos,af,none⟩=some (g,vs)) (hcl:A6 vs=true) (hp:Aj P W g vs r0 S) (hx:r0.ren (· +h.next)=x) (hh:h.add S=h') (hd:d<n)
 (k:A1 P W T n ops r ((d,x)::env) h' Q):A1 P W T n ops (⟨some d,op,ty,pos,af,none⟩::r) env h Q:=Pq hc hcl hp hd (by rw [hx,hh];exact k)
end
end Go.Lift
namespace Go.Lift
noncomputable section
open Go Go.RowKit
theorem Ti (a:Array UInt8):(⟨a⟩:ByteArray).size=a.size:=rfl
theorem OS (ns:List Int):(HM ns).size=ns.length:=by unfold HM;rw [Hq];simp
theorem kr {α:Sort _} {a b:α} (h:a=b:=by kernel_rfl):a=b:=h
theorem le {a b:Nat} (h:a≤b:=by exact Nat.le_of_ble_eq_true rfl):a≤b:=h
theorem lt {a b:Nat} (h:a<b:=by exact Nat.le_of_ble_eq_true rfl):a<b:=h
theorem sd {p:Prop} (h:p:=by first|omega|(unfold DD;omega)|(simp only [List.length_append,List.length_cons,List.length_nil,List.length_set,List.length_replicate,ByteArray.size_append,List.length_take,List.length_drop,Ti,OS,List.size_toArray,DD];omega)|(simp [DD];done)|(simp [DD];omega)|decide+kernel):p:=h
theorem HG {p:Prop} (h:p:=by (try dsimp only)<;>(first|omega|(unfold DD;omega)|(simp only [List.length_append,List.length_cons,List.length_nil,List.length_set,List.length_replicate,ByteArray.size_append,List.length_take,List.length_drop,Ti,OS,List.size_toArray,DD];omega)|(simp [DD];done)|(simp [DD];omega)|decide+kernel)):p:=h
theorem od {p:Prop} (h:p:=by (try dsimp only);omega):p:=h
theorem AJ:(∀ {α:Type},([]:List α).length=0)∧(((0:Nat):Int)=0)∧(∀ {α:Type} (a:α),(a=a)=True)∧(∀h:Decidable True,@decide True h=true)∧(∀ {α:Type} (xs:List α),[]++xs=xs)∧(∀ {α:Type} (n:Nat),([]:List α).take n=[])∧(∀ {α:Type} (a b:α),cond true a b=a)∧(∀ {α:Type} (a b:α),cond false a b=b)∧(∀b:Bool,(true&&b)=b)∧(∀b:Bool,(false&&b)=false)∧(∀b:Bool,(true||b)=true)∧(∀b:Bool,(false||b)=b)∧((!true)=false)∧((!false)=true):=
 ⟨rfl,rfl,fun a=>eq_self a,fun h=>by cases h with|isTrue q=>rfl|isFalse q=>exact absurd trivial q,fun _=>rfl,fun n=>by simp,fun _ _=>rfl,fun _ _=>rfl,fun b=>Bool.true_and b,fun b=>Bool.false_and b,fun b=>Bool.true_or b,fun b=>Bool.false_or b,rfl,rfl⟩
end
end Go.Lift
namespace Go.Lift
noncomputable section
open Go Go.RowKit
def FinM (T:CM) (rs:List ResultVar) (r:AV):D8:=fun e env h=>(e= .normal∨e= .ret)∧ ∃r0,NR T env h rs=some r0∧AU [] h r0 r
theorem Ef {P:Program} {W:World} {T:CM} (hT:BZ P T=true) {f:FuncId} {fn:Func} {c:Code} (hf:P.funcs[f]? =some fn) (hb:fn.body=some c) (he: ∀(vs:Array Value) (w:World),(callFunc f vs).run P w= .ok (.enter f vs) w)
 {args:List AV} (hn:args.length≤fn.ntmps) {r:AV}
 (k:A8 P W fn.ntmps 0 c (C7 0 args) ⟨0,[]⟩ (FinM T fn.results.toList r)) (hM:f<1000000:=by decide):Aj P W f args r []:= .plain hM he<|fun w Y vs hG hY hvs=>by
 have hvr:=BL _ _ hvs
 have hlen:=C3 hvr
 refine calls_of_wp hf hb ?_
 have R:D0 fn.ntmps ⟨W,w,CD Y,0⟩ w (CD Y) (C7 0 args) ⟨0,[]⟩ {tmps:=vs.toArray++Array.replicate (fn.ntmps-vs.toArray.size) undef,defers:=[]} w:={
  glob:=hG
  snc:=⟨Gd.refl _ _,rfl,fun _ h=>by simp at h,fun _ _=>rfl⟩
  low:=Nat.zero_le _
  sim:={
   below:=Below.refl _ _
   lt:=by intro _ _ h;cases h
   inj:=by intro _ _ _ _ h;cases h
   live:=by intro _ _ _ h;cases h
   ylt:=hY
   blk:=by intro _ _ _ _ h;cases h}
  env:=DY hvr _
  sz:=by simp [hlen];omega
  dfr:=rfl
  fresh:=fun _ _=>rfl}
 refine wp_mono (k _ w (CD Y) _ w rfl rfl R) ?_
 rintro e a' w' ⟨env',h',μ',⟨he,r0,hr0,hE⟩,R'⟩
 obtain ⟨v,hrun,hv0⟩:=LW hT R' hr0
 have hv:=PO R'.sim hE hv0
 have R2:=JJ R' (keep:=[]) (env':=[]) (h':=S0 []) ⟨List.nodup_nil,rfl,trivial,trivial⟩ (fun i hi=>by simp at hi)
 have hpost:a'.defers=[]∧ ∃v,(results fn a'.tmps).run P w'= .ok v w'∧ ∃v' μ'',(Ending.returned v)= .returned v'∧μ''.Y=Y∧VR w' μ'' r v'∧DE w μ'' w' (S0 [])∧(∀id,([]:List Obj).length≤id→μ'' id=none):=
  ⟨R'.dfr,_,hrun,_,μ'.fin [],rfl,R'.snc.y,hv,R2.sim,R2.fresh⟩
 rcases he with rfl|rfl
 ·exact hpost
 ·exact hpost
theorem g_shr {T:CM} {ρ:Cs} {h:A4} {dst:Option Tmp} {ty:TypeId} {pos:String} {af:Array Edge} {gd:Option (Nat×Bool)} {t yt:TypeId} {x y:Operand} {k k':IntKind} {a:Int} {n:Nat} (ex:ρ (Ip T t) x=some (.i k a)) (ey:ρ (Ip T t) y=some (.i k' (n:Int))):
  Gt T ρ h ⟨dst,.binOp .shr t x y yt,ty,pos,af,gd⟩=some (.i k (a.fdiv (2^(min n k.bits)))):=by
 simp only [Gt,ex,ey,Qb,RU]
 rw [if_neg (by omega),Int.toNat_natCast]
def BE (keep:List Nat) (h:A4) (d:Nat):List AV→List AV→Prop
 | [],[]=>True
 |x::xs,y::ys=>B4 keep h d x=some y∧BE keep h d xs ys
 |_,_=>False
section
variable {keep:List Nat} {h h':A4} {d:Nat}
theorem BE.nil:BE keep h d [] []:=trivial
theorem BE.cons {x y:AV} {xs ys:List AV} (a:B4 keep h d x=some y) (b:BE keep h d xs ys):BE keep h d (x::xs) (y::ys):=⟨a,b⟩
theorem BE.ok: ∀ {xs ys:List AV},BE keep h (d+1) xs ys→EP (B4 keep h (d+1)) xs=some ys∧(A6 xs=true→ys=xs)
 | [],[],_=>⟨rfl,fun _=>rfl⟩
 | [],_::_,k=>k.elim
 |_::_,[],k=>k.elim
 |x::xs,y::ys,k=>by
  obtain ⟨e1,e2⟩:=BE.ok k.2
  refine ⟨by simp only [EP,k.1,e1],fun hc=> ?_⟩
  simp only [A6,Bool.and_eq_true] at hc
  have:=k.1.symm.trans (A3 (keep:=keep) (h:=h) (d:=d) hc.1)
  rw [Option.some.inj this,e2 hc.2]
theorem BE.mapC {xs ys:List AV} (k:BE keep h (d+1) xs ys):mapC (B4 keep h (d+1)) xs=some ys:=by
 obtain ⟨e1,e2⟩:=k.ok
 unfold Go.Lift.mapC
 by_cases hc:A6 xs=true
 ·rw [if_pos hc,e2 hc]
 ·rw [if_neg hc,e1]
theorem Nh {x:AV} (hc:closed x=true):B4 keep h (d+1) x=some x:=A3 hc
theorem Tt {α:Type} {A:α→AV} {id p k:Nat} {xs:List α} (hp:DJ keep id=some p):B4 keep h (d+1) (Bj id k A xs)=some (Bj p k A xs):=by
 cases xs with
 |nil=>rfl
 |cons x r=>simp only [Bj,B4,hp]
theorem MH {α:Type} {A:α→AV} {id p k len:Nat} {xs:List α} (hx:xs≠ []) (hp:DJ keep id=some p) (hl:len=xs.length):B4 keep h (d+1) (.own id 0 len)=some (Bj p k A xs):=by
 cases xs with
 |nil=>exact absurd rfl hx
 |cons x r=>subst hl;simp only [Bj,B4,hp,List.length_cons]
theorem Kc {xs ys:List AV} (k:BE keep h (d+1) xs ys):B4 keep h (d+2) (.st xs)=some (.st ys):=by simp only [B4,k.mapC,Option.map_some]
theorem Ss {e k i q:Nat} {xs ys:List AV} (hg:h.get i=some ⟨e,k,xs⟩) (f:BE keep h 9 xs ys) (hg':h'.get q=some ⟨e,k,ys⟩):(h.get i).bind (GV keep h 9)=h'.get q:=by
 rw [hg,hg']
 simp only [Option.bind_some,GV,f.mapC,Option.map_some]
end
end
end Go.Lift
namespace Go.Lift
noncomputable section
open Go Go.RowKit
theorem V2 {α:Type} {A:α→AV} {xs:List α} (h:xs≠ []) (p k:Nat):Bj p k A xs= .own p 0 xs.length:=by
 cases xs with
 |nil=>exact absurd rfl h
 |cons x r=>rfl
theorem V1 {α:Type} {A:α→AV} {xs:List α} (h:xs≠ []) (e k:Nat):IE e k A xs=some ⟨e,k,xs.map A⟩:=by
 cases xs with
 |nil=>exact absurd rfl h
 |cons x r=>rfl
end
end Go.Lift
namespace Go.Lift
noncomputable section
open Go Go.RowKit
theorem Lo {xs ys:List AV} (n:Nat) (h:xs.take n=ys):AL (.pt xs) (.pt ys):=fun w μ v k=>by
 simp only [CR] at k ⊢
 obtain ⟨a,e,k⟩:=k
 exact ⟨a,e,h ▸ Pt k n⟩
end
end Go.Lift
namespace Go.Lift
noncomputable section
open Go Go.RowKit
def MG (env:Ba):Bool:=env.all fun p=>closed p.2
theorem M6: ∀ {env:Ba},MG env=true→ ∀t,closed (env.get t)=true
 | [],_,t=>rfl
 |(t',x)::r,h,t=>by
  simp only [MG,List.all_cons,Bool.and_eq_true] at h
  rw [AG]
  by_cases ht:t=t'
  ·rw [if_pos ht];exact h.1
  ·rw [if_neg ht];exact M6 (env:=r) h.2 t
structure CF (n:Nat) (W w0:World) (Y:Nat→Prop) (env:Ba) (a:Act) (w:World):Prop where
 glob:DR W w
 below:Below w0.heap.size w0 w
 env: ∀t,CR w (CD Y) (env.get t) (a.tmps.getD t undef)
 sz:a.tmps.size=n
 dfr:a.defers=[]
 ylt: ∀g,Y g→g<w0.heap.size
def CQ (Q:Exit→Ba→Prop):D8:=fun e env h=> ∃keep env' h',MS keep env h env' h'∧h'.next=0∧MG env'=true∧Q e env'
section
variable {P:Program} {W w0 w:World} {n:Nat} {Y:Nat→Prop} {env:Ba} {a:Act}
theorem CF.rel (F:CF n W w0 Y env a w):D0 n ⟨w,w,CD Y,0⟩ w (CD Y) env ⟨0,[]⟩ a w where
 glob:=DR.refl w
 snc:=⟨Gd.refl _ _,rfl,fun _ h=>by simp at h,fun _ _=>rfl⟩
 low:=Nat.le_refl _
 sim:={
  below:=Below.refl _ _
  lt:=by intro _ _ h;cases h
  inj:=by intro _ _ _ _ h;cases h
  live:=by intro _ _ _ h;cases h
  ylt:=fun g hg=>Nat.lt_of_lt_of_le (F.ylt g hg) F.below.size
  blk:=by intro _ _ _ _ h;cases h}
 env:=fun t=>Cx _ _ (F.env t)
 sz:=F.sz
 dfr:=F.dfr
 fresh:=fun _ _=>rfl
theorem CF.of_rel (F:CF n W w0 Y env a w) {env':Ba} {h':A4} {μ':Mu} {a':Act} {w':World} (hn:h'.next=0) (hc:MG env'=true) (R:D0 n ⟨w,w,CD Y,0⟩ w μ' env' h' a' w'):CF n W w0 Y env' a' w'∧Below w.heap.size w w':=by
 refine ⟨⟨F.glob.mono R.sim.below,F.below.trans (R.sim.below.mono F.below.size),fun t=> ?_,R.sz,R.dfr,F.ylt⟩,R.sim.below⟩
 refine Bs (fun x u hr=>⟨hr.1,fun q=>hr.2.1 ?_,hr.2.2⟩) _ _ (Be _ _ (M6 hc t) (R.env t))
 rcases q with q|⟨_,_,q,_⟩
 ·left;rw [R.snc.y];exact q
 ·cases q
theorem CF.run {c:Code} {Q:Exit→Ba→Prop} (F:CF n W w0 Y env a w) (k:A8 P w n 0 c env ⟨0,[]⟩ (CQ Q)):
  c.wp P (fun e a' w'=> ∃env',Q e env'∧CF n W w0 Y env' a' w'∧Below w.heap.size w w') a w:=
 wp_mono (k ⟨w,w,CD Y,0⟩ w (CD Y) a w rfl rfl F.rel) fun e a' w' ⟨env1,h1,μ',⟨keep,env',h',hf,hn,hc,q⟩,R⟩=>
  ⟨env',q,F.of_rel hn hc (GN R hf (fun i hi=>by simp at hi))⟩
end
theorem Jj {P:Program} {W:World} {T:CM} (hT:BZ P T=true) {n:Nat} {ops:Array Oper} {Q:Exit→Act→World→Prop} (l2:List Nat):
  ∀(l:List Nat) {os:List Oper} {env:Ba} {h:A4} {R:Ba→A4→Prop},l.map (fun i=>ops[i]?)=os.map some→A1 P W T n ops os env h R→
   ∀ {B:Fn} (_:B.W=W) {w0:World} {μ:Mu} {a:Act} {w:World},D0 n B w0 μ env h a w→(∀env' h' μ' a' w',R env' h'→D0 n B w0 μ' env' h' a' w'→wpOps P ops Q l2 a' w')→wpOps P ops Q (l++l2) a w
 | [],os,env,h,R,hl,k,B,hB,w0,μ,a,w,rel,hQ=>by
   have:os=[]:=by cases os<;>simp at hl;rfl
   subst this
   exact hQ env h μ a w k rel
 |i::l,os,env,h,R,hl,k,B,hB,w0,μ,a,w,rel,hQ=>by
  cases os with
  |nil=>simp at hl
  |cons o os=>
   simp only [List.map_cons,List.cons.injEq] at hl
   obtain ⟨ho,hl⟩:=hl
   simp only [List.cons_append,wpOps,ho]
   simp only [A1] at k
   split at k
   ·rename_i hw
    obtain ⟨hd,x,h',he,k⟩:=k
    rw [if_pos (CZ hw (fun j want d _ _=>rel.env d))]
    exact Or.inl (Nc hT he hB rel hd fun a' w' μ' rel'=>Jj hT l2 l hl k hB rel' hQ)
   ·rename_i hw
    obtain ⟨hd,k⟩:=k
    rw [if_neg (by rw [CZ hw (fun j want d _ _=>rel.env d)];simp)]
    have hdd: ∀t,o.dst=some t→t<n:=by
     intro t ht
     unfold Ci at hd
     rw [ht] at hd
     simpa using hd
    exact Jj hT l2 l hl k hB (DC hT rel (Fg.refl rel.sim).step hdd (by simp only [VR,BR];exact ⟨#[],rfl,rfl⟩)) hQ
   ·exact k.elim
theorem Ql {P:Program} {W:World} {T:CM} (hT:BZ P T=true) {n:Nat} {ops:Array Oper} {Q:Exit→Act→World→Prop} (m:Nat) (l2:List Nat) (hm:m≤ops.size) {env:Ba} {h:A4} {R:Ba→A4→Prop} (k:A1 P W T n ops (ops.toList.take m) env h R)
  {B:Fn} (hB:B.W=W) {w0:World} {μ:Mu} {a:Act} {w:World} (rel:D0 n B w0 μ env h a w) (hQ: ∀env' h' μ' a' w',R env' h'→D0 n B w0 μ' env' h' a' w'→wpOps P ops Q l2 a' w'):wpOps P ops Q (List.range m++l2) a w:=
 Jj hT l2 (List.range m) (os:=ops.toList.take m) (by
  apply List.ext_getElem?
  intro i
  simp only [List.getElem?_map,List.getElem?_take]
  rcases Nat.lt_or_ge i m with q|q
  ·rw [List.getElem?_range q,if_pos q]
   simp [show i<ops.size by omega]
  ·rw [List.getElem?_eq_none (by simpa using q),if_neg (by omega)];rfl) k hB rel hQ
def MR (es:Array MapEntry) (ks:List Int):Prop:=es.toList.map (fun e=>(e.key,e.val))=ks.map fun k=>(Value.int .i64 k,Value.bool true)
theorem Kd (k:Int): ∀(es:List MapEntry) (ks:List Int) (i:Nat),es.map (fun e=>(e.key,e.val))=ks.map (fun k=>(Value.int .i64 k,Value.bool true))→
  (ks.any (fun t=>decide (t=k))=false→Instr.findNow (.int .i64) (.int .i64 k) es i=some none)∧
  (ks.any (fun t=>decide (t=k))=true→ ∃j,Instr.findNow (.int .i64) (.int .i64 k) es i=some (some (j,.bool true)))
 | [],ks,i,h=>by
   cases ks with
   |nil=>exact ⟨fun _=>rfl,fun q=>by simp at q⟩
   |cons t r=>simp at h
 |e::es,ks,i,h=>by
  cases ks with
  |nil=>simp at h
  |cons t r=>
   simp only [List.map_cons,List.cons.injEq,Prod.mk.injEq] at h
   obtain ⟨⟨h1,h2⟩,h3⟩:=h
   obtain ⟨a,b⟩:=Kd k es r (i+1) h3
   simp only [Instr.findNow,h1,Instr.sameNow,if_true,List.any_cons,h2]
   by_cases hk:k=t
   ·subst hk
    simp
   ·have hk': ¬t=k:=fun q=>hk q.symm
    have e1:(k==t)=false:=by simpa using hk
    rw [e1,decide_eq_false hk',Bool.false_or]
    exact ⟨a,b⟩
section
variable {P:Program} {mt kt vt:TypeId} (hm:P.underlying mt=some (.map kt vt)) (hk:P.underlying kt=some (.int .i64)) (hv:P.underlying vt=some .bool)
 (hz: ∀w,(zeroValue vt).run P w= .ok (.bool false) w)
include hm hk hz
theorem NU {w:World} {r:Nat} {es:Array MapEntry} {clock:Nat} {ks:List Int} (hr:w.heap[r]? =some (.map es clock)) (he:MR es ks) (k:Int):
  (Instr.lookup mt (.map (some r)) (.int .i64 k) false).run P w= .ok (.bool (ks.any fun t=>decide (t=k))) w:=by
 obtain ⟨a,b⟩:=Kd k es.toList ks 0 he
 have hck:(Instr.checkKey es.isEmpty 10000 kt (.int .i64 k)).run P w= .ok () w:=MapKept.run_checkKey (k:= .int .i64 k) (n:=9999) hk (show IntKind.i64=IntKind.i64 from rfl) _
 cases h:ks.any fun t=>decide (t=k) with
 |false=>
  have hf:(Instr.findKey kt (.int .i64 k) es.toList).run P w= .ok none w:=by
   simp [Instr.findKey,run_underlying hk,a h]
  simp only [Instr.lookup,Sem.run_bind,run_underlying hm,Result.andThen_ok,MapKept.run_getObj_map hr,Sem.run_pure,hck,hf,hz]
  simp
 |true=>
  obtain ⟨j,hj⟩:=b h
  have hf:(Instr.findKey kt (.int .i64 k) es.toList).run P w= .ok (some (j,.bool true)) w:=by
   simp [Instr.findKey,run_underlying hk,hj]
  simp only [Instr.lookup,Sem.run_bind,run_underlying hm,Result.andThen_ok,MapKept.run_getObj_map hr,Sem.run_pure,hck,hf]
  simp
theorem Ue {W:World} {r:Nat} {es:Array MapEntry} {clock:Nat} {ks:List Int} (hr:W.heap[r]? =some (.map es clock)) (he:MR es ks) {env:Ba} {x y:Tmp} {key:Int}
  (ex:env.get x= .raw (.map (some r))) (ey:env.get y= .i .i64 key) {d:Tmp} {ty:TypeId} {pos:String} {af:Array Edge}:
  ∀(w:World) (μ:Mu) (c:Operand→Value),DR W w→(∀z∈(Op.lookup mt (.tmp x) (.tmp y) false).operands,∀q u,ev env q z=some u→VR w μ u (c z))→
   ∃z,(execOp c ⟨some d,.lookup mt (.tmp x) (.tmp y) false,ty,pos,af,none⟩).run P w= .ok (.value z) w∧VR w μ (.b (ks.any fun t=>decide (t=key))) z:=by
 intro w μ c hG hx
 have hlt:r<W.heap.size:=by
  rcases Nat.lt_or_ge r W.heap.size with q|q
  ·exact q
  ·rw [Array.getElem?_eq_none q] at hr;cases hr
 have h1:=hx (.tmp x) (by simp [Op.operands]) 0 _ rfl
 have h2:=hx (.tmp y) (by simp [Op.operands]) 0 _ rfl
 rw [ex] at h1;rw [ey] at h2
 simp only [VR,CR] at h1 h2
 have hr':w.heap[r]? =some (.map es clock):=by rw [hG.block r hlt];exact hr
 refine ⟨.bool (ks.any fun t=>decide (t=key)),?_,by simp only [VR,CR]⟩
 unfold execOp
 exact Di (by rw [h1,h2];exact NU hm hk hz hr' he key)
omit hz in
theorem L6 {w:World} {r:Nat} {es:Array MapEntry} {clock:Nat} {ks:List Int} (hr:w.heap[r]? =some (.map es clock)) (he:MR es ks) {k:Int} (hn:ks.any (fun t=>decide (t=k))=false):
  (Instr.mapUpdate mt (.map (some r)) (.int .i64 k) (.bool true)).run P w= .ok () {w with heap:=w.heap.setIfInBounds r (.map (es.push ⟨.int .i64 k,.bool true,clock⟩) (clock+1))}:=by
 obtain ⟨a,b⟩:=Kd k es.toList ks 0 he
 have hck:(Instr.checkKey false 10000 kt (.int .i64 k)).run P w= .ok () w:=MapKept.run_checkKey (k:= .int .i64 k) (n:=9999) hk (show IntKind.i64=IntKind.i64 from rfl) _
 have hf:(Instr.findKey kt (.int .i64 k) es.toList).run P w= .ok none w:=by
  simp [Instr.findKey,run_underlying hk,a hn]
 simp only [Instr.mapUpdate,Sem.run_bind,run_underlying hm,Result.andThen_ok,MapKept.run_getObj_map hr,Sem.run_pure,hck,hf]
 exact MapKept.run_setObj_map _ hr
end
theorem MR.push {es:Array MapEntry} {ks:List Int} (h:MR es ks) (k:Int) (c:Nat):MR (es.push ⟨.int .i64 k,.bool true,c⟩) (ks++[k]):=by
 unfold MR at h ⊢
 simp [h]
theorem MR.nil:MR #[] []:=rfl
theorem CF.turn {n:Nat} {W w0 w:World} {Y:Nat→Prop} {env:Ba} {a:Act} (F:CF n W w0 Y env a w) {r:Nat} {es es':Array MapEntry} {clock c':Nat} (hr:w.heap[r]? =some (.map es clock)) (h0:w0.heap.size≤r) (hW:W.heap.size≤r):
  CF n W w0 Y env a {w with heap:=w.heap.setIfInBounds r (.map es' c')}∧({w with heap:=w.heap.setIfInBounds r (.map es' c')}:World).heap[r]? =some (.map es' c'):=by
 have hlt:r<w.heap.size:=by
  rcases Nat.lt_or_ge r w.heap.size with q|q
  ·exact q
  ·rw [Array.getElem?_eq_none q] at hr;cases hr
 have hb: ∀g,g≠r→({w with heap:=w.heap.setIfInBounds r (.map es' c')}:World).heap[g]? =w.heap[g]? :=by
  intro g hg
  simp only [Array.getElem?_setIfInBounds]
  rw [if_neg (fun q=>hg q.symm)]
 have e: ∀x u,Rd w (CD Y) x u→Rd {w with heap:=w.heap.setIfInBounds r (.map es' c')} (CD Y) x u:=by
  refine fun x u hu=>⟨?_,hu.2.1,hu.2.2⟩
  have hne:x.block≠r:=by
   intro q
   have h1:=hu.1
   unfold World.cell? at h1
   rw [q,hr] at h1
   simp at h1
  rw [D4 (hb _ hne)];exact hu.1
 refine ⟨⟨⟨?_,fun k hk=> ?_⟩,⟨F.below.os,F.below.tape,F.below.output,?_,fun k hk=> ?_⟩,fun t=>C8 e _ _ (F.env t),F.sz,F.dfr,F.ylt⟩,?_⟩
 ·simp only [Array.size_setIfInBounds];exact F.glob.size
 ·rw [hb k (by omega)];exact F.glob.block k hk
 ·simp only [Array.size_setIfInBounds];exact F.below.size
 ·rw [hb k (by omega)];exact F.below.block k hk
 ·simp only [Array.getElem?_setIfInBounds];simp [hlt]
theorem CF.made {n:Nat} {W w0 w:World} {Y:Nat→Prop} {env:Ba} {a:Act} (F:CF n W w0 Y env a w) (o:Go.Obj):CF n W w0 Y env a (w.alloc o) where
 glob:=⟨by have:=F.glob.size;simp;omega,fun k hk=>by rw [Ea _ _ _ (Nat.lt_of_lt_of_le hk F.glob.size)];exact F.glob.block k hk⟩
 below:=F.below.alloc F.below.size o
 env:=fun t=>Ia (Gd.of (fun g hg _=>Ea _ _ _ hg) (fun _ _ h=>Or.inl h) (fun g h=>Or.inl h)) _ _ (F.env t)
 sz:=F.sz
 dfr:=F.dfr
 ylt:=F.ylt
theorem DR.cell {W w:World} (g:DR W w) {a:Addr} {u:Value} (h:W.cell? a=some u):w.cell? a=some u:=by
 rw [D4 (g.block _ (GZ h))];exact h
theorem Pp {P:Program} {ops:Array Oper} {Q:Exit→Act→World→Prop} {i:Nat} {rest:List Nat} {a:Act} {w:World} {o:Oper} (ho:ops[i]? =some o) (hg:o.guard=none) {v:Value} {w':World}
  (hr:(execOp a.eval o).run P w= .ok (.value v) w') (k:wpOps P ops Q rest (a.put o.dst v) w'):wpOps P ops Q (i::rest) a w:=by
 simp only [wpOps,ho]
 rw [if_pos (by unfold Region.wanted;rw [hg])]
 refine Or.inl ?_
 unfold Oper.wp
 rw [hr];exact k
theorem CF.put {n:Nat} {W w0 w:World} {Y:Nat→Prop} {env:Ba} {a:Act} (F:CF n W w0 Y env a w) {t:Tmp} (ht:t<n) {x:AV} {v:Value} (hv:CR w (CD Y) x v):CF n W w0 Y ((t,x)::env) (a.put (some t) v) w where
 glob:=F.glob
 below:=F.below
 env:=fun t'=>by
  have hs:=F.sz
  have e1:(a.put (some t) v).tmps.getD t' undef=if t=t' then v else a.tmps.getD t' undef:=by
   simp only [Act.put,Array.getD_eq_getD_getElem?,Array.getElem?_setIfInBounds]
   by_cases h:t=t'
   ·subst h;simp [hs,ht]
   ·rw [if_neg h,if_neg (by simpa using h)]
  rw [e1,AG]
  by_cases h:t'=t
  ·subst h;rw [if_pos rfl,if_pos rfl];exact hv
  ·rw [if_neg h,if_neg (fun q=>h q.symm)];exact F.env t'
 sz:=by simp only [Act.put,Array.size_setIfInBounds];exact F.sz
 dfr:=F.dfr
 ylt:=F.ylt
theorem UT {P:Program} {n:Nat} {W w:World} {Y:Nat→Prop} (hG:DR W w) (hY: ∀g,Y g→g<w.heap.size) {args:List AV} {vs:List Value} (hc:A6 args=true) (h:Cn w (CD Y) args vs) (hn:args.length≤n):
  CF n W w Y (C7 0 args) {tmps:=vs.toArray++Array.replicate (n-vs.toArray.size) undef,defers:=[]} w where
 glob:=hG
 below:=Below.refl _ _
 env:=fun t=>by
  have hl:=Em h
  refine Be _ _ ?_ (DY (BL _ _ h) _ t)
  rw [Ka]
  split
  ·cases e:args[t-0]? with
   |none=>rfl
   |some x=>rw [Ey] at hc;exact List.all_eq_true.1 hc x (List.mem_of_getElem? e)
  ·rfl
 sz:=by have hl:=Em h;simp [hl];omega
 dfr:=rfl
 ylt:=hY
theorem CF.done {P:Program} {n:Nat} {W w0 w:World} {Y:Nat→Prop} {env:Ba} {a:Act} (F:CF n W w0 Y env a w) {fn:Func} {t:Nat} (hr:FM fn.results.toList=some [t]) {r:AV} (hc:closed r=true) (he:env.get t=r):
  a.defers=[]∧ ∃v,(results fn a.tmps).run P w= .ok v w∧ ∃v' μ',(Ending.returned v)= .returned v'∧μ'.Y=Y∧VR w μ' r v'∧DE w0 μ' w (S0 [])∧(∀id,([]:List Obj).length≤id→μ' id=none):=by
 refine ⟨F.dfr,_,Jl (P:=P) hr a.tmps w,_,CD Y,rfl,rfl,?_,?_,fun _ _=>rfl⟩
 ·have:=F.env t
  rw [he] at this
  exact Cx _ _ this
 ·exact {
   below:=F.below
   lt:=by intro _ _ h;cases h
   inj:=by intro _ _ _ _ h;cases h
   live:=by intro _ _ _ h;cases h
   ylt:=F.ylt
   blk:=by intro _ _ _ _ h;cases h}
theorem T9 {P:Program} {ops:Array Oper} {Q:Exit→Act→World→Prop} {i:Nat} {rest:List Nat} {a:Act} {w:World} {o:Oper} (ho:ops[i]? =some o) (hg:o.guard=none) {w':World}
  (hr:(execOp a.eval o).run P w= .ok .skip w') (k:wpOps P ops Q rest (a.put o.dst undef) w'):wpOps P ops Q (i::rest) a w:=by
 simp only [wpOps,ho]
 rw [if_pos (by unfold Region.wanted;rw [hg])]
 refine Or.inl ?_
 unfold Oper.wp
 rw [hr];exact k
theorem run_uu {P:Program} {m:Sem Unit} {w w':World} (h:m.run P w= .ok () w'):(do m;pure .skip:Sem Next).run P w= .ok .skip w':=by
 simp [h]
theorem CF.bool {n:Nat} {W w0 w:World} {Y:Nat→Prop} {env:Ba} {a:Act} (F:CF n W w0 Y env a w) {t:Nat} {b:Bool} (h:env.get t= .b b):a.eval (.tmp t)= .bool b:=by
 have:=F.env t
 rw [h] at this;simp only [CR] at this;exact this
theorem CF.raw {n:Nat} {W w0 w:World} {Y:Nat→Prop} {env:Ba} {a:Act} (F:CF n W w0 Y env a w) {t:Nat} {u:Value} (h:env.get t= .raw u):a.eval (.tmp t)=u:=by
 have:=F.env t
 rw [h] at this;simp only [CR] at this;exact this
theorem CF.int {n:Nat} {W w0 w:World} {Y:Nat→Prop} {env:Ba} {a:Act} (F:CF n W w0 Y env a w) {t:Nat} {k:IntKind} {z:Int} (h:env.get t= .i k z):a.eval (.tmp t)= .int k z:=by
 have:=F.env t
 rw [h] at this;simp only [CR] at this;exact this
theorem CF.len {n:Nat} {W w0 w:World} {Y:Nat→Prop} {env:Ba} {a:Act} (F:CF n W w0 Y env a w) {t:Nat} {k:Nat} {α:Type} {A:α→AV} {xs:List α} (h:env.get t=Ar k A xs):xs.length≤281474976710656:=by
 have:=F.env t
 rw [h] at this
 simp only [Ar,CR] at this
 rcases this with ⟨q,_⟩|⟨_,_,_,_,_,q,_⟩
 ·have:xs=[]:=by simpa using q
  rw [this];simp
 ·simpa [DD] using q
theorem Below.blk {w w':World} (h:Below w.heap.size w w') {r:Nat} {o:Go.Obj} (hr:w.heap[r]? =some o):w'.heap[r]? =some o:=by
 have hlt:r<w.heap.size:=by
  rcases Nat.lt_or_ge r w.heap.size with q|q
  ·exact q
  ·rw [Array.getElem?_eq_none q] at hr;cases hr
 rw [h.block r hlt];exact hr
end
end Go.Lift
namespace Go.Lift
noncomputable section
open Go Go.RowKit
section
variable {P:Program} {W:World} {T:CM} {n:Nat} {ops:Array Oper} {d:Tmp} {op:Op} {ty:TypeId} {pos:String} {af:Array Edge} {gd:Nat×Bool} {r:List Oper} {env:Ba} {h h':A4} {Q:Ba→A4→Prop} {m i:Nat}
theorem Aq (x:AV) (k:A1 P W T n ops r ((d,x)::env) h Q) (e:Gt T (ev env) h ⟨some d,op,ty,pos,af,none⟩=some x:=by kernel_rfl) (hd:d<n:=by exact Nat.le_of_ble_eq_true rfl):A1 P W T n ops (⟨some d,op,ty,pos,af,none⟩::r) env h Q:=A1.sq e hd k
theorem Ap (x:AV) (e:Gt T (ev env) h ⟨some d,op,ty,pos,af,none⟩=some x) (k:A1 P W T n ops r ((d,x)::env) h Q) (hd:d<n:=by exact Nat.le_of_ble_eq_true rfl):A1 P W T n ops (⟨some d,op,ty,pos,af,none⟩::r) env h Q:=A1.sq e hd k
theorem Dq (x:AV) (k:Av P W T n ops m (i+1) r ((d,x)::env) h Q) (e:Gt T (ev env) h ⟨some d,op,ty,pos,af,none⟩=some x:=by kernel_rfl) (hd:d<n:=by exact Nat.le_of_ble_eq_true rfl):Av P W T n ops m i (⟨some d,op,ty,pos,af,none⟩::r) env h Q:=Av.sq e hd k
theorem Dp (x:AV) (e:Gt T (ev env) h ⟨some d,op,ty,pos,af,none⟩=some x) (k:Av P W T n ops m (i+1) r ((d,x)::env) h Q) (hd:d<n:=by exact Nat.le_of_ble_eq_true rfl):Av P W T n ops m i (⟨some d,op,ty,pos,af,none⟩::r) env h Q:=Av.sq e hd k
theorem An (k:A1 P W T n ops r ((d,.tup [])::env) h Q) (e:C1 ops env ⟨some d,op,ty,pos,af,some gd⟩=some false:=by kernel_rfl) (hd:d<n:=by exact Nat.le_of_ble_eq_true rfl):A1 P W T n ops (⟨some d,op,ty,pos,af,some gd⟩::r) env h Q:=by
 simp only [A1,e];exact ⟨by simpa [Ci] using hd,k⟩
theorem Dn (k:Av P W T n ops m (i+1) r ((d,.tup [])::env) h Q) (e:C1 ops env ⟨some d,op,ty,pos,af,some gd⟩=some false:=by kernel_rfl) (hd:d<n:=by exact Nat.le_of_ble_eq_true rfl):Av P W T n ops m i (⟨some d,op,ty,pos,af,some gd⟩::r) env h Q:=by
 simp only [Av,e];exact ⟨by simpa [Ci] using hd,k⟩
theorem Gy {j:Nat} {want t:Bool} {o:Oper} {t':Tmp} (hj:ops[j]? =some o) (ho:o.dst=some t') (k1:A1 P W T n ops (⟨some d,op,ty,pos,af,none⟩::r) env h Q) (ht:env.get t'= .b t:=by first|rfl|fail) (e:t=want:=by first|rfl|(simp [*];done)|fail):A1 P W T n ops (⟨some d,op,ty,pos,af,some (j,want)⟩::r) env h Q:=A1.sgy hj ho ht e k1
theorem Gn {j:Nat} {want t:Bool} {o:Oper} {t':Tmp} (hj:ops[j]? =some o) (ho:o.dst=some t') (hd:d<n) (k2:A1 P W T n ops r ((d,.tup [])::env) h Q) (ht:env.get t'= .b t:=by first|rfl|fail) (e:t= !want:=by first|rfl|(simp [*];done)|fail):A1 P W T n ops (⟨some d,op,ty,pos,af,some (j,want)⟩::r) env h Q:=Qy hj ho ht e hd k2
theorem Gu {j:Nat} {want:Bool} {o:Oper} {t':Tmp} (hj:ops[j]? =some o) (ho:o.dst=some t') (hd:d<n) (k2:A1 P W T n ops r ((d,.tup [])::env) h Q) (ht:env.get t'= .tup []:=by first|rfl|fail):A1 P W T n ops (⟨some d,op,ty,pos,af,some (j,want)⟩::r) env h Q:=UR hj ho ht hd k2
theorem Si {j:Nat} {want:Bool} {o:Oper} (hg:o.guard=some (j,want)) (e:C1 ops env o=some true): ∃o' t',ops[j]? =some o'∧o'.dst=some t'∧env.get t'= .b want:=by
 unfold C1 at e
 rw [hg] at e
 dsimp only at e
 cases hj:ops[j]? with
 |none=>rw [hj] at e;cases e
 |some o'=>
  rw [hj] at e
  simp only [Option.bind_some] at e
  cases ho:o'.dst with
  |none=>rw [ho] at e;cases e
  |some t'=>
   rw [ho] at e
   dsimp only at e
   refine ⟨o',t',rfl,ho,?_⟩
   split at e
   ·rename_i t ht
    rw [ht]
    cases t<;>cases want<;>first|rfl|cases e
   ·cases e
   ·cases e
theorem Ay (k:A1 P W T n ops (⟨some d,op,ty,pos,af,none⟩::r) env h Q) (e:C1 ops env ⟨some d,op,ty,pos,af,some gd⟩=some true:=by kernel_rfl):A1 P W T n ops (⟨some d,op,ty,pos,af,some gd⟩::r) env h Q:=by
 obtain ⟨j,want⟩:=gd
 obtain ⟨o',t',h1,h2,h3⟩:=Si rfl e
 exact A1.sgy h1 h2 h3 rfl k
theorem Dy (k:Av P W T n ops m i (⟨some d,op,ty,pos,af,none⟩::r) env h Q) (e:C1 ops env ⟨some d,op,ty,pos,af,some gd⟩=some true:=by kernel_rfl):Av P W T n ops m i (⟨some d,op,ty,pos,af,some gd⟩::r) env h Q:=by
 obtain ⟨j,want⟩:=gd
 obtain ⟨o',t',h1,h2,h3⟩:=Si rfl e
 exact Av.sgy h1 h2 h3 rfl k
theorem Nn (x:AV) (ob:Obj) (k:A1 P W T n ops r ((d,x)::env) (h.new ob) Q) (e:VT T (ev env) h ⟨some d,op,ty,pos,af,none⟩=some (x,h.new ob):=by kernel_rfl) (hd:d<n:=by exact Nat.le_of_ble_eq_true rfl):A1 P W T n ops (⟨some d,op,ty,pos,af,none⟩::r) env h Q:=A1.sn e hd k
theorem Nb (x:AV) (k:A1 P W T n ops r ((d,x)::env) h Q) (e:VT T (ev env) h ⟨some d,op,ty,pos,af,none⟩=some (x,h):=by kernel_rfl) (hd:d<n:=by exact Nat.le_of_ble_eq_true rfl):A1 P W T n ops (⟨some d,op,ty,pos,af,none⟩::r) env h Q:=A1.sn e hd k
theorem Sp (id:Nat) (ob:Obj) (k:A1 P W T n ops r env (h.put id (some ob)) Q) (e:Mj T (ev env) h ⟨none,op,ty,pos,af,none⟩=some (.und,h.put id (some ob)):=by kernel_rfl):A1 P W T n ops (⟨none,op,ty,pos,af,none⟩::r) env h Q:=A1.st e k
theorem Sc {g:FuncId} {r0:AV} {S:List Obj} (x:AV) (hp:Aj P W g [] r0 S) (k:A1 P W T n ops r ((d,x)::env) (h.add S) Q) (hc:callee T (ev env) ⟨some d,op,ty,pos,af,none⟩=some (g,[]):=by kernel_rfl) (hx:r0.ren (· +h.next)=x:=by kernel_rfl) (hd:d<n:=by exact Nat.le_of_ble_eq_true rfl):A1 P W T n ops (⟨some d,op,ty,pos,af,none⟩::r) env h Q:=UQ hc rfl hp hx rfl hd k
end
section
variable {P:Program} {W:World} {n N:Nat} {env:Ba} {h:A4} {Q:D8}
theorem Ad {T:CM} {ops:Array Oper} {Q:Ba→A4→Prop} (k:Q env h):A1 P W T n ops [] env h Q:=A1.done k
theorem Sq {x y:Code} (k:A8 P W n N x env h (D8.then (fun env' h'=>A8 P W n N y env' h' Q) Q)):A8 P W n N (.seq x y) env h Q:=A8.seq k
theorem Rt (k:Q .ret env h):A8 P W n N .ret env h Q:=A8.ret k
theorem Ct {c:Operand} {x y:Code} (k:A8 P W n N x env h Q) (hc:ev env 0 c=some (.b true):=by kernel_rfl):A8 P W n N (.cond c x y) env h Q:=A8.cond hc k
theorem Cf {c:Operand} {x y:Code} (k:A8 P W n N y env h Q) (hc:ev env 0 c=some (.b false):=by kernel_rfl):A8 P W n N (.cond c x y) env h Q:=A8.cond hc k
end
theorem VP {p:Prop} [Decidable p] (h:(!decide p)=false):p:=by simpa using h
theorem VQ {p:Prop} [Decidable p] (h:(!decide p)=true): ¬p:=by simpa using h
theorem Ec {d:Nat} {keep:List Nat} {h:A4} {x y:AV} (e:x=y:=by kernel_rfl) (hc:closed y=true:=by kernel_rfl):EF (d+1) keep h x y:=AU.c e hc
theorem Ee {keep:List Nat} {h:A4} {env:Ba} {t:Nat} {x:AV} {r:Ba} (b:Am keep h env r) (e:env.get t=x:=by kernel_rfl) (hc:closed x=true:=by kernel_rfl):Am keep h env ((t,x)::r):=Am.cons (AU.c e hc) b
abbrev Ai (n:Nat):AV:= .i .i64 (n:Int)
theorem Aj.freeze {P:Program} {W:World} {f:FuncId} {args:List AV} {r r':AV} {S:List Obj} (k:Aj P W f args r S) (e:AU [] (S0 S) r r'):Aj P W f args r' [] where
 enters:=k.enters
 calls:=fun w Y vs hG hY hvs=>by
  refine (k.calls w Y vs hG hY hvs).mono ?_
  rintro e' w' ⟨v,μ',rfl,hy,hv,hs,hf⟩
  refine ⟨v,μ'.fin [],rfl,hy,PO hs e hv,?_,fun id _=>rfl⟩
  exact {
   below:=hs.below
   lt:=by intro _ _ h;cases h
   inj:=by intro _ _ _ _ h;cases h
   live:=by intro _ _ _ h;cases h
   ylt:=hs.ylt
   blk:=by intro _ _ _ _ h;cases h}
end
end Go.Lift
namespace Go.Lift
noncomputable section
open Go Go.RowKit
def NN:AV→Bool
 | .b _=>true
 | .i _ _=>true
 | .s _=>true
 | .und=>true
 |_=>false
def LR:AV→Bool
 | .st fs=>fs.all NN
 |x=>NN x
theorem UC {w w':World} {μ μ':Mu} {x:AV} {v:Value} (hx:NN x=true) (k:VR w μ x v):VR w' μ' x v:=by
 cases x<;>first|(simp [NN] at hx;done)|(simp only [VR];done)|(simp only [VR,CR] at k ⊢;exact k)
theorem Qd {x y:AV} {i:Nat} (hx:LR x=true) (hy:x.cells[i]? =some y):NN y=true:=by
 cases x with
 |st fs=>
  have hm:y∈fs:=List.mem_of_getElem? (by simpa only [AV.cells] using hy)
  simp only [LR,List.all_eq_true] at hx
  exact hx y hm
 |_=>
  simp only [AV.cells] at hy
  have:y∈ [_]:=List.mem_of_getElem? hy
  rw [List.mem_singleton] at this;subst this
  simpa only [LR] using hx
section
variable {keep:List Nat} {h h':A4} {d:Nat}
end
theorem MN {P:Program} {W:World} {T:CM} {n N:Nat} {env:Ba} {h:A4} {Q:D8} (hT:BZ P T=true) (hm:P.follows .mixedOrders=true) {id:Nat} {ops:Array Oper} (m:Nat) (l:List Nat)
  (hpo:OB ops m (fun j=>l.contains j)=true) (hl:(l.all fun j=>Nat.blt j m)=true) (hr:Ga ops m (fun j=>l.contains j)=true) (hmn:m≤ops.size) (k:Av P W T n ops m 0 ops.toList env h (Q .normal)):A8 P W n N (.region id ops true) env h Q:=
 fun B w0 μ a w hW hB R=>K0 hT hm hpo (fun j hj=>by
  have:=List.all_eq_true.1 hl j (by simpa using hj)
  exact Nat.le_of_ble_eq_true this) hr hmn k hW R fun env' h' μ' a' w' q r=>⟨env',h',μ',q,r⟩
end
end Go.Lift
namespace Go.Lift
noncomputable section
open Go Go.RowKit
theorem MP {w:World} {μ:Mu}: ∀ {xs ys:List AV} {us:List Value},Cn w μ (xs++ys) us→ ∃a b,us=a++b∧Cn w μ xs a∧Cn w μ ys b
 | [],ys,us,h=>⟨[],us,rfl,by simp only [Cn],h⟩
 |x::xs,ys,us,h=>by
  simp only [List.cons_append,Cn] at h
  obtain ⟨v,r,rfl,h1,h2⟩:=h
  obtain ⟨a,b,rfl,h3,h4⟩:=MP h2
  exact ⟨v::a,b,rfl,by simp only [Cn];exact ⟨v,a,rfl,h1,h3⟩,h4⟩
theorem QB {w:World} {μ:Mu}: ∀ {xs ys:List AV} {a b:List Value},Cn w μ xs a→Cn w μ ys b→Cn w μ (xs++ys) (a++b)
 | [],ys,a,b,h,k=>by simp only [Cn] at h;subst h;exact k
 |x::xs,ys,a,b,h,k=>by
  simp only [Cn] at h
  obtain ⟨v,r,rfl,h1,h2⟩:=h
  simp only [List.cons_append,Cn]
  exact ⟨v,r++b,rfl,h1,QB h2 k⟩
theorem Ky {P:Program} {W:World} {f g:FuncId} {bs ys:List AV} {r:AV} {S:List Obj} (k:Aj P W f (bs++ys) r S) (hM:f<1000000) (hb:bs≠ []) (hg':N0 f bs=g):Aj P W g (ys++bs) r S:=by
 have hg:g=f+1000000*bs.length:=by rw [←hg',Lr]
 have h0:0<bs.length:=List.length_pos_iff.2 hb
 have e1:g % 1000000=f:=by
  have: ∀(f n:Nat),f<1000000→(f+1000000*n) % 1000000=f:=by intro f n h;omega
  rw [hg];exact this f _ hM
 have e2:g /1000000=bs.length:=by
  have: ∀(f n:Nat),f<1000000→(f+1000000*n) /1000000=n:=by intro f n h;omega
  rw [hg];exact this f _ hM
 have e3: ¬g<1000000:=by
  have: ∀(f n:Nat),0<n→ ¬f+1000000*n<1000000:=by intro f n h;omega
  rw [hg];exact this f _ h0
 refine ⟨by rw [e1];exact k.entersP hM,?_⟩
 rw [e1]
 intro w Y vs hG hY hvs
 obtain ⟨a,b,rfl,h1,h2⟩:=MP hvs
 have hl:b.length=bs.length:=Em h2
 have:O6 g (a++b)=(b++a).toArray:=by
  unfold O6
  rw [if_neg e3,e2]
  have:(a++b).length-bs.length=a.length:=by rw [List.length_append,hl];omega
  rw [this,List.drop_left,List.take_left]
 rw [this]
 exact k.callsP hM w Y (b++a) hG hY (QB h2 h1)
theorem Ak.wk {no:List Nat} {h:A4} {d:Nat} {x y y':AV} (k:Ak no h d x y) (q:AL y y'):Ak no h d x y':=by
 obtain ⟨z,e1,e2,e3⟩:=k
 exact ⟨z,e1,e2,fun w μ v hv=>q w μ v (e3 w μ v hv)⟩
end
end Go.Lift
namespace Go.Lift
noncomputable section
open Go Go.RowKit
def MV (F:Fence):Prop:=F=Fence.wide∨ ∃l,F=Fence.wide.inRound l
theorem MV.fn {F:Fence} (h:MV F) (f:FuncId):F.fn f:=by rcases h with rfl|⟨l,rfl⟩<;>exact trivial
theorem MV.depth {F:Fence} (h:MV F) (k:Nat):F.depth.isSome=true→1≤k:=by rcases h with rfl|⟨l,rfl⟩<;>exact fun q=>by cases q
theorem Qa {F:Fence} (hF:MV F) {m:Nat} {P:Program} {o:Oper} {a:Act} {w:World} {K:Act→World→Prop} {Q:Exit→Act→World→Prop} (hd: ∀c,o.op≠ .defer c) (h:o.wp P a w K Q):o.wpIn F m P a w K Q:=by
 refine ⟨fun f _=>hF.fn f,?_⟩
 rw [Oper.semAt_eq _ _ _ hd]
 unfold Oper.wp at h
 generalize (execOp a.eval o).run P w=r at h ⊢
 cases r with
 |halt hh w'=>cases hh<;>first|exact h|exact h.elim
 |ok n w'=>
  cases n with
  |value v=>exact h
  |skip=>exact h
  |defer d=>exact h
  |enter f args=>
   refine ⟨hF.depth _,?_⟩
   have h2:CallsIn Fence.wide (m-1) P f args w' _:=callsIn_wide.2 h
   have h3:=CallsIn.mono h2 (R':=fun
    | .returned v,w''=>K (a.put o.dst v) w''
    | .panicked chain,w''=>Q (.panic chain) a w''
    | .outgrown,_=>LetsOut Q) (fun e w'' q=>by cases e<;>exact q)
   rcases hF with rfl|⟨l,rfl⟩
   ·exact h3
   ·exact CallsIn.inRound l h3
  |row row args=>
   refine ⟨hF.depth _,?_⟩
   rcases hF with rfl|⟨l,rfl⟩
   ·exact fun c cs _=>let ⟨v,w'',r,s⟩:=h c cs;⟨v,w'',r,stepsIn_wide.2 s⟩
   ·exact fun c cs _=>let ⟨v,w'',r,s⟩:=h c cs;⟨v,w'',r,stepsIn_wide.2 s⟩
  |_=>exact False.elim h
def H5 (o:Oper):Bool:=match o.op with
 | .defer _=>false
 |_=>true
theorem Is {o:Oper} (h:H5 o=true): ∀c,o.op≠ .defer c:=by
 intro c e;unfold H5 at h;rw [e] at h;cases h
section
variable {F:Fence} {m:Nat} {P:Program} {W:World} {T:CM} {n N:Nat} {ops:Array Oper}
theorem LV (hF:MV F) (hT:BZ P T=true) {Q:Exit→Act→World→Prop} (hnd:ops.toList.all H5=true):
  ∀(l:List Nat) {l':List Nat} {os:List Oper} {env:Ba} {h:A4} {R:Ba→A4→Prop},l.map (fun i=>ops[i]?)=os.map some→A1 P W T n ops os env h R→
   ∀ {B:Fn} (_:B.W=W) {w0:World} {μ:Mu} {a:Act} {w:World},D0 n B w0 μ env h a w→(∀env' h' μ' a' w',R env' h'→D0 n B w0 μ' env' h' a' w'→wpOpsIn F m P ops Q l' a' w')→wpOpsIn F m P ops Q (l++l') a w
 | [],l',os,env,h,R,hl,k,B,hB,w0,μ,a,w,rel,hQ=>by
   have:os=[]:=by cases os<;>simp at hl;rfl
   subst this
   exact hQ env h μ a w k rel
 |i::l,l',os,env,h,R,hl,k,B,hB,w0,μ,a,w,rel,hQ=>by
  cases os with
  |nil=>simp at hl
  |cons o os=>
   simp only [List.map_cons,List.cons.injEq] at hl
   obtain ⟨ho,hl⟩:=hl
   have hdf: ∀c,o.op≠ .defer c:=Is (List.all_eq_true.1 hnd o (by
    obtain ⟨hi,e⟩:=Array.getElem?_eq_some_iff.1 ho
    rw [←e];simp))
   simp only [List.cons_append,wpOpsIn,ho]
   simp only [A1] at k
   split at k
   ·rename_i hw
    obtain ⟨hd,x,h',he,k⟩:=k
    rw [if_pos (CZ hw (fun j want d _ _=>rel.env d))]
    exact Qa hF hdf (Nc hT he hB rel hd fun a' w' μ' rel'=>LV hF hT hnd l hl k hB rel' hQ)
   ·rename_i hw
    obtain ⟨hd,k⟩:=k
    rw [if_neg (by rw [CZ hw (fun j want d _ _=>rel.env d)];simp)]
    have hdd: ∀t,o.dst=some t→t<n:=by
     intro t ht
     unfold Ci at hd
     rw [ht] at hd
     simpa using hd
    exact ⟨fun f _=>hF.fn f,LV hF hT hnd l hl k hB (DC hT rel (Fg.refl rel.sim).step hdd (by simp only [VR,BR];exact ⟨#[],rfl,rfl⟩)) hQ⟩
   ·exact k.elim
def ID (F:Fence) (m:Nat) (P:Program) (W:World) (n N:Nat) (c:Code) (env:Ba) (h:A4) (Q:D8):Prop:=
 ∀(B:Fn) (w0:World) (μ:Mu) (a:Act) (w:World),B.W=W→B.N=N→D0 n B w0 μ env h a w→
  c.wpIn F m P (fun e a' w'=> ∃env' h' μ',Q e env' h'∧D0 n B w0 μ' env' h' a' w') a w
variable {env:Ba} {h:A4} {Q:D8}
theorem ID.seq {x y:Code} (k:ID F m P W n N x env h (D8.then (fun env' h'=>ID F m P W n N y env' h' Q) Q)):ID F m P W n N (.seq x y) env h Q:=
 fun B w0 μ a w hW hB R=>wpIn_seq (wpIn_mono (k B w0 μ a w hW hB R) fun e a' w' hh=>by
  obtain ⟨env',h',μ',q,r⟩:=hh
  cases e<;>first|exact q B w0 μ' a' w' hW hB r|exact ⟨env',h',μ',q,r⟩)
theorem ID.region (hF:MV F) (hT:BZ P T=true) {id:Nat} (hnd:ops.toList.all H5=true) (k:A1 P W T n ops ops.toList env h (Q .normal)):ID F m P W n N (.region id ops false) env h Q:=
 fun B w0 μ a w hW hB R=>wpIn_region (by
  have:=LV (m:=m) (Q:=fun e a' w'=> ∃env' h' μ',Q e env' h'∧D0 n B w0 μ' env' h' a' w') hF hT hnd (List.range ops.size) (l':=[]) (os:=ops.toList) (by
   apply List.ext_getElem?
   intro i
   simp only [List.getElem?_map,List.getElem?_range]
   rcases Nat.lt_or_ge i ops.size with q|q
   ·rw [List.getElem?_range q];simp [q]
   ·rw [List.getElem?_eq_none (by simpa using q),Array.getElem?_toList,Array.getElem?_eq_none q];rfl) k hW R fun env' h' μ' a' w' q r=>⟨env',h',μ',q,r⟩
  simpa using this)
end
def BK (T:CM) (n:Nat) (h:A4):List Oper→Ba→(Ba→Prop)→Prop
 | [],env,Q=>Q env
 |o::r,env,Q=>o.guard=none∧Ci n o=true∧ ∃x,Gt T (ev env) h o=some x∧BK T n h r (env.put o.dst x) Q
theorem BK.q {T:CM} {n:Nat} {h:A4} {d:Tmp} {op:Op} {ty:TypeId} {pos:String} {af:Array Edge} {r:List Oper} {env:Ba} {Q:Ba→Prop} (x:AV) (k:BK T n h r ((d,x)::env) Q)
  (e:Gt T (ev env) h ⟨some d,op,ty,pos,af,none⟩=some x:=by kernel_rfl) (hd:d<n:=by exact Nat.le_of_ble_eq_true rfl):BK T n h (⟨some d,op,ty,pos,af,none⟩::r) env Q:=
 ⟨rfl,by simpa [Ci] using hd,x,e,k⟩
theorem BK.p {T:CM} {n:Nat} {h:A4} {d:Tmp} {op:Op} {ty:TypeId} {pos:String} {af:Array Edge} {r:List Oper} {env:Ba} {Q:Ba→Prop} (x:AV)
  (e:Gt T (ev env) h ⟨some d,op,ty,pos,af,none⟩=some x) (k:BK T n h r ((d,x)::env) Q) (hd:d<n:=by exact Nat.le_of_ble_eq_true rfl):BK T n h (⟨some d,op,ty,pos,af,none⟩::r) env Q:=
 ⟨rfl,by simpa [Ci] using hd,x,e,k⟩
theorem BK.done {T:CM} {n:Nat} {h:A4} {env:Ba} {Q:Ba→Prop} (k:Q env):BK T n h [] env Q:=k
theorem FY {F:Fence} {m:Nat} {P:Program} {T:CM} {n:Nat} {ops:Array Oper} {h:A4} (hF:MV F) (hT:BZ P T=true) {Q:Exit→Act→World→Prop} (hnd:ops.toList.all H5=true):
  ∀(l:List Nat) {l':List Nat} {os:List Oper} {env:Ba} {R:Ba→Prop},l.map (fun i=>ops[i]?)=os.map some→BK T n h os env R→
   ∀ {B:Fn} {w0:World} {μ:Mu} {a:Act} {w:World},D0 n B w0 μ env h a w→(∀env' a',R env'→D0 n B w0 μ env' h a' w→wpOpsIn F m P ops Q l' a' w)→wpOpsIn F m P ops Q (l++l') a w
 | [],l',os,env,R,hl,k,B,w0,μ,a,w,rel,hQ=>by
   have:os=[]:=by cases os<;>simp at hl;rfl
   subst this
   exact hQ env a k rel
 |i::l,l',os,env,R,hl,k,B,w0,μ,a,w,rel,hQ=>by
  cases os with
  |nil=>simp at hl
  |cons o os=>
   simp only [List.map_cons,List.cons.injEq] at hl
   obtain ⟨ho,hl⟩:=hl
   have hdf: ∀c,o.op≠ .defer c:=Is (List.all_eq_true.1 hnd o (by
    obtain ⟨hi,e⟩:=Array.getElem?_eq_some_iff.1 ho
    rw [←e];simp))
   obtain ⟨hg,hd,x,he,k⟩:=k
   simp only [List.cons_append,wpOpsIn,ho]
   rw [if_pos (by simp only [Region.wanted,hg])]
   have hdd: ∀t,o.dst=some t→t<n:=by
    intro t ht
    unfold Ci at hd
    rw [ht] at hd
    simpa using hd
   obtain ⟨v,h1,h2⟩:=Pd hT he w0 μ w a.eval rel.sim (fun x _ k y hy=>QY (fun t _=>rel.env t) hy)
   refine Qa hF hdf ?_
   unfold Oper.wp
   rw [h1]
   exact FY hF hT hnd l hl k (DC hT rel (Fg.refl rel.sim).step hdd h2) hQ
theorem EB {F:Fence} {m:Nat} {P:Program} {T:CM} {n:Nat} {ops:Array Oper} {h:A4} {id:Nat} (hF:MV F) (hT:BZ P T=true) {Q:Exit→Act→World→Prop} (hnd:ops.toList.all H5=true) {env:Ba} {R:Ba→Prop}
  (k:BK T n h ops.toList env R) {B:Fn} {w0:World} {μ:Mu} {a:Act} {w:World} (rel:D0 n B w0 μ env h a w) (hQ: ∀env' a',R env'→D0 n B w0 μ env' h a' w→Q .normal a' w):(Code.region id ops false).wpIn F m P Q a w:=
 wpIn_region (by
  have:=FY (m:=m) (Q:=Q) hF hT hnd (List.range ops.size) (l':=[]) (os:=ops.toList) (by
   apply List.ext_getElem?
   intro i
   simp only [List.getElem?_map,List.getElem?_range]
   rcases Nat.lt_or_ge i ops.size with q|q
   ·rw [List.getElem?_range q];simp [q]
   ·rw [List.getElem?_eq_none (by simpa using q),Array.getElem?_toList,Array.getElem?_eq_none q];rfl) k rel hQ
  simpa using this)
theorem Do {n:Nat} {W w:World} {Y:Nat→Prop} {env:Ba} {a:Act} (hG:DR W w) (hY: ∀g,Y g→g<w.heap.size) (he: ∀t,VR w (CD Y) (env.get t) (a.tmps.getD t undef)) (hs:a.tmps.size=n) (hd:a.defers=[]):
  D0 n ⟨W,w,CD Y,0⟩ w (CD Y) env ⟨0,[]⟩ a w where
 glob:=hG
 snc:=⟨Gd.refl _ _,rfl,fun _ h=>by simp at h,fun _ _=>rfl⟩
 low:=Nat.zero_le _
 sim:={
  below:=Below.refl _ _
  lt:=by intro _ _ h;cases h
  inj:=by intro _ _ _ _ h;cases h
  live:=by intro _ _ _ h;cases h
  ylt:=hY
  blk:=by intro _ _ _ _ h;cases h}
 env:=he
 sz:=hs
 dfr:=hd
 fresh:=fun _ _=>rfl
def IO (n₀:Nat) (w1:World) (μ1:Mu) (A B:World):Prop:=Below n₀ A B∧ ∀g,g<w1.heap.size→ ¬μ1.mut g→B.heap[g]? =A.heap[g]?
theorem IO.trans {n₀:Nat} {w1:World} {μ1:Mu} {A B C:World} (h:IO n₀ w1 μ1 A B) (k:IO n₀ w1 μ1 B C):IO n₀ w1 μ1 A C:=
 ⟨h.1.trans k.1,fun g hg hm=>(k.2 g hg hm).trans (h.2 g hg hm)⟩
theorem IO.put {n₀:Nat} {w1:World} {μ1:Mu} (hn:n₀≤w1.heap.size) (W:World) (l:Nat) (o o':Go.Obj) (hl:w1.heap.size≤l) (h:W.heap[l]? =some o) (h1:o.isCells=false) (h2:o.isWalk=false):IO n₀ w1 μ1 W (W.putObj l o'):=
 ⟨belowK_b hn W l o o' hl h h1 h2,fun g hg _=>World.putObj_heap_other (by omega)⟩
def Yb (w1:World) (μ1:Mu) (W:World):Nat→Prop:=fun g=>(μ1.mut g∨w1.heap.size≤g)∧g<W.heap.size
def E2 (w1:World) (μ1:Mu) (W:World):Prop:=w1.heap.size≤W.heap.size∧ ∀g,g<w1.heap.size→ ¬μ1.mut g→W.heap[g]? =w1.heap[g]?
theorem E2.rd {w1 W:World} {μ1:Mu} (h:E2 w1 μ1 W) (a:Addr) (u:Value) (k:Rd w1 μ1 a u):Rd W (CD (Yb w1 μ1 W)) a u:=by
 obtain ⟨h1,h2,h3⟩:=k
 have hl:=GZ h1
 refine ⟨by rw [D4 (h.2 _ hl h2)];exact h1,?_,h3⟩
 rintro (⟨q|q,_⟩|⟨_,_,q,_⟩)
 ·exact h2 q
 ·omega
 ·cases q
theorem E2.step {w1 W W':World} {μ1:Mu} (h:E2 w1 μ1 W) {n₀:Nat} (k:IO n₀ w1 μ1 W W'):E2 w1 μ1 W':=
 ⟨Nat.le_trans h.1 k.1.size,fun g hg hm=>(k.2 g hg hm).trans (h.2 g hg hm)⟩
theorem E2.below {w1 W:World} {μ1:Mu} (h:Below w1.heap.size w1 W):E2 w1 μ1 W:=⟨h.size,fun g hg _=>h.block g hg⟩
theorem Wb {w1 W W':World} {μ1:Mu} {n₀:Nat} (k:IO n₀ w1 μ1 W W') (a:Addr) (u:Value) (h:Rd W (CD (Yb w1 μ1 W)) a u):Rd W' (CD (Yb w1 μ1 W')) a u:=by
 obtain ⟨h1,h2,h3⟩:=h
 have hl:=GZ h1
 have hg:a.block<w1.heap.size∧ ¬μ1.mut a.block:=by
  refine ⟨?_,fun q=>h2 (Or.inl ⟨Or.inl q,hl⟩)⟩
  rcases Nat.lt_or_ge a.block w1.heap.size with q|q
  ·exact q
  ·exact absurd (Or.inl ⟨Or.inr q,hl⟩) h2
 refine ⟨by rw [D4 (k.2 _ hg.1 hg.2)];exact h1,?_,h3⟩
 rintro (⟨q|q,_⟩|⟨_,_,q,_⟩)
 ·exact hg.2 q
 ·omega
 ·cases q
theorem N4: ∀ {env:Ba},(env.all fun p=>closed p.2)=true→ ∀t,closed (env.get t)=true
 | [],_,t=>rfl
 |(q,x)::r,h,t=>by
  simp only [List.all_cons,Bool.and_eq_true] at h
  have ih:=N4 (env:=r) h.2 t
  unfold Ba.get at ih ⊢
  rw [Bi]
  split
  ·exact h.1
  ·exact ih
theorem OY {n:Nat} {w1 W W':World} {μ1:Mu} {n₀:Nat} {B:Fn} {w0:World} {h:A4} {env:Ba} {a:Act} (k:IO n₀ w1 μ1 W W') (R:D0 n B w0 (CD (Yb w1 μ1 W)) env h a W) (hc:(env.all fun p=>closed p.2)=true) (t:Nat):
  VR W' (CD (Yb w1 μ1 W')) (env.get t) (a.tmps.getD t undef):=
 Cx _ _ (C8 (Wb k) _ _ (Be _ _ (N4 hc t) (R.env t)))
def Lm (env:Ba):Ba→Prop
 | []=>True
 |(t,x)::r=>env.get t=x∧Lm env r
theorem OO {w:World} {μ:Mu} {env:Ba} {f:Nat→Value} (k: ∀t,VR w μ (env.get t) (f t)): ∀ {env':Ba},Lm env env'→ ∀t,VR w μ (env'.get t) (f t)
 | [],_,t=>by show VR w μ .und _;simp only [VR]
 |(q,x)::r,h,t=>by
  have ih:=OO k (env':=r) h.2 t
  unfold Ba.get at ih ⊢
  rw [Bi]
  split
  ·rename_i e;rw [e];have:=k q;rw [h.1] at this;exact this
  ·exact ih
theorem D0.sub {n:Nat} {B:Fn} {w0 w:World} {μ:Mu} {env env':Ba} {h:A4} {a:Act} (R:D0 n B w0 μ env h a w) (k:Lm env env'):D0 n B w0 μ env' h a w:=
 ⟨R.glob,R.snc,R.low,R.sim,OO R.env k,R.sz,R.dfr,R.fresh⟩
theorem Gw {F:Fence} {m:Nat} {P:Program} {ops:Array Oper} {Q:Exit→Act→World→Prop} {i:Nat} {rest:List Nat} {o:Oper} {a:Act} {w:World} (ho:ops[i]? =some o) (hg:o.guard=none)
  (k:o.wpIn F m P a w (wpOpsIn F m P ops Q rest) Q):wpOpsIn F m P ops Q (i::rest) a w:=by
 simp only [wpOpsIn,ho]
 rw [if_pos (by simp only [Region.wanted,hg])]
 exact k
theorem Od {F:Fence} {m:Nat} {P:Program} {o:Oper} {a:Act} {w:World} {K:Act→World→Prop} {Q:Exit→Act→World→Prop} {l f:Nat} {tm:Array Value} {asg bd:Code} {R:Ending→World→Prop} (hF:MV F) (hd:H5 o=true)
  (hrun:(execOp a.eval o).run P w= .ok (.round l f tm asg bd) w) (k:RoundIn F (m-1) P l f tm asg bd w R) (hK: ∀e w',R e w'→ ∃v,e= .returned v∧K (a.put o.dst v) w'):o.wpIn F m P a w K Q:=
 ⟨fun f _=>hF.fn f,by
   rw [Oper.semAt_eq _ _ _ (Is hd),hrun]
   exact ⟨hF.depth _,k.mono fun e w' r=>by obtain ⟨v,rfl,q⟩:=hK e w' r;exact q⟩⟩
def OP (out:ByteArray) (v:Value):Prop:= ∃t y,v= .agg #[.string out,.int .i64 t,y]∧out.size≤DD∧((∃s,y= .string s)∨ ∃p n c,y= .slice p n c)
def back (n j:Nat):List Nat:=(List.range j).map (fun i=>n-1-i)
theorem JC (n j:Nat):back n (j+1)=back n j++[n-1-j]:=by simp [back,List.range_succ]
end
end Go.Lift
namespace Go.Lift
noncomputable section
open Go Go.RowKit
def Qc (h:A4):Prop:= ∀id o,h.get id=some o→o.els.all LR=true
theorem DE.keep {w0 W W':World} {μ:Mu} {h:A4} (s:DE w0 μ W h) (hp:Qc h) (hb:Below w0.heap.size W W') (hk: ∀id sl,μ id=some (some sl)→W'.heap[sl.g]? =W.heap[sl.g]?):DE w0 μ W' h where
 below:=s.below.trans hb
 lt:=fun id sl e=>⟨(s.lt id sl e).1,Nat.lt_of_lt_of_le (s.lt id sl e).2 hb.size⟩
 inj:=s.inj
 live:=s.live
 ylt:=s.ylt
 blk:=fun id o sl ho e=>by
  have B:=s.blk id o sl ho e
  obtain ⟨cs,h1,h2,h3⟩:=B.blk
  refine ⟨B.k,B.pos,B.len,B.cap,cs,by rw [hk id sl e];exact h1,h2,fun j x hx=> ?_⟩
  obtain ⟨q1,q2⟩:=h3 j x hx
  refine ⟨q1,fun i y hy=> ?_⟩
  obtain ⟨u,u1,u2,u3⟩:=q2 i y hy
  exact ⟨u,u1,UC (Qd (List.all_eq_true.1 (hp id o ho) x (List.mem_of_getElem? hx)) hy) u2,u3⟩
theorem DE.grown {w0 W W':World} {μ:Mu} {h:A4} {row:Option Nat} (s:DE w0 μ W h) (hp:Qc h) (hlive: ∀id sl,μ id=some (some sl)→ ∃o,h.get id=some o) (hg:W.grownBy W' row)
  (hr: ∀r,row=some r→w0.heap.size≤r∧ ∃o:Go.Obj,W.heap[r]? =some o∧o.isCells=false):DE w0 μ W' h:=
 s.keep hp ((Below.refl _ W).grown hg s.below.size (fun k e=>(hr k e).1)) fun id sl e=>hg.block _ (s.lt id sl e).2 (fun q=>by
  obtain ⟨o,ho⟩:=hlive id sl e
  obtain ⟨cs,h1,_⟩:=(s.blk id o sl ho e).blk
  obtain ⟨_,o',h2,h3⟩:=hr _ q.symm
  rw [h1] at h2;cases h2;cases h3)
theorem E2.grown {w1 W W':World} {μ1:Mu} {row:Option Nat} (S:E2 w1 μ1 W) (hg:W.grownBy W' row) (hr: ∀r,row=some r→w1.heap.size≤r):E2 w1 μ1 W':=
 ⟨Nat.le_trans S.1 hg.size,fun g hl hm=>(hg.block g (Nat.lt_of_lt_of_le hl S.1) (fun q=>by have:=hr g q.symm;omega)).trans (S.2 g hl hm)⟩
theorem NX {w0 W W3:World} {μ μ3:Mu} {h h3:A4} (e:Gd W μ W3 μ3) (s:DE w0 μ W h) (s3:DE w0 μ3 W3 h3) (hlive: ∀id sl,μ id=some (some sl)→μ3 id=some (some sl)):W.heap.size≤W3.heap.size:=by
 rcases Nat.lt_or_ge W3.heap.size W.heap.size with q|q
 ·exfalso
  by_cases hm:μ.mut W3.heap.size
  ·rcases hm with y|⟨id,sl,e1,e2⟩
   ·have:=s.ylt _ y;have:=s3.below.size;omega
   ·have:=(s3.lt id sl (hlive id sl e1)).2;omega
  ·have:=e.bl _ q hm
   rw [Array.getElem?_eq_none (Nat.le_refl _),Array.getElem?_eq_getElem q] at this;cases this
 ·exact q
theorem TC {n:Nat} {V W2 w0 W3:World} {μ1 μ3:Mu} {env:Ba} {h3:A4} {a:Act} (R:D0 n ⟨V,W2,μ1,2⟩ w0 μ3 env h3 a W3) (hn:h3.next=2) (hl: ∀id,id<2→ ∃o,h3.get id=some o):μ3=μ1:=by
 have hf:μ3.f=μ1.f:=by
  funext id
  rcases Nat.lt_or_ge id 2 with q|q
  ·cases e:μ1 id with
   |none=>exact R.snc.dom id q e
   |some s=>
    rcases R.snc.ext.mu id s e with k|k
    ·exact k
    ·obtain ⟨o,ho⟩:=hl id q
     exact absurd k (R.sim.live id o ho)
  ·exact (R.fresh id (by rw [hn];exact q)).trans (R.snc.top id q).symm
 have hy:μ3.Y=μ1.Y:=R.snc.y
 cases μ3;cases μ1;simp only at hf hy;rw [hf,hy]
theorem Se {F:Fence} {m:Nat} {P:Program} {T:CM} (hF:MV F) (hT:BZ P T=true) {o:Oper} {env:Ba} {h h':A4} {x:AV} (e:Mj T (ev env) h o=some (x,h')) (hnd:H5 o=true) (hd:o.dst=none)
  {w0 W:World} {μ:Mu} {a:Act} (s:DE w0 μ W h) (hf: ∀id,h.next≤id→μ id=none) (henv: ∀t,VR W μ (env.get t) (a.tmps.getD t undef)) {K:Act→World→Prop} {Q:Exit→Act→World→Prop}
  (hK: ∀w' μ',K7 w0 μ W h μ' w' h'→K a w'):o.wpIn F m P a W K Q:=by
 refine Qa hF (Is hnd) ?_
 obtain ⟨v,w',μ',h1,h2,h3⟩:=Vo hT e w0 μ W a.eval s hf (fun x _ k y hy=>QY (fun t _=>henv t) hy)
 unfold Oper.wp
 rcases h1 with h1|⟨h1,rfl⟩
 ·rw [h1];show K (a.put o.dst v) w';rw [hd];exact hK _ _ h3
 ·rw [h1];show K (a.put o.dst undef) w';rw [hd];exact hK _ _ h3
theorem Rj {F:Fence} {n m:Nat} {P:Program} {T:CM} (hT:BZ P T=true) {fn:Func} {w0 W3:World} {μ1:Mu} {h3:A4} {D:Nat} {tmps:Array Value} {R:Ending→World→Prop} {env:Ba} {x:AV}
  (hK:W3.heap[D]? =some (.deferred (some []))) (hs:DE w0 μ1 W3 h3) (hp:Qc h3) (hlive: ∀id sl,μ1 id=some (some sl)→ ∃o,h3.get id=some o) (hf: ∀id,h3.next≤id→μ1 id=none) (hD:w0.heap.size≤D)
  (henv: ∀W t,VR W μ1 (env.get t) (tmps.getD t undef)) (hsz:tmps.size=m) (hres:NR T env h3 fn.results.toList=some x) (hR: ∀v W4,VR W4 μ1 x v→Below w0.heap.size w0 W4→R (.returned v) W4):
  LeavesInM F n P fn tmps R [{target:= .collected D,args:= #[]}] .returning W3:=by
 refine ⟨by simp,.inl ⟨D,_,rfl,run_takeDeferred hK,?_⟩⟩
 have hs4:DE w0 μ1 (W3.putObj D (.deferred none)) h3:=hs.grown hp hlive (grownBy_putObj' _ _ _) (fun r e=>by cases e;exact ⟨hD,_,hK,rfl⟩)
 have R4:D0 m ⟨w0,W3.putObj D (.deferred none),μ1,h3.next⟩ w0 μ1 env h3 {tmps:=tmps,defers:=[]} (W3.putObj D (.deferred none)):=
  ⟨DR.refl _,⟨Gd.refl _ _,rfl,fun _ _ h=>h,hf⟩,Nat.le_refl _,hs4,henv _,hsz,rfl,hf⟩
 obtain ⟨v,e1,e2⟩:=LW hT R4 hres
 exact ⟨v,e1,hR v _ e2 hs4.below⟩
def ML (a b:Obj):A4:=⟨2,[(1,some b),(0,some a)]⟩
theorem Js (a b:Obj): ∀id,id<2→ ∃o,(ML a b).get id=some o
 |0,_=>⟨a,rfl⟩
 |1,_=>⟨b,rfl⟩
theorem two_get {a b o:Obj} {id:Nat} (h:(ML a b).get id=some o):o=a∨o=b:=by
 have:=Gg h
 match id,this with
 |0,_=>exact Or.inl (by cases h;rfl)
 |1,_=>exact Or.inr (by cases h;rfl)
theorem ED {a b:Obj} (ha:a.els.all LR=true) (hb:b.els.all LR=true):Qc (ML a b):=fun id o h=>by
 rcases two_get h with rfl|rfl<;>assumption
theorem Hi {a b:Obj} {μ:Mu} (hf: ∀id,2≤id→μ id=none): ∀id sl,μ id=some (some sl)→ ∃o,(ML a b).get id=some o:=fun id sl e=>by
 rcases Nat.lt_or_ge id 2 with q|q
 ·exact Js a b id q
 ·rw [hf id q] at e;cases e
theorem RY {w0 W:World} {μ:Mu} {h:A4} (s:DE w0 μ W h) {id:Nat} {e k:Nat} {fs:List AV} {v:Value} (ho:h.get id=some ⟨e,k,[.st fs]⟩) (hv:VR W μ (.loc id 0 0) v) (out:ByteArray) (r:List AV) (hfs:fs= .s out::r) (hr:r.length=2):
  ∃p,v= .pointer (some p)∧w0.heap.size≤p.block∧AM W (CD fun _=>False) [.s out,.und,.und] p:=by
 simp only [VR] at hv
 cases e1:μ id with
 |none=>rw [e1] at hv;exact hv.elim
 |some x=>
  cases x with
  |none=>exact absurd e1 (s.live id _ ho)
  |some sl=>
   rw [e1] at hv
   simp only at hv
   have B:=s.blk id _ sl ho e1
   obtain ⟨cs,h1,h2,h3⟩:=B.blk
   obtain ⟨q1,q2⟩:=h3 0 (.st fs) rfl
   refine ⟨_,hv,(s.lt id sl e1).1,?_⟩
   have cell: ∀i y,fs[i]? =some y→ ∃u,Rd W (CD fun _=>False) (Addr.add ⟨sl.g,0*sl.k+0,none⟩ i) u∧VR W μ y u:=by
    intro i y hy
    obtain ⟨u,u1,u2,u3⟩:=q2 i y hy
    refine ⟨u,⟨?_,?_,u3⟩,u2⟩
    ·rw [CE]
     simp only [World.cell?,h1]
     simpa using u1
    ·rintro (q|⟨_,_,q,_⟩)
     ·exact q
     ·cases q
   subst hfs
   match r,hr with
   | [y1,y2],_=>
     obtain ⟨u0,c0,d0⟩:=cell 0 (.s out) rfl
     obtain ⟨u1,c1,_⟩:=cell 1 y1 rfl
     obtain ⟨u2,c2,_⟩:=cell 2 y2 rfl
     simp only [VR] at d0
     simp only [AM]
     refine ⟨⟨u0,by simpa [Addr.add] using c0,d0⟩,⟨u1,c1,by simp only [CR]⟩,⟨u2,by rw [DS];exact c2,by simp only [CR]⟩,trivial⟩
end
end Go.Lift
namespace Go.Lift
noncomputable section
open Go Go.RowKit
section
variable {ts:List Nat} {env:Ba} {h:A4}
theorem Fb {m x:Bool} (hx:Bl ts env= .b x) (hm:m=x):TR ts (.b m) .ret env h:=⟨Or.inr rfl,by rw [hx,hm];exact AU.c rfl rfl⟩
theorem Fi {k:IntKind} {m x:Int} (hx:Bl ts env= .i k x) (hm:m=x):TR ts (.i k m) .ret env h:=⟨Or.inr rfl,by rw [hx,hm];exact AU.c rfl rfl⟩
theorem Fs {m x:ByteArray} (hx:Bl ts env= .s x) (hm:m=x):TR ts (.s m) .ret env h:=⟨Or.inr rfl,by rw [hx,hm];exact AU.c rfl rfl⟩
theorem Fbi {k:IntKind} {m:Bool×Int} {x:Bool} {y:Int} (hx:Bl ts env= .tup [.b x,.i k y]) (hm:m=(x,y)):TR ts (.tup [.b m.1,.i k m.2]) .ret env h:=⟨Or.inr rfl,by rw [hx,hm];exact AU.c rfl rfl⟩
theorem Fsi {k:IntKind} {m:ByteArray×Int} {x:ByteArray} {y:Int} (hx:Bl ts env= .tup [.s x,.i k y]) (hm:m=(x,y)):TR ts (.tup [.s m.1,.i k m.2]) .ret env h:=⟨Or.inr rfl,by rw [hx,hm];exact AU.c rfl rfl⟩
end
theorem accV_e {α:Type} {A:α→AV} {xs:List α} (h:xs=[]) (p k:Nat):Bj p k A xs= .sl k true []:=by rw [h];rfl
theorem accO_e {α:Type} {A:α→AV} {xs:List α} (h:xs=[]) (e k:Nat):IE e k A xs=none:=by rw [h];rfl
theorem Ne {no:List Nat} {h:A4} {d:Nat}: ∀ {xs:List AV},A6 xs=true→Ah no h (d+1) xs xs
 | [],_=>Ah.nil
 |x::xs,hc=>by
  simp only [A6,Bool.and_eq_true] at hc
  exact Ah.cons (Aw hc.1) (Ne hc.2)
theorem Cv {no:List Nat} {h:A4} {d:Nat} {α:Type} (A:α→AV) (x:α) {id e k:Nat} (hn:no.contains id=false) (hg:h.get id=some ⟨e,k,[A x]⟩) (hc:A6 (A x).cells=true):Ak no h (d+2) (.loc id 0 0) (.pt (A x).cells):=
 Ak.loc hn hg rfl (by rw [List.drop_zero];exact Ne hc)
end
end Go.Lift
